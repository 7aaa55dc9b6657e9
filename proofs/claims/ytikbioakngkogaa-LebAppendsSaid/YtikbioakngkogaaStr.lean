/- Literals of bytes, and bytes as a string. No condition. -/
import Derived.Test.YtikbioakngkogaaMem
import Derived.Laws.BytesString
namespace Go.Proofs.Ytikbioakngkogaa
open Go.RowKit
set_option linter.unusedVariables false

/-- a literal of bytes, just laid -/
theorem IsBs.lit (w : World) (l : List UInt8) (cs : Array Value) (n g : Nat) (t : TypeId) (hc : cs = (l.map B8).toArray) (hn : n = l.length) (hg : g = w.heap.size) (hl : l.length ≤ 1000000) :
    IsBs (w.alloc (.cells cs t)) (.slice (some ⟨g, 0, none⟩) n n) l := by
  subst hc; subst hn; subst hg
  refine ⟨_, _, rfl, Nat.le_refl _, by unfold maxLen; omega, by simp, fun j c hj => ⟨_, _, rfl, ?_⟩⟩
  rw [World.cell?_alloc_new]
  simp [hj, B8]

theorem foldl_push (l : List UInt8) : ∀ (s : ByteArray), (l.map (fun c => (c.toNat : Int))).foldl (fun r n => r.push (UInt8.ofNat n.toNat)) s = ⟨s.data ++ l.toArray⟩ := by
  induction l with
  | nil => intro s; simp
  | cons c l ih =>
    intro s
    simp only [List.map_cons, List.foldl_cons]
    rw [ih]
    simp [ByteArray.push]

/-- 'string(b)' -/
theorem str_of {w : World} {v : Value} {l : List UInt8} (h : IsBs w v l) : (convert 22 9 v).run Try.prog w = .ok (.string ⟨l.toArray⟩) w := by
  obtain ⟨a, cap, rfl, hb⟩ := h
  rw [run_convert_bytes_string w _ _ 5 a _ _ Try.underlying22 Try.underlying5 Try.underlying9]
  rcases a with _ | a
  · have h0 := hb.none rfl
    have h1 := hb.fits
    have h2 : l = [] := List.eq_nil_of_length_eq_zero (by omega)
    subst h2
    rfl
  · have hr := run_loadCells_list (P := Try.prog) (w := w) a (l.map B8) (by
      intro j u hj
      simp only [List.getElem?_map, Option.map_eq_some_iff] at hj
      obtain ⟨c, hj, rfl⟩ := hj
      obtain ⟨b, off, hp, hc⟩ := hb.cell j c hj
      obtain rfl := Option.some.inj hp
      simp only [Addr.add_lit]
      exact hc)
    rw [List.length_map] at hr
    rw [run_bytesToString w a l.length cap (l.map (fun c => (c.toNat : Int))) (by rw [hr]; simp [B8, Function.comp_def]), foldl_push]
    simp [ByteArray.empty, ByteArray.emptyWithCapacity]
    rfl

end Go.Proofs.Ytikbioakngkogaa
