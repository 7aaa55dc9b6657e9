/- The logic of walks: bytes and strings. No condition but those that each law states. -/
import Derived.Test.YticnkojpfmkjeaaKMore
import Derived.Laws.BytesString
import Derived.Lib.SlBytesConst
namespace Go.Proofs.Yticnkojpfmkjeaa
open Go Go.RowKit Go.ChangeShapes Go.WideShapes Go.Deep
set_option linter.unusedVariables false
set_option linter.unusedSimpArgs false

/-- bytes as a string -/
def bstr (ns : List Int) : ByteArray := ns.foldl (fun r n => r.push (UInt8.ofNat n.toNat)) ByteArray.empty
section
variable {P : Program} {E : Env} {H Hx : Heap} {o : Oper} {v : Value}
/-- string(b) -/
theorem R.convBS {S D e : TypeId} {x : Operand} {l : List Int} (ho : o.op = .convert S D x) (hs : P.underlying S = some (.slice e)) (he : P.underlying e = some (.int .u8)) (hd : P.underlying D = some .string)
    (hx : ev E x = some v) (hl : Sl 1 (EInt .u8) H v l) : Run P E H o (.string (bstr l)) := by
  intro ρ w ha hw
  subst hw
  by_cases h0 : l.length = 0
  · have hl0 : l = [] := List.eq_nil_of_length_eq_zero h0
    subst hl0
    obtain ⟨a, c, rfl⟩ := hl.val
    have hr := run_convert_bytes_string (P := P) w S D e a 0 c hs he hd
    have hb : (Conv.bytesToString (.slice a 0 c)).run P w = .ok (.string (bstr [])) w := by
      cases a with
      | none => rfl
      | some p =>
        have := run_bytesToString (P := P) w p 0 c [] (by simpa using run_loadCells_list (P := P) w p [] (by simp))
        exact this
    have hx' := ha x _ hx
    simp only [List.length_nil] at hx'
    simp [execOp, ho, hx', Sem.run_bind, Sem.run_pure, Result.andThen]
    rw [hr, hb]
  · obtain ⟨p, cap, hv, hsp, hb⟩ := hl.addr (by omega)
    subst hv
    have hr := run_convert_bytes_string (P := P) w S D e (some p) l.length cap hs he hd
    have hc := run_loadCells_list (P := P) w p (l.map (Value.int .u8)) (by
      intro j u hj
      simp only [List.getElem?_map, Option.map_eq_some_iff] at hj
      obtain ⟨z, hz, rfl⟩ := hj
      obtain ⟨hlt, hze⟩ := List.getElem?_eq_some_iff.1 hz
      have := (hl.int j hlt).1
      rw [hb, List.getD_eq_getElem?_getD, hz] at this
      rw [cell_w rfl]
      exact this)
    have hbs := run_bytesToString (P := P) w p l.length cap l (by simpa using hc)
    have hx' := ha x _ hx
    simp [execOp, ho, hx', Sem.run_bind, Sem.run_pure, Result.andThen]
    rw [hr, hbs]
    rfl
/-- a literal's own row, marked (the conversion of a constant string) -/
theorem M.mark {T e : TypeId} {x : Operand} {g n c : Nat} {cs : List Value} (ho : o.op = .convert T T x) (ht : P.underlying T = some (.slice e)) (he : P.underlying e = some (.int .u8))
    (hx : ev E x = some (.slice (some ⟨g, 0, none⟩) n c)) (hb : H[g]? = some (.cells cs.toArray e (0, 0))) :
    RunM P E H o (fun u H' => u = .slice (some ⟨g, 0, none⟩) n c ∧ Upd g H H' ∧ H'[g]? = some (.cells cs.toArray e (cs.length, cs.length + 1))) := by
  intro ρ w ha hw
  subst hw
  have hsh : w.shape? g = some (e, cs.length) := by unfold World.shape?; rw [hb]; simp
  have hx' := ha x _ hx
  refine ⟨.slice (some ⟨g, 0, none⟩) n c, w.freeze ⟨g, cs.length, none⟩ 1, ?_, ?_, rfl, ?_, ?_⟩
  · simp [execOp, ho, hx', convert, run_underlying ht, run_underlying he, markStringish, hsh, Sem.run_bind, Sem.run_pure, Result.andThen]
  · unfold World.freeze
    rw [if_neg (by decide)]
    exact ⟨rfl, rfl, rfl, rfl⟩
  · unfold World.freeze
    rw [if_neg (by decide)]
    refine ⟨by simp, fun k hk => ?_⟩
    simp [Array.getElem?_modify, Ne.symm hk]
  · unfold World.freeze
    rw [if_neg (by decide)]
    simp [Array.getElem?_modify, hb]
end
theorem Sl.ofCells {k : IntKind} {H : Heap} {g : Nat} {e : TypeId} {l : List Int} {z : Nat × Nat} (hb : H[g]? = some (.cells (l.map (Value.int k)).toArray e z)) (hl : l.length ≤ 1000000000) (hr : ∀ x ∈ l, InR k x) : Sl 1 (EInt k) H (.slice (some ⟨g, 0, none⟩) l.length l.length) l := by
  refine ⟨some ⟨g, 0, none⟩, l.length, rfl, Nat.le_refl _, by unfold maxLen; omega, by simp, fun _ p hp => by cases hp; rfl, fun j x hj => ?_⟩
  have hlt := nth_lt hj
  rw [nth_eq] at hj
  refine ⟨[.int k x], rfl, ?_, rfl, hr x (List.mem_of_getElem? hj)⟩
  intro i u hu
  have hi : i = 0 ∧ u = .int k x := by
    cases i with
    | zero => injection hu with hu; exact ⟨rfl, hu.symm⟩
    | succ i => cases hu
  obtain ⟨rfl, rfl⟩ := hi
  simp only [vbase]
  rw [add_add _ rfl]
  have e : (Addr.mk g 0 none).add (j * 1 + 0) = ⟨g, j, none⟩ := by unfold Addr.add; split <;> simp_all
  rw [e]
  exact cell_of hb (by rw [nth_eq]; simp [hj])
end Go.Proofs.Yticnkojpfmkjeaa
