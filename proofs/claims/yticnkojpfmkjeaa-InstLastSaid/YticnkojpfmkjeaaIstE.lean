/- What the steps of an instance keep. No condition but those that each states. -/
import Derived.Test.YticnkojpfmkjeaaIstD
namespace Go.Proofs.Yticnkojpfmkjeaa
open Go Go.RowKit
set_option linter.unusedVariables false
set_option linter.unusedSimpArgs false
set_option linter.unnecessarySimpa false

theorem Sl.limAt {H : Heap} {v : Value} {l : List (Int × Int)} (h : Sl 2 ELim H v l) (j : Nat) (hj : j < l.length) : CellsH H ((vbase v).add (j * 2)) [.int .u32 (l.getD j default).1, .int .i64 (l.getD j default).2] ∧ InR .u32 (l.getD j default).1 ∧ InR .i64 (l.getD j default).2 := by
  obtain ⟨cs, hl, hc, rfl, h1, h2⟩ := h.at j hj
  exact ⟨hc, h1, h2⟩
theorem head_of {α : Type} [Inhabited α] {l : List α} (h : 0 < l.length) : ∃ x r, l = x :: r ∧ l.getD 0 default = x := by
  cases l with
  | nil => simp at h
  | cons x r => exact ⟨x, r, rfl, rfl⟩
theorem nil_of {α : Type} {l : List α} (h : ¬ 0 < (l.length : Int)) : l = [] := List.eq_nil_of_length_eq_zero (by omega)
theorem pages_cons {m : Md} {x : Int × Int} {r : List (Int × Int)} (h : m.mems = x :: r) : pages m = x.1 := by unfold pages; rw [h]
theorem pages_nil {m : Md} (h : m.mems = []) : pages m = 0 := by unfold pages; rw [h]
theorem tlen_cons {m : Md} {x : Int × Int} {r : List (Int × Int)} (h : m.tables = x :: r) : tlen m = x.1.toNat := by unfold tlen; rw [h]
theorem tlen_nil {m : Md} (h : m.tables = []) : tlen m = 0 := by unfold tlen; rw [h]
theorem tab0_len (m : Md) : (tab0 m).length = tlen m := by simp [tab0]
section
variable {HB H H2 H' : Heap} {g : Nat} {mp tv gv : Value} {m : Md} {bs tl gl : List Int}
theorem IS.setT (h : IS HB g mp (.slice none 0 0) gv m bs [] gl) (o : Old HB H) (w : Own 1 (EInt .i64) 2 #[] HB.size H tv tl) (u : Upd g H H2) (hb : H2[g]? = some (.cells [mp, tv, gv].toArray 73 (0, 0))) : IS H2 g mp tv gv m bs tl gl := by
  have hg := h.lt
  have k := h.old o
  have hwl := w.lt
  refine ⟨hb, ?_, (w.weak (by omega)).keepN (hwl.imp id (fun e => u.2 _ (by omega))), k.gl.keepN (k.gl.lt.imp id (fun e => u.2 _ (by omega))), ?_⟩
  · rcases h.mm with h1 | ⟨a, gm, vm, mo, e, q, f, r1, r2⟩
    · exact .inl h1
    · have q2 := q.lt2
      obtain ⟨f1, f2⟩ := id f
      refine .inr ⟨a, gm, vm, mo, e, (q.old o).keepB (u.2 gm (by omega)) (f2.imp id (fun e => u.2 _ (by omega))), f, hwl.imp id (fun e => ⟨by omega, q2.2.imp id (fun e => by omega)⟩), r2⟩
  · rcases hwl with h1 | h1
    · exact .inl h1
    · rcases h.gl.lt with h2 | h2
      · exact .inr (.inl h2)
      · exact .inr (.inr (by omega))
theorem IS.anyB (h : IS H g mp tv gv m bs tl gl) (hm : m.mems = []) (bs' : List Int) : IS H g mp tv gv m bs' tl gl :=
  ⟨h.b, h.mm.imp id (fun e => absurd hm e.1), h.t, h.gl, h.tg⟩
theorem IS.mapB (h : IS H g mp tv gv m bs tl gl) {bs' : List Int} (e : bs = bs') : IS H g mp tv gv m bs' tl gl := e ▸ h
theorem pages_is (h : IS H g mp tv gv m bs tl gl) (hl : (bs.length : Int) = pages m * 65536) (hp : 0 ≤ pages m) : Ct Try.prog 29 [mp] H (fun u H' => u = .int .u32 (pages m) ∧ H = H') := by
  rcases h.mm with ⟨h1, rfl⟩ | ⟨_, gm, vm, mo, rfl, q, _⟩
  · rw [pages_nil h1]; exact Pages_nil
  · have := Pages_any gm vm bs mo q
    rwa [show (bs.length : Int) / 65536 = pages m by omega] at this
theorem put_is (h : IS H g mp tv gv m bs tl gl) (hl : (bs.length : Int) = pages m * 65536) (hp : pages m ≤ 16) {a : Int} {u : Value} {l : List Int} (ra : 0 ≤ a) (hs : Sl 1 (EInt .u8) H u l) (hf : a + l.length ≤ pages m * 65536) :
    Ct Try.prog 30 [mp, .int .u32 a, u] H (fun _ H' => IS H' g mp tv gv m (putAt bs a.toNat l) tl gl ∧ OldB (g + 1) H H') := by
  have r2 : InR .u32 a := by dsimp only [InR]; omega
  have hg := h.lt
  rcases id h.mm with ⟨h1, rfl⟩ | ⟨h0, gm, vm, mo, rfl, q, f, r3, r4⟩
  · refine (Put_nil a r2 u l hs (by omega)).mono ?_
    rintro _ _ ⟨-, rfl⟩
    exact ⟨h.anyB h1 _, OldB.refl _ _⟩
  · refine (Put_yes gm vm bs mo q a r2 u l hs (by omega) (by omega)).mono ?_
    rintro _ H' ⟨-, q', fr⟩
    exact ⟨h.put h0 rfl f r3 r4 q' fr, fr.ob (by omega) f⟩
end


end Go.Proofs.Yticnkojpfmkjeaa
