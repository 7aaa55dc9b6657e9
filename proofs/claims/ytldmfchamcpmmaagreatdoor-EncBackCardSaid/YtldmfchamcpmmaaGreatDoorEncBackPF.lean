/- What the proof of EncBack leans on, part 6. No condition but those that each law states. -/
import Derived.Test.YtldmfchamcpmmaaGreatDoorRows
import Derived.WalkKit
import Derived.Deep.Quiet
import Derived.Below
import Derived.WalkLawsBesides
import Derived.Lib.Hide
import Derived.Laws.AppendOwnNone
import Derived.Laws.CopyRow
import Derived.Laws.Tables
import Derived.Orders
import Derived.Deep.Slices
import Derived.Deep.Fields
import Derived.OpenShut
import Derived.ProofKit
import Derived.Lib.AppendZerosOnto
import Derived.Laws.BytesString
import Derived.Lib.SlBytesConst
import Derived.Laws.IdiomStrings
import Derived.Lib.AppendStr
import Derived.Lib.EndianZ
import Derived.Lib.DecodeN
import Derived.Lib.ValidLaws
import Derived.Lib.EndianBits
import Derived.Maps.AppendAt
import Derived.ChangeKeysEq
import Derived.Lib.LaidTab
import Derived.Lib.LaidU8
import Derived.LaidMore
import Derived.ChangeSame
import Derived.SizedLaws
import Derived.WalkSpells
import Derived.Lib.ItoaNum
import Derived.Defers
import Derived.Recover
import Derived.Scope
import Derived.Laws.StructEq
import Derived.ArgAppend
import Derived.Test.YtldmfchamcpmmaaGreatDoorEncBackPE
set_option maxHeartbeats 10000000
set_option maxRecDepth 100000
set_option linter.unusedVariables false
set_option linter.unusedSimpArgs false
set_option linter.unnecessarySimpa false
namespace Go.Proofs.YtldmfchamcpmmaaGreatDoor
open Go Go.RowKit
theorem Sl.elem {α : Type} [Inhabited α] {n : Nat} {E : El α} {H : Heap} {v : Value} {l : List α} (h : Sl n E H v l) {x : α} (hx : x ∈ l) : ∃ cs, E H cs x := by
  obtain ⟨j, hj, rfl⟩ := List.getElem_of_mem hx
  obtain ⟨cs, _, _, he⟩ := h.at j hj
  rw [List.getD_eq_getElem?_getD, List.getElem?_eq_getElem hj] at he
  exact ⟨cs, he⟩
namespace Bn
open Isp
/-- the numbers of a module are numbers -/
structure Rng (m : Mo) : Prop where
  i : ∀ x ∈ m.imports, okU x.typ ∧ okU x.lim.1
  f : ∀ x ∈ m.funcs, okU x
  tb : ∀ x ∈ m.tables, okU x.1
  me : ∀ x ∈ m.mems, okU x.1
  e : ∀ x ∈ m.exports, okU x.idx
  s : okU m.start
  el : ∀ x ∈ m.elems, okU x.1 ∧ ∀ y ∈ x.2.2, okU y
  c : ∀ x ∈ m.codes, ∀ y ∈ x.1, okU y.1
  d : ∀ x ∈ m.datas, okU x.1
theorem okU_in {z : Int} (h : InR .u32 z) : okU z := by dsimp only [InR] at h; unfold okU; omega
theorem ints_ok {H : Heap} {v : Value} {l : List Int} (h : Sl 1 (EInt .u32) H v l) : ∀ x ∈ l, okU x := fun x hx => okU_in (h.rng x hx)
theorem rng_of {H : Heap} {t i f tb me g e el c d : Value} {m : Mo} (mv : MoV H t i f tb me g e el c d m) : Rng m where
  i := fun x hx => by obtain ⟨cs, _, _, h1, h2, _⟩ := mv.i.elem hx; exact ⟨okU_in h1, okU_in h2⟩
  f := ints_ok mv.f
  tb := fun x hx => by obtain ⟨cs, _, h1, _⟩ := mv.tb.elem hx; exact okU_in h1
  me := fun x hx => by obtain ⟨cs, _, h1, _⟩ := mv.me.elem hx; exact okU_in h1
  e := fun x hx => by obtain ⟨cs, _, _, h1⟩ := mv.e.elem hx; exact okU_in h1
  s := okU_in mv.s
  el := fun x hx => by obtain ⟨cs, a, b, _, _, hb, h1⟩ := mv.el.elem hx; exact ⟨okU_in h1, ints_ok hb⟩
  c := fun x hx y hy => by obtain ⟨cs, a, b, _, ha, _⟩ := mv.c.elem hx; obtain ⟨_, _, h1, _⟩ := ha.elem hy; exact okU_in h1
  d := fun x hx => by obtain ⟨cs, a, b, _, _, _, h1⟩ := mv.d.elem hx; exact okU_in h1
theorem vals_ok {l : List Int} (h : l.all En.vOk = true) : ∀ t ∈ l, t = 127 ∨ t = 126 := fun t ht => by
  have := List.all_eq_true.1 h t ht; unfold En.vOk at this; exact of_decide_eq_true this
theorem has_ok {l : List Ins} (h : En.has l = true) : Isp.Has l := by
  simpa [En.has] using h
theorem lim_ok {x : Int × Int} (h : En.limO x = true) (h1 : okU x.1) : LimV x := by
  unfold En.limO at h
  have h := of_decide_eq_true h
  refine ⟨h1, ?_⟩
  by_cases h0 : x.2 = -1
  · exact .inl h0
  exact .inr ⟨by omega, by omega⟩
theorem glb_ok {g : Glb} (h : En.globO g = true) : GlbV g := by
  unfold En.globO En.vOk at h
  have h2 : g.1 = 127 ∨ g.1 = 126 := of_decide_eq_true h
  exact h2
theorem impV_ok {x : Imp} (h : En.impO x = true) (h1 : okU x.typ ∧ okU x.lim.1) (h2 : x.mod.size ≤ 4000 ∧ x.nam.size ≤ 4000) : ImpV x := by
  unfold En.impO at h
  simp only [Bool.and_eq_true, decide_eq_true_eq] at h
  obtain ⟨⟨⟨⟨⟨a1, a2⟩, a3⟩, a4⟩, a5⟩, a6⟩ := h
  refine ⟨⟨a1, by omega⟩, ⟨a2, by omega⟩, ?_⟩
  unfold En.impO2 at a6
  by_cases k0 : x.kind = 0
  · rw [if_pos k0]
    have e1 : x.lim = (0, 0) := by rcases a4 with h | h | h; omega; omega; exact h
    have e2 : x.glob = (0, false) := by rcases a5 with h | h; omega; exact h
    exact ⟨h1.1, by rw [e1, e2]⟩
  rw [if_neg k0] at a6 ⊢
  have e0 : x.typ = 0 := by rcases a3 with h | h; omega; exact h
  by_cases k1 : x.kind = 1
  · rw [if_pos k1] at a6 ⊢
    have e2 : x.glob = (0, false) := by rcases a5 with h | h; omega; exact h
    exact ⟨lim_ok a6 h1.2, e0, e2⟩
  rw [if_neg k1] at a6 ⊢
  by_cases k2 : x.kind = 2
  · rw [if_pos k2] at a6 ⊢
    have e2 : x.glob = (0, false) := by rcases a5 with h | h; omega; exact h
    exact ⟨lim_ok a6 h1.2, e0, e2⟩
  rw [if_neg k2] at a6 ⊢
  by_cases k3 : x.kind = 3
  · rw [if_pos k3] at a6 ⊢
    have e1 : x.lim = (0, 0) := by rcases a4 with h | h | h; omega; omega; exact h
    exact ⟨glb_ok a6, e0, e1⟩
  rw [if_neg k3] at a6
  cases a6
theorem typ_ok {x : FTy} (h : En.typO x = true) (h2 : x.1.length ≤ 4000 ∧ x.2.length ≤ 4000) : FTyV x := by
  unfold En.typO at h
  rw [Bool.and_eq_true] at h
  exact ⟨⟨by omega, vals_ok h.1⟩, ⟨by omega, vals_ok h.2⟩⟩
theorem exp_ok {x : Exp} (h : En.expO x = true) (h1 : okU x.idx) (h2 : x.nam.size ≤ 4000) : ExpV x := by
  unfold En.expO at h
  simp only [Bool.and_eq_true, decide_eq_true_eq] at h
  exact ⟨⟨h.1, by omega⟩, h.2, h1⟩
theorem glo_ok {x : Glo} (h : En.gloO x = true) : GloV x := by
  unfold En.gloO at h; rw [Bool.and_eq_true] at h; exact ⟨glb_ok h.1, has_ok h.2⟩
theorem codV_ok {x : _root_.Go.Proofs.YtldmfchamcpmmaaGreatDoor.Cod} (h : En.codO x = true) (h1 : ∀ y ∈ x.1, okU y.1) (h2 : Isp.bulk x.2 ≤ 4000 ∧ x.1.length ≤ 4000) : CodV x := by
  have hl := En.codI_le h2
  unfold En.codO at h
  simp only [Bool.and_eq_true, decide_eq_true_eq] at h
  refine ⟨⟨⟨by omega, fun y hy => ⟨h1 y hy, ?_⟩⟩, has_ok h.1.2, h.2⟩, by omega⟩
  have := List.all_eq_true.1 h.1.1 y hy
  unfold En.locO En.vOk at this
  exact of_decide_eq_true this
theorem whole_back {α : Type} {p : Prs α} {e : α → List Int} {V : α → Prop} (hp : Isp.Cod p e V) {x : α} (hx : V x) : whole p (e x) = .ok x := by
  have := hp.back x hx []
  rw [List.append_nil] at this
  unfold whole; rw [this]; simp
theorem fl_app {a c : List Sec} {m m1 m2 : Mo} (h1 : fills a m = .ok m1) (h2 : fills c m1 = .ok m2) : fills (a ++ c) m = .ok m2 := by
  rw [fills_app, h1]; exact h2
theorem fl_sec {α : Type} [Inhabited α] {id : Int} {p : Prs α} {e : α → List Int} {V : α → Prop} {l : List α} {m m1 : Mo} {g : List α → Mo} (hp : Isp.Cod p e V) (hs : ∀ b, secF id b m = mapE g (whole (lstP p) b)) (hV : ∀ x ∈ l, V x) (hn : l.length ≤ 4000) (hg : g l = m1) (h0 : g [] = m) : fills (En.sec id e l) m = .ok m1 := by
  unfold En.sec
  split
  · next h => rw [List.eq_nil_of_length_eq_zero h] at hg; rw [← hg, h0]; rfl
  rw [fills_step (m' := m1)]
  · rfl
  rw [hs, whole_back (cod_lst hp) ⟨by omega, hV⟩]; show Except.ok (g l) = _; rw [hg]
theorem all_of {α : Type} {p : α → Bool} {l : List α} (h : l.all p = true) : ∀ x ∈ l, p x = true := fun x hx => List.all_eq_true.1 h x hx
theorem fills_secs {m : Mo} (hr : Rng m) (hS : En.Small m) (ho : En.ok m = true) : fills (En.secs m) mo0 = .ok m ∧ m.codes.length = m.funcs.length := by
  unfold En.ok at ho
  simp only [Bool.and_eq_true, Bool.or_eq_true, decide_eq_true_eq] at ho
  obtain ⟨⟨⟨⟨⟨⟨⟨⟨⟨⟨o0, o1⟩, o2⟩, o3⟩, o4⟩, o5⟩, o6⟩, o7⟩, o8⟩, o9⟩, o10⟩ := ho
  obtain ⟨n1, n2, n3, n4, n5, n6, n7, n8, n9, n10⟩ := hS.n
  refine ⟨?_, o0⟩
  obtain ⟨ty, im, fu, tb, me, gl, ex, hst, st, el, co, da⟩ := m
  dsimp only at *
  unfold En.secs
  refine fl_app (m1 := ⟨ty, im, fu, tb, me, gl, ex, hst, st, el, co, []⟩) (fl_app (m1 := ⟨ty, im, fu, tb, me, gl, ex, hst, st, el, [], []⟩) (fl_app (m1 := ⟨ty, im, fu, tb, me, gl, ex, hst, st, [], [], []⟩) (fl_app (m1 := ⟨ty, im, fu, tb, me, gl, ex, false, 0, [], [], []⟩) (fl_app (m1 := ⟨ty, im, fu, tb, me, gl, [], false, 0, [], [], []⟩) (fl_app (m1 := ⟨ty, im, fu, tb, me, [], [], false, 0, [], [], []⟩) (fl_app (m1 := ⟨ty, im, fu, tb, [], [], [], false, 0, [], [], []⟩) (fl_app (m1 := ⟨ty, im, fu, [], [], [], [], false, 0, [], [], []⟩) (fl_app (m1 := ⟨ty, im, [], [], [], [], [], false, 0, [], [], []⟩) (fl_app (m1 := ⟨ty, [], [], [], [], [], [], false, 0, [], [], []⟩) ?_ ?_) ?_) ?_) ?_) ?_) ?_) ?_) ?_) ?_) ?_
  · exact fl_sec cod_typ (fun b => sF_1 rfl) (fun x hx => typ_ok (all_of o2 x hx) (hS.t x hx)) n1 rfl rfl
  · exact fl_sec cod_imp (fun b => sF_2 rfl) (fun x hx => impV_ok (all_of o3 x hx) (hr.i x hx) (hS.i x hx)) n2 rfl rfl
  · exact fl_sec cod_u32 (fun b => sF_3 rfl) (fun x hx => hr.f x hx) n3 rfl rfl
  · exact fl_sec cod_tab (fun b => sF_4 rfl) (fun x hx => lim_ok (all_of o4 x hx) (hr.tb x hx)) n4 rfl rfl
  · exact fl_sec cod_lim (fun b => sF_5 rfl) (fun x hx => lim_ok (all_of o5 x hx) (hr.me x hx)) n5 rfl rfl
  · exact fl_sec cod_glo (fun b => sF_6 rfl) (fun x hx => glo_ok (all_of o6 x hx)) n6 rfl rfl
  · exact fl_sec cod_exp (fun b => sF_7 rfl) (fun x hx => exp_ok (all_of o7 x hx) (hr.e x hx) (hS.e x hx)) n7 rfl rfl
  · cases hst with
    | true =>
      rw [if_pos rfl, fills_step (m' := ⟨ty, im, fu, tb, me, gl, ex, true, st, [], [], []⟩)]
      · rfl
      have hs : okU st := hr.s
      rw [sF_8 rfl]
      show mapE _ (whole u32P (apN false st)) = _
      rw [whole_back cod_u32 hs]; rfl
    | false =>
      show fills (if false = true then _ else []) _ = _
      rw [if_neg (by decide)]
      have : st = 0 := by rcases o1 with h | h; cases h; exact h
      subst this; rfl
  · exact fl_sec cod_elm (fun b => sF_9 rfl) (fun x hx => ⟨(hr.el x hx).1, has_ok (all_of o8 x hx), by have := (hS.el x hx).2; omega, (hr.el x hx).2⟩) n8 rfl rfl
  · exact fl_sec cod_cod (fun b => sF_10 rfl) (fun x hx => codV_ok (all_of o9 x hx) (hr.c x hx) (hS.c x hx)) n9 rfl rfl
  exact fl_sec cod_dat (fun b => sF_n (fun n a b => by omega)) (fun x hx => ⟨hr.d x hx, has_ok (all_of o10 x hx), by have := (hS.d x hx).2; omega⟩) n10 rfl rfl
theorem body_mem : ∀ {l : List Sec} {s : Sec}, s ∈ l → s.2.length ≤ (Sc.body l).length
  | t :: l, s, h => by
    simp only [Sc.body, List.length_append]
    rcases List.mem_cons.1 h with rfl | h
    · omega
    have := body_mem h; omega
/-- the sections of what was encoded -/
theorem split_bin {m : Mo} (hS : En.Small m) (hl : (En.bin m).length ≤ 65536) : Sc.split (En.bin m) = some (En.secs m) := by
  refine Sc.split_join (En.join_secs hS) (fun s hs => ?_)
  have := body_mem hs
  unfold En.bin at hl
  rw [List.length_append] at hl
  omega
/-- what is encoded is decoded as it was -/
theorem bin_back {m : Mo} (hr : Rng m) (hS : En.Small m) (ho : En.ok m = true) (hl : (En.bin m).length ≤ 65536) : decR (En.bin m) = (m, 0) := by
  obtain ⟨h1, h2⟩ := fills_secs hr hS ho
  exact dec_ok (by omega) (split_bin hS hl) h1 h2
end Bn
namespace Bn
open Isp
/-- the number of its first function is 0 if it has none -/
def SV (m : Mo) : Prop := m.hasStart = true ∨ m.start = 0
theorem sec_SV {id : Int} {b : List Int} {m m' : Mo} (h : secF id b m = .ok m') (hi : 1 ≤ id ∧ id ≤ 11) (hm : SV m) : SV m' := by
  revert h
  refine sF_ids (P := fun id => secF id b m = .ok m' → SV m') hi ?_ ?_ ?_ ?_ ?_ ?_ ?_ ?_ ?_ ?_ ?_ <;> intro h <;> (obtain ⟨x, _, rfl⟩ := mapE_ok h; first | exact hm | exact .inl rfl)
/-- how long the bytes of a module's sections are -/
noncomputable def blen (m : Mo) : Nat := (Sc.body (En.secs m)).length
noncomputable def sl1 {α : Type} (id : Int) (e : α → List Int) (l : List α) : Nat := (Sc.body (En.sec id e l)).length
noncomputable def sl8 (m : Mo) : Nat := (Sc.body (if m.hasStart = true then [(8, En.u m.start)] else [])).length
theorem blen_is (m : Mo) : blen m = sl1 1 En.typB m.types + sl1 2 En.impB m.imports + sl1 3 En.u m.funcs + sl1 4 En.tabB m.tables + sl1 5 En.limB m.mems + sl1 6 En.gloB m.globs + sl1 7 En.expB m.exports + sl8 m + sl1 9 En.elmB m.elems + sl1 10 En.codB m.codes + sl1 11 En.datB m.datas := by
  unfold blen En.secs sl1 sl8
  simp only [Sc.body_app, List.length_append]
theorem body1 (id : Int) (b : List Int) : (Sc.body [(id, b)]).length = 1 + (Lb.ap (b.length : Int)).length + b.length := by
  simp only [Sc.body, List.length_append, List.length_cons, List.length_nil, List.append_nil]
theorem sl1_le {α : Type} [Inhabited α] {id : Int} {p : Prs α} {e : α → List Int} {V : α → Prop} (hp : Isp.Cod p e V) {b : List Int} (hb : b.length < 4294967296) {x : List α} (h : whole (lstP p) b = .ok x) : sl1 id e x ≤ (Sc.body [(id, b)]).length := by
  have hs : (En.lst e x).length ≤ b.length := by
    unfold whole at h
    split at h
    · cases h
    next y k hy =>
    split at h
    · injection h with h; subst h
      have := ((cod_lst hp).sound _ _ _ hy).2
      omega
    cases h
  unfold sl1 En.sec
  split
  · exact Nat.zero_le _
  have : (Lb.ap ((En.lst e x).length : Int)).length ≤ (Lb.ap (b.length : Int)).length := u_mono (by omega) (by omega) (by omega)
  rw [body1, body1]; omega
theorem sec_len {id : Int} {b : List Int} {m m' : Mo} (h : secF id b m = .ok m') (hi : 1 ≤ id ∧ id ≤ 11) (hb : b.length < 4294967296) : blen m' ≤ blen m + (Sc.body [(id, b)]).length := by
  rw [blen_is, blen_is]
  revert h
  refine sF_ids (P := fun id => secF id b m = .ok m' → _ ≤ _ + (Sc.body [(id, b)]).length) hi ?_ ?_ ?_ ?_ ?_ ?_ ?_ ?_ ?_ ?_ ?_ <;> intro h <;> obtain ⟨x, hx, rfl⟩ := mapE_ok h
  · have := sl1_le (id := 1) cod_typ hb hx; unfold sl8; dsimp only; omega
  · have := sl1_le (id := 2) cod_imp hb hx; unfold sl8; dsimp only; omega
  · have := sl1_le (id := 3) (e := En.u) cod_u32 hb hx; unfold sl8; dsimp only; omega
  · have := sl1_le (id := 4) cod_tab hb hx; unfold sl8; dsimp only; omega
  · have := sl1_le (id := 5) cod_lim hb hx; unfold sl8; dsimp only; omega
  · have := sl1_le (id := 6) cod_glo hb hx; unfold sl8; dsimp only; omega
  · have := sl1_le (id := 7) cod_exp hb hx; unfold sl8; dsimp only; omega
  · have hs : (En.u x).length ≤ b.length := by
      unfold whole at hx
      split at hx
      · cases hx
      next y k hy =>
      split at hx
      · injection hx with hx; subst hx
        have := (cod_u32.sound _ _ _ hy).2
        have e : (En.u y).length = (apN false y).length := rfl
        omega
      cases hx
    have h2 : (Lb.ap ((En.u x).length : Int)).length ≤ (Lb.ap (b.length : Int)).length := u_mono (by omega) (by omega) (by omega)
    have h3 : sl8 { m with hasStart := true, start := x } ≤ (Sc.body [(8, b)]).length := by
      unfold sl8; dsimp only; rw [if_pos rfl, body1, body1]; omega
    dsimp only at h3 ⊢
    omega
  · have := sl1_le (id := 9) cod_elm hb hx; unfold sl8; dsimp only; omega
  · have := sl1_le (id := 10) cod_cod hb hx; unfold sl8; dsimp only; omega
  have := sl1_le (id := 11) cod_dat hb hx; unfold sl8; dsimp only; omega
theorem fills_len : ∀ {ss : List Sec} {m m' : Mo}, fills ss m = .ok m' → (∀ s ∈ ss, (1 ≤ s.1 ∧ s.1 ≤ 11) ∧ s.2.length < 4294967296) → SV m → blen m' ≤ blen m + (Sc.body ss).length ∧ SV m'
  | [], m, m', h, _, hm => by injection h with h; subst h; exact ⟨Nat.le_add_right _ _, hm⟩
  | s :: ss, m, m', h, hs, hm => by
    simp only [fills] at h
    split at h
    · cases h
    next m1 h1 =>
    have hx := hs s List.mem_cons_self
    have a1 := sec_len h1 hx.1 hx.2
    have a2 := fills_len h (fun t ht => hs t (List.mem_cons_of_mem _ ht)) (sec_SV h1 hx.1 hm)
    have e : (Sc.body (s :: ss)).length = (Sc.body [(s.1, s.2)]).length + (Sc.body ss).length := by
      rw [show s :: ss = [(s.1, s.2)] ++ ss from rfl, Sc.body_app, List.length_append]
    exact ⟨by omega, a2.2⟩
theorem blen0 : blen mo0 = 0 := by rw [blen_is]; rfl
theorem lim_yes {x : Int × Int} (h : LimV x) : En.limO x = true := by
  obtain ⟨_, h | h⟩ := h
  · unfold En.limO; exact decide_eq_true (by omega)
  unfold okU at h; unfold En.limO; exact decide_eq_true (by omega)
theorem vals_yes {l : List Int} (h : ∀ t ∈ l, t = 127 ∨ t = 126) : l.all En.vOk = true := List.all_eq_true.2 fun t ht => by unfold En.vOk; exact decide_eq_true (h t ht)
theorem glb_yes {g : Glb} (h : GlbV g) : En.globO g = true := by unfold En.globO En.vOk; exact decide_eq_true h
theorem imp_yes {x : Imp} (h : ImpV x) : En.impO x = true := by
  obtain ⟨h1, h2, h3⟩ := h
  unfold En.impO En.impO2
  simp only [Bool.and_eq_true, decide_eq_true_eq]
  by_cases k0 : x.kind = 0
  · rw [if_pos k0] at h3 ⊢
    have e := h3.2
    rw [Prod.mk.injEq] at e
    exact ⟨⟨⟨⟨⟨h1.1, h2.1⟩, .inl k0⟩, .inr (.inr e.1)⟩, .inr e.2⟩, rfl⟩
  rw [if_neg k0] at h3 ⊢
  by_cases k1 : x.kind = 1
  · rw [if_pos k1] at h3 ⊢
    exact ⟨⟨⟨⟨⟨h1.1, h2.1⟩, .inr h3.2.1⟩, .inl k1⟩, .inr h3.2.2⟩, lim_yes h3.1⟩
  rw [if_neg k1] at h3 ⊢
  by_cases k2 : x.kind = 2
  · rw [if_pos k2] at h3 ⊢
    exact ⟨⟨⟨⟨⟨h1.1, h2.1⟩, .inr h3.2.1⟩, .inr (.inl k2)⟩, .inr h3.2.2⟩, lim_yes h3.1⟩
  rw [if_neg k2] at h3 ⊢
  by_cases k3 : x.kind = 3
  · rw [if_pos k3] at h3 ⊢
    exact ⟨⟨⟨⟨⟨h1.1, h2.1⟩, .inr h3.2.1⟩, .inr (.inr h3.2.2)⟩, .inl k3⟩, glb_yes h3.1⟩
  rw [if_neg k3] at h3
  exact h3.elim
theorem ok_yes {m : Mo} (h : MV m) (h2 : m.codes.length = m.funcs.length) (hs : SV m) : En.ok m = true := by
  unfold En.ok
  simp only [Bool.and_eq_true, Bool.or_eq_true, decide_eq_true_eq, List.all_eq_true]
  refine ⟨⟨⟨⟨⟨⟨⟨⟨⟨⟨h2, hs⟩, ?_⟩, fun x hx => imp_yes (h.i x hx)⟩, fun x hx => lim_yes (h.tb x hx)⟩, fun x hx => lim_yes (h.me x hx)⟩, ?_⟩, ?_⟩, fun x hx => En.has_yes (h.el x hx).2.1⟩, ?_⟩, fun x hx => En.has_yes (h.d x hx).2.1⟩
  · intro x hx
    unfold En.typO
    rw [vals_yes (h.t x hx).1.2, vals_yes (h.t x hx).2.2]; rfl
  · intro x hx
    unfold En.gloO
    rw [glb_yes (h.g x hx).1, En.has_yes (h.g x hx).2]; rfl
  · intro x hx
    unfold En.expO
    rw [Bool.and_eq_true]
    exact ⟨(h.e x hx).1.1, decide_eq_true (h.e x hx).2.1⟩
  intro x hx
  obtain ⟨⟨c1, c2, c3⟩, _⟩ := h.c x hx
  unfold En.codO
  rw [En.has_yes c2, decide_eq_true c3]
  simp only [Bool.and_true, List.all_eq_true]
  intro y hy
  unfold En.locO En.vOk
  exact decide_eq_true (c1.2 y hy).2
theorem lst_mem {α : Type} {f : α → List Int} {l : List α} {x : α} (h : x ∈ l) : (f x).length ≤ (En.lst f l).length := by
  unfold En.lst
  rw [List.length_append]
  have : ∀ {l : List α}, x ∈ l → (f x).length ≤ (l.flatMap f).length := by
    intro l
    induction l with
    | nil => intro h; cases h
    | cons y l ih =>
      intro h
      rw [List.flatMap_cons, List.length_append]
      rcases List.mem_cons.1 h with rfl | h
      · omega
      have := ih h; omega
  have := this h
  omega
theorem lst_cnt {α : Type} {f : α → List Int} {l : List α} (h : ∀ x ∈ l, 1 ≤ (f x).length) : l.length ≤ (En.lst f l).length := by
  unfold En.lst
  rw [List.length_append]
  have : ∀ {l : List α}, (∀ x ∈ l, 1 ≤ (f x).length) → l.length ≤ (l.flatMap f).length := by
    intro l
    induction l with
    | nil => intro _; exact Nat.zero_le _
    | cons y l ih =>
      intro h
      rw [List.flatMap_cons, List.length_append, List.length_cons]
      have := h y List.mem_cons_self
      have := ih (fun z hz => h z (List.mem_cons_of_mem _ hz))
      omega
  have := this h
  omega
theorem sl_lst {α : Type} {id : Int} {f : α → List Int} {l : List α} (h : l ≠ []) : (En.lst f l).length ≤ sl1 id f l := by
  unfold sl1 En.sec
  rw [if_neg (fun e => h (List.eq_nil_of_length_eq_zero e)), body1]; omega
theorem sl_cnt {α : Type} {id : Int} {f : α → List Int} {l : List α} (h : ∀ x ∈ l, 1 ≤ (f x).length) : l.length ≤ sl1 id f l := by
  by_cases h0 : l = []
  · subst h0; exact Nat.zero_le _
  have := sl_lst (id := id) (f := f) h0
  have := lst_cnt h
  omega
theorem sl_mem {α : Type} {id : Int} {f : α → List Int} {l : List α} {x : α} (h : x ∈ l) : (f x).length ≤ sl1 id f l := by
  have := sl_lst (id := id) (f := f) (List.ne_nil_of_mem h)
  have := lst_mem (f := f) h
  omega
theorem u_pos {z : Int} (h : okU z) : 1 ≤ (En.u z).length := by
  unfold okU at h
  exact (Lb.ap_length (by omega) (by omega)).1
theorem ge_flat {xs : List Int} (h : ∀ y ∈ xs, okU y) : xs.length ≤ (xs.flatMap (apN false)).length := by
  induction xs with
  | nil => simp
  | cons y t ih =>
    have h1 : 1 ≤ (apN false y).length := u_pos (h y (by simp))
    have := ih (fun z hz => h z (by simp [hz]))
    simp only [List.flatMap_cons, List.length_append, List.length_cons]
    omega
theorem may_ge {x : Ins} (h : May x) : 1 + x.l.length ≤ (Isp.bytes x).length := by
  obtain ⟨_, hv⟩ := h
  unfold Isp.bytes
  generalize Opc.form x.op = f at *
  have hn : x.l = [] ∨ f = 3 := by
    by_cases h3 : f = 3
    · exact .inr h3
    refine .inl ?_
    unfold bodyV rest at hv
    dsimp only at hv
    repeat' split at hv
    all_goals simp_all
  rcases hn with hn | hn
  · rw [hn]; simp
  subst hn
  have hv' : labsV (x.l, x.a) := by
    unfold bodyV rest at hv
    simp at hv
    exact hv.1
  have := ge_flat hv'.2.1
  dsimp only at this
  have e : bodyE 3 (rest x) = apN false (x.l.length : Nat) ++ x.l.flatMap (apN false) ++ apN false x.a := by simp [bodyE, rest, labsE]
  rw [e]
  have : 1 ≤ (apN false ((x.l.length : Nat) : Int)).length := u_pos ⟨by omega, by have := hv'.1; dsimp only at this; omega⟩
  simp only [List.length_cons, List.length_append]
  omega
theorem bulk_flat {l : List Ins} (h : ∀ x ∈ l, May x) : bulk l ≤ (flat l).length := by
  induction l with
  | nil => simp [bulk]
  | cons x l ih =>
    have h1 := may_ge (h x (by simp))
    have h2 := ih (fun y hy => h y (by simp [hy]))
    simp only [flat, bulk, List.flatMap_cons, List.map_cons, List.sum_cons, List.length_append] at *
    omega
theorem bulk_expr {l : List Ins} (h : Has l) : bulk l ≤ (En.exprB l).length := by
  have := bulk_flat h.2
  unfold En.exprB
  rw [if_pos (En.has_yes h), List.length_append]; omega
theorem typ_len (x : FTy) : 1 ≤ (En.typB x).length ∧ x.1.length ≤ (En.typB x).length ∧ x.2.length ≤ (En.typB x).length := by
  have h1 := lst_cnt (f := En.valB) (l := x.1) (fun _ _ => by simp [En.valB])
  have h2 := lst_cnt (f := En.valB) (l := x.2) (fun _ _ => by simp [En.valB])
  unfold En.typB
  rw [List.length_cons, List.length_append]; omega
theorem txt_len (s : ByteArray) : s.size ≤ (En.txt s).length := by
  unfold En.txt; rw [List.length_append, ints_length]; omega
theorem imp_len (x : Imp) : 1 ≤ (En.impB x).length ∧ x.mod.size ≤ (En.impB x).length ∧ x.nam.size ≤ (En.impB x).length := by
  have h1 := txt_len x.mod
  have h2 := txt_len x.nam
  unfold En.impB; rw [List.length_append, List.length_append, List.length_cons]; omega
theorem exp_len (x : Exp) : 1 ≤ (En.expB x).length ∧ x.nam.size ≤ (En.expB x).length := by
  have h2 := txt_len x.nam
  unfold En.expB; rw [List.length_append, List.length_cons]; omega
theorem lim_len (x : Int × Int) : 1 ≤ (En.limB x).length := by unfold En.limB; split <;> simp
theorem small_of {m : Mo} (h : MV m) (hb : blen m ≤ 3000) : En.Small m := by
  rw [blen_is] at hb
  have q1 := sl_cnt (id := 1) (f := En.typB) (l := m.types) (fun x _ => (typ_len x).1)
  have q2 := sl_cnt (id := 2) (f := En.impB) (l := m.imports) (fun x _ => (imp_len x).1)
  have q3 := sl_cnt (id := 3) (f := En.u) (l := m.funcs) (fun x hx => u_pos (h.f x hx))
  have q4 := sl_cnt (id := 4) (f := En.tabB) (l := m.tables) (fun x _ => by unfold En.tabB; simp)
  have q5 := sl_cnt (id := 5) (f := En.limB) (l := m.mems) (fun x _ => lim_len x)
  have q6 := sl_cnt (id := 6) (f := En.gloB) (l := m.globs) (fun x _ => by unfold En.gloB En.globB; simp)
  have q7 := sl_cnt (id := 7) (f := En.expB) (l := m.exports) (fun x _ => (exp_len x).1)
  have q9 := sl_cnt (id := 9) (f := En.elmB) (l := m.elems) (fun x hx => by have := u_pos (h.el x hx).1; unfold En.elmB; simp only [List.length_append]; omega)
  have q10 := sl_cnt (id := 10) (f := En.codB) (l := m.codes) (fun x hx => by have := u_pos (z := ((En.codI x).length : Nat)) ⟨by omega, by have := (h.c x hx).2; omega⟩; unfold En.codB; rw [List.length_append]; omega)
  have q11 := sl_cnt (id := 11) (f := En.datB) (l := m.datas) (fun x hx => by have := u_pos (h.d x hx).1; unfold En.datB; simp only [List.length_append]; omega)
  refine ⟨⟨by omega, by omega, by omega, by omega, by omega, by omega, by omega, by omega, by omega, by omega⟩, fun x hx => ?_, fun x hx => ?_, fun x hx => ?_, fun x hx => ?_, fun x hx => ?_, fun x hx => ?_, fun x hx => ?_⟩
  · have := sl_mem (id := 1) (f := En.typB) hx; have := typ_len x; omega
  · have := sl_mem (id := 2) (f := En.impB) hx; have := imp_len x; omega
  · have := sl_mem (id := 7) (f := En.expB) hx; have := exp_len x; omega
  · have := sl_mem (id := 6) (f := En.gloB) hx; have := bulk_expr (h.g x hx).2; unfold En.gloB at *; rw [List.length_append] at *; omega
  · have := sl_mem (id := 9) (f := En.elmB) hx; have := bulk_expr (h.el x hx).2.1
    have := lst_cnt (f := En.u) (l := x.2.2) (fun y hy => u_pos ((h.el x hx).2.2.2 y hy))
    unfold En.elmB at *; simp only [List.length_append] at *; omega
  · have := sl_mem (id := 10) (f := En.codB) hx; have := bulk_expr (h.c x hx).1.2.1
    have := lst_cnt (f := En.locB) (l := x.1) (fun y hy => by unfold En.locB; simp)
    unfold En.codB En.codI at *; simp only [List.length_append] at *; omega
  have := sl_mem (id := 11) (f := En.datB) hx; have := bulk_expr (h.d x hx).2.1
  unfold En.datB at *; simp only [List.length_append] at *; omega
/-- what is decoded may be encoded, is no longer then, and is decoded as it was -/
theorem dec_back {l : List Int} {m : Mo} (hd : decR l = (m, 0)) (hl : l.length ≤ 3000) : En.Small m ∧ En.ok m = true ∧ (En.bin m).length ≤ l.length := by
  obtain ⟨ss, h1, h2, h3, _, _⟩ := decR_ok (l := l) (by rw [hd])
  have hv := (decR_V l).1
  rw [hd] at h2 h3 hv
  dsimp only at h2 h3 hv
  obtain ⟨c, j1, j2, j3⟩ := Sc.join_split h1
  have hb := Sc.split_body h1
  have hlen := split_len h1
  have hr : Sc.rise 0 ss = true := by
    unfold Sc.join at j1
    split at j1
    · assumption
    cases j1
  have hids := rise_ids (by decide) hr
  obtain ⟨f1, f2⟩ := fills_len h2 (fun s hs => ⟨(hids s hs).2, by have := hlen s hs; omega⟩) (.inr rfl)
  rw [blen0] at f1
  refine ⟨small_of hv (by omega), ok_yes hv h3 f2, ?_⟩
  unfold En.bin
  rw [List.length_append, show Sc.beg.length = 8 from rfl]
  unfold blen at f1
  omega
end Bn
theorem EncBack_any {H : Heap} {t i f tb me g e el c d : Value} {m : Mo} (mv : MoV H t i f tb me g e el c d m) (hZ : Szd m) {v : Value} {l : List Int} (hs : Sl 1 (EInt .u8) H v l) (hT : TabU H) : Ct Tryz.prog 3 [.agg [t, i, f, tb, me, g, e, .bool m.hasStart, .int .u32 m.start, el, c, d].toArray, v] H (fun u H' => u = .bool true ∧ Old H H') := by
  refine Ct.mk Tryz.func3 rfl Tryz.ntmps3 rfl ?_
  intro W0 hW0
  have o0 : Old H H := Old.refl H
  refine KC.sr ?_
  refine KL.m (M.box rfl rfl rfl) rfl ?_
  rintro _ H1 ⟨rfl, n1⟩
  have z1 := n1.2.1
  have o0 := o0.trans n1.1
  have b1 := n1.2.2
  have bx := b1
  refine KL.fin 1 rfl (KQ.seq (KC.seq (KC.sr ?_)))
  refine KL.c rfl Tryz.call5 (known_any (hT.old o0)) ?_
  rintro _ H2 ⟨rfl, ox⟩
  have zc_H2 := (ox).1
  have o0 := o0.trans ox
  have bx := (ox).blk bx
  refine KL.fin 1 rfl (KQ.seq (KC.condF rfl (KC.skip (KQ.seq (KC.seq (KC.sr (KL.lda rfl (cells_of bx) rfl ?_)))))))
  refine KL.c rfl Tryz.call6 (Great_any (mv.old o0) hZ) ?_
  rintro _ H3 ⟨hgv, rfl, hsm, ox⟩
  have zc_H3 := (ox).1
  have o0 := o0.trans ox
  have bx := (ox).blk bx
  refine KL.run 1 rfl ?_
  refine KL.cq 18 rfl ?_ ?_
  · intro hg18
    refine KL.fin 4 rfl (KQ.seq (KC.condT rfl (KC.sr (KL.fin 1 rfl (KQ.seq (KC.ret (KQ.retThen (KQ.ofRet (KQ.fin1 Tryz.results3 rfl ?_)))))))))
    exact ⟨rfl, o0⟩
  intro hg18
  have hS := hsm hg18
  refine KL.run 1 rfl (KL.q (R.lenS rfl U34 rfl hs) rfl (KL.fin 2 rfl (KQ.seq ?_)))
  refine KC.iq rfl ?_ ?_
  · intro hc22
    refine KC.sr (KL.fin 1 rfl (KQ.seq (KC.ret (KQ.retThen (KQ.ofRet (KQ.fin1 Tryz.results3 rfl ?_))))))
    exact ⟨rfl, o0⟩
  intro hc22
  have hl3 : l.length ≤ 3000 := by omega
  refine KC.skip (KQ.seq (KC.seq ?_))
  refine KC.cutD (κ := Unit) [24, 25, 23, 26, 27, 5, 6, 28, 29, 31, 32, 30, 33, 34, 7, 8, 35, 36, 37, 38, 39, 40, 41, 42, 4] (fun _ => []) (fun _ Hl => Old H Hl) ?_ ?_
  · skip
    refine KC.sr (KL.lda rfl (cells_of bx) rfl ?_)
    refine KL.c rfl Tryz.call7 (Encode_any (mv.old o0) hS (hT.old o0)) ?_
    rintro _ H4 ⟨hR, ox⟩
    have zc_H4 := (ox).1
    have o0 := o0.trans ox
    have bx := (ox).blk bx
    rcases hR with ⟨hok, rfl⟩ | ⟨hok, hlen, rfl⟩ | ⟨hok, hlen, v2, rfl, sv⟩
    · skip
      refine KL.fin 5 rfl (KQ.sr (KL.run 1 rfl (KL.e0 rfl (by decide) (KL.nil (KQ.seq (KC.condF rfl (KC.skip ?_)))))))
      refine KQ.meet () ?_ ?_
      · exact Sub.all rfl
      exact o0
    · skip
      refine KL.fin 5 rfl (KQ.sr (KL.run 1 rfl (KL.e0 rfl (by decide) (KL.nil (KQ.seq (KC.condF rfl (KC.skip ?_)))))))
      refine KQ.meet () ?_ ?_
      · exact Sub.all rfl
      exact o0
    have oV : Old H4 H4 := Old.refl _
    refine KL.fin 5 rfl (KQ.sr (KL.run 1 rfl (KL.q ((R.eql rfl rfl rfl).val (congrArg Value.bool (decide_eq_true rfl))) rfl (KL.nil (KQ.seq (KC.condT rfl (KC.sr (KL.run 1 rfl ?_))))))))
    refine KL.c rfl Tryz.call8 (Decode_is (sv.old oV) (hT.old o0) (Bn.bin_back (Bn.rng_of mv) hS hok hlen)) ?_
    rintro _ H5 ⟨ox, t1, i1, f1, tb1, me1, g1, e1, el1, c1, d1, rfl, mv1⟩
    have zc_H5 := (ox).1
    have o0 := o0.trans ox
    have bx := (ox).blk bx
    have oV := oV.trans ox
    have oX1 : Old H5 H5 := Old.refl _
    refine KL.run 3 rfl ?_
    refine KL.m (M.alloc rfl zr33 rfl) rfl ?_
    rintro _ H6 ⟨rfl, n6⟩
    have z6 := n6.2.1
    have o0 := o0.trans n6.1
    have bx := (n6.1).blk bx
    have oV := oV.trans n6.1
    have oX1 := oX1.trans n6.1
    have b6 := n6.2.2
    have bm1 := b6
    refine KL.opS (S.storeAgg rfl sz33 rfl rfl (rfl) (by intro z hz; simp only [List.mem_cons, List.not_mem_nil, or_false] at hz; rcases hz with rfl | rfl | rfl | rfl | rfl | rfl | rfl | rfl | rfl | rfl | rfl | rfl <;> first | rfl | exact mv1.t.one | exact mv1.i.one | exact mv1.f.one | exact mv1.tb.one | exact mv1.me.one | exact mv1.g.one | exact mv1.e.one | exact mv1.el.one | exact mv1.c.one | exact mv1.d.one) bm1 (by simp)) rfl rfl ?_
    rintro H7 ⟨u7, b7⟩
    have o0 := o0.upd u7 (by omega)
    have zu7 := u7.1
    have bx := ((u7).2 _ (by omega)).trans bx
    have oV := oV.upd u7 (by omega)
    have oX1 := oX1.upd u7 (by omega)
    have bm1 := b7
    rw [over_all (by rfl)] at bm1
    refine KL.fin 1 rfl (KQ.sr (KL.run 1 rfl (KL.q ((R.neq rfl rfl rfl).val ((congrArg (fun b => Value.bool (!b)) (decide_eq_true rfl)))) rfl (KL.run 1 rfl (KL.lda rfl (cells_of bm1) rfl (KL.lda rfl (cells_of bx) rfl ?_))))))
    refine KL.c rfl Tryz.call9 (Same_refl (mv1.old oX1) (mv.old o0)) ?_
    rintro _ H8 ⟨rfl, ox⟩
    have zc_H8 := (ox).1
    have o0 := o0.trans ox
    have bx := (ox).blk bx
    have oV := oV.trans ox
    have oX1 := oX1.trans ox
    have bm1 := (ox).blk bm1
    refine KL.fin 2 rfl (KQ.seq (KC.condF rfl (KC.skip ?_)))
    refine KQ.meet () ?_ ?_
    · exact Sub.all rfl
    exact o0
  rintro _ H9 o0
  have zl := o0.1
  refine KQ.sr (KL.run 1 rfl ?_)
  refine KL.c rfl Tryz.call8 (Decode_any (hs.old o0) (hT.old o0)) ?_
  rintro _ H10 ⟨ox, t2, i2, f2, tb2, me2, g2, e2, el2, c2, d2, rfl, mv2⟩
  have zc_H10 := (ox).1
  have o0 := o0.trans ox
  have oX2 : Old H10 H10 := Old.refl _
  refine KL.run 3 rfl ?_
  refine KL.m (M.alloc rfl zr33 rfl) rfl ?_
  rintro _ H11 ⟨rfl, n11⟩
  have z11 := n11.2.1
  have o0 := o0.trans n11.1
  have oX2 := oX2.trans n11.1
  have b11 := n11.2.2
  have bm2 := b11
  refine KL.opS (S.storeAgg rfl sz33 rfl rfl (rfl) (by intro z hz; simp only [List.mem_cons, List.not_mem_nil, or_false] at hz; rcases hz with rfl | rfl | rfl | rfl | rfl | rfl | rfl | rfl | rfl | rfl | rfl | rfl <;> first | rfl | exact mv2.t.one | exact mv2.i.one | exact mv2.f.one | exact mv2.tb.one | exact mv2.me.one | exact mv2.g.one | exact mv2.e.one | exact mv2.el.one | exact mv2.c.one | exact mv2.d.one) bm2 (by simp)) rfl rfl ?_
  rintro H12 ⟨u12, b12⟩
  have o0 := o0.upd u12 (by omega)
  have zu12 := u12.1
  have oX2 := oX2.upd u12 (by omega)
  have bm2 := b12
  rw [over_all (by rfl)] at bm2
  refine KL.fin 1 rfl (KQ.seq (KC.seq (KC.sr (KL.fin 2 rfl (KQ.seq ?_)))))
  refine KC.iq rfl ?_ ?_
  · intro hc49
    refine KC.sr (KL.fin 1 rfl (KQ.seq (KC.ret (KQ.retThen (KQ.ofRet (KQ.fin1 Tryz.results3 rfl ?_))))))
    exact ⟨rfl, o0⟩
  intro hc49
  have he0 : (Bn.decR l).2 = 0 := by omega
  obtain ⟨hS2, hok2, hlen2⟩ := Bn.dec_back (m := (Bn.decR l).1) (Prod.ext rfl he0) hl3
  refine KC.skip (KQ.sr (KL.lda rfl (cells_of bm2) rfl ?_))
  refine KL.c rfl Tryz.call7 (Encode_good (mv2.old oX2) hS2 (hT.old o0) hok2 (by omega)) ?_
  rintro _ H13 ⟨ve3, rfl, se3, ox⟩
  have zc_H13 := (ox).1
  have o0 := o0.trans ox
  have oX2 := oX2.trans ox
  have bm2 := (ox).blk bm2
  refine KL.fin 5 rfl (KQ.sr (KL.run 1 rfl ?_))
  refine KL.c rfl Tryz.call8 (Decode_is se3 (hT.old o0) (Bn.bin_back (Bn.rng_of mv2) hS2 hok2 (by omega))) ?_
  rintro _ H14 ⟨ox, t3, i3, f3, tb3, me3, g3, e3, el3, c3, d3, rfl, mv3⟩
  have zc_H14 := (ox).1
  have o0 := o0.trans ox
  have oX2 := oX2.trans ox
  have bm2 := (ox).blk bm2
  have se3 := se3.old ox
  have oX3 : Old H14 H14 := Old.refl _
  refine KL.run 3 rfl ?_
  refine KL.m (M.alloc rfl zr33 rfl) rfl ?_
  rintro _ H15 ⟨rfl, n15⟩
  have z15 := n15.2.1
  have o0 := o0.trans n15.1
  have oX2 := oX2.trans n15.1
  have bm2 := (n15.1).blk bm2
  have se3 := se3.old n15.1
  have oX3 := oX3.trans n15.1
  have b15 := n15.2.2
  have bm3 := b15
  refine KL.opS (S.storeAgg rfl sz33 rfl rfl (rfl) (by intro z hz; simp only [List.mem_cons, List.not_mem_nil, or_false] at hz; rcases hz with rfl | rfl | rfl | rfl | rfl | rfl | rfl | rfl | rfl | rfl | rfl | rfl <;> first | rfl | exact mv3.t.one | exact mv3.i.one | exact mv3.f.one | exact mv3.tb.one | exact mv3.me.one | exact mv3.g.one | exact mv3.e.one | exact mv3.el.one | exact mv3.c.one | exact mv3.d.one) bm3 (by simp)) rfl rfl ?_
  rintro H16 ⟨u16, b16⟩
  have o0 := o0.upd u16 (by omega)
  have zu16 := u16.1
  have oX2 := oX2.upd u16 (by omega)
  have bm2 := ((u16).2 _ (by omega)).trans bm2
  have oX3 := oX3.upd u16 (by omega)
  have bm3 := b16
  rw [over_all (by rfl)] at bm3
  refine KL.fin 1 rfl (KQ.sr (KL.run 1 rfl (KL.q ((R.eql rfl rfl rfl).val (congrArg Value.bool (decide_eq_true rfl))) rfl (KL.run 2 rfl (KL.q (R.lenS rfl U34 rfl se3) rfl (KL.run 1 rfl (KL.q (R.lenS rfl U34 rfl hs) rfl ?_)))))))
  refine KL.q ((R.leq rfl rfl rfl).val (congrArg Value.bool (decide_eq_true (by omega)))) rfl ?_
  refine KL.run 3 rfl (KL.q ((R.eql rfl rfl rfl).val (congrArg Value.bool (decide_eq_true rfl))) rfl (KL.run 2 rfl (KL.lda rfl (cells_of bm3) rfl (KL.lda rfl (cells_of bm2) rfl ?_))))
  refine KL.c rfl Tryz.call9 (Same_refl (mv3.old oX3) (mv2.old oX2)) ?_
  rintro _ H17 ⟨rfl, ox⟩
  have zc_H17 := (ox).1
  have o0 := o0.trans ox
  have oX2 := oX2.trans ox
  have bm2 := (ox).blk bm2
  have oX3 := oX3.trans ox
  have bm3 := (ox).blk bm3
  refine KL.fin 2 rfl (KQ.seq (KC.ret (KQ.ofRet (KQ.fin1 Tryz.results3 rfl ?_))))
  exact ⟨rfl, o0⟩
end Go.Proofs.YtldmfchamcpmmaaGreatDoor
