/- Bodies that close, one behind the other. No condition. -/
import Derived.Test.YtbopalmbphgedaaJumpQ
namespace Go.Proofs.Ytbopalmbphgedaa
open Go Go.RowKit
set_option linter.unusedVariables false
set_option linter.unusedSimpArgs false
set_option linter.unnecessarySimpa false

/-- further on by a -/
def onA (a : Nat) (x : Int) : Int := if x < 0 then x else x + a
theorem Stands.bad2 {a : Nat} {l' l : List Ins} (h : Stands a l' l) {k : Nat} (hk : k < l'.length) (hb : ¬ badElse l' k) : ¬ badElse l (a + k) := by
  intro hb2
  by_cases ho : (a : Int) ≤ rOwner l (a + k) 0
  · exact hb ((h.bad hk ho).2 hb2)
  · refine hb ⟨by rw [h.2 k hk]; exact hb2.1, .inl ?_⟩
    rw [h.own k (by omega), if_neg ho]; omega
theorem mxs_add (l : List Ins) : ∀ (p q i : Nat) (d M : Int), mxs l (p + q) i d M = mxs l q (i + p) (d + ds l i p) (mxs l p i d M) := by
  intro p
  induction p with
  | zero => intro q i d M; simp [mxs, ds]
  | succ p ih =>
    intro q i d M
    rw [show p + 1 + q = (p + q) + 1 by omega, mxs, mxs, ih, ds_head, show i + 1 + p = i + (p + 1) by omega, Int.add_assoc]
theorem Stands.mxs {a : Nat} {l' l : List Ins} (h : Stands a l' l) : ∀ (m i : Nat) (d M : Int), i + m ≤ l'.length → Proofs.Ytbopalmbphgedaa.mxs l' m i d M = Proofs.Ytbopalmbphgedaa.mxs l m (a + i) d M := by
  intro m
  induction m with
  | zero => intro i d M _; rfl
  | succ m ih =>
    intro i d M hi
    rw [Proofs.Ytbopalmbphgedaa.mxs, Proofs.Ytbopalmbphgedaa.mxs, h.2 i (by omega), ih (i + 1) _ _ (by omega), Nat.add_assoc a i 1]
theorem mxs_shift (l : List Ins) : ∀ (m i : Nat) (d M : Int), mxs l m i (d + 1) (M + 1) = mxs l m i d M + 1 := by
  intro m
  induction m with
  | zero => intro i d M; rfl
  | succ m ih =>
    intro i d M
    rw [mxs, mxs, ← ih]
    congr 1 <;> omega
theorem mxs_max (l : List Ins) : ∀ (m i : Nat) (d A M : Int), mxs l m i d (max A M) = max A (mxs l m i d M) := by
  intro m
  induction m with
  | zero => intro i d A M; rfl
  | succ m ih =>
    intro i d A M
    rw [mxs, mxs, ← ih]
    congr 1; omega
theorem mxs_ge (l : List Ins) : ∀ (m i : Nat) (d M : Int), M ≤ mxs l m i d M := by
  intro m
  induction m with
  | zero => intro i d M; exact Int.le_refl _
  | succ m ih =>
    intro i d M
    rw [mxs]
    have := ih (i + 1) (d + dl (l.getD i default).op) (max M (d + dl (l.getD i default).op))
    omega
theorem rEnd_range (l : List Ins) : ∀ (m i : Nat) (d : Int), -1 ≤ rEnd l m i d ∧ rEnd l m i d < i + m := by
  intro m
  induction m with
  | zero => intro i d; rw [rEnd]; omega
  | succ m ih =>
    intro i d
    rw [rEnd]
    split
    · omega
    · have := ih (i + 1) (d + dl (l.getD i default).op); omega
/-- an end or an else of a body that closes has its owner -/
theorem own_pos {l : List Ins} (hG : Shuts l) {i : Nat} (hi : i < l.length) (hx : (l.getD i default).op = 5 ∨ (l.getD i default).op = 11) : 0 ≤ rOwner l i 0 := by
  rcases hx with hx | hx
  · rcases Classical.em (0 ≤ rOwner l i 0) with g | g
    · exact g
    · exact absurd ⟨hx, .inl (by omega)⟩ (hG.1 i hi)
  · have h1 := hG.2.1 (i + 1) (by omega)
    rw [ds, Nat.zero_add, hx] at h1
    have := own_ge l 0 i 0 (Int.le_refl _) (by have : dl 11 = -1 := rfl; omega)
    rw [Nat.zero_add] at this
    exact this
theorem els_end {l : List Ins} (hG : Shuts l) {i : Nat} (hi : i < l.length) (hx : (l.getD i default).op = 5) : 0 ≤ rEnd l (l.length - (i + 1)) (i + 1) 1 := by
  have ho := own_pos hG hi (.inl hx)
  have h1 : 0 < ds l 0 i := by
    rcases Classical.em (0 < ds l 0 i) with g | g
    · exact g
    · have := own_out l 0 i 0 (fun j hj => hG.2.1 j (by omega)) (by omega)
      rw [Nat.zero_add, rOwner] at this
      omega
  have h2 := hG.2.2
  rw [show l.length = (i + 1) + (l.length - (i + 1)) by omega, ds_add, ds, Nat.zero_add, Nat.zero_add, dl5 hx] at h2
  obtain ⟨q, a1, a2, a3⟩ := ds_hit (l := l) (i := i + 1) (d := 1) (by omega) (l.length - (i + 1)) (by omega)
  have := rEnd_hit l q (l.length - (i + 1) - (q + 1)) (i + 1) 1 a2 a3
  rw [show q + (l.length - (i + 1) - (q + 1) + 1) = l.length - (i + 1) by omega] at this
  omega
theorem Stands.rEnd {a : Nat} {l' l : List Ins} (h : Stands a l' l) {i : Nat} (hi : i < l'.length) {e : Int} (he : rEnd l' (l'.length - (i + 1)) (i + 1) 1 = e) (h0 : 0 ≤ e) : Proofs.Ytbopalmbphgedaa.rEnd l (l.length - (a + i + 1)) (a + i + 1) 1 = e + a := by
  obtain ⟨q, e1, e2, e3, e4⟩ := rEnd_eq l' _ _ _ _ he h0
  have hl := h.1
  have := rEnd_hit l q (l.length - (a + i + 1) - (q + 1)) (a + i + 1) 1 (fun j h1 h2 => by
    have := e3 j h1 h2
    rw [h.ds j (i + 1) (by omega)] at this
    exact this) (by rw [h.ds (q + 1) (i + 1) (by omega)] at e4; exact e4)
  rw [show q + (l.length - (a + i + 1) - (q + 1) + 1) = l.length - (a + i + 1) by omega] at this
  rw [this]
  omega
theorem stands_reads {a : Nat} {l' l : List Ins} {s' s : JS} (hS : Stands a l' l) (h' : JS.of l' = some s') (h : JS.of l = some s) {i : Nat} (hi : i < l'.length) :
    (rd s.en ((a + i : Nat) : Int) = onA a (rd s'.en i) ∧ rd s.el ((a + i : Nat) : Int) = onA a (rd s'.el i) ∧ rd s.op ((a + i : Nat) : Int) = onA a (rd s'.op i)) ∧
    (-1 ≤ rd s'.en i ∧ rd s'.en i < l'.length) ∧ (-1 ≤ rd s'.el i ∧ rd s'.el i < l'.length) ∧ (-1 ≤ rd s'.op i ∧ rd s'.op i < l'.length) := by
  have hG' := good_of h'
  obtain ⟨hok', -, hlaw'⟩ := (tellsLaw l').1 s' h'
  obtain ⟨-, -, hlaw⟩ := (tellsLaw l).1 s h
  have hl := hS.1
  obtain ⟨p1, p2, p3, p4⟩ := hlaw' i hi
  obtain ⟨q1, q2, q3, q4⟩ := hlaw (a + i) (by omega)
  have hop := hS.2 i hi
  rw [← hop] at q1 q2 q3 q4
  have hm : onA a (-1) = -1 := by unfold onA; rw [if_pos (by omega)]
  have hown := hS.own i (by omega) 0
  have hor := rOwner_range l' i 0
  have howner : 0 ≤ rOwner l' i 0 → rOwner l (a + i) 0 = onA a (rOwner l' i 0) := fun h0 => by
    unfold onA
    rw [if_neg (by omega)]
    split at hown
    · omega
    · omega
  by_cases hx : isOpn (l'.getD i default).op
  · obtain ⟨e', a1, a2, a3, a4, a5, a6⟩ := p1 hx
    obtain ⟨e, b1, b2, b3, b4, b5, b6⟩ := q1 hx
    have := hS.rEnd hi a3 (by omega)
    have ee : e = a + e' := by omega
    subst ee
    have hels := hS.els (e' - (i + 1)) (i + 1) 0 (by omega)
    have e0 : a + e' - (a + i + 1) = e' - (i + 1) := by omega
    rw [e0, show a + i + 1 = a + (i + 1) by omega] at b5
    have hr : -1 ≤ rd s'.el i ∧ rd s'.el i < l'.length := by
      have := hok'.elr (s'.el.getD i default) (getD_mem (by have := hok'.el; omega))
      rw [← rd_lt (by have := hok'.el; omega)] at this
      exact this
    refine ⟨⟨?_, ?_, by rw [b6, a6, hm]⟩, by omega, hr, by omega⟩
    · rw [b4, a4]; unfold onA; rw [if_neg (by omega)]; omega
    · rw [b5, a5, hels]
      cases hL : rElses l (e' - (i + 1)) (a + (i + 1)) 0 with
      | nil => exact hm.symm
      | cons x r =>
        have hp := rElses_pos l' (e' - (i + 1)) (i + 1) 0 (x - a) (by rw [hels, hL]; exact List.mem_cons_self ..)
        simp only [List.headD_cons, List.map_cons]
        unfold onA
        rw [if_neg (by omega)]
        omega
  · by_cases h5 : (l'.getD i default).op = 5
    · obtain ⟨a1, a2, a3⟩ := p2 h5
      obtain ⟨b1, b2, b3⟩ := q2 h5
      have hp := els_end hG' hi h5
      have ho := own_pos hG' hi (.inl h5)
      have hr := rEnd_range l' (l'.length - (i + 1)) (i + 1) 1
      refine ⟨⟨?_, by rw [b2, a2, hm], by rw [b3, a3]; exact howner ho⟩, by omega, by omega, by omega⟩
      rw [b1, a1, hS.rEnd hi rfl hp]
      unfold onA
      rw [if_neg (by omega)]
    · by_cases h11 : (l'.getD i default).op = 11
      · obtain ⟨a1, a2, a3⟩ := p3 h11
        obtain ⟨b1, b2, b3⟩ := q3 h11
        have ho := own_pos hG' hi (.inr h11)
        exact ⟨⟨by rw [b1, a1, hm], by rw [b2, a2, hm], by rw [b3, a3]; exact howner ho⟩, by omega, by omega, by omega⟩
      · obtain ⟨a1, a2, a3⟩ := p4 hx h5 h11
        obtain ⟨b1, b2, b3⟩ := q4 hx h5 h11
        exact ⟨⟨by rw [b1, a1, hm], by rw [b2, a2, hm], by rw [b3, a3, hm]⟩, by omega, by omega, by omega⟩
/-- two bodies, one behind the other; the second within a block -/
def joined (a b : List Ins) (o : Int) : List Ins := (a ++ [mkIns o]) ++ (b ++ [mkIns 11])
theorem getD_app_lt {a b : List Ins} {i : Nat} (h : i < a.length) : (a ++ b).getD i default = a.getD i default := by
  simp only [List.getD_eq_getElem?_getD, List.getElem?_append_left h]
theorem getD_app_ge {a b : List Ins} {i : Nat} : (a ++ b).getD (a.length + i) default = b.getD i default := by
  simp only [List.getD_eq_getElem?_getD, List.getElem?_append_right (Nat.le_add_right ..), Nat.add_sub_cancel_left]
theorem joins {a b : List Ins} {o : Int} {ja jb : JS} (ha : JS.of a = some ja) (hb : JS.of b = some jb) (ho : o = 2 ∨ o = 3) :
    ∃ s, JS.of (joined a b o) = some s ∧ s.dp = max ja.dp (jb.dp + 1) ∧ rd s.en a.length = ((joined a b o).length : Int) - 1 ∧
      (∀ i : Nat, i < a.length → rd s.en i = rd ja.en i ∧ rd s.el i = rd ja.el i ∧ rd s.op i = rd ja.op i) ∧
      ∀ i : Nat, i < b.length → (rd s.en (onA (a.length + 1) i) = onA (a.length + 1) (rd jb.en i) ∧ rd s.el (onA (a.length + 1) i) = onA (a.length + 1) (rd jb.el i) ∧ rd s.op (onA (a.length + 1) i) = onA (a.length + 1) (rd jb.op i)) ∧
        (-1 ≤ rd jb.en i ∧ rd jb.en i < b.length) ∧ (-1 ≤ rd jb.el i ∧ rd jb.el i < b.length) ∧ (-1 ≤ rd jb.op i ∧ rd jb.op i < b.length) := by
  have hlen : (joined a b o).length = a.length + 1 + b.length + 1 := by simp [joined]; omega
  have hsa : Stands 0 a (joined a b o) := ⟨by omega, fun k hk => by unfold joined; rw [Nat.zero_add, getD_app_lt (by simp; omega), getD_app_lt hk]⟩
  have hsb : Stands (a.length + 1) b (joined a b o) := ⟨by omega, fun k hk => by
    unfold joined
    have := getD_app_ge (a := a ++ [mkIns o]) (b := b ++ [mkIns 11]) (i := k)
    rw [List.length_append, List.length_singleton] at this
    rw [this, getD_app_lt hk]⟩
  have hona : ((joined a b o).getD a.length default).op = o := by
    unfold joined
    rw [getD_app_lt (by simp)]
    have := getD_app_ge (a := a) (b := [mkIns o]) (i := 0)
    rw [Nat.add_zero] at this
    rw [this]; rfl
  have hel : ((joined a b o).getD (a.length + 1 + b.length) default).op = 11 := by
    unfold joined
    have := getD_app_ge (a := a ++ [mkIns o]) (b := b ++ [mkIns 11]) (i := b.length)
    rw [List.length_append, List.length_singleton] at this
    rw [this]
    have := getD_app_ge (a := b) (b := [mkIns 11]) (i := 0)
    rw [Nat.add_zero] at this
    rw [this]; rfl
  have hga := good_of ha
  have hgb := good_of hb
  have hod : dl o = 1 := by rcases ho with rfl | rfl <;> rfl
  have d1 : ∀ j, j ≤ a.length → ds (joined a b o) 0 j = ds a 0 j := fun j hj => (hsa.ds j 0 (by omega)).symm
  have d2 : ∀ j, j ≤ b.length → ds (joined a b o) (a.length + 1) j = ds b 0 j := fun j hj => (hsb.ds j 0 (by omega)).symm
  have d3 : ds (joined a b o) 0 (a.length + 1) = 1 := by rw [ds, Nat.zero_add, hona, hod, d1 _ (Nat.le_refl _), hga.2.2]; rfl
  have d4 : ∀ j, j ≤ b.length → ds (joined a b o) 0 (a.length + 1 + j) = 1 + ds b 0 j := fun j hj => by rw [ds_add, d3, Nat.zero_add, d2 j hj]
  have d5 : ds (joined a b o) (a.length + 1) (b.length + 1) = -1 := by rw [ds, d2 _ (Nat.le_refl _), hgb.2.2, hel]; rfl
  have hG : Shuts (joined a b o) := by
    refine ⟨fun j hj => ?_, fun j hj => ?_, ?_⟩
    · by_cases h1 : j < a.length
      · have := hsa.bad2 h1 (hga.1 j h1)
        rwa [Nat.zero_add] at this
      · by_cases h2 : j = a.length
        · subst h2; intro hb; have := hb.1; omega
        · by_cases h3 : j < a.length + 1 + b.length
          · have := hsb.bad2 (k := j - (a.length + 1)) (by omega) (hgb.1 _ (by omega))
            rwa [show a.length + 1 + (j - (a.length + 1)) = j by omega] at this
          · have : j = a.length + 1 + b.length := by omega
            subst this; intro hb; have := hb.1; omega
    · by_cases h1 : j ≤ a.length
      · rw [d1 j h1]; exact hga.2.1 j h1
      · by_cases h2 : j ≤ a.length + 1 + b.length
        · rw [show j = a.length + 1 + (j - (a.length + 1)) by omega, d4 _ (by omega)]
          have := hgb.2.1 (j - (a.length + 1)) (by omega)
          omega
        · have : j = a.length + 1 + (b.length + 1) := by omega
          subst this
          rw [ds_add, d3, Nat.zero_add, d5]; omega
    · rw [hlen, show a.length + 1 + b.length + 1 = a.length + 1 + (b.length + 1) by omega, ds_add, d3, Nat.zero_add, d5]; rfl
  obtain ⟨s, hs⟩ := of_good hG
  refine ⟨s, hs, ?_, ?_, fun i hi => ?_, fun i hi => ?_⟩
  · rw [dp_of hs, dp_of ha, dp_of hb, hlen, show a.length + 1 + b.length + 1 = a.length + (1 + (b.length + 1)) by omega, mxs_add, mxs_add, mxs_add, d1 _ (Nat.le_refl _), hga.2.2, Nat.zero_add]
    have e1 : ∀ d M, mxs (joined a b o) 1 a.length d M = max M (d + 1) := fun d M => by rw [mxs, mxs, hona, hod]
    have e2 : ds (joined a b o) a.length 1 = 1 := by simp only [ds, Nat.add_zero]; rw [hona, hod]; rfl
    have e3 : ∀ d M, mxs (joined a b o) b.length (a.length + 1) d M = mxs b b.length 0 d M := fun d M => (hsb.mxs b.length 0 d M (by omega)).symm
    have e4 : ∀ d M, mxs (joined a b o) 1 (a.length + 1 + b.length) d M = max M (d - 1) := fun d M => by rw [mxs, mxs, hel]; rfl
    have e5 : mxs (joined a b o) a.length 0 0 0 = mxs a a.length 0 0 0 := (hsa.mxs a.length 0 0 0 (by omega)).symm
    rw [e4, e3, e2, e1, e5, d2 _ (Nat.le_refl _), hgb.2.2, mxs_max]
    have e6 := mxs_shift b b.length 0 0 0
    have e7 := mxs_ge a a.length 0 0 0
    simp only [Int.zero_add] at e6 ⊢
    simp only [Int.add_zero]
    rw [e6]
    omega
  · obtain ⟨-, -, hlaw⟩ := (tellsLaw _).1 s hs
    obtain ⟨e, h1, h2, h3, h4, -⟩ := (hlaw a.length (by omega)).1 (by rw [hona]; unfold isOpn; omega)
    have := rEnd_hit (joined a b o) b.length 0 (a.length + 1) 1 (fun j g1 g2 => by rw [d2 j g2]; have := hgb.2.1 j g2; omega) (by rw [d5]; rfl)
    rw [show b.length + (0 + 1) = (joined a b o).length - (a.length + 1) by omega, h3] at this
    rw [h4, this]
    omega
  · have := (stands_reads hsa ha hs hi).1
    have h0 : ∀ x, onA 0 x = x := fun x => by unfold onA; split <;> omega
    rw [Nat.zero_add] at this
    simpa [h0] using this
  · have := stands_reads hsb hb hs hi
    have h0 : onA (a.length + 1) (i : Int) = ((a.length + 1 + i : Nat) : Int) := by unfold onA; rw [if_neg (by omega)]; omega
    rw [h0]
    exact this

end Go.Proofs.Ytbopalmbphgedaa
