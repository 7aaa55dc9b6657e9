/- Instructions and their bytes, in plain Lean: readers that hand back what was written. No condition. -/
import Derived.Test.YtnjodpgahbpiaaaLebK
import Derived.Test.YtnjodpgahbpiaaaOpcK
import Derived.Test.YtnjodpgahbpiaaaKIns
namespace Go.Proofs.Ytnjodpgahbpiaaa
open Go Go.RowKit
set_option linter.unusedVariables false
set_option linter.unusedSimpArgs false
namespace Isp
/-- a reader: what bytes begin with, and of how many bytes it is; or why there is none -/
abbrev Prs (α : Type) := List Int → Except Int (α × Nat)
/-- what is written is read, whatever stands behind; what is read may be written, and is no longer then; cut anywhere it is none -/
structure Cod {α : Type} (p : Prs α) (e : α → List Int) (V : α → Prop) : Prop where
  back : ∀ x, V x → ∀ r, p (e x ++ r) = .ok (x, (e x).length)
  sound : ∀ r x k, p r = .ok (x, k) → V x ∧ (e x).length ≤ k ∧ k ≤ r.length
  cut : ∀ x, V x → ∀ i, i < (e x).length → p ((e x).take i) = .error 60
def bindP {α β : Type} (p : Prs α) (q : α → Prs β) : Prs (α × β) := fun r => match p r with
  | .error e => .error e
  | .ok (x, k) => match q x (r.drop k) with
    | .error e => .error e
    | .ok (y, m) => .ok ((x, y), k + m)
theorem Cod.bind {α β : Type} {p : Prs α} {q : α → Prs β} {e : α → List Int} {d : α → β → List Int} {V : α → Prop} {U : α → β → Prop} (hp : Cod p e V) (hq : ∀ x, Cod (q x) (d x) (U x)) :
    Cod (bindP p q) (fun z => e z.1 ++ d z.1 z.2) (fun z => V z.1 ∧ U z.1 z.2) := by
  refine ⟨fun z ⟨h1, h2⟩ r => ?_, fun r z k h => ?_, fun z ⟨h1, h2⟩ i hi => ?_⟩
  · unfold bindP
    rw [List.append_assoc, hp.back _ h1]
    simp only [List.drop_left]
    rw [(hq z.1).back _ h2]
    simp
  · unfold bindP at h
    split at h
    · cases h
    · next x k1 hx =>
      split at h
      · cases h
      · next y m hy =>
        injection h with h
        injection h with h3 h4
        subst h3; subst h4
        obtain ⟨a1, a2, a3⟩ := hp.sound _ _ _ hx
        obtain ⟨b1, b2, b3⟩ := (hq x).sound _ _ _ hy
        simp only [List.length_append, List.length_drop] at *
        exact ⟨⟨a1, b1⟩, by omega, by omega⟩
  · unfold bindP
    simp only [List.length_append] at hi
    by_cases hlt : i < (e z.1).length
    · rw [List.take_append_of_le_length (by omega), hp.cut _ h1 _ hlt]
    · rw [List.take_append, List.take_of_length_le (by omega), hp.back _ h1]
      simp only [List.drop_left]
      rw [(hq z.1).cut _ h2 _ (by omega)]
def mapP {α β : Type} (g : α → β) (p : Prs α) : Prs β := fun r => match p r with
  | .error e => .error e
  | .ok (x, k) => .ok (g x, k)
theorem Cod.map {α β : Type} {p : Prs α} {e : α → List Int} {V : α → Prop} (hp : Cod p e V) (g : α → β) (h : β → α) (hgh : ∀ x, V x → h (g x) = x) : Cod (mapP g p) (fun y => e (h y)) (fun y => V (h y) ∧ g (h y) = y) := by
  refine ⟨fun y ⟨h1, h2⟩ r => ?_, fun r y k hy => ?_, fun y ⟨h1, h2⟩ i hi => ?_⟩
  · unfold mapP; rw [hp.back _ h1]; simp only [h2]
  · unfold mapP at hy
    split at hy
    · cases hy
    · next x k1 hx =>
      injection hy with hy
      injection hy with h3 h4
      subst h3; subst h4
      obtain ⟨a1, a2, a3⟩ := hp.sound _ _ _ hx
      rw [hgh x a1]
      exact ⟨⟨a1, rfl⟩, a2, a3⟩
  · unfold mapP; rw [hp.cut _ h1 _ hi]
theorem Cod.as {α : Type} {p : Prs α} {e e' : α → List Int} {V V' : α → Prop} (hp : Cod p e V) (hV : ∀ x, V' x ↔ V x) (he : ∀ x, V x → e' x = e x) : Cod p e' V' := by
  refine ⟨fun x h r => ?_, fun r x k h => ?_, fun x h i hi => ?_⟩
  · have hv := (hV x).1 h
    rw [he x hv]; exact hp.back _ hv _
  · obtain ⟨a1, a2, a3⟩ := hp.sound _ _ _ h
    exact ⟨(hV x).2 a1, by rw [he x a1]; exact a2, a3⟩
  · have hv := (hV x).1 h
    rw [he x hv] at hi ⊢; exact hp.cut _ hv _ hi
def manyP {α : Type} (p : Prs α) : Nat → Prs (List α)
  | 0 => fun r => .ok ([], 0)
  | n + 1 => mapP (fun z => z.1 :: z.2) (bindP p fun _ => manyP p n)
theorem Cod.many {α : Type} [Inhabited α] {p : Prs α} {e : α → List Int} {V : α → Prop} (hp : Cod p e V) : ∀ n, Cod (manyP p n) (fun l => l.flatMap e) (fun l => l.length = n ∧ ∀ x ∈ l, V x)
  | 0 => ⟨fun l ⟨h1, _⟩ r => by rw [List.eq_nil_of_length_eq_zero h1]; rfl, fun r l k h => by
      simp only [manyP] at h
      injection h with h
      injection h with h3 h4
      subst h3; subst h4; simp, fun l ⟨h1, _⟩ i hi => by rw [List.eq_nil_of_length_eq_zero h1] at hi; simp at hi⟩
  | n + 1 => by
    have ih := Cod.many hp n
    refine ((hp.bind fun _ => ih).map (fun z => z.1 :: z.2) (fun l => (l.headD default, l.tail)) (fun x _ => rfl)).as (fun l => ?_) (fun l hl => ?_)
    · cases l with
      | nil => simp
      | cons y l => simp [and_assoc, and_left_comm]
    · cases l with
      | nil => simp at hl
      | cons y l => rfl
def byteP : Prs Int := fun r => match r with
  | [] => .error 60
  | x :: _ => .ok (x, 1)
theorem cod_byte : Cod byteP (fun x => [x]) (fun _ => True) :=
  ⟨fun x _ r => rfl, fun r x k h => by
    cases r with
    | nil => cases h
    | cons y r =>
      simp only [byteP] at h
      injection h with h
      injection h with h3 h4
      subst h3; subst h4; simp, fun x _ i hi => by
    have : i = 0 := by simpa using hi
    subst this; rfl⟩
/-- numbers -/
def okN (sg : Bool) (b : Nat) (z : Int) : Prop := if sg then -(2 ^ b : Int) ≤ 2 * z ∧ 2 * z < 2 ^ b else 0 ≤ z ∧ z < 2 ^ b
def apN (sg : Bool) (z : Int) : List Int := uints (Leb.ap sg 10 z)
def numP (sg : Bool) (b : Nat) : Prs Int := fun r => match Leb.tk sg (r.map Lib.byteOf) b with
  | none => .error 60
  | some (z, k) => .ok (z, k)
theorem fit_of {sg : Bool} {b : Nat} {z : Int} (hb : b ≤ 64) (h : okN sg b z) : Leb.fit7 sg 10 z := by
  have hp : (2 : Int) ^ b ≤ 2 ^ 64 := Leb.pow_le hb
  unfold okN at h
  unfold Leb.fit7
  rw [show (128 : Int) ^ 10 = 1180591620717411303424 by decide]
  rw [show (2 : Int) ^ 64 = 18446744073709551616 by decide] at hp
  cases sg <;> simp at h ⊢ <;> omega
theorem fits_of {sg : Bool} {b : Nat} {z : Int} (h : okN sg b z) : Leb.fits sg b z = true := by
  unfold okN at h
  unfold Leb.fits
  cases sg <;> simp at h ⊢ <;> omega
theorem cod_num (sg : Bool) {b : Nat} (h1 : 1 ≤ b) (h2 : b ≤ 64) : Cod (numP sg b) (apN sg) (okN sg b) := by
  refine ⟨fun z hz r => ?_, fun r z k h => ?_, fun z hz i hi => ?_⟩
  · unfold numP apN
    rw [List.map_append, byteOf_uints, uints_length, Leb.tk_ap (fit_of h2 hz) _ h1 h2, if_pos (fits_of hz)]
  · unfold numP at h
    split at h
    · cases h
    · next z' k' ht =>
      injection h with h
      injection h with h3 h4
      subst h3; subst h4
      obtain ⟨_, _, _, a4, a5, a6, a7, a8⟩ := Leb.tk_some ht
      have hs := Leb.tk_short ht
      rw [List.length_map] at a6
      have hn := Leb.fit7_nonneg (Leb.tk_fit ht)
      refine ⟨?_, by unfold apN; rw [uints_length]; exact hs, a6⟩
      unfold Leb.fits at a8
      unfold okN
      simp only [Int.toNat_natCast] at a8
      cases sg <;> simp at a8 hn ⊢ <;> omega
  · unfold numP apN at *
    rw [uints_length] at hi
    rw [show ((uints (Leb.ap sg 10 z)).take i).map Lib.byteOf = (Leb.ap sg 10 z).take i by rw [List.map_take, byteOf_uints], Leb.tk_cut (fit_of h2 hz) i hi]
theorem apN_range {sg : Bool} {z : Int} : ∀ x ∈ apN sg z, InR .u8 x := uints_range
theorem apN_len {sg : Bool} {b : Nat} {z : Int} (hb : b ≤ 64) (h : okN sg b z) : 1 ≤ (apN sg z).length ∧ (apN sg z).length ≤ 10 := by
  unfold apN; rw [uints_length]
  exact ⟨Leb.ap_pos (fit_of hb h), Leb.ap_le (fit_of hb h)⟩
abbrev u32P : Prs Int := numP false 32
def okU (z : Int) : Prop := 0 ≤ z ∧ z < 4294967296
theorem okU_iff (z : Int) : okU z ↔ okN false 32 z := by unfold okU okN; simp
theorem cod_u32 : Cod u32P (apN false) okU := (cod_num false (b := 32) (by omega) (by omega)).as okU_iff (fun _ _ => rfl)
def zeroP : Prs Unit := fun r => match r with
  | [] => .error 60
  | x :: _ => if x = 0 then .ok ((), 1) else .error 60
theorem cod_zero : Cod zeroP (fun _ => [0]) (fun _ => True) :=
  ⟨fun x _ r => rfl, fun r x k h => by
    cases r with
    | nil => cases h
    | cons y r =>
      simp only [zeroP] at h
      split at h
      · injection h with h
        injection h with h3 h4
        subst h4; simp
      · (cases h), fun x _ i hi => by
    have : i = 0 := by simpa using hi
    subst this; rfl⟩
def blkOk (t : Int) : Prop := t = 64 ∨ t = 127 ∨ t = 126
instance (t : Int) : Decidable (blkOk t) := by unfold blkOk; infer_instance
def blockP : Prs Int := fun r => match r with
  | [] => .error 60
  | t :: _ => if blkOk t then .ok (t, 1) else if t = 125 ∨ t = 124 then .error 61 else .error 60
theorem cod_block : Cod blockP (fun t => [t]) blkOk :=
  ⟨fun t h r => by show (if blkOk t then _ else _) = _; rw [if_pos h]; rfl, fun r x k h => by
    cases r with
    | nil => cases h
    | cons y r =>
      simp only [blockP] at h
      split at h
      · next hb =>
        injection h with h
        injection h with h3 h4
        subst h3; subst h4; exact ⟨hb, by simp, by simp⟩
      · (split at h <;> cases h), fun x _ i hi => by
    have : i = 0 := by simpa using hi
    subst this; rfl⟩
/-- labels: how many, these, and the last one -/
def labsP : Prs (List Int × Int) := mapP (fun z => (z.1.2, z.2)) (bindP (bindP u32P fun n => manyP u32P n.toNat) fun _ => u32P)
def labsE (z : List Int × Int) : List Int := apN false z.1.length ++ z.1.flatMap (apN false) ++ apN false z.2
def labsV (z : List Int × Int) : Prop := z.1.length < 4294967296 ∧ (∀ x ∈ z.1, okU x) ∧ okU z.2
theorem cod_labs : Cod labsP labsE labsV := by
  refine (((cod_u32.bind fun n => cod_u32.many n.toNat).bind fun _ => cod_u32).map (fun z => (z.1.2, z.2)) (fun z => (((z.1.length : Int), z.1), z.2)) ?_).as (fun z => ?_) (fun z _ => rfl)
  · rintro ⟨⟨n, l⟩, a⟩ ⟨⟨h1, h2, h3⟩, h4⟩
    simp only at h1 h2 h3 h4
    unfold okU at h1
    have : (l.length : Int) = n := by omega
    simp only [this]
  · obtain ⟨l, a⟩ := z
    unfold labsV okU
    simp only [Int.toNat_natCast, and_true, true_and]
    constructor
    · rintro ⟨h1, h2, h3⟩; exact ⟨⟨⟨by omega, by omega⟩, h2⟩, h3⟩
    · rintro ⟨⟨⟨_, h1⟩, h2⟩, h3⟩; exact ⟨by omega, h2, h3⟩
/-- what stands behind an opcode: A, B, C, L -/
abbrev Rest := Int × Int × Int × List Int
def bodyP (f : Int) : Prs Rest :=
  if f = 1 then mapP (fun t => (t, 0, 0, [])) blockP
  else if f = 2 ∨ f = 4 then mapP (fun a => (a, 0, 0, [])) u32P
  else if f = 3 then mapP (fun z => (z.2, 0, 0, z.1)) labsP
  else if f = 5 then mapP (fun z => (z.1, 0, 0, [])) (bindP u32P fun _ => zeroP)
  else if f = 6 then mapP (fun z => (z.1, z.2, 0, [])) (bindP u32P fun _ => u32P)
  else if f = 7 then mapP (fun _ => (0, 0, 0, [])) zeroP
  else if f = 8 then mapP (fun c => (0, 0, c, [])) (numP true 32)
  else if f = 9 then mapP (fun c => (0, 0, c, [])) (numP true 64)
  else fun r => .ok ((0, 0, 0, []), 0)
def bodyE (f : Int) (x : Rest) : List Int :=
  if f = 1 then [x.1]
  else if f = 2 ∨ f = 4 then apN false x.1
  else if f = 3 then labsE (x.2.2.2, x.1)
  else if f = 5 then apN false x.1 ++ [0]
  else if f = 6 then apN false x.1 ++ apN false x.2.1
  else if f = 7 then [0]
  else if f = 8 ∨ f = 9 then apN true x.2.2.1
  else []
def bodyV (f : Int) (x : Rest) : Prop :=
  if f = 1 then blkOk x.1 ∧ x.2 = (0, 0, [])
  else if f = 2 ∨ f = 4 then okU x.1 ∧ x.2 = (0, 0, [])
  else if f = 3 then labsV (x.2.2.2, x.1) ∧ x.2.1 = 0 ∧ x.2.2.1 = 0
  else if f = 5 then okU x.1 ∧ x.2 = (0, 0, [])
  else if f = 6 then okU x.1 ∧ okU x.2.1 ∧ x.2.2 = (0, [])
  else if f = 7 then x = (0, 0, 0, [])
  else if f = 8 then okN true 32 x.2.2.1 ∧ x.1 = 0 ∧ x.2.1 = 0 ∧ x.2.2.2 = []
  else if f = 9 then okN true 64 x.2.2.1 ∧ x.1 = 0 ∧ x.2.1 = 0 ∧ x.2.2.2 = []
  else x = (0, 0, 0, [])
theorem cod_body (f : Int) : Cod (bodyP f) (bodyE f) (bodyV f) := by
  unfold bodyP
  split
  · next h =>
    subst h
    refine (cod_block.map (fun t => (t, 0, 0, [])) (fun x => x.1) (fun x _ => rfl)).as (fun x => ?_) (fun x _ => by simp [bodyE])
    obtain ⟨a, b⟩ := x
    simp [bodyV, Prod.ext_iff, eq_comm]
  split
  · next h1 h =>
    refine (cod_u32.map (fun t => (t, 0, 0, [])) (fun x => x.1) (fun x _ => rfl)).as (fun x => ?_) (fun x _ => by unfold bodyE; rw [if_neg h1, if_pos h])
    obtain ⟨a, b⟩ := x
    unfold bodyV
    rw [if_neg h1, if_pos h]
    simp [Prod.ext_iff, eq_comm]
  split
  · next h =>
    subst h
    refine (cod_labs.map (fun z => (z.2, 0, 0, z.1)) (fun x => (x.2.2.2, x.1)) (fun x _ => rfl)).as (fun x => ?_) (fun x _ => by simp [bodyE])
    obtain ⟨a, b, c, d⟩ := x
    simp [bodyV, Prod.ext_iff, eq_comm]
  split
  · next h =>
    subst h
    refine ((cod_u32.bind fun _ => cod_zero).map (fun z => (z.1, 0, 0, [])) (fun x => (x.1, ())) (fun x _ => rfl)).as (fun x => ?_) (fun x _ => by simp [bodyE])
    obtain ⟨a, b⟩ := x
    simp [bodyV, Prod.ext_iff, eq_comm]
  split
  · next h =>
    subst h
    refine ((cod_u32.bind fun _ => cod_u32).map (fun z => (z.1, z.2, 0, [])) (fun x => (x.1, x.2.1)) (fun x _ => rfl)).as (fun x => ?_) (fun x _ => by simp [bodyE])
    obtain ⟨a, b, c, d⟩ := x
    simp [bodyV, Prod.ext_iff, eq_comm, and_assoc]
  split
  · next h =>
    subst h
    refine (cod_zero.map (fun _ => (0, 0, 0, [])) (fun x => ()) (fun x _ => rfl)).as (fun x => ?_) (fun x _ => by simp [bodyE])
    simp [bodyV, eq_comm]
  split
  · next h =>
    subst h
    refine ((cod_num true (b := 32) (by omega) (by omega)).map (fun c => (0, 0, c, [])) (fun x => x.2.2.1) (fun x _ => rfl)).as (fun x => ?_) (fun x _ => by simp [bodyE])
    obtain ⟨a, b, c, d⟩ := x
    simp [bodyV, Prod.ext_iff, eq_comm]
  split
  · next h =>
    subst h
    refine ((cod_num true (b := 64) (by omega) (by omega)).map (fun c => (0, 0, c, [])) (fun x => x.2.2.1) (fun x _ => rfl)).as (fun x => ?_) (fun x _ => by simp [bodyE])
    obtain ⟨a, b, c, d⟩ := x
    simp [bodyV, Prod.ext_iff, eq_comm]
  · next h1 h2 h3 h4 h5 h6 h7 h8 =>
    have eV : ∀ x, bodyV f x ↔ x = (0, 0, 0, []) := fun x => by unfold bodyV; simp only [h1, h2, h3, h4, h5, h6, h7, h8, if_false]
    have eE : ∀ x, bodyE f x = [] := fun x => by unfold bodyE; simp only [h1, h2, h3, h4, h5, h6, h7, h8, if_false, or_self]
    refine ⟨fun x hx r => by rw [eE, (eV x).1 hx]; rfl, fun r x k h => ?_, fun x _ i hi => by rw [eE] at hi; simp at hi⟩
    injection h with h
    injection h with h3 h4
    subst h3; subst h4
    exact ⟨(eV _).2 rfl, by rw [eE]; simp, Nat.zero_le _⟩
/-- an instruction -/
def mk (op : Int) (x : Rest) : Ins := ⟨op, x.1, x.2.1, x.2.2.1, x.2.2.2⟩
def rest (x : Ins) : Rest := (x.a, x.b, x.c, x.l)
def bytes (x : Ins) : List Int := x.op :: bodyE (Opc.form x.op) (rest x)
/-- it has bytes -/
def May (x : Ins) : Prop := Opc.known x.op = true ∧ bodyV (Opc.form x.op) (rest x)
def insP : Prs Ins := fun r => match r with
  | [] => .error 60
  | op :: r => if Opc.float op = true then .error 61 else if Opc.known op = false then .error 60 else match bodyP (Opc.form op) r with
    | .error e => .error e
    | .ok (x, k) => .ok (mk op x, 1 + k)
theorem known_float {op : Int} (h : Opc.known op = true) : Opc.float op = false := by
  unfold Opc.known at h
  cases hf : Opc.float op with
  | false => rfl
  | true => rw [hf] at h; simp at h
theorem cod_ins : Cod insP bytes May := by
  refine ⟨fun x hx r => ?_, fun r x k h => ?_, fun x hx i hi => ?_⟩
  · unfold bytes insP
    simp only [List.cons_append]
    rw [if_neg (by rw [known_float hx.1]; decide), if_neg (by rw [hx.1]; decide), (cod_body _).back _ hx.2]
    simp only [List.length_cons]
    rw [Nat.add_comm]; rfl
  · unfold insP at h
    cases r with
    | nil => cases h
    | cons op r =>
      simp only at h
      split at h
      · cases h
      split at h
      · cases h
      rename_i h1 h2
      split at h
      · cases h
      · next y m hy =>
        injection h with h
        injection h with h3 h4
        subst h3; subst h4
        obtain ⟨a1, a2, a3⟩ := (cod_body _).sound _ _ _ hy
        refine ⟨⟨(by simpa using h2 : Opc.known op = true), a1⟩, ?_, ?_⟩
        · show (op :: bodyE (Opc.form op) y).length ≤ _
          simp only [List.length_cons]; omega
        · simp only [List.length_cons]; omega
  · unfold bytes insP at *
    cases i with
    | zero => rfl
    | succ i =>
      simp only [List.length_cons] at hi
      simp only [List.take_succ_cons]
      rw [if_neg (by rw [known_float hx.1]; decide), if_neg (by rw [hx.1]; decide), (cod_body _).cut _ hx.2 _ (by omega)]
theorem insP_pos {r : List Int} {x : Ins} {k : Nat} (h : insP r = .ok (x, k)) : 1 ≤ k := by
  have := (cod_ins.sound _ _ _ h).2.1
  unfold bytes at this
  simp at this; omega
/-- marks of open blocks -/
inductive Mk where
  | bad
  | over
  | go (m : List Int)
def nx (m : List Int) (op : Int) : Mk :=
  if op = 2 ∨ op = 3 ∨ op = 4 then .go (m ++ [op])
  else if op = 5 then (if m = [] ∨ m.getD (m.length - 1) default ≠ 4 then .bad else .go (m.take (m.length - 1) ++ [5]))
  else if op = 11 then (if m = [] then .over else .go (m.take (m.length - 1)))
  else .go m
theorem nx_over {m : List Int} {op : Int} (h : nx m op = .over) : m = [] ∧ op = 11 := by
  unfold nx at h
  split at h
  · cases h
  split at h
  · split at h <;> cases h
  split at h
  · next h11 =>
    split at h
    · next hm => exact ⟨hm, h11⟩
    · cases h
  · cases h
def walkM : List Int → List Ins → Option (List Int)
  | m, [] => some m
  | m, x :: xs => match nx m x.op with
    | .go m' => walkM m' xs
    | _ => none
def exprP : Nat → List Int → Prs (List Ins)
  | 0, _ => fun _ => .error 60
  | f + 1, m => fun r => match insP r with
    | .error e => .error e
    | .ok (x, k) => match nx m x.op with
      | .bad => .error 60
      | .over => .ok ([], k)
      | .go m' => match exprP f m' (r.drop k) with
        | .error e => .error e
        | .ok (xs, n) => .ok (x :: xs, k + n)
def flat (l : List Ins) : List Int := l.flatMap bytes
def fin : Ins := ⟨11, 0, 0, 0, []⟩
theorem may_fin : May fin := by
  refine ⟨by decide, ?_⟩
  show bodyV 0 (0, 0, 0, [])
  unfold bodyV; simp
theorem bytes_fin : bytes fin = [11] := by
  show (11 : Int) :: bodyE 0 _ = _
  simp [bodyE]
theorem expr_back : ∀ (xs : List Ins) (m : List Int) (f : Nat) (r : List Int), walkM m xs = some [] → (∀ x ∈ xs, May x) → xs.length < f → exprP f m (flat xs ++ 11 :: r) = .ok (xs, (flat xs).length + 1)
  | [], m, 0, r, h, hm, hf => by simp at hf
  | [], m, f + 1, r, h, hm, hf => by
    have h : m = [] := Option.some.inj h
    subst h
    have := cod_ins.back fin may_fin r
    rw [bytes_fin] at this
    have e : flat [] ++ 11 :: r = [11] ++ r := rfl
    rw [e]
    simp only [exprP]
    rw [this]
    rfl
  | x :: xs, m, 0, r, h, hm, hf => by simp at hf
  | x :: xs, m, f + 1, r, h, hm, hf => by
    simp only [walkM] at h
    have hb := cod_ins.back x (hm x (List.mem_cons_self ..)) (flat xs ++ 11 :: r)
    have e : flat (x :: xs) ++ 11 :: r = bytes x ++ (flat xs ++ 11 :: r) := by simp [flat]
    rw [e]
    simp only [exprP]
    rw [hb]
    cases hn : nx m x.op with
    | bad => rw [hn] at h; cases h
    | over => rw [hn] at h; cases h
    | go m' =>
      rw [hn] at h
      simp only [List.drop_left, hn]
      rw [expr_back xs m' f r h (fun y hy => hm y (List.mem_cons_of_mem _ hy)) (by simpa using hf)]
      simp [flat]; omega
theorem expr_sound : ∀ (f : Nat) (m r : List Int) (xs : List Ins) (n : Nat), exprP f m r = .ok (xs, n) → (∀ x ∈ xs, May x) ∧ walkM m xs = some [] ∧ (flat xs).length + 1 ≤ n ∧ n ≤ r.length
  | 0, m, r, xs, n, h => by cases h
  | f + 1, m, r, xs, n, h => by
    simp only [exprP] at h
    split at h
    · cases h
    · next x k hx =>
      obtain ⟨a1, a2, a3⟩ := cod_ins.sound _ _ _ hx
      have a4 := insP_pos hx
      split at h
      · cases h
      · next hn =>
        injection h with h
        injection h with h3 h4
        subst h3; subst h4
        obtain ⟨rfl, _⟩ := nx_over hn
        exact ⟨fun x hx => (by cases hx), rfl, by simpa [flat] using a4, a3⟩
      · next m' hn =>
        split at h
        · cases h
        · next ys j hy =>
          injection h with h
          injection h with h3 h4
          subst h3; subst h4
          obtain ⟨b1, b2, b3, b4⟩ := expr_sound f m' _ _ _ hy
          rw [List.length_drop] at b4
          refine ⟨fun y hy => ?_, by simp only [walkM, hn]; exact b2, ?_, by omega⟩
          · rcases List.mem_cons.1 hy with rfl | hy
            · exact a1
            · exact b1 y hy
          · simp only [flat, List.flatMap_cons, List.length_append] at *; omega
theorem expr_cut : ∀ (xs : List Ins) (m : List Int) (f i : Nat), walkM m xs = some [] → (∀ x ∈ xs, May x) → i < (flat xs).length + 1 → exprP f m ((flat xs ++ [11]).take i) = .error 60
  | xs, m, 0, i, h, hm, hi => rfl
  | [], m, f + 1, i, h, hm, hi => by
    have : i = 0 := by simpa [flat] using hi
    subst this; rfl
  | x :: xs, m, f + 1, i, h, hm, hi => by
    have hx := hm x (List.mem_cons_self ..)
    have e : flat (x :: xs) ++ [11] = bytes x ++ (flat xs ++ [11]) := by simp [flat]
    have hl : (flat (x :: xs)).length = (bytes x).length + (flat xs).length := by simp [flat]
    rw [e]
    simp only [exprP]
    by_cases hlt : i < (bytes x).length
    · rw [List.take_append_of_le_length (by omega), cod_ins.cut x hx i hlt]
    · rw [List.take_append, List.take_of_length_le (by omega), cod_ins.back x hx]
      simp only [walkM] at h
      cases hn : nx m x.op with
      | bad => rw [hn] at h; cases h
      | over => rw [hn] at h; cases h
      | go m' =>
        rw [hn] at h
        simp only [List.drop_left, hn]
        rw [expr_cut xs m' f (i - (bytes x).length) h (fun y hy => hm y (List.mem_cons_of_mem _ hy)) (by omega)]
/-- many, of which some are read -/
def Pre {α : Type} (p : Prs α) (n : Nat) (r : List Int) (m : Nat) (ls : List α) (k : Nat) : Prop :=
  manyP p n r = (match manyP p m (r.drop k) with
    | .error e => .error e
    | .ok (ys, j) => .ok (ls ++ ys, k + j))
theorem Pre.start {α : Type} (p : Prs α) (n : Nat) (r : List Int) : Pre p n r n [] 0 := by
  unfold Pre
  simp only [List.drop_zero]
  cases manyP p n r with
  | error e => rfl
  | ok x => simp
theorem Pre.step {α : Type} {p : Prs α} {n : Nat} {r : List Int} {m k j : Nat} {ls : List α} {x : α} (h : Pre p n r (m + 1) ls k) (hx : p (r.drop k) = .ok (x, j)) : Pre p n r m (ls ++ [x]) (k + j) := by
  unfold Pre at *
  rw [h]
  simp only [manyP, mapP, bindP]
  rw [hx]
  simp only [List.drop_drop]
  cases manyP p m (r.drop (k + j)) with
  | error e => rfl
  | ok y => simp [Nat.add_assoc]
theorem Pre.fail {α : Type} {p : Prs α} {n : Nat} {r : List Int} {m k : Nat} {ls : List α} {e : Int} (h : Pre p n r (m + 1) ls k) (hx : p (r.drop k) = .error e) : manyP p n r = .error e := by
  unfold Pre at h
  rw [h]
  simp only [manyP, mapP, bindP]
  rw [hx]
theorem Pre.done {α : Type} {p : Prs α} {n : Nat} {r : List Int} {k : Nat} {ls : List α} (h : Pre p n r 0 ls k) : manyP p n r = .ok (ls, k) := by
  unfold Pre at h
  rw [h]
  simp [manyP]
theorem flat_len {l : List Ins} : l.length ≤ (flat l).length := by
  induction l with
  | nil => simp [flat]
  | cons x l ih =>
    simp only [flat, List.flatMap_cons, List.length_append, List.length_cons] at *
    have : 1 ≤ (bytes x).length := by unfold bytes; simp
    omega
end Isp
end Go.Proofs.Ytnjodpgahbpiaaa
