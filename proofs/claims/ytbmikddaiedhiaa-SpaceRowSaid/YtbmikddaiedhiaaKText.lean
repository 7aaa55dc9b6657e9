/- The logic of walks: strings as lists of numbers; what is done with strings. No condition but those that each law states. -/
import Derived.Test.YtbmikddaiedhiaaKStr
import Derived.Laws.IdiomStrings
import Derived.Lib.AppendStr
import Derived.Lib.EndianZ
namespace Go.Proofs.Ytbmikddaiedhiaa
open Go Go.RowKit Go.Deep
set_option linter.unusedVariables false
set_option linter.unusedSimpArgs false
/-- a string's bytes -/
def ints (s : ByteArray) : List Int := s.data.toList.map fun b => (b.toNat : Int)
theorem ints_length (s : ByteArray) : (ints s).length = s.size := by simp [ints]
theorem ints_range {s : ByteArray} : ∀ x ∈ ints s, InR .u8 x := by
  intro x hx
  simp only [ints, List.mem_map] at hx
  obtain ⟨b, _, rfl⟩ := hx
  have := UInt8.toNat_lt b
  dsimp only [InR]; omega
theorem bytes_back {l : List Int} (h : ∀ x ∈ l, InR .u8 x) : (l.map Lib.byteOf).map (fun b => (b.toNat : Int)) = l := by
  induction l with
  | nil => rfl
  | cons x l ih =>
    simp only [List.map_cons]
    rw [ih (fun y hy => h y (List.mem_cons_of_mem _ hy)), Lib.byteOf_toNat (h x (List.mem_cons_self ..))]
theorem bstr_map (l : List UInt8) : bstr (l.map fun b => (b.toNat : Int)) = ⟨l.toArray⟩ := by
  unfold bstr
  rw [foldl_push_byteCells]
  show ByteArray.mk (#[] ++ l.toArray) = _
  simp
theorem bstr_ints (s : ByteArray) : bstr (ints s) = s := by
  unfold ints; rw [bstr_map]
theorem ints_bstr {l : List Int} (h : ∀ x ∈ l, InR .u8 x) : ints (bstr l) = l := by
  have e := bytes_back h
  rw [← e, bstr_map]; rfl
theorem ints_inj {a b : ByteArray} : ints a = ints b ↔ a = b :=
  ⟨fun h => by rw [← bstr_ints a, ← bstr_ints b, h], fun h => by rw [h]⟩
theorem bstr_inj {l m : List Int} (hl : ∀ x ∈ l, InR .u8 x) (hm : ∀ x ∈ m, InR .u8 x) : bstr l = bstr m ↔ l = m :=
  ⟨fun h => by rw [← ints_bstr hl, ← ints_bstr hm, h], fun h => by rw [h]⟩
theorem bstr_size {l : List Int} (h : ∀ x ∈ l, InR .u8 x) : (bstr l).size = l.length := by rw [← ints_length, ints_bstr h]
theorem ba_loop (s : ByteArray) : ∀ (n i : Nat) (r : List UInt8), s.size - i = n → ByteArray.toList.loop s i r = r.reverse ++ s.data.toList.drop i := by
  intro n
  induction n with
  | zero =>
    intro i r h
    rw [ByteArray.toList.loop, if_neg (by omega), List.drop_of_length_le (by show s.size ≤ i; omega), List.append_nil]
  | succ n ih =>
    intro i r h
    have hi : i < s.data.toList.length := by show i < s.size; omega
    rw [ByteArray.toList.loop, if_pos (by omega), ih _ _ (by omega), List.drop_eq_getElem_cons hi]
    have e : s.get! i = s.data.toList[i] := by
      show s.data[i]! = _
      have hi' : i < s.data.size := hi
      rw [getElem!_pos s.data i hi']; rfl
    rw [e]; simp
theorem ba_toList (s : ByteArray) : s.toList = s.data.toList := by
  rw [ByteArray.toList, ba_loop s _ 0 [] rfl]; simp
theorem str_eq (a b : ByteArray) : (a.toList == b.toList) = decide (a = b) := by
  rw [ba_toList, ba_toList]
  by_cases h : a = b
  · subst h; simp
  · rw [decide_eq_false h]
    simp only [beq_eq_false_iff_ne, ne_eq]
    intro e
    apply h
    have : a.data = b.data := Array.ext' e
    cases a; cases b; simp_all
theorem str_eq_ints (a b : ByteArray) : (a.toList == b.toList) = decide (ints a = ints b) := by
  rw [str_eq]; by_cases h : a = b
  · rw [decide_eq_true h, decide_eq_true (ints_inj.2 h)]
  · rw [decide_eq_false h, decide_eq_false (fun e => h (ints_inj.1 e))]
theorem ints_append (a b : ByteArray) : ints (a ++ b) = ints a ++ ints b := by
  unfold ints
  rw [← List.map_append]; congr 1
theorem ints_extract (s : ByteArray) (i j : Nat) : ints (s.extract i j) = ((ints s).take j).drop i := by
  unfold ints
  rw [← List.map_take, ← List.map_drop]; congr 1
  simp [ByteArray.data_extract, Array.toList_extract, List.extract_eq_take_drop, List.drop_take]
section
variable {P : Program} {E : Env} {H Hx : Heap} {o : Oper} {v : Value}
theorem R.addStr {T T' : TypeId} {x y : Operand} {a b : ByteArray} (ho : o.op = .binOp .add T x y T') (hx : ev E x = some (.string a)) (hy : ev E y = some (.string b)) (h : a.size + b.size ≤ 1000000000000) : Run P E H o (.string (a ++ b)) :=
  bin_run2 ho hx hy (fun w => by simp [eqGuard, Sem.run_pure]) fun w => by
    have : ¬ (((a.size + b.size : Nat) : Int) > IntKind.i64.max) := by simp [IntKind.max, IntKind.bits, IntKind.signed]; omega
    simp only [binOp, Op.stringOp]
    rw [if_neg this]
    simp [Sem.run_pure]
theorem R.indexStr {T : TypeId} {x i : Operand} {k : IntKind} {z : Int} {s : ByteArray} {j : Nat} (ho : o.op = .index T x i) (ht : P.underlying T = some .string) (hx : ev E x = some (.string s)) (hi : ev E i = some (.int k z)) (hj : z = (j : Int)) (hlt : j < s.size) :
    Run P E H o (.int .u8 ((ints s).getD j default)) := by
  intro ρ w ha hw
  subst hj
  have hlt' : j < s.data.size := hlt
  have e : (ints s).getD j default = ((s[j]'hlt).toNat : Int) := by
    unfold ints
    rw [List.getD_eq_getElem?_getD, List.getElem?_map, List.getElem?_eq_getElem (by simpa using hlt')]
    simp; rfl
  have e2 : s[j]? = some (s[j]'hlt) := getElem?_pos s j hlt
  rw [e]
  simp [execOp, ho, ha x _ hx, ha i _ hi, Instr.index, asIntOf, underlying, program, ht, e2, Sem.run_bind, Sem.run_pure, Result.andThen, Sem.run]
theorem R.sliceStr {T : TypeId} {x : Operand} {lo hi : Option Operand} {s : ByteArray} {i j : Nat} (ho : o.op = .slice T x lo hi none) (ht : P.underlying T = some .string) (hx : ev E x = some (.string s)) (hlo : bnd E lo 0 i) (hhi : bnd E hi s.size j) (h1 : i ≤ j) (h2 : j ≤ s.size) :
    Run P E H o (.string (s.extract i j)) := by
  intro ρ w ha hw
  have key : ∀ (lo' hi' : Option Value), (lo' = none ∧ i = 0 ∨ ∃ k, lo' = some (.int k (i : Int))) → (hi' = none ∧ j = s.size ∨ ∃ k, hi' = some (.int k (j : Int))) →
      (Instr.sliceAt T (.string s) lo' hi' none).run P w = .ok (.string (s.extract i j)) w := by
    intro lo' hi' hl hh
    rcases hl with ⟨rfl, rfl⟩ | ⟨k, rfl⟩ <;> rcases hh with ⟨rfl, rfl⟩ | ⟨k', rfl⟩ <;>
      simp [Instr.sliceAt, Instr.slice, Instr.sliceBounds, Instr.sliceBound, asIntOf, underlying, program, ht, Sem.run_bind, Sem.run_pure, Result.andThen, Sem.run] <;>
      (try simp [show ((i : Int) ≤ (j : Int)) by omega]) <;> (try simp [show ((j : Int) ≤ (s.size : Int)) by omega]) <;> (try simp [show ((i : Int) ≤ (j : Int)) by omega]) <;> (try simp [h1, h2, Sem.run_bind, Sem.run_pure, Result.andThen, Sem.run])
  have hl : (lo.map ρ = none ∧ i = 0 ∨ ∃ k, lo.map ρ = some (.int k (i : Int))) := by
    cases lo with
    | none => exact .inl ⟨rfl, hlo⟩
    | some y => obtain ⟨k, z, hy, rfl⟩ := hlo; exact .inr ⟨k, by simp [ha y _ hy]⟩
  have hh : (hi.map ρ = none ∧ j = s.size ∨ ∃ k, hi.map ρ = some (.int k (j : Int))) := by
    cases hi with
    | none => exact .inl ⟨rfl, hhi⟩
    | some y => obtain ⟨k, z, hy, rfl⟩ := hhi; exact .inr ⟨k, by simp [ha y _ hy]⟩
  have := key _ _ hl hh
  simp [execOp, ho, ha x _ hx, this, Sem.run_bind, Sem.run_pure, Result.andThen]
/-- []byte(s) -/
theorem M.toBytes {S D e : TypeId} {x : Operand} {s : ByteArray} (ho : o.op = .convert S D x) (hs : P.underlying S = some .string) (hd : P.underlying D = some (.slice e)) (he : P.underlying e = some (.int .u8)) (hx : ev E x = some (.string s)) (hmx : s.size ≤ 1000000000) :
    RunM P E H o (fun u H' => Sl 1 (EInt .u8) H' u (ints s) ∧ vblock u = H.size ∧ Old H H' ∧ H'.size = H.size + 1) := by
  intro ρ w ha hw
  subst hw
  have hr := run_bytes_of_string (P := P) w S D e s hs hd he
  have hge := grownCap_ge w s.size 0 e
  have hcm : grownCap w s.size 0 e ≤ maxLen := grownCap_le_maxLen w s.size 0 e (by unfold maxLen; omega)
  refine ⟨.slice (some ⟨w.heap.size, 0, none⟩) s.size (grownCap w s.size 0 e), w.drew.alloc (.cells (bytesRow s (grownCap w s.size 0 e)) e ((bytesRow s (grownCap w s.size 0 e)).size, (bytesRow s (grownCap w s.size 0 e)).size + 1)), by simp [execOp, ho, ha x _ hx, hr, Sem.run_bind, Sem.run_pure, Result.andThen], ⟨rfl, rfl, rfl, rfl⟩, ?_, rfl, ?_, by simp⟩
  · refine ⟨some ⟨w.heap.size, 0, none⟩, _, by rw [ints_length], by rw [ints_length]; exact hge, hcm, by simp, fun _ p hp => by cases hp; rfl, fun j x hj => ?_⟩
    have hlt := nth_lt hj
    rw [nth_eq] at hj
    refine ⟨[.int .u8 x], rfl, ?_, rfl, ints_range x (List.mem_of_getElem? hj)⟩
    intro i u hu
    have hi : i = 0 ∧ u = .int .u8 x := by
      cases i with
      | zero => injection hu with hu; exact ⟨rfl, hu.symm⟩
      | succ i => cases hu
    obtain ⟨rfl, rfl⟩ := hi
    simp only [vbase]
    rw [add_add _ rfl]
    have e0 : (Addr.mk w.heap.size 0 none).add (j * 1 + 0) = ⟨w.heap.size, j, none⟩ := by unfold Addr.add; split <;> simp_all
    rw [e0]
    have hb : (w.drew.alloc (.cells (bytesRow s (grownCap w s.size 0 e)) e ((bytesRow s (grownCap w s.size 0 e)).size, (bytesRow s (grownCap w s.size 0 e)).size + 1))).heap[w.heap.size]? = some (.cells (bytesRow s (grownCap w s.size 0 e)).toList.toArray e ((bytesRow s (grownCap w s.size 0 e)).size, (bytesRow s (grownCap w s.size 0 e)).size + 1)) := by
      show (w.heap.push _)[w.heap.size]? = _
      simp
    refine cell_of hb ?_
    rw [nth_eq]
    have e1 : (bytesRow s (grownCap w s.size 0 e)).toList = (ints s).map (Value.int .u8) ++ List.replicate (grownCap w s.size 0 e - s.size) (.int .u8 0) := by
      simp [bytesRow, ints]
    rw [e1, List.getElem?_append_left (by simpa using hlt), List.getElem?_map, hj]; rfl
  · refine ⟨by simp, fun k hk => ?_⟩
    show (w.heap.push _)[k]? = _
    rw [Array.getElem?_push]
    simp [Nat.ne_of_lt hk]
end
section
variable {P : Program} {E : Env} {H H0 : Heap} {o : Oper} {v : Value} {B : Nat} {e : TypeId}
/-- append of a string to a row of bytes of the call's own -/
theorem M.appendStr {T T2 : TypeId} {sx x : Operand} {s : ByteArray} {l : List Int} (ho : o.op = .call { callee := .builtin .append, args := #[sx, x], argTypes := #[T, T2] }) (ht : P.underlying T = some (.slice e)) (ht2 : P.underlying T2 = some .string) (hi : (P.info? e).map (fun i => (i.zero, i.size, i.bytes)) = some (some (.int .u8 0), 1, 1))
    (hs : ev E sx = some v) (hx : ev E x = some (.string s)) (hown : Own 1 (EInt .u8) e H0 B H v l) (hB : B ≤ H.size) (hsz : l.length + s.size ≤ 140737488355328) :
    RunM P E H o (fun v' H' => Own 1 (EInt .u8) e H0 B H' v' (l ++ ints s) ∧ Grown v H H') := by
  intro ρ w ha hw
  obtain ⟨i, hi', hz0, hz1, hz2⟩ : ∃ i, P.info? e = some i ∧ i.zero = some (.int .u8 0) ∧ i.size = 1 ∧ i.bytes = 1 := by
    cases hq : P.info? e with
    | none => simp [hq] at hi
    | some i => simp [hq] at hi; exact ⟨i, rfl, hi⟩
  obtain ⟨flat, hrow, hel⟩ := hown
  obtain ⟨v', w', hr, h2, h3, _⟩ := Lib.run_append_own_string (P := P) w B T T2 o.type e i ht ht2 hi' hz0 hz1 hz2 v l.length flat (by rw [ownH_w, hw]; exact hrow) s (by unfold maxLen; omega) hsz (by rw [hw]; exact hB)
  have hcell : Lib.strCells s = (ints s).map (Value.int .u8) := by simp [Lib.strCells, ints]
  refine ⟨v', w', ?_, ⟨rfl, h3.os, h3.tape, h3.output⟩, ⟨flat ++ Lib.strCells s, by rw [List.length_append, ints_length]; simpa [ownH_w] using h2, ?_⟩, by rw [← hw]; exact h3.size, fun k hk hne => ?_⟩
  · simp [execOp, ho, resolve, invoke, builtin, ha sx _ hs, ha x _ hx, Sem.run_bind, Sem.run_pure, Result.andThen]
    simp [hr]
  · intro j x hj
    have hlen' := hrow.1
    rw [nth_eq] at hj
    by_cases hjl : j < l.length
    · rw [List.getElem?_append_left hjl] at hj
      rw [List.drop_append_of_le_length (by omega), List.take_append_of_le_length (by simp; omega)]
      exact hel j x (by rw [nth_eq]; exact hj)
    · rw [List.getElem?_append_right (by omega)] at hj
      rw [List.drop_append, List.drop_of_length_le (by omega), List.nil_append, hcell]
      have hlt := (List.getElem?_eq_some_iff.1 hj).1
      rw [show j * 1 - flat.length = j - l.length by omega]
      rw [← List.map_drop, List.drop_eq_getElem_cons hlt]
      refine ⟨?_, ints_range x (List.mem_of_getElem? hj)⟩
      have : (ints s)[j - l.length] = x := (List.getElem?_eq_some_iff.1 hj).2
      simp [this]
  · rw [← hw] at hk ⊢
    refine h3.block k hk (fun hkv => ?_)
    have hkk : v = .slice none 0 0 ∨ vblock v = k := by
      rcases hrow.2 with ⟨rfl, _⟩ | ⟨g, cp, cr, rfl, _⟩
      · exact .inl rfl
      · right; simp [Value.ownBlock] at hkv; simp [vblock, vbase, hkv]
    rcases hne with rfl | hne
    · simp [Value.ownBlock] at hkv
    · rcases hkk with rfl | hkk
      · simp [Value.ownBlock] at hkv
      · exact hne hkk.symm
end
/-! ### v[lo:hi:max] -/
def sub3 (sz : Nat) (v : Value) (lo hi mx : Nat) : Value := match v with
  | .slice a _ _ => .slice (if mx = lo then a else a.map (·.add (lo * sz))) (hi - lo) (mx - lo)
  | v => v
section
variable {P : Program} {E : Env} {H Hx : Heap} {o : Oper} {v : Value} {α : Type} {m : Nat} {F : El α} {l : List α}
theorem Sl.sub3 {lo hi : Nat} (hs : Sl m F H v l) (h1 : lo ≤ hi) (h2 : hi ≤ l.length) : Sl m F H (sub3 m v lo hi hi) ((l.take hi).drop lo) := by
  obtain ⟨a, cap, rfl, k1, k2, k3, k4, k5⟩ := hs
  have hl : ((l.take hi).drop lo).length = hi - lo := by simp; omega
  refine ⟨_, _, by rw [hl]; rfl, by rw [hl]; omega, by omega, ?_, ?_, ?_⟩
  · intro h
    split at h
    · omega
    · have := k3 (by simpa using h); omega
  · intro h0 p hp
    rw [hl] at h0
    have hl0 : 0 < l.length := by omega
    split at hp
    · exact k4 hl0 p hp
    · cases a with
      | none => simp at hp
      | some q =>
        simp at hp
        rw [← hp]
        unfold Addr.add
        split
        · exact k4 hl0 q rfl
        · rfl
  · intro j x hj
    rw [nth_eq, List.getElem?_drop] at hj
    rw [List.getElem?_take] at hj
    split at hj
    · next hlt =>
      have hj' : nth l (lo + j) = some x := by rw [nth_eq]; exact hj
      obtain ⟨cs, hc1, hc2, hc3⟩ := k5 _ _ hj'
      refine ⟨cs, hc1, ?_, hc3⟩
      cases a with
      | none => have := k3 rfl; omega
      | some q =>
        simp only [Go.Proofs.Ytbmikddaiedhiaa.sub3]
        rw [if_neg (by omega)]
        simp only [Option.map_some, vbase]
        have e : (lo + j) * m = lo * m + j * m := Nat.add_mul _ _ _
        simp only [vbase] at hc2
        rw [e, ← add_add q (k4 (by omega) q rfl)] at hc2
        exact hc2
    · cases hj
theorem R.slice3 {T e : TypeId} {x y z : Operand} {lo : Option Operand} {i j : Nat} {k k' : IntKind} {zj zk : Int} (ho : o.op = .slice T x lo (some y) (some z)) (ht : P.underlying T = some (.slice e)) (hz : (P.info? e).map (·.size) = some m)
    (hx : ev E x = some v) (hs : Sl m F Hx v l) (hlo : bnd E lo 0 i) (hy : ev E y = some (.int k zj)) (hz' : ev E z = some (.int k' zk)) (ej : zj = (j : Int)) (ek : zk = (j : Int)) (h1 : i ≤ j) (h2 : j ≤ l.length) : Run P E H o (sub3 m v i j j) := by
  obtain ⟨a, cap, rfl, k1, _⟩ := hs
  subst ej; subst ek
  intro ρ w ha hw
  cases hq : P.info? e with
  | none => simp [hq] at hz
  | some inf =>
    simp [hq] at hz
    have key : ∀ (lo' : Option Value), (lo' = none ∧ i = 0 ∨ ∃ k, lo' = some (.int k (i : Int))) →
        (Instr.sliceAt T (.slice a l.length cap) lo' (some (.int k (j : Int))) (some (.int k' (j : Int)))).run P w = .ok (sub3 m (.slice a l.length cap) i j j) w := by
      intro lo' hl
      rcases hl with ⟨rfl, rfl⟩ | ⟨k, rfl⟩ <;>
        simp [Instr.sliceAt, Instr.slice, Instr.sliceBounds, Instr.sliceBound, asIntOf, underlying, program, ht, sizeOf, typeInfo, hq, hz, Go.Proofs.Ytbmikddaiedhiaa.sub3, Sem.run_bind, Sem.run_pure, Result.andThen, Sem.run] <;>
        (try simp [show j ≤ cap by omega, h1])
    have hl : (lo.map ρ = none ∧ i = 0 ∨ ∃ k, lo.map ρ = some (.int k (i : Int))) := by
      cases lo with
      | none => exact .inl ⟨rfl, hlo⟩
      | some y => obtain ⟨k, z, hy, rfl⟩ := hlo; exact .inr ⟨k, by simp [ha y _ hy]⟩
    have := key _ hl
    simp [execOp, ho, ha x _ hx, ha y _ hy, ha z _ hz', this, Sem.run_bind, Sem.run_pure, Result.andThen]
end
end Go.Proofs.Ytbmikddaiedhiaa
