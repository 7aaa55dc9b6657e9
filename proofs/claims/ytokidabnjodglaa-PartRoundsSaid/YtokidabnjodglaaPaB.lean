/- Parts, one by one. No condition but sizes. -/
import Derived.Test.YtokidabnjodglaaPaA
namespace Go.Proofs.Ytokidabnjodglaa
open Go Go.RowKit
set_option linter.unusedVariables false
set_option linter.unusedSimpArgs false
set_option linter.unnecessarySimpa false

/-- a part -/
structure Pt where
  a : Nat
  t : Nat
  c : Int
  deriving Inhabited, DecidableEq
def Pt.cells (x : Pt) : List Value := [.int .i64 (x.a : Nat), .int .i64 (x.t : Nat), .int .u64 x.c]
def Pt.R (x : Pt) : Prop := InR .u64 x.c
def EPt : El Pt := fun _ cs x => cs = x.cells ∧ x.R
instance : Keeps EPt := ⟨fun _ h => h⟩
instance : One EPt := ⟨fun h u hu => by
  obtain ⟨rfl, _⟩ := h
  simp only [Pt.cells, List.mem_cons, List.not_mem_nil, or_false] at hu
  rcases hu with rfl | rfl | rfl <;> rfl⟩
/-- what ends a part -/
def ends (op : Int) : Bool := decide (op = 4 ∨ op = 5 ∨ op = 11 ∨ op = 3 ∨ op = 12 ∨ op = 13 ∨ op = 14 ∨ op = 15 ∨ op = 0 ∨ op = 16 ∨ op = 17 ∨ op = 64)
/-- is the part at its end behind instruction k? -/
def cutHere (l : List Ins) (k : Nat) : Bool := ends (l.getD k default).op || decide (l.length ≤ k + 1)
/-- cut up to k: where the part begins that is under way; the parts so far -/
def cut (l : List Ins) : Nat → Nat × List Pt
  | 0 => (0, [])
  | k + 1 => if cutHere l k then (k + 1, (cut l k).2 ++ [⟨(cut l k).1, k + 1, csum ((l.take (k + 1)).drop (cut l k).1)⟩]) else cut l k
/-- all parts; those that cost something -/
def raw (l : List Ins) : List Pt := (cut l l.length).2
def parts (l : List Ins) : List Pt := (raw l).filter fun p => decide (0 < p.c)
theorem cut_yes {l : List Ins} {k : Nat} (h : cutHere l k = true) : cut l (k + 1) = (k + 1, (cut l k).2 ++ [⟨(cut l k).1, k + 1, csum ((l.take (k + 1)).drop (cut l k).1)⟩]) := by rw [cut, if_pos h]
theorem cut_no {l : List Ins} {k : Nat} (h : cutHere l k = false) : cut l (k + 1) = cut l k := by rw [cut, if_neg (by rw [h]; simp)]
theorem cut_le (l : List Ins) (k : Nat) : (cut l k).1 ≤ k := by
  induction k with
  | zero => exact Nat.le_refl _
  | succ k ih =>
    cases h : cutHere l k with
    | true => rw [cut_yes h]; exact Nat.le_refl _
    | false => rw [cut_no h]; omega
theorem cut_pre (l : List Ins) (k d : Nat) : ∃ m, (cut l (k + d)).2 = (cut l k).2 ++ m := by
  induction d with
  | zero => exact ⟨[], by simp⟩
  | succ d ih =>
    obtain ⟨m, hm⟩ := ih
    rw [← Nat.add_assoc]
    cases h : cutHere l (k + d) with
    | true => rw [cut_yes h]; exact ⟨m ++ [⟨(cut l (k + d)).1, k + d + 1, csum ((l.take (k + d + 1)).drop (cut l (k + d)).1)⟩], by rw [hm, List.append_assoc]⟩
    | false => rw [cut_no h]; exact ⟨m, hm⟩
theorem raw_at {l : List Ins} {k : Nat} (hk : k < l.length) (h : cutHere l k = true) : nth (raw l) (cut l k).2.length = some ⟨(cut l k).1, k + 1, csum ((l.take (k + 1)).drop (cut l k).1)⟩ := by
  obtain ⟨m, hm⟩ := cut_pre l (k + 1) (l.length - (k + 1))
  rw [show k + 1 + (l.length - (k + 1)) = l.length by omega] at hm
  have e : (cut l (k + 1)).2 = (cut l k).2 ++ [⟨(cut l k).1, k + 1, csum ((l.take (k + 1)).drop (cut l k).1)⟩] := by rw [cut, if_pos h]
  rw [nth_eq]
  unfold raw
  rw [hm, e, List.append_assoc, List.getElem?_append_right (Nat.le_refl _), Nat.sub_self]
  rfl
theorem nth_lt' {α : Type} {l : List α} {j : Nat} {x : α} (h : nth l j = some x) : j < l.length := by rw [nth_eq] at h; exact (List.getElem?_eq_some_iff.1 h).1
theorem nth_map {α β : Type} {f : α → β} {l : List α} {j : Nat} {x : α} (h : nth l j = some x) : nth (l.map f) j = some (f x) := by rw [nth_eq] at h ⊢; rw [List.getElem?_map, h]; rfl
/-- as it is handed on -/
def hand (l : List Pt) : List (List Value) := l.map fun p => [.agg p.cells.toArray]
theorem zr33 : (Try.prog.info? 33).map (·.zero) = some (some .nilFunc) := by kernel_rfl
theorem sz33 : (Try.prog.info? 33).map (·.size) = some 1 := by kernel_rfl
theorem Sl.lenM {α : Type} {n : Nat} {E : El α} {H : Heap} {v : Value} {l : List α} (h : Sl n E H v l) : l.length ≤ maxLen := by obtain ⟨a, cap, _, h1, h2, _⟩ := h; omega
theorem csum_sub (l : List Ins) (a b : Nat) : 0 ≤ csum ((l.take b).drop a) ∧ csum ((l.take b).drop a) ≤ 20 * l.length := by
  have h := csum_le ((l.take b).drop a)
  rw [List.length_drop, List.length_take] at h
  omega

set_option maxRecDepth 100000 in
set_option maxHeartbeats 4000000 in
theorem Ends_k {H : Heap} (op : Int) : Ct Try.prog 9 [.int .u8 op] H (fun u H' => u = .bool (ends op) ∧ H = H') := by
  refine Ct.mk Try.func9 rfl Try.ntmps9 rfl ?_
  intro W0 hW0
  have o0 : Old H H := Old.refl H
  refine KC.seq ?_
  refine KC.region ?_
  refine KL.op (R.assign rfl rfl) rfl rfl rfl ?_
  refine KL.nil ?_
  refine KQ.seq ?_
  refine KC.seq ?_
  refine KC.seq ?_
  refine KC.region ?_
  refine KL.op (R.move rfl rfl) rfl rfl rfl ?_
  refine KL.nil ?_
  refine KQ.seq ?_
  refine KC.block ?_
  refine KC.seq ?_
  refine KC.seq ?_
  refine KC.region ?_
  refine KL.op (R.eql rfl rfl rfl) rfl rfl rfl ?_
  refine KL.op (R.assign rfl rfl) rfl rfl rfl ?_
  refine KL.nil ?_
  refine KQ.seq ?_
  refine KC.iteL rfl ?_ ?_
  · intro hc4
    try simp only [decide_eq_true_eq, decide_eq_false_iff_not, Bool.not_eq_true', Bool.not_eq_false', Bool.and_eq_true, Bool.or_eq_false_iff] at hc4
    refine KC.skip ?_
    refine KQ.seq ?_
    refine KC.condT rfl ?_
    refine KC.seq ?_
    refine KC.region ?_
    refine KL.op (R.assign rfl rfl) rfl rfl rfl ?_
    refine KL.nil ?_
    refine KQ.seq ?_
    refine KC.ret ?_
    refine KQ.retBlock ?_
    refine KQ.retThen ?_
    refine KQ.ofRet ?_
    refine KQ.fin1 Try.results9 rfl ?_
    first
      | exact ⟨congrArg Value.bool (decide_eq_true (by omega)).symm, rfl⟩
      | exact ⟨congrArg Value.bool (decide_eq_false (by omega)).symm, rfl⟩
  · intro hc4
    try simp only [decide_eq_true_eq, decide_eq_false_iff_not, Bool.not_eq_true', Bool.not_eq_false', Bool.and_eq_true, Bool.or_eq_false_iff] at hc4
    refine KC.seq ?_
    refine KC.region ?_
    refine KL.op (R.eql rfl rfl rfl) rfl rfl rfl ?_
    refine KL.op (R.assign rfl rfl) rfl rfl rfl ?_
    refine KL.nil ?_
    refine KQ.seq ?_
    refine KC.iteL rfl ?_ ?_
    · intro hc4
      try simp only [decide_eq_true_eq, decide_eq_false_iff_not, Bool.not_eq_true', Bool.not_eq_false', Bool.and_eq_true, Bool.or_eq_false_iff] at hc4
      refine KC.skip ?_
      refine KQ.seq ?_
      refine KC.condT rfl ?_
      refine KC.seq ?_
      refine KC.region ?_
      refine KL.op (R.assign rfl rfl) rfl rfl rfl ?_
      refine KL.nil ?_
      refine KQ.seq ?_
      refine KC.ret ?_
      refine KQ.retBlock ?_
      refine KQ.retThen ?_
      refine KQ.ofRet ?_
      refine KQ.fin1 Try.results9 rfl ?_
      first
        | exact ⟨congrArg Value.bool (decide_eq_true (by omega)).symm, rfl⟩
        | exact ⟨congrArg Value.bool (decide_eq_false (by omega)).symm, rfl⟩
    · intro hc4
      try simp only [decide_eq_true_eq, decide_eq_false_iff_not, Bool.not_eq_true', Bool.not_eq_false', Bool.and_eq_true, Bool.or_eq_false_iff] at hc4
      refine KC.seq ?_
      refine KC.region ?_
      refine KL.op (R.eql rfl rfl rfl) rfl rfl rfl ?_
      refine KL.op (R.assign rfl rfl) rfl rfl rfl ?_
      refine KL.nil ?_
      refine KQ.seq ?_
      refine KC.iteL rfl ?_ ?_
      · intro hc4
        try simp only [decide_eq_true_eq, decide_eq_false_iff_not, Bool.not_eq_true', Bool.not_eq_false', Bool.and_eq_true, Bool.or_eq_false_iff] at hc4
        refine KC.skip ?_
        refine KQ.seq ?_
        refine KC.condT rfl ?_
        refine KC.seq ?_
        refine KC.region ?_
        refine KL.op (R.assign rfl rfl) rfl rfl rfl ?_
        refine KL.nil ?_
        refine KQ.seq ?_
        refine KC.ret ?_
        refine KQ.retBlock ?_
        refine KQ.retThen ?_
        refine KQ.ofRet ?_
        refine KQ.fin1 Try.results9 rfl ?_
        first
          | exact ⟨congrArg Value.bool (decide_eq_true (by omega)).symm, rfl⟩
          | exact ⟨congrArg Value.bool (decide_eq_false (by omega)).symm, rfl⟩
      · intro hc4
        try simp only [decide_eq_true_eq, decide_eq_false_iff_not, Bool.not_eq_true', Bool.not_eq_false', Bool.and_eq_true, Bool.or_eq_false_iff] at hc4
        refine KC.seq ?_
        refine KC.region ?_
        refine KL.op (R.eql rfl rfl rfl) rfl rfl rfl ?_
        refine KL.op (R.assign rfl rfl) rfl rfl rfl ?_
        refine KL.nil ?_
        refine KQ.seq ?_
        refine KC.iteL rfl ?_ ?_
        · intro hc4
          try simp only [decide_eq_true_eq, decide_eq_false_iff_not, Bool.not_eq_true', Bool.not_eq_false', Bool.and_eq_true, Bool.or_eq_false_iff] at hc4
          refine KC.skip ?_
          refine KQ.seq ?_
          refine KC.condT rfl ?_
          refine KC.seq ?_
          refine KC.region ?_
          refine KL.op (R.assign rfl rfl) rfl rfl rfl ?_
          refine KL.nil ?_
          refine KQ.seq ?_
          refine KC.ret ?_
          refine KQ.retBlock ?_
          refine KQ.retThen ?_
          refine KQ.ofRet ?_
          refine KQ.fin1 Try.results9 rfl ?_
          first
            | exact ⟨congrArg Value.bool (decide_eq_true (by omega)).symm, rfl⟩
            | exact ⟨congrArg Value.bool (decide_eq_false (by omega)).symm, rfl⟩
        · intro hc4
          try simp only [decide_eq_true_eq, decide_eq_false_iff_not, Bool.not_eq_true', Bool.not_eq_false', Bool.and_eq_true, Bool.or_eq_false_iff] at hc4
          refine KC.seq ?_
          refine KC.region ?_
          refine KL.op (R.eql rfl rfl rfl) rfl rfl rfl ?_
          refine KL.op (R.assign rfl rfl) rfl rfl rfl ?_
          refine KL.nil ?_
          refine KQ.seq ?_
          refine KC.iteL rfl ?_ ?_
          · intro hc4
            try simp only [decide_eq_true_eq, decide_eq_false_iff_not, Bool.not_eq_true', Bool.not_eq_false', Bool.and_eq_true, Bool.or_eq_false_iff] at hc4
            refine KC.skip ?_
            refine KQ.seq ?_
            refine KC.condT rfl ?_
            refine KC.seq ?_
            refine KC.region ?_
            refine KL.op (R.assign rfl rfl) rfl rfl rfl ?_
            refine KL.nil ?_
            refine KQ.seq ?_
            refine KC.ret ?_
            refine KQ.retBlock ?_
            refine KQ.retThen ?_
            refine KQ.ofRet ?_
            refine KQ.fin1 Try.results9 rfl ?_
            first
              | exact ⟨congrArg Value.bool (decide_eq_true (by omega)).symm, rfl⟩
              | exact ⟨congrArg Value.bool (decide_eq_false (by omega)).symm, rfl⟩
          · intro hc4
            try simp only [decide_eq_true_eq, decide_eq_false_iff_not, Bool.not_eq_true', Bool.not_eq_false', Bool.and_eq_true, Bool.or_eq_false_iff] at hc4
            refine KC.seq ?_
            refine KC.region ?_
            refine KL.op (R.eql rfl rfl rfl) rfl rfl rfl ?_
            refine KL.op (R.assign rfl rfl) rfl rfl rfl ?_
            refine KL.nil ?_
            refine KQ.seq ?_
            refine KC.iteL rfl ?_ ?_
            · intro hc4
              try simp only [decide_eq_true_eq, decide_eq_false_iff_not, Bool.not_eq_true', Bool.not_eq_false', Bool.and_eq_true, Bool.or_eq_false_iff] at hc4
              refine KC.skip ?_
              refine KQ.seq ?_
              refine KC.condT rfl ?_
              refine KC.seq ?_
              refine KC.region ?_
              refine KL.op (R.assign rfl rfl) rfl rfl rfl ?_
              refine KL.nil ?_
              refine KQ.seq ?_
              refine KC.ret ?_
              refine KQ.retBlock ?_
              refine KQ.retThen ?_
              refine KQ.ofRet ?_
              refine KQ.fin1 Try.results9 rfl ?_
              first
                | exact ⟨congrArg Value.bool (decide_eq_true (by omega)).symm, rfl⟩
                | exact ⟨congrArg Value.bool (decide_eq_false (by omega)).symm, rfl⟩
            · intro hc4
              try simp only [decide_eq_true_eq, decide_eq_false_iff_not, Bool.not_eq_true', Bool.not_eq_false', Bool.and_eq_true, Bool.or_eq_false_iff] at hc4
              refine KC.seq ?_
              refine KC.region ?_
              refine KL.op (R.eql rfl rfl rfl) rfl rfl rfl ?_
              refine KL.op (R.assign rfl rfl) rfl rfl rfl ?_
              refine KL.nil ?_
              refine KQ.seq ?_
              refine KC.iteL rfl ?_ ?_
              · intro hc4
                try simp only [decide_eq_true_eq, decide_eq_false_iff_not, Bool.not_eq_true', Bool.not_eq_false', Bool.and_eq_true, Bool.or_eq_false_iff] at hc4
                refine KC.skip ?_
                refine KQ.seq ?_
                refine KC.condT rfl ?_
                refine KC.seq ?_
                refine KC.region ?_
                refine KL.op (R.assign rfl rfl) rfl rfl rfl ?_
                refine KL.nil ?_
                refine KQ.seq ?_
                refine KC.ret ?_
                refine KQ.retBlock ?_
                refine KQ.retThen ?_
                refine KQ.ofRet ?_
                refine KQ.fin1 Try.results9 rfl ?_
                first
                  | exact ⟨congrArg Value.bool (decide_eq_true (by omega)).symm, rfl⟩
                  | exact ⟨congrArg Value.bool (decide_eq_false (by omega)).symm, rfl⟩
              · intro hc4
                try simp only [decide_eq_true_eq, decide_eq_false_iff_not, Bool.not_eq_true', Bool.not_eq_false', Bool.and_eq_true, Bool.or_eq_false_iff] at hc4
                refine KC.seq ?_
                refine KC.region ?_
                refine KL.op (R.eql rfl rfl rfl) rfl rfl rfl ?_
                refine KL.op (R.assign rfl rfl) rfl rfl rfl ?_
                refine KL.nil ?_
                refine KQ.seq ?_
                refine KC.iteL rfl ?_ ?_
                · intro hc4
                  try simp only [decide_eq_true_eq, decide_eq_false_iff_not, Bool.not_eq_true', Bool.not_eq_false', Bool.and_eq_true, Bool.or_eq_false_iff] at hc4
                  refine KC.skip ?_
                  refine KQ.seq ?_
                  refine KC.condT rfl ?_
                  refine KC.seq ?_
                  refine KC.region ?_
                  refine KL.op (R.assign rfl rfl) rfl rfl rfl ?_
                  refine KL.nil ?_
                  refine KQ.seq ?_
                  refine KC.ret ?_
                  refine KQ.retBlock ?_
                  refine KQ.retThen ?_
                  refine KQ.ofRet ?_
                  refine KQ.fin1 Try.results9 rfl ?_
                  first
                    | exact ⟨congrArg Value.bool (decide_eq_true (by omega)).symm, rfl⟩
                    | exact ⟨congrArg Value.bool (decide_eq_false (by omega)).symm, rfl⟩
                · intro hc4
                  try simp only [decide_eq_true_eq, decide_eq_false_iff_not, Bool.not_eq_true', Bool.not_eq_false', Bool.and_eq_true, Bool.or_eq_false_iff] at hc4
                  refine KC.seq ?_
                  refine KC.region ?_
                  refine KL.op (R.eql rfl rfl rfl) rfl rfl rfl ?_
                  refine KL.op (R.assign rfl rfl) rfl rfl rfl ?_
                  refine KL.nil ?_
                  refine KQ.seq ?_
                  refine KC.iteL rfl ?_ ?_
                  · intro hc4
                    try simp only [decide_eq_true_eq, decide_eq_false_iff_not, Bool.not_eq_true', Bool.not_eq_false', Bool.and_eq_true, Bool.or_eq_false_iff] at hc4
                    refine KC.skip ?_
                    refine KQ.seq ?_
                    refine KC.condT rfl ?_
                    refine KC.seq ?_
                    refine KC.region ?_
                    refine KL.op (R.assign rfl rfl) rfl rfl rfl ?_
                    refine KL.nil ?_
                    refine KQ.seq ?_
                    refine KC.ret ?_
                    refine KQ.retBlock ?_
                    refine KQ.retThen ?_
                    refine KQ.ofRet ?_
                    refine KQ.fin1 Try.results9 rfl ?_
                    first
                      | exact ⟨congrArg Value.bool (decide_eq_true (by omega)).symm, rfl⟩
                      | exact ⟨congrArg Value.bool (decide_eq_false (by omega)).symm, rfl⟩
                  · intro hc4
                    try simp only [decide_eq_true_eq, decide_eq_false_iff_not, Bool.not_eq_true', Bool.not_eq_false', Bool.and_eq_true, Bool.or_eq_false_iff] at hc4
                    refine KC.seq ?_
                    refine KC.region ?_
                    refine KL.op (R.eql rfl rfl rfl) rfl rfl rfl ?_
                    refine KL.op (R.assign rfl rfl) rfl rfl rfl ?_
                    refine KL.nil ?_
                    refine KQ.seq ?_
                    refine KC.iteL rfl ?_ ?_
                    · intro hc4
                      try simp only [decide_eq_true_eq, decide_eq_false_iff_not, Bool.not_eq_true', Bool.not_eq_false', Bool.and_eq_true, Bool.or_eq_false_iff] at hc4
                      refine KC.skip ?_
                      refine KQ.seq ?_
                      refine KC.condT rfl ?_
                      refine KC.seq ?_
                      refine KC.region ?_
                      refine KL.op (R.assign rfl rfl) rfl rfl rfl ?_
                      refine KL.nil ?_
                      refine KQ.seq ?_
                      refine KC.ret ?_
                      refine KQ.retBlock ?_
                      refine KQ.retThen ?_
                      refine KQ.ofRet ?_
                      refine KQ.fin1 Try.results9 rfl ?_
                      first
                        | exact ⟨congrArg Value.bool (decide_eq_true (by omega)).symm, rfl⟩
                        | exact ⟨congrArg Value.bool (decide_eq_false (by omega)).symm, rfl⟩
                    · intro hc4
                      try simp only [decide_eq_true_eq, decide_eq_false_iff_not, Bool.not_eq_true', Bool.not_eq_false', Bool.and_eq_true, Bool.or_eq_false_iff] at hc4
                      refine KC.seq ?_
                      refine KC.region ?_
                      refine KL.op (R.eql rfl rfl rfl) rfl rfl rfl ?_
                      refine KL.op (R.assign rfl rfl) rfl rfl rfl ?_
                      refine KL.nil ?_
                      refine KQ.seq ?_
                      refine KC.iteL rfl ?_ ?_
                      · intro hc4
                        try simp only [decide_eq_true_eq, decide_eq_false_iff_not, Bool.not_eq_true', Bool.not_eq_false', Bool.and_eq_true, Bool.or_eq_false_iff] at hc4
                        refine KC.skip ?_
                        refine KQ.seq ?_
                        refine KC.condT rfl ?_
                        refine KC.seq ?_
                        refine KC.region ?_
                        refine KL.op (R.assign rfl rfl) rfl rfl rfl ?_
                        refine KL.nil ?_
                        refine KQ.seq ?_
                        refine KC.ret ?_
                        refine KQ.retBlock ?_
                        refine KQ.retThen ?_
                        refine KQ.ofRet ?_
                        refine KQ.fin1 Try.results9 rfl ?_
                        first
                          | exact ⟨congrArg Value.bool (decide_eq_true (by omega)).symm, rfl⟩
                          | exact ⟨congrArg Value.bool (decide_eq_false (by omega)).symm, rfl⟩
                      · intro hc4
                        try simp only [decide_eq_true_eq, decide_eq_false_iff_not, Bool.not_eq_true', Bool.not_eq_false', Bool.and_eq_true, Bool.or_eq_false_iff] at hc4
                        refine KC.region ?_
                        refine KL.op (R.eql rfl rfl rfl) rfl rfl rfl ?_
                        refine KL.op (R.assign rfl rfl) rfl rfl rfl ?_
                        refine KL.nil ?_
                        refine KQ.seq ?_
                        refine KC.iteL rfl ?_ ?_
                        · intro hc4
                          try simp only [decide_eq_true_eq, decide_eq_false_iff_not, Bool.not_eq_true', Bool.not_eq_false', Bool.and_eq_true, Bool.or_eq_false_iff] at hc4
                          refine KC.seq ?_
                          refine KC.region ?_
                          refine KL.op (R.assign rfl rfl) rfl rfl rfl ?_
                          refine KL.nil ?_
                          refine KQ.seq ?_
                          refine KC.ret ?_
                          refine KQ.retBlock ?_
                          refine KQ.retThen ?_
                          refine KQ.ofRet ?_
                          refine KQ.fin1 Try.results9 rfl ?_
                          first
                            | exact ⟨congrArg Value.bool (decide_eq_true (by omega)).symm, rfl⟩
                            | exact ⟨congrArg Value.bool (decide_eq_false (by omega)).symm, rfl⟩
                        · intro hc4
                          try simp only [decide_eq_true_eq, decide_eq_false_iff_not, Bool.not_eq_true', Bool.not_eq_false', Bool.and_eq_true, Bool.or_eq_false_iff] at hc4
                          refine KC.skip ?_
                          refine KQ.normBlock ?_
                          refine KQ.seq ?_
                          refine KC.seq ?_
                          refine KC.region ?_
                          refine KL.op (R.assign rfl rfl) rfl rfl rfl ?_
                          refine KL.nil ?_
                          refine KQ.seq ?_
                          refine KC.ret ?_
                          refine KQ.ofRet ?_
                          refine KQ.fin1 Try.results9 rfl ?_
                          first
                            | exact ⟨congrArg Value.bool (decide_eq_true (by omega)).symm, rfl⟩
                            | exact ⟨congrArg Value.bool (decide_eq_false (by omega)).symm, rfl⟩


def ops12 : List Int := [0, 3, 4, 5, 11, 12, 13, 14, 15, 16, 17, 64]
theorem ends_iff (op : Int) : ends op = true ↔ op ∈ ops12 := by
  unfold ends ops12
  simp only [List.mem_cons, List.not_mem_nil, or_false, decide_eq_true_eq]
  omega

set_option maxRecDepth 100000 in
set_option maxHeartbeats 4000000 in
theorem REnds_k {H : Heap} (op : Int) : Ct Try.prog 10 [.int .u8 op] H (fun u H' => u = .bool (ends op) ∧ Old H H') := by
  refine Ct.mk Try.func10 rfl Try.ntmps10 rfl ?_
  intro W0 hW0
  have o0 : Old H H := Old.refl H
  refine KC.seq ?_
  refine KC.region ?_
  refine KL.op (R.assign rfl rfl) rfl rfl rfl ?_
  refine KL.nil ?_
  refine KQ.seq ?_
  refine KC.seq ?_
  refine KC.region ?_
  refine KL.opM (M.lit rfl Try.underlying47 zs5 (by decide) rfl rfl rfl) rfl rfl rfl ?_
  rintro _ H1 ⟨rfl, n1⟩
  have z1 := n1.2.1
  have o0 := o0.trans n1.1
  have b1 := n1.2.2
  have sl := Sl.lits (l := ops12) n1 rfl (by decide) (by decide)
  refine KL.op (R.assign rfl rfl) rfl rfl rfl ?_
  refine KL.nil ?_
  refine KQ.seq ?_
  refine KC.seq ?_
  refine KC.seq ?_
  refine KC.region ?_
  refine KL.op (R.assign rfl rfl) rfl rfl rfl ?_
  refine KL.nil ?_
  refine KQ.seq ?_
  refine KC.block ?_
  refine KC.loopD (κ := Nat) [6, 7, 8, 9, 12, 13, 14, 15, 16, 17, 2, 10, 11, 4] (fun k => [(4, .int .i64 (k : Nat))]) (fun k Hl => k ≤ ops12.length ∧ H1 = Hl ∧ ∀ j, j < k → ops12.getD j default ≠ op) (fun k => ops12.length - k) 0 ?_ ?_ ?_
  · exact (Sub.cons rfl (Ext.sub (Ext.refl _ _)))
  · exact ⟨Nat.zero_le _, rfl, fun j hj => by omega⟩
  · rintro k H2 ⟨hk, rfl, hno⟩
    have h12 : ops12.length = 12 := rfl
    refine KC.seq ?_
    refine KC.seq ?_
    refine KC.region ?_
    refine KL.op (R.move rfl rfl) rfl rfl rfl ?_
    refine KL.op (R.move rfl rfl) rfl rfl rfl ?_
    refine KL.op (R.lenS rfl Try.underlying47 rfl sl) rfl rfl rfl ?_
    refine KL.op (R.lss rfl rfl rfl) rfl rfl rfl ?_
    refine KL.nil ?_
    refine KQ.seq ?_
    refine KC.iteL rfl ?_ ?_
    · intro hc9
      try simp only [decide_eq_true_eq, decide_eq_false_iff_not, Bool.not_eq_true', Bool.not_eq_false', Bool.and_eq_true, Bool.or_eq_false_iff] at hc9
      refine KC.skip ?_
      refine KQ.seq ?_
      refine KC.seq ?_
      refine KC.block ?_
      refine KC.seq ?_
      refine KC.region ?_
      refine KL.op (R.move rfl rfl) rfl rfl rfl ?_
      refine KL.op (R.move rfl rfl) rfl rfl rfl ?_
      refine KL.op (R.index1 (j := k) rfl Try.underlying47 sz5 rfl rfl sl rfl (by omega)) rfl rfl rfl ?_
      refine KL.op (R.load rfl Try.underlying5 rfl rfl (sl.int k (by omega)).1) rfl rfl rfl ?_
      refine KL.op (R.move rfl rfl) rfl rfl rfl ?_
      refine KL.op (R.eql rfl rfl rfl) rfl rfl rfl ?_
      refine KL.nil ?_
      refine KQ.seq ?_
      refine KC.iteL rfl ?_ ?_
      · intro hc17
        try simp only [decide_eq_true_eq, decide_eq_false_iff_not, Bool.not_eq_true', Bool.not_eq_false', Bool.and_eq_true, Bool.or_eq_false_iff] at hc17
        refine KC.seq ?_
        refine KC.region ?_
        refine KL.op (R.assign rfl rfl) rfl rfl rfl ?_
        refine KL.nil ?_
        refine KQ.seq ?_
        refine KC.ret ?_
        refine KQ.retBlock ?_
        refine KQ.retThen ?_
        refine KQ.retThen ?_
        refine KQ.retBlock ?_
        refine KQ.retThen ?_
        refine KQ.ofRet ?_
        refine KQ.fin1 Try.results10 rfl ?_
        first
          | (have e : ends op = true := (ends_iff op).2 (hc17 ▸ (by rw [List.getD_eq_getElem?_getD, List.getElem?_eq_getElem (show k < ops12.length by omega)]; exact List.getElem_mem _))
             exact ⟨by rw [e], o0⟩)
          | (have e : ends op = false := by
               rw [← Bool.not_eq_true, ends_iff]
               intro hm
               obtain ⟨j, hj, he⟩ := List.getElem_of_mem hm
               exact hno j (by omega) (by rw [List.getD_eq_getElem?_getD, List.getElem?_eq_getElem hj]; exact he)
             exact ⟨by rw [e], o0⟩)
      · intro hc17
        try simp only [decide_eq_true_eq, decide_eq_false_iff_not, Bool.not_eq_true', Bool.not_eq_false', Bool.and_eq_true, Bool.or_eq_false_iff] at hc17
        refine KC.skip ?_
        refine KQ.normBlock ?_
        refine KQ.seq ?_
        refine KC.region ?_
        refine KL.op (R.move rfl rfl) rfl rfl rfl ?_
        refine KL.op ((R.add rfl rfl rfl (by dsimp only [InR]; omega)).val (congrArg (Value.int .i64) (show (k : Int) + 1 = ((k + 1 : Nat) : Int) by omega))) rfl rfl rfl ?_
        refine KL.op (R.assign rfl rfl) rfl rfl rfl ?_
        refine KL.nil ?_
        refine KQ.again (k + 1) ?_ ?_ ?_
        · exact (Sub.cons rfl (Ext.sub (by repeat (first | exact Ext.refl _ _ | refine Ext.put rfl ?_ | refine Ext.drop rfl ?_))))
        · omega
        · exact ⟨by omega, rfl, fun j hj => by
            by_cases e : j = k
            · subst e; exact hc17
            · exact hno j (by omega)⟩
    · intro hc9
      try simp only [decide_eq_true_eq, decide_eq_false_iff_not, Bool.not_eq_true', Bool.not_eq_false', Bool.and_eq_true, Bool.or_eq_false_iff] at hc9
      refine KC.exit ?_
      refine KQ.exitThen ?_
      refine KQ.exitThen ?_
      refine KQ.hit ?_
      refine KQ.seq ?_
      refine KC.seq ?_
      refine KC.region ?_
      refine KL.op (R.assign rfl rfl) rfl rfl rfl ?_
      refine KL.nil ?_
      refine KQ.seq ?_
      refine KC.ret ?_
      refine KQ.ofRet ?_
      refine KQ.fin1 Try.results10 rfl ?_
      first
        | (have e : ends op = true := (ends_iff op).2 (hc17 ▸ (by rw [List.getD_eq_getElem?_getD, List.getElem?_eq_getElem (show k < ops12.length by omega)]; exact List.getElem_mem _))
           exact ⟨by rw [e], o0⟩)
        | (have e : ends op = false := by
             rw [← Bool.not_eq_true, ends_iff]
             intro hm
             obtain ⟨j, hj, he⟩ := List.getElem_of_mem hm
             exact hno j (by omega) (by rw [List.getD_eq_getElem?_getD, List.getElem?_eq_getElem hj]; exact he)
           exact ⟨by rw [e], o0⟩)

set_option maxRecDepth 100000 in
set_option maxHeartbeats 4000000 in
theorem All_k {H : Heap} {v : Value} (h1 : v.cells = #[v]) (h2 : v.oneCell' = true) : Ct Try.prog 11 [v] H (fun u H' => ∃ g, u = .func (.func 17) #[] #[.pointer (some ⟨g, 0, none⟩)] ∧ H'[g]? = some (.cells [.func (.func 16) #[.agg [v].toArray] #[]].toArray 33 (0, 0)) ∧ H.size ≤ g ∧ Old H H') := by
  refine Ct.mk Try.func11 rfl Try.ntmps11 rfl ?_
  intro W0 hW0
  have o0 : Old H H := Old.refl H
  refine KC.seq ?_
  refine KC.region ?_
  refine KL.op (R.assign rfl rfl) rfl rfl rfl ?_
  refine KL.nil ?_
  refine KQ.seq ?_
  refine KC.seq ?_
  refine KC.region ?_
  refine KL.op (R.move rfl rfl) rfl rfl rfl ?_
  refine KL.op (R.buildL rfl Try.underlying51 zr51 [(0, 1)] (fun w => by kernel_rfl) rfl ⟨⟨_, rfl, rfl⟩, trivial⟩ rfl rfl ⟨⟨_, rfl, h1⟩, trivial⟩ rfl) rfl rfl rfl ?_
  refine KL.op (R.makeFunc rfl rfl rfl) rfl rfl rfl ?_
  refine KL.opM (M.alloc rfl zr33 rfl) rfl rfl rfl ?_
  rintro _ H1 ⟨rfl, n1⟩
  have z1 := n1.2.1
  have o0 := o0.trans n1.1
  have b1 := n1.2.2
  have ba := b1
  refine KL.opS (S.store rfl sz33 rfl rfl rfl rfl ba (by simp)) rfl rfl ?_
  rintro H2 ⟨u2, b2⟩
  have o0 := o0.upd u2 (by omega)
  have zu2 := u2.1
  have ba := b2
  refine KL.nil ?_
  refine KQ.seq ?_
  refine KC.seq ?_
  refine KC.region ?_
  refine KL.op (R.makeFunc rfl rfl rfl) rfl rfl rfl ?_
  refine KL.op (R.assign rfl rfl) rfl rfl rfl ?_
  refine KL.nil ?_
  refine KQ.seq ?_
  refine KC.ret ?_
  refine KQ.ofRet ?_
  refine KQ.fin1 Try.results11 rfl ?_
  exact ⟨_, rfl, ba, by omega, o0⟩

set_option maxRecDepth 100000 in
set_option maxHeartbeats 4000000 in
theorem parts_ct {Hb H : Heap} {v : Value} {l : List Ins} (hs : Sl 5 EIns Hb v l) (ob : Old Hb H) (hl : l.length ≤ 1000000) (yl : Nat) (J Jx : Nat → Heap → (Nat → Prop) → Prop) (O0 : Nat → Prop) (hJ : Abides H.size J) (hJx : Abides H.size Jx) (hN : ∀ b, b < Hb.size → ¬ O0 b) (hO : ∀ b, O0 b → b < H.size)
  (hy : ∀ k Hk O args, nth (hand (raw l)) k = some args → H.size ≤ Hk.size → J k Hk O → YCt Try.prog yl args Hk (fun v H' => ∃ O', StepO O O' Hk H' ∧ ((v = .bool true ∧ J (k + 1) H' O') ∨ (v = .bool false ∧ Jx k H' O')))) (h0 : J 0 H O0) : Ct Try.prog 16 [.agg [v].toArray, .func (.yield yl) #[] #[]] H (fun _ H' => H.size ≤ H'.size ∧ ∃ O', J (hand (raw l)).length H' O' ∨ ∃ k, k < (hand (raw l)).length ∧ Jx k H' O') := by
  refine Ct.mk Try.func16 rfl Try.ntmps16 rfl ?_
  intro W0 hW0
  have o0 : OldB 0 H H := OldB.refl _ H
  have oJ : Old H H := Old.refl _
  have hlm := hs.lenM
  unfold maxLen at hlm
  have hc1 : v.cells = #[v] := hs.cells1
  refine KC.seq ?_
  refine KC.region ?_
  refine KL.opM (M.box rfl rfl rfl) rfl rfl rfl ?_
  rintro _ H1 ⟨rfl, n1⟩
  have z1 := n1.2.1
  have o0 := o0.trans ((n1.1).b (by omega))
  have ob := ob.trans n1.1
  have oJ := oJ.trans n1.1
  have b1 := n1.2.2
  have bc := b1
  refine KL.nil ?_
  refine KQ.seq ?_
  refine KC.seq ?_
  refine KC.region ?_
  refine KL.op (R.assign rfl rfl) rfl rfl rfl ?_
  refine KL.nil ?_
  refine KQ.seq ?_
  refine KC.seq ?_
  refine KC.region ?_
  refine KL.op ((by first | exact R.fieldAddr rfl Try.underlying51 rfl rfl sz22 rfl | exact R.fieldAddrP rfl Try.underlying51 rfl rfl sz22 rfl)) rfl rfl rfl ?_
  refine KL.op (R.load rfl Try.underlying22 rfl rfl (cell_of bc rfl)) rfl rfl rfl ?_
  refine KL.op (R.lenS rfl Try.underlying22 rfl hs) rfl rfl rfl ?_
  refine KL.op (R.move rfl rfl) rfl rfl rfl ?_
  refine KL.nil ?_
  refine KQ.seq ?_
  refine KC.block ?_
  refine KC.loopD (κ := Nat × Nat) [12, 13, 14, 15, 6, 5, 16, 17, 18, 19, 20, 21, 22, 23, 24, 25, 26, 27, 28, 29, 30, 31, 32, 33, 34, 35, 36, 37, 38, 7, 39, 40, 4, 41, 42, 43, 44, 45, 11] (fun k => [(11, .int .i64 (k.1 : Nat)), (4, .int .i64 (k.2 : Nat))]) (fun k Hl => k.1 ≤ l.length ∧ k.2 = (cut l k.1).1 ∧ OldB 0 H Hl ∧ Old Hb Hl ∧ Hl[Array.size H]? = some (.cells [v].toArray 51 (0, 0)) ∧ ∃ O, J (cut l k.1).2.length Hl O ∧ (∀ b, b < Hb.size → ¬ O b) ∧ ¬ O (Array.size H)) (fun k => l.length - k.1) (0, 0) ?_ ?_ ?_
  · exact (Sub.cons rfl (Sub.cons rfl (Ext.sub (Ext.refl _ _))))
  · exact ⟨Nat.zero_le _, rfl, o0, ob, bc, O0, hJ _ _ _ _ h0 oJ.1 (fun b hb _ => oJ.2 b hb), hN, fun h => by have := hO _ h; omega⟩
  · rintro ⟨k, ka⟩ H2 ⟨hk, hka, o0, ob, bc, O, hj, hOb, hOc⟩
    have zl_H2 := o0.1
    dsimp only at hk hka hj
    subst hka
    have zl := o0.1
    have zob := ob.1
    have zb := blk_lt bc
    have hcl := cut_le l k
    have hcs := csum_sub l (cut l k).1 (k + 1)
    have oJ : Old H2 H2 := Old.refl _
    refine KC.seq ?_
    refine KC.region ?_
    refine KL.op (R.lss rfl rfl rfl) rfl rfl rfl ?_
    refine KL.nil ?_
    refine KQ.seq ?_
    refine KC.seq ?_
    refine KC.iteL rfl ?_ ?_
    · intro hc12
      try simp only [decide_eq_true_eq, decide_eq_false_iff_not, Bool.not_eq_true', Bool.not_eq_false', Bool.and_eq_true, Bool.or_eq_false_iff] at hc12
      obtain ⟨u, hcx, hu, hx1, hx2, hx3, hx4⟩ := hs.insAt k (by omega)
      refine KC.skip ?_
      refine KQ.seq ?_
      refine KC.seq ?_
      refine KC.block ?_
      refine KC.seq ?_
      refine KC.region ?_
      refine KL.op (R.move rfl rfl) rfl rfl rfl ?_
      refine KL.op (R.index (j := k) rfl Try.underlying22 sz41 rfl rfl hs rfl (by omega)) rfl rfl rfl ?_
      refine KL.op (R.loadAgg rfl Try.underlying41 rfl sz41 rfl (ob.cells hcx) rfl) rfl rfl rfl ?_
      refine KL.opM (M.alloc rfl zr41 rfl) rfl rfl rfl ?_
      rintro _ H3 ⟨rfl, n3⟩
      have z3 := n3.2.1
      have o0 := o0.trans ((n3.1).b (by omega))
      have ob := ob.trans n3.1
      have bc := (n3.1).blk bc
      have oJ := oJ.trans n3.1
      have b3 := n3.2.2
      have bx := b3
      refine KL.op (R.assign rfl rfl) rfl rfl rfl ?_
      have hu1 := hu.one
      refine KL.opS (S.storeAgg rfl sz41 rfl rfl (rfl) (by intro u hu; simp only [List.mem_cons, List.not_mem_nil, or_false] at hu; rcases hu with rfl | rfl | rfl | rfl | rfl <;> first | rfl | exact hu1) bx (by simp)) rfl rfl ?_
      rintro H4 ⟨u4, b4⟩
      have o0 := o0.trans (OldB.upd u4 (by omega))
      have zu4 := u4.1
      have ob := ob.upd u4 (by omega)
      have bc := ((u4).2 _ (by omega)).trans bc
      have oJ := oJ.upd u4 (by omega)
      have bx := b4
      rw [over_all (by rfl)] at bx
      refine KL.nil ?_
      refine KQ.seq ?_
      refine KC.seq ?_
      refine KC.seq ?_
      refine KC.region ?_
      refine KL.op ((by first | exact R.fieldAddr rfl Try.underlying41 rfl rfl sz5 rfl | exact R.fieldAddrP rfl Try.underlying41 rfl rfl sz5 rfl)) rfl rfl rfl ?_
      refine KL.op (R.load rfl Try.underlying5 rfl rfl (by first | exact cell_of bc rfl | exact cell_of bx rfl | assumption)) rfl rfl rfl ?_
      refine KL.call rfl rfl rfl rfl Try.call9 rfl rfl rfl (Ends_k _) ?_
      rintro _ _ ⟨rfl, rfl⟩
      refine KL.op (R.not rfl rfl) rfl rfl rfl ?_
      refine KL.op (R.move rfl rfl) rfl rfl rfl ?_
      refine KL.case (d := 20) rfl ?_ ?_
      · intro hg20
        try simp only [decide_eq_true_eq, decide_eq_false_iff_not, Bool.not_eq_true', Bool.not_eq_false', Bool.and_eq_true, Bool.or_eq_false_iff] at hg20
        refine KL.op (R.move rfl rfl) rfl rfl rfl ?_
        refine KL.op ((by first | exact R.fieldAddr rfl Try.underlying51 rfl rfl sz22 rfl | exact R.fieldAddrP rfl Try.underlying51 rfl rfl sz22 rfl)) rfl rfl rfl ?_
        refine KL.op (R.load rfl Try.underlying22 rfl rfl (by first | exact cell_of bc rfl | exact cell_of bx rfl | assumption)) rfl rfl rfl ?_
        refine KL.op (R.lenS rfl Try.underlying22 rfl hs) rfl rfl rfl ?_
        refine KL.op (R.sub rfl rfl rfl (by dsimp only [InR]; omega)) rfl rfl rfl ?_
        refine KL.op (R.lss rfl rfl rfl) rfl rfl rfl ?_
        refine KL.op (R.pick rfl rfl rfl) rfl rfl rfl ?_
        refine KL.nil ?_
        refine KQ.seq ?_
        refine KC.iteL rfl ?_ ?_
        · intro hc27
          try simp only [decide_eq_true_eq, decide_eq_false_iff_not, Bool.not_eq_true', Bool.not_eq_false', Bool.and_eq_true, Bool.or_eq_false_iff] at hc27
          have hcut : cutHere l k = false := by unfold cutHere; rw [Bool.or_eq_false_iff]; exact ⟨by simpa using hg20, decide_eq_false (by omega)⟩
          refine KC.exit ?_
          refine KQ.exitThen ?_
          refine KQ.hit ?_
          refine KQ.seq ?_
          refine KC.region ?_
          refine KL.op ((R.add rfl rfl rfl (by dsimp only [InR]; omega)).val (congrArg (Value.int .i64) (show (k : Int) + 1 = ((k + 1 : Nat) : Int) by omega))) rfl rfl rfl ?_
          refine KL.op (R.move rfl rfl) rfl rfl rfl ?_
          refine KL.nil ?_
          refine KQ.again ((k + 1, (cut l k).1)) ?_ ?_ ?_
          · exact (Sub.cons rfl (Sub.cons rfl (Ext.sub (by repeat (first | exact Ext.refl _ _ | refine Ext.put rfl ?_ | refine Ext.drop rfl ?_)))))
          · show l.length - (k + 1) < l.length - k; omega
          · first
              | exact ⟨by show k + 1 ≤ _; omega, by dsimp only; rw [cut_no hcut], o0, ob, bc, O, by dsimp only; rw [cut_no hcut]; exact hJ _ _ _ _ hj oJ.1 (fun b hb _ => oJ.2 b hb), hOb, hOc⟩
              | exact ⟨by show k + 1 ≤ _; omega, by dsimp only; rw [cut_yes hcut], o0, ob, bc, O2, by dsimp only; rw [cut_yes hcut]; simpa using hj2, hOb2, hOc2⟩
        · intro hc27
          try simp only [decide_eq_true_eq, decide_eq_false_iff_not, Bool.not_eq_true', Bool.not_eq_false', Bool.and_eq_true, Bool.or_eq_false_iff] at hc27
          have hcut : cutHere l k = true := by
            unfold cutHere
            rw [Bool.or_eq_true]
            first
              | exact .inr (decide_eq_true (by omega))
              | exact .inl (by simpa using hg20)
          refine KC.skip ?_
          refine KQ.seq ?_
          refine KC.seq ?_
          refine KC.region ?_
          refine KL.op (R.move rfl rfl) rfl rfl rfl ?_
          refine KL.op (R.move rfl rfl) rfl rfl rfl ?_
          refine KL.op ((R.add rfl rfl rfl (by dsimp only [InR]; omega)).val (congrArg (Value.int .i64) (show (k : Int) + 1 = ((k + 1 : Nat) : Int) by omega))) rfl rfl rfl ?_
          refine KL.op ((by first | exact R.fieldAddr rfl Try.underlying51 rfl rfl sz22 rfl | exact R.fieldAddrP rfl Try.underlying51 rfl rfl sz22 rfl)) rfl rfl rfl ?_
          refine KL.op (R.load rfl Try.underlying22 rfl rfl (by first | exact cell_of bc rfl | exact cell_of bx rfl | assumption)) rfl rfl rfl ?_
          refine KL.op (R.move rfl rfl) rfl rfl rfl ?_
          refine KL.op (R.move rfl rfl) rfl rfl rfl ?_
          refine KL.op ((R.add rfl rfl rfl (by dsimp only [InR]; omega)).val (congrArg (Value.int .i64) (show (k : Int) + 1 = ((k + 1 : Nat) : Int) by omega))) rfl rfl rfl ?_
          refine KL.op (R.slice rfl Try.underlying22 sz41 rfl hs (bnd.mk (r := (cut l k).1) rfl rfl) (bnd.mk (r := k + 1) rfl rfl) (by omega) (by omega)) rfl rfl rfl ?_
          refine KL.call rfl rfl rfl rfl Try.call12 rfl rfl rfl (Sum_k ((hs.sub (lo := (cut l k).1) (hi := k + 1) (by omega) (by omega)).old ob) (by rw [List.length_drop, List.length_take]; omega)) ?_
          rintro _ H5 ⟨rfl, ox⟩
          have zc_H5 := (ox).1
          have o0 := o0.trans ((ox).b (by omega))
          have ob := ob.trans ox
          have bc := (ox).blk bc
          have oJ := oJ.trans ox
          have bx := (ox).blk bx
          refine KL.op (R.buildL rfl Try.underlying31 zr31 [(0, 1), (1, 1), (2, 1)] (fun w => by kernel_rfl) rfl ⟨⟨_, rfl, rfl⟩, ⟨_, rfl, rfl⟩, ⟨_, rfl, rfl⟩, trivial⟩ rfl rfl ⟨⟨_, rfl, by first | rfl⟩, ⟨_, rfl, by first | rfl⟩, ⟨_, rfl, by first | rfl⟩, trivial⟩ rfl) rfl rfl rfl ?_
          refine KL.opM (M.alloc rfl zr31 rfl) rfl rfl rfl ?_
          rintro _ H6 ⟨rfl, n6⟩
          have z6 := n6.2.1
          have o0 := o0.trans ((n6.1).b (by omega))
          have ob := ob.trans n6.1
          have bc := (n6.1).blk bc
          have oJ := oJ.trans n6.1
          have bx := (n6.1).blk bx
          have b6 := n6.2.2
          have bp := b6
          refine KL.opS (S.storeAgg rfl sz31 rfl rfl (rfl) (by intro u hu; simp only [List.mem_cons, List.not_mem_nil, or_false] at hu; rcases hu with rfl | rfl | rfl <;> rfl) bp (by simp)) rfl rfl ?_
          rintro H7 ⟨u7, b7⟩
          have o0 := o0.trans (OldB.upd u7 (by omega))
          have zu7 := u7.1
          have ob := ob.upd u7 (by omega)
          have bc := ((u7).2 _ (by omega)).trans bc
          have oJ := oJ.upd u7 (by omega)
          have bx := ((u7).2 _ (by omega)).trans bx
          have bp := b7
          rw [over_all (by rfl)] at bp
          refine KL.nil ?_
          refine KQ.seq ?_
          refine KC.seq ?_
          refine KC.region ?_
          refine KL.op (R.move rfl rfl) rfl rfl rfl ?_
          refine KL.op ((R.add rfl rfl rfl (by dsimp only [InR]; omega)).val (congrArg (Value.int .i64) (show (k : Int) + 1 = ((k + 1 : Nat) : Int) by omega))) rfl rfl rfl ?_
          refine KL.op (R.assign rfl rfl) rfl rfl rfl ?_
          refine KL.nil ?_
          refine KQ.seq ?_
          refine KC.seq ?_
          refine KC.regionY ?_
          refine KLY.op (R.move rfl rfl) rfl rfl rfl rfl ?_
          refine KLY.op (R.loadAgg (cs := Pt.cells ⟨(cut l k).1, k + 1, csum ((l.take (k + 1)).drop (cut l k).1)⟩) rfl Try.underlying31 rfl sz31 rfl (cells_of bp) rfl) rfl rfl rfl rfl ?_
          have hjk := hJ _ _ _ _ hj oJ.1 (fun b hb _ => oJ.2 b hb)
          refine KLY.yield rfl rfl rfl rfl rfl rfl (hy (cut l k).2.length _ O _ (nth_map (raw_at (by omega) hcut)) (by omega) hjk) ?_
          rintro vy H8 ⟨O2, st, hR⟩
          have zst := st.1
          have ob : Old Hb H8 := ⟨by have := ob.1; omega, fun b hb => (st.2.1 b (by have := ob.1; omega) (hOb b hb)).trans (ob.2 b hb)⟩
          have bc := (st.2.1 _ (blk_lt bc) hOc).trans bc
          have o0 : OldB 0 H H8 := ⟨by omega, fun b hb => by omega⟩
          have hOb2 : ∀ b, b < Hb.size → ¬ O2 b := fun b hb h => (st.2.2 b h).elim (hOb b hb) (fun h => by have := ob.1; omega)
          have hOc2 : ¬ O2 (Array.size H) := fun h => (st.2.2 _ h).elim hOc (fun h => by omega)
          rcases hR with ⟨rfl, hj2⟩ | ⟨rfl, hjx⟩
          · skip
            refine KLY.op (R.not rfl rfl) rfl rfl rfl rfl ?_
            refine KLY.nil ?_
            refine KQ.seq ?_
            refine KC.condF rfl ?_
            refine KC.skip ?_
            refine KQ.normBlock ?_
            refine KQ.seq ?_
            refine KC.region ?_
            refine KL.op ((R.add rfl rfl rfl (by dsimp only [InR]; omega)).val (congrArg (Value.int .i64) (show (k : Int) + 1 = ((k + 1 : Nat) : Int) by omega))) rfl rfl rfl ?_
            refine KL.op (R.move rfl rfl) rfl rfl rfl ?_
            refine KL.nil ?_
            refine KQ.again ((k + 1, k + 1)) ?_ ?_ ?_
            · exact (Sub.cons rfl (Sub.cons rfl (Ext.sub (by repeat (first | exact Ext.refl _ _ | refine Ext.put rfl ?_ | refine Ext.drop rfl ?_)))))
            · show l.length - (k + 1) < l.length - k; omega
            · first
                | exact ⟨by show k + 1 ≤ _; omega, by dsimp only; rw [cut_no hcut], o0, ob, bc, O, by dsimp only; rw [cut_no hcut]; exact hJ _ _ _ _ hj oJ.1 (fun b hb _ => oJ.2 b hb), hOb, hOc⟩
                | exact ⟨by show k + 1 ≤ _; omega, by dsimp only; rw [cut_yes hcut], o0, ob, bc, O2, by dsimp only; rw [cut_yes hcut]; simpa using hj2, hOb2, hOc2⟩
          · skip
            refine KLY.op (R.not rfl rfl) rfl rfl rfl rfl ?_
            refine KLY.nil ?_
            refine KQ.seq ?_
            refine KC.condT rfl ?_
            refine KC.ret ?_
            refine KQ.retBlock ?_
            refine KQ.retThen ?_
            refine KQ.retThen ?_
            refine KQ.retBlock ?_
            refine KQ.ofRet ?_
            refine KQ.fin0 Try.results16 ?_
            first
              | (have e : k = l.length := by omega
                 subst e
                 exact ⟨by omega, O, .inl (by
                   have e2 : (hand (raw l)).length = (cut l l.length).2.length := by unfold hand raw; simp
                   rw [e2]; exact hJ _ _ _ _ hj oJ.1 (fun b hb _ => oJ.2 b hb))⟩)
              | exact ⟨by omega, O2, .inr ⟨_, nth_lt' (nth_map (f := fun p : Pt => [Value.agg p.cells.toArray]) (raw_at (by omega) hcut)), hjx⟩⟩
      · intro hg20
        try simp only [decide_eq_true_eq, decide_eq_false_iff_not, Bool.not_eq_true', Bool.not_eq_false', Bool.and_eq_true, Bool.or_eq_false_iff] at hg20
        have hcut : cutHere l k = true := by unfold cutHere; rw [Bool.or_eq_true]; exact .inl (by simpa using hg20)
        refine KL.skip rfl rfl rfl ?_
        refine KL.skip rfl rfl rfl ?_
        refine KL.skip rfl rfl rfl ?_
        refine KL.skip rfl rfl rfl ?_
        refine KL.skip rfl rfl rfl ?_
        refine KL.skip rfl rfl rfl ?_
        refine KL.op (R.pick rfl rfl rfl) rfl rfl rfl ?_
        refine KL.nil ?_
        refine KQ.seq ?_
        refine KC.condF rfl ?_
        refine KC.skip ?_
        refine KQ.seq ?_
        refine KC.seq ?_
        refine KC.region ?_
        refine KL.op (R.move rfl rfl) rfl rfl rfl ?_
        refine KL.op (R.move rfl rfl) rfl rfl rfl ?_
        refine KL.op ((R.add rfl rfl rfl (by dsimp only [InR]; omega)).val (congrArg (Value.int .i64) (show (k : Int) + 1 = ((k + 1 : Nat) : Int) by omega))) rfl rfl rfl ?_
        refine KL.op ((by first | exact R.fieldAddr rfl Try.underlying51 rfl rfl sz22 rfl | exact R.fieldAddrP rfl Try.underlying51 rfl rfl sz22 rfl)) rfl rfl rfl ?_
        refine KL.op (R.load rfl Try.underlying22 rfl rfl (by first | exact cell_of bc rfl | exact cell_of bx rfl | assumption)) rfl rfl rfl ?_
        refine KL.op (R.move rfl rfl) rfl rfl rfl ?_
        refine KL.op (R.move rfl rfl) rfl rfl rfl ?_
        refine KL.op ((R.add rfl rfl rfl (by dsimp only [InR]; omega)).val (congrArg (Value.int .i64) (show (k : Int) + 1 = ((k + 1 : Nat) : Int) by omega))) rfl rfl rfl ?_
        refine KL.op (R.slice rfl Try.underlying22 sz41 rfl hs (bnd.mk (r := (cut l k).1) rfl rfl) (bnd.mk (r := k + 1) rfl rfl) (by omega) (by omega)) rfl rfl rfl ?_
        refine KL.call rfl rfl rfl rfl Try.call12 rfl rfl rfl (Sum_k ((hs.sub (lo := (cut l k).1) (hi := k + 1) (by omega) (by omega)).old ob) (by rw [List.length_drop, List.length_take]; omega)) ?_
        rintro _ H9 ⟨rfl, ox⟩
        have zc_H9 := (ox).1
        have o0 := o0.trans ((ox).b (by omega))
        have ob := ob.trans ox
        have bc := (ox).blk bc
        have oJ := oJ.trans ox
        have bx := (ox).blk bx
        refine KL.op (R.buildL rfl Try.underlying31 zr31 [(0, 1), (1, 1), (2, 1)] (fun w => by kernel_rfl) rfl ⟨⟨_, rfl, rfl⟩, ⟨_, rfl, rfl⟩, ⟨_, rfl, rfl⟩, trivial⟩ rfl rfl ⟨⟨_, rfl, by first | rfl⟩, ⟨_, rfl, by first | rfl⟩, ⟨_, rfl, by first | rfl⟩, trivial⟩ rfl) rfl rfl rfl ?_
        refine KL.opM (M.alloc rfl zr31 rfl) rfl rfl rfl ?_
        rintro _ H10 ⟨rfl, n10⟩
        have z10 := n10.2.1
        have o0 := o0.trans ((n10.1).b (by omega))
        have ob := ob.trans n10.1
        have bc := (n10.1).blk bc
        have oJ := oJ.trans n10.1
        have bx := (n10.1).blk bx
        have b10 := n10.2.2
        have bp := b10
        refine KL.opS (S.storeAgg rfl sz31 rfl rfl (rfl) (by intro u hu; simp only [List.mem_cons, List.not_mem_nil, or_false] at hu; rcases hu with rfl | rfl | rfl <;> rfl) bp (by simp)) rfl rfl ?_
        rintro H11 ⟨u11, b11⟩
        have o0 := o0.trans (OldB.upd u11 (by omega))
        have zu11 := u11.1
        have ob := ob.upd u11 (by omega)
        have bc := ((u11).2 _ (by omega)).trans bc
        have oJ := oJ.upd u11 (by omega)
        have bx := ((u11).2 _ (by omega)).trans bx
        have bp := b11
        rw [over_all (by rfl)] at bp
        refine KL.nil ?_
        refine KQ.seq ?_
        refine KC.seq ?_
        refine KC.region ?_
        refine KL.op (R.move rfl rfl) rfl rfl rfl ?_
        refine KL.op ((R.add rfl rfl rfl (by dsimp only [InR]; omega)).val (congrArg (Value.int .i64) (show (k : Int) + 1 = ((k + 1 : Nat) : Int) by omega))) rfl rfl rfl ?_
        refine KL.op (R.assign rfl rfl) rfl rfl rfl ?_
        refine KL.nil ?_
        refine KQ.seq ?_
        refine KC.seq ?_
        refine KC.regionY ?_
        refine KLY.op (R.move rfl rfl) rfl rfl rfl rfl ?_
        refine KLY.op (R.loadAgg (cs := Pt.cells ⟨(cut l k).1, k + 1, csum ((l.take (k + 1)).drop (cut l k).1)⟩) rfl Try.underlying31 rfl sz31 rfl (cells_of bp) rfl) rfl rfl rfl rfl ?_
        have hjk := hJ _ _ _ _ hj oJ.1 (fun b hb _ => oJ.2 b hb)
        refine KLY.yield rfl rfl rfl rfl rfl rfl (hy (cut l k).2.length _ O _ (nth_map (raw_at (by omega) hcut)) (by omega) hjk) ?_
        rintro vy H12 ⟨O2, st, hR⟩
        have zst := st.1
        have ob : Old Hb H12 := ⟨by have := ob.1; omega, fun b hb => (st.2.1 b (by have := ob.1; omega) (hOb b hb)).trans (ob.2 b hb)⟩
        have bc := (st.2.1 _ (blk_lt bc) hOc).trans bc
        have o0 : OldB 0 H H12 := ⟨by omega, fun b hb => by omega⟩
        have hOb2 : ∀ b, b < Hb.size → ¬ O2 b := fun b hb h => (st.2.2 b h).elim (hOb b hb) (fun h => by have := ob.1; omega)
        have hOc2 : ¬ O2 (Array.size H) := fun h => (st.2.2 _ h).elim hOc (fun h => by omega)
        rcases hR with ⟨rfl, hj2⟩ | ⟨rfl, hjx⟩
        · skip
          refine KLY.op (R.not rfl rfl) rfl rfl rfl rfl ?_
          refine KLY.nil ?_
          refine KQ.seq ?_
          refine KC.condF rfl ?_
          refine KC.skip ?_
          refine KQ.normBlock ?_
          refine KQ.seq ?_
          refine KC.region ?_
          refine KL.op ((R.add rfl rfl rfl (by dsimp only [InR]; omega)).val (congrArg (Value.int .i64) (show (k : Int) + 1 = ((k + 1 : Nat) : Int) by omega))) rfl rfl rfl ?_
          refine KL.op (R.move rfl rfl) rfl rfl rfl ?_
          refine KL.nil ?_
          refine KQ.again ((k + 1, k + 1)) ?_ ?_ ?_
          · exact (Sub.cons rfl (Sub.cons rfl (Ext.sub (by repeat (first | exact Ext.refl _ _ | refine Ext.put rfl ?_ | refine Ext.drop rfl ?_)))))
          · show l.length - (k + 1) < l.length - k; omega
          · first
              | exact ⟨by show k + 1 ≤ _; omega, by dsimp only; rw [cut_no hcut], o0, ob, bc, O, by dsimp only; rw [cut_no hcut]; exact hJ _ _ _ _ hj oJ.1 (fun b hb _ => oJ.2 b hb), hOb, hOc⟩
              | exact ⟨by show k + 1 ≤ _; omega, by dsimp only; rw [cut_yes hcut], o0, ob, bc, O2, by dsimp only; rw [cut_yes hcut]; simpa using hj2, hOb2, hOc2⟩
        · skip
          refine KLY.op (R.not rfl rfl) rfl rfl rfl rfl ?_
          refine KLY.nil ?_
          refine KQ.seq ?_
          refine KC.condT rfl ?_
          refine KC.ret ?_
          refine KQ.retBlock ?_
          refine KQ.retThen ?_
          refine KQ.retThen ?_
          refine KQ.retBlock ?_
          refine KQ.ofRet ?_
          refine KQ.fin0 Try.results16 ?_
          first
            | (have e : k = l.length := by omega
               subst e
               exact ⟨by omega, O, .inl (by
                 have e2 : (hand (raw l)).length = (cut l l.length).2.length := by unfold hand raw; simp
                 rw [e2]; exact hJ _ _ _ _ hj oJ.1 (fun b hb _ => oJ.2 b hb))⟩)
            | exact ⟨by omega, O2, .inr ⟨_, nth_lt' (nth_map (f := fun p : Pt => [Value.agg p.cells.toArray]) (raw_at (by omega) hcut)), hjx⟩⟩
    · intro hc12
      try simp only [decide_eq_true_eq, decide_eq_false_iff_not, Bool.not_eq_true', Bool.not_eq_false', Bool.and_eq_true, Bool.or_eq_false_iff] at hc12
      refine KC.exit ?_
      refine KQ.exitThen ?_
      refine KQ.exitThen ?_
      refine KQ.hit ?_
      refine KQ.fin0 Try.results16 ?_
      first
        | (have e : k = l.length := by omega
           subst e
           exact ⟨by omega, O, .inl (by
             have e2 : (hand (raw l)).length = (cut l l.length).2.length := by unfold hand raw; simp
             rw [e2]; exact hJ _ _ _ _ hj oJ.1 (fun b hb _ => oJ.2 b hb))⟩)
        | exact ⟨by omega, O2, .inr ⟨_, nth_lt' (nth_map (f := fun p : Pt => [Value.agg p.cells.toArray]) (raw_at (by omega) hcut)), hjx⟩⟩

theorem parts_iter {Hb H : Heap} {v : Value} {l : List Ins} (hs : Sl 5 EIns Hb v l) (ob : Old Hb H) (hl : l.length ≤ 1000000) : Iter Try.prog 16 [.agg [v].toArray] [] (hand (raw l)) (fun b => b < Hb.size) H :=
  fun yl J Jx O0 hJ hJx hN hO hy h0 => parts_ct hs ob hl yl J Jx O0 hJ hJx hN hO hy h0

end Go.Proofs.Ytokidabnjodglaa
