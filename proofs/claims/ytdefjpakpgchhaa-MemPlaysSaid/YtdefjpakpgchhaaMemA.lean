/- Memories: parts of them. No condition. -/
import Derived.Test.YtdefjpakpgchhaaKMore
import Derived.Test.YtdefjpakpgchhaaKAny
import Derived.Test.YtdefjpakpgchhaaKIns
namespace Go.Proofs.Ytdefjpakpgchhaa
open Go Go.RowKit
set_option linter.unusedVariables false
set_option linter.unusedSimpArgs false
set_option linter.unnecessarySimpa false

/-- how many bytes an access has -/
def mw (op : Int) : Nat :=
  if op = 44 ∨ op = 45 ∨ op = 48 ∨ op = 49 ∨ op = 58 ∨ op = 60 then 1
  else if op = 46 ∨ op = 47 ∨ op = 50 ∨ op = 51 ∨ op = 59 ∨ op = 61 then 2
  else if op = 40 ∨ op = 52 ∨ op = 53 ∨ op = 54 ∨ op = 62 then 4
  else if op = 41 ∨ op = 55 then 8 else 0
theorem mw_le (op : Int) : mw op ≤ 8 := by
  unfold mw
  repeat' split
  all_goals omega
/-- a memory: its struct, and its bytes in a row of its own -/
structure MAt (t : TypeId) (k : IntKind) (H : Heap) (g : Nat) (v : Value) (bs : List Int) (most : Int) : Prop where
  b : H[g]? = some (.cells [v, .int k most].toArray t (0, 0))
  w : Own 1 (EInt .u8) 5 #[] 0 H v bs
  d : v = .slice none 0 0 ∨ vblock v ≠ g
  n : bs.length % 65536 = 0 ∧ (bs.length : Int) ≤ 65536 * most ∧ most ≤ 16
theorem MAt.old {t : TypeId} {k : IntKind} {H H' : Heap} {g : Nat} {v : Value} {bs : List Int} {most : Int} (h : MAt t k H g v bs most) (o : Old H H') : MAt t k H' g v bs most := ⟨o.blk h.b, h.w.old o, h.d, h.n⟩
theorem MAt.lt {t : TypeId} {k : IntKind} {H : Heap} {g : Nat} {v : Value} {bs : List Int} {most : Int} (h : MAt t k H g v bs most) : g < H.size := blk_lt h.b
theorem MAt.fr {t : TypeId} {k : IntKind} {H H' : Heap} {g : Nat} {v : Value} {bs : List Int} {most : Int} {g2 : Nat} {v2 : Value} (h : MAt t k H g v bs most) (f : Fr g2 v2 H H') (h1 : g ≠ g2) (h2 : v2 = .slice none 0 0 ∨ g ≠ vblock v2) (h3 : v = .slice none 0 0 ∨ (vblock v ≠ g2 ∧ (v2 = .slice none 0 0 ∨ vblock v ≠ vblock v2))) : MAt t k H' g v bs most := by
  refine ⟨(f.2 g h.lt h1 h2).trans h.b, ?_, h.d, h.n⟩
  have hw := h.w
  rcases h3 with rfl | ⟨h3, h4⟩
  · obtain ⟨flat, ⟨h0, hc⟩, hel⟩ := hw
    rcases hc with hc | ⟨_, _, _, hv, _⟩
    · exact ⟨flat, ⟨h0, .inl hc⟩, hel⟩
    · cases hv
  · rcases hw.lt with hv | hv
    · obtain ⟨flat, ⟨h0, hc⟩, hel⟩ := hw
      rcases hc with hc | ⟨_, _, _, hv', _⟩
      · exact ⟨flat, ⟨h0, .inl hc⟩, hel⟩
      · rw [hv] at hv'; cases hv'
    · exact hw.keep (f.2 _ hv.2 h3 h4)
/-- n bytes from a place on -/
def partS (v : Value) (bs : List Int) (a n : Int) : Value := if a + n ≤ bs.length then subV 1 v a.toNat (a + n).toNat else .slice none 0 0
def partV (v : Value) (bs : List Int) (a n : Int) : Value := .tuple #[partS v bs a n, .bool (decide (a + n ≤ bs.length))]
def inA (bs : List Int) (lo hi op p : Int) : Prop := lo ≤ op ∧ op ≤ hi ∧ mw op ≠ 0 ∧ p + mw op ≤ bs.length
instance (bs : List Int) (lo hi op p : Int) : Decidable (inA bs lo hi op p) := by unfold inA; infer_instance
def accS (v : Value) (bs : List Int) (lo hi op p : Int) : Value := if inA bs lo hi op p then subV 1 v p.toNat (p + mw op).toNat else .slice none 0 0
def accV (v : Value) (bs : List Int) (lo hi op p : Int) : Value := .tuple #[accS v bs lo hi op p, .bool (decide (inA bs lo hi op p))]

set_option maxRecDepth 100000 in
set_option maxHeartbeats 4000000 in
theorem Width_any {H : Heap} (op : Int) : Ct Try.prog 34 [.int .u8 op] H (fun u H' => u = .int .i64 (mw op : Nat) ∧ H = H') := by
  refine Ct.mk Try.func34 rfl Try.ntmps34 rfl ?_
  intro W0 hW0
  have o0 : Old H H := Old.refl H
  refine KC.seq ?_
  refine KC.region ?_
  refine KL.op (R.assign rfl rfl) rfl rfl rfl ?_
  refine KL.nil ?_
  refine KQ.seq ?_
  refine KC.seq ?_
  refine KC.seq ?_
  refine KC.region ?_
  refine KL.op (R.move rfl rfl) rfl rfl rfl ?_
  refine KL.nil ?_
  refine KQ.seq ?_
  refine KC.block ?_
  refine KC.seq ?_
  refine KC.seq ?_
  refine KC.region ?_
  refine KL.op (R.eql rfl rfl rfl) rfl rfl rfl ?_
  refine KL.op (R.assign rfl rfl) rfl rfl rfl ?_
  refine KL.nil ?_
  refine KQ.seq ?_
  refine KC.iteL rfl ?_ ?_
  · intro hc4
    try simp only [decide_eq_true_eq, decide_eq_false_iff_not, Bool.not_eq_true', Bool.not_eq_false', Bool.and_eq_true, Bool.or_eq_false_iff] at hc4
    refine KC.skip ?_
    refine KQ.seq ?_
    refine KC.condT rfl ?_
    refine KC.seq ?_
    refine KC.region ?_
    refine KL.op (R.assign rfl rfl) rfl rfl rfl ?_
    refine KL.nil ?_
    refine KQ.seq ?_
    refine KC.ret ?_
    refine KQ.retBlock ?_
    refine KQ.retThen ?_
    refine KQ.ofRet ?_
    refine KQ.fin1 Try.results34 rfl ?_
    refine ⟨congrArg (Value.int .i64) ?_, rfl⟩
    unfold mw
    first
      | rw [if_pos (by omega)]; rfl
      | rw [if_neg (by omega), if_pos (by omega)]; rfl
      | rw [if_neg (by omega), if_neg (by omega), if_pos (by omega)]; rfl
      | rw [if_neg (by omega), if_neg (by omega), if_neg (by omega), if_pos (by omega)]; rfl
      | rw [if_neg (by omega), if_neg (by omega), if_neg (by omega), if_neg (by omega)]; rfl
  · intro hc4
    try simp only [decide_eq_true_eq, decide_eq_false_iff_not, Bool.not_eq_true', Bool.not_eq_false', Bool.and_eq_true, Bool.or_eq_false_iff] at hc4
    refine KC.seq ?_
    refine KC.region ?_
    refine KL.op (R.eql rfl rfl rfl) rfl rfl rfl ?_
    refine KL.op (R.assign rfl rfl) rfl rfl rfl ?_
    refine KL.nil ?_
    refine KQ.seq ?_
    refine KC.iteL rfl ?_ ?_
    · intro hc4
      try simp only [decide_eq_true_eq, decide_eq_false_iff_not, Bool.not_eq_true', Bool.not_eq_false', Bool.and_eq_true, Bool.or_eq_false_iff] at hc4
      refine KC.skip ?_
      refine KQ.seq ?_
      refine KC.condT rfl ?_
      refine KC.seq ?_
      refine KC.region ?_
      refine KL.op (R.assign rfl rfl) rfl rfl rfl ?_
      refine KL.nil ?_
      refine KQ.seq ?_
      refine KC.ret ?_
      refine KQ.retBlock ?_
      refine KQ.retThen ?_
      refine KQ.ofRet ?_
      refine KQ.fin1 Try.results34 rfl ?_
      refine ⟨congrArg (Value.int .i64) ?_, rfl⟩
      unfold mw
      first
        | rw [if_pos (by omega)]; rfl
        | rw [if_neg (by omega), if_pos (by omega)]; rfl
        | rw [if_neg (by omega), if_neg (by omega), if_pos (by omega)]; rfl
        | rw [if_neg (by omega), if_neg (by omega), if_neg (by omega), if_pos (by omega)]; rfl
        | rw [if_neg (by omega), if_neg (by omega), if_neg (by omega), if_neg (by omega)]; rfl
    · intro hc4
      try simp only [decide_eq_true_eq, decide_eq_false_iff_not, Bool.not_eq_true', Bool.not_eq_false', Bool.and_eq_true, Bool.or_eq_false_iff] at hc4
      refine KC.seq ?_
      refine KC.region ?_
      refine KL.op (R.eql rfl rfl rfl) rfl rfl rfl ?_
      refine KL.op (R.assign rfl rfl) rfl rfl rfl ?_
      refine KL.nil ?_
      refine KQ.seq ?_
      refine KC.iteL rfl ?_ ?_
      · intro hc4
        try simp only [decide_eq_true_eq, decide_eq_false_iff_not, Bool.not_eq_true', Bool.not_eq_false', Bool.and_eq_true, Bool.or_eq_false_iff] at hc4
        refine KC.skip ?_
        refine KQ.seq ?_
        refine KC.condT rfl ?_
        refine KC.seq ?_
        refine KC.region ?_
        refine KL.op (R.assign rfl rfl) rfl rfl rfl ?_
        refine KL.nil ?_
        refine KQ.seq ?_
        refine KC.ret ?_
        refine KQ.retBlock ?_
        refine KQ.retThen ?_
        refine KQ.ofRet ?_
        refine KQ.fin1 Try.results34 rfl ?_
        refine ⟨congrArg (Value.int .i64) ?_, rfl⟩
        unfold mw
        first
          | rw [if_pos (by omega)]; rfl
          | rw [if_neg (by omega), if_pos (by omega)]; rfl
          | rw [if_neg (by omega), if_neg (by omega), if_pos (by omega)]; rfl
          | rw [if_neg (by omega), if_neg (by omega), if_neg (by omega), if_pos (by omega)]; rfl
          | rw [if_neg (by omega), if_neg (by omega), if_neg (by omega), if_neg (by omega)]; rfl
      · intro hc4
        try simp only [decide_eq_true_eq, decide_eq_false_iff_not, Bool.not_eq_true', Bool.not_eq_false', Bool.and_eq_true, Bool.or_eq_false_iff] at hc4
        refine KC.seq ?_
        refine KC.region ?_
        refine KL.op (R.eql rfl rfl rfl) rfl rfl rfl ?_
        refine KL.op (R.assign rfl rfl) rfl rfl rfl ?_
        refine KL.nil ?_
        refine KQ.seq ?_
        refine KC.iteL rfl ?_ ?_
        · intro hc4
          try simp only [decide_eq_true_eq, decide_eq_false_iff_not, Bool.not_eq_true', Bool.not_eq_false', Bool.and_eq_true, Bool.or_eq_false_iff] at hc4
          refine KC.skip ?_
          refine KQ.seq ?_
          refine KC.condT rfl ?_
          refine KC.seq ?_
          refine KC.region ?_
          refine KL.op (R.assign rfl rfl) rfl rfl rfl ?_
          refine KL.nil ?_
          refine KQ.seq ?_
          refine KC.ret ?_
          refine KQ.retBlock ?_
          refine KQ.retThen ?_
          refine KQ.ofRet ?_
          refine KQ.fin1 Try.results34 rfl ?_
          refine ⟨congrArg (Value.int .i64) ?_, rfl⟩
          unfold mw
          first
            | rw [if_pos (by omega)]; rfl
            | rw [if_neg (by omega), if_pos (by omega)]; rfl
            | rw [if_neg (by omega), if_neg (by omega), if_pos (by omega)]; rfl
            | rw [if_neg (by omega), if_neg (by omega), if_neg (by omega), if_pos (by omega)]; rfl
            | rw [if_neg (by omega), if_neg (by omega), if_neg (by omega), if_neg (by omega)]; rfl
        · intro hc4
          try simp only [decide_eq_true_eq, decide_eq_false_iff_not, Bool.not_eq_true', Bool.not_eq_false', Bool.and_eq_true, Bool.or_eq_false_iff] at hc4
          refine KC.seq ?_
          refine KC.region ?_
          refine KL.op (R.eql rfl rfl rfl) rfl rfl rfl ?_
          refine KL.op (R.assign rfl rfl) rfl rfl rfl ?_
          refine KL.nil ?_
          refine KQ.seq ?_
          refine KC.iteL rfl ?_ ?_
          · intro hc4
            try simp only [decide_eq_true_eq, decide_eq_false_iff_not, Bool.not_eq_true', Bool.not_eq_false', Bool.and_eq_true, Bool.or_eq_false_iff] at hc4
            refine KC.skip ?_
            refine KQ.seq ?_
            refine KC.condT rfl ?_
            refine KC.seq ?_
            refine KC.region ?_
            refine KL.op (R.assign rfl rfl) rfl rfl rfl ?_
            refine KL.nil ?_
            refine KQ.seq ?_
            refine KC.ret ?_
            refine KQ.retBlock ?_
            refine KQ.retThen ?_
            refine KQ.ofRet ?_
            refine KQ.fin1 Try.results34 rfl ?_
            refine ⟨congrArg (Value.int .i64) ?_, rfl⟩
            unfold mw
            first
              | rw [if_pos (by omega)]; rfl
              | rw [if_neg (by omega), if_pos (by omega)]; rfl
              | rw [if_neg (by omega), if_neg (by omega), if_pos (by omega)]; rfl
              | rw [if_neg (by omega), if_neg (by omega), if_neg (by omega), if_pos (by omega)]; rfl
              | rw [if_neg (by omega), if_neg (by omega), if_neg (by omega), if_neg (by omega)]; rfl
          · intro hc4
            try simp only [decide_eq_true_eq, decide_eq_false_iff_not, Bool.not_eq_true', Bool.not_eq_false', Bool.and_eq_true, Bool.or_eq_false_iff] at hc4
            refine KC.region ?_
            refine KL.op (R.eql rfl rfl rfl) rfl rfl rfl ?_
            refine KL.op (R.assign rfl rfl) rfl rfl rfl ?_
            refine KL.nil ?_
            refine KQ.seq ?_
            refine KC.iteL rfl ?_ ?_
            · intro hc4
              try simp only [decide_eq_true_eq, decide_eq_false_iff_not, Bool.not_eq_true', Bool.not_eq_false', Bool.and_eq_true, Bool.or_eq_false_iff] at hc4
              refine KC.seq ?_
              refine KC.region ?_
              refine KL.op (R.assign rfl rfl) rfl rfl rfl ?_
              refine KL.nil ?_
              refine KQ.seq ?_
              refine KC.ret ?_
              refine KQ.retBlock ?_
              refine KQ.retThen ?_
              refine KQ.ofRet ?_
              refine KQ.fin1 Try.results34 rfl ?_
              refine ⟨congrArg (Value.int .i64) ?_, rfl⟩
              unfold mw
              first
                | rw [if_pos (by omega)]; rfl
                | rw [if_neg (by omega), if_pos (by omega)]; rfl
                | rw [if_neg (by omega), if_neg (by omega), if_pos (by omega)]; rfl
                | rw [if_neg (by omega), if_neg (by omega), if_neg (by omega), if_pos (by omega)]; rfl
                | rw [if_neg (by omega), if_neg (by omega), if_neg (by omega), if_neg (by omega)]; rfl
            · intro hc4
              try simp only [decide_eq_true_eq, decide_eq_false_iff_not, Bool.not_eq_true', Bool.not_eq_false', Bool.and_eq_true, Bool.or_eq_false_iff] at hc4
              refine KC.seq ?_
              refine KC.seq ?_
              refine KC.region ?_
              refine KL.op (R.eql rfl rfl rfl) rfl rfl rfl ?_
              refine KL.op (R.assign rfl rfl) rfl rfl rfl ?_
              refine KL.nil ?_
              refine KQ.seq ?_
              refine KC.iteL rfl ?_ ?_
              · intro hc11
                try simp only [decide_eq_true_eq, decide_eq_false_iff_not, Bool.not_eq_true', Bool.not_eq_false', Bool.and_eq_true, Bool.or_eq_false_iff] at hc11
                refine KC.skip ?_
                refine KQ.seq ?_
                refine KC.condT rfl ?_
                refine KC.seq ?_
                refine KC.region ?_
                refine KL.op (R.assign rfl rfl) rfl rfl rfl ?_
                refine KL.nil ?_
                refine KQ.seq ?_
                refine KC.ret ?_
                refine KQ.retBlock ?_
                refine KQ.retThen ?_
                refine KQ.ofRet ?_
                refine KQ.fin1 Try.results34 rfl ?_
                refine ⟨congrArg (Value.int .i64) ?_, rfl⟩
                unfold mw
                first
                  | rw [if_pos (by omega)]; rfl
                  | rw [if_neg (by omega), if_pos (by omega)]; rfl
                  | rw [if_neg (by omega), if_neg (by omega), if_pos (by omega)]; rfl
                  | rw [if_neg (by omega), if_neg (by omega), if_neg (by omega), if_pos (by omega)]; rfl
                  | rw [if_neg (by omega), if_neg (by omega), if_neg (by omega), if_neg (by omega)]; rfl
              · intro hc11
                try simp only [decide_eq_true_eq, decide_eq_false_iff_not, Bool.not_eq_true', Bool.not_eq_false', Bool.and_eq_true, Bool.or_eq_false_iff] at hc11
                refine KC.seq ?_
                refine KC.region ?_
                refine KL.op (R.eql rfl rfl rfl) rfl rfl rfl ?_
                refine KL.op (R.assign rfl rfl) rfl rfl rfl ?_
                refine KL.nil ?_
                refine KQ.seq ?_
                refine KC.iteL rfl ?_ ?_
                · intro hc11
                  try simp only [decide_eq_true_eq, decide_eq_false_iff_not, Bool.not_eq_true', Bool.not_eq_false', Bool.and_eq_true, Bool.or_eq_false_iff] at hc11
                  refine KC.skip ?_
                  refine KQ.seq ?_
                  refine KC.condT rfl ?_
                  refine KC.seq ?_
                  refine KC.region ?_
                  refine KL.op (R.assign rfl rfl) rfl rfl rfl ?_
                  refine KL.nil ?_
                  refine KQ.seq ?_
                  refine KC.ret ?_
                  refine KQ.retBlock ?_
                  refine KQ.retThen ?_
                  refine KQ.ofRet ?_
                  refine KQ.fin1 Try.results34 rfl ?_
                  refine ⟨congrArg (Value.int .i64) ?_, rfl⟩
                  unfold mw
                  first
                    | rw [if_pos (by omega)]; rfl
                    | rw [if_neg (by omega), if_pos (by omega)]; rfl
                    | rw [if_neg (by omega), if_neg (by omega), if_pos (by omega)]; rfl
                    | rw [if_neg (by omega), if_neg (by omega), if_neg (by omega), if_pos (by omega)]; rfl
                    | rw [if_neg (by omega), if_neg (by omega), if_neg (by omega), if_neg (by omega)]; rfl
                · intro hc11
                  try simp only [decide_eq_true_eq, decide_eq_false_iff_not, Bool.not_eq_true', Bool.not_eq_false', Bool.and_eq_true, Bool.or_eq_false_iff] at hc11
                  refine KC.seq ?_
                  refine KC.region ?_
                  refine KL.op (R.eql rfl rfl rfl) rfl rfl rfl ?_
                  refine KL.op (R.assign rfl rfl) rfl rfl rfl ?_
                  refine KL.nil ?_
                  refine KQ.seq ?_
                  refine KC.iteL rfl ?_ ?_
                  · intro hc11
                    try simp only [decide_eq_true_eq, decide_eq_false_iff_not, Bool.not_eq_true', Bool.not_eq_false', Bool.and_eq_true, Bool.or_eq_false_iff] at hc11
                    refine KC.skip ?_
                    refine KQ.seq ?_
                    refine KC.condT rfl ?_
                    refine KC.seq ?_
                    refine KC.region ?_
                    refine KL.op (R.assign rfl rfl) rfl rfl rfl ?_
                    refine KL.nil ?_
                    refine KQ.seq ?_
                    refine KC.ret ?_
                    refine KQ.retBlock ?_
                    refine KQ.retThen ?_
                    refine KQ.ofRet ?_
                    refine KQ.fin1 Try.results34 rfl ?_
                    refine ⟨congrArg (Value.int .i64) ?_, rfl⟩
                    unfold mw
                    first
                      | rw [if_pos (by omega)]; rfl
                      | rw [if_neg (by omega), if_pos (by omega)]; rfl
                      | rw [if_neg (by omega), if_neg (by omega), if_pos (by omega)]; rfl
                      | rw [if_neg (by omega), if_neg (by omega), if_neg (by omega), if_pos (by omega)]; rfl
                      | rw [if_neg (by omega), if_neg (by omega), if_neg (by omega), if_neg (by omega)]; rfl
                  · intro hc11
                    try simp only [decide_eq_true_eq, decide_eq_false_iff_not, Bool.not_eq_true', Bool.not_eq_false', Bool.and_eq_true, Bool.or_eq_false_iff] at hc11
                    refine KC.seq ?_
                    refine KC.region ?_
                    refine KL.op (R.eql rfl rfl rfl) rfl rfl rfl ?_
                    refine KL.op (R.assign rfl rfl) rfl rfl rfl ?_
                    refine KL.nil ?_
                    refine KQ.seq ?_
                    refine KC.iteL rfl ?_ ?_
                    · intro hc11
                      try simp only [decide_eq_true_eq, decide_eq_false_iff_not, Bool.not_eq_true', Bool.not_eq_false', Bool.and_eq_true, Bool.or_eq_false_iff] at hc11
                      refine KC.skip ?_
                      refine KQ.seq ?_
                      refine KC.condT rfl ?_
                      refine KC.seq ?_
                      refine KC.region ?_
                      refine KL.op (R.assign rfl rfl) rfl rfl rfl ?_
                      refine KL.nil ?_
                      refine KQ.seq ?_
                      refine KC.ret ?_
                      refine KQ.retBlock ?_
                      refine KQ.retThen ?_
                      refine KQ.ofRet ?_
                      refine KQ.fin1 Try.results34 rfl ?_
                      refine ⟨congrArg (Value.int .i64) ?_, rfl⟩
                      unfold mw
                      first
                        | rw [if_pos (by omega)]; rfl
                        | rw [if_neg (by omega), if_pos (by omega)]; rfl
                        | rw [if_neg (by omega), if_neg (by omega), if_pos (by omega)]; rfl
                        | rw [if_neg (by omega), if_neg (by omega), if_neg (by omega), if_pos (by omega)]; rfl
                        | rw [if_neg (by omega), if_neg (by omega), if_neg (by omega), if_neg (by omega)]; rfl
                    · intro hc11
                      try simp only [decide_eq_true_eq, decide_eq_false_iff_not, Bool.not_eq_true', Bool.not_eq_false', Bool.and_eq_true, Bool.or_eq_false_iff] at hc11
                      refine KC.seq ?_
                      refine KC.region ?_
                      refine KL.op (R.eql rfl rfl rfl) rfl rfl rfl ?_
                      refine KL.op (R.assign rfl rfl) rfl rfl rfl ?_
                      refine KL.nil ?_
                      refine KQ.seq ?_
                      refine KC.iteL rfl ?_ ?_
                      · intro hc11
                        try simp only [decide_eq_true_eq, decide_eq_false_iff_not, Bool.not_eq_true', Bool.not_eq_false', Bool.and_eq_true, Bool.or_eq_false_iff] at hc11
                        refine KC.skip ?_
                        refine KQ.seq ?_
                        refine KC.condT rfl ?_
                        refine KC.seq ?_
                        refine KC.region ?_
                        refine KL.op (R.assign rfl rfl) rfl rfl rfl ?_
                        refine KL.nil ?_
                        refine KQ.seq ?_
                        refine KC.ret ?_
                        refine KQ.retBlock ?_
                        refine KQ.retThen ?_
                        refine KQ.ofRet ?_
                        refine KQ.fin1 Try.results34 rfl ?_
                        refine ⟨congrArg (Value.int .i64) ?_, rfl⟩
                        unfold mw
                        first
                          | rw [if_pos (by omega)]; rfl
                          | rw [if_neg (by omega), if_pos (by omega)]; rfl
                          | rw [if_neg (by omega), if_neg (by omega), if_pos (by omega)]; rfl
                          | rw [if_neg (by omega), if_neg (by omega), if_neg (by omega), if_pos (by omega)]; rfl
                          | rw [if_neg (by omega), if_neg (by omega), if_neg (by omega), if_neg (by omega)]; rfl
                      · intro hc11
                        try simp only [decide_eq_true_eq, decide_eq_false_iff_not, Bool.not_eq_true', Bool.not_eq_false', Bool.and_eq_true, Bool.or_eq_false_iff] at hc11
                        refine KC.region ?_
                        refine KL.op (R.eql rfl rfl rfl) rfl rfl rfl ?_
                        refine KL.op (R.assign rfl rfl) rfl rfl rfl ?_
                        refine KL.nil ?_
                        refine KQ.seq ?_
                        refine KC.iteL rfl ?_ ?_
                        · intro hc11
                          try simp only [decide_eq_true_eq, decide_eq_false_iff_not, Bool.not_eq_true', Bool.not_eq_false', Bool.and_eq_true, Bool.or_eq_false_iff] at hc11
                          refine KC.seq ?_
                          refine KC.region ?_
                          refine KL.op (R.assign rfl rfl) rfl rfl rfl ?_
                          refine KL.nil ?_
                          refine KQ.seq ?_
                          refine KC.ret ?_
                          refine KQ.retBlock ?_
                          refine KQ.retThen ?_
                          refine KQ.ofRet ?_
                          refine KQ.fin1 Try.results34 rfl ?_
                          refine ⟨congrArg (Value.int .i64) ?_, rfl⟩
                          unfold mw
                          first
                            | rw [if_pos (by omega)]; rfl
                            | rw [if_neg (by omega), if_pos (by omega)]; rfl
                            | rw [if_neg (by omega), if_neg (by omega), if_pos (by omega)]; rfl
                            | rw [if_neg (by omega), if_neg (by omega), if_neg (by omega), if_pos (by omega)]; rfl
                            | rw [if_neg (by omega), if_neg (by omega), if_neg (by omega), if_neg (by omega)]; rfl
                        · intro hc11
                          try simp only [decide_eq_true_eq, decide_eq_false_iff_not, Bool.not_eq_true', Bool.not_eq_false', Bool.and_eq_true, Bool.or_eq_false_iff] at hc11
                          refine KC.seq ?_
                          refine KC.seq ?_
                          refine KC.region ?_
                          refine KL.op (R.eql rfl rfl rfl) rfl rfl rfl ?_
                          refine KL.op (R.assign rfl rfl) rfl rfl rfl ?_
                          refine KL.nil ?_
                          refine KQ.seq ?_
                          refine KC.iteL rfl ?_ ?_
                          · intro hc18
                            try simp only [decide_eq_true_eq, decide_eq_false_iff_not, Bool.not_eq_true', Bool.not_eq_false', Bool.and_eq_true, Bool.or_eq_false_iff] at hc18
                            refine KC.skip ?_
                            refine KQ.seq ?_
                            refine KC.condT rfl ?_
                            refine KC.seq ?_
                            refine KC.region ?_
                            refine KL.op (R.assign rfl rfl) rfl rfl rfl ?_
                            refine KL.nil ?_
                            refine KQ.seq ?_
                            refine KC.ret ?_
                            refine KQ.retBlock ?_
                            refine KQ.retThen ?_
                            refine KQ.ofRet ?_
                            refine KQ.fin1 Try.results34 rfl ?_
                            refine ⟨congrArg (Value.int .i64) ?_, rfl⟩
                            unfold mw
                            first
                              | rw [if_pos (by omega)]; rfl
                              | rw [if_neg (by omega), if_pos (by omega)]; rfl
                              | rw [if_neg (by omega), if_neg (by omega), if_pos (by omega)]; rfl
                              | rw [if_neg (by omega), if_neg (by omega), if_neg (by omega), if_pos (by omega)]; rfl
                              | rw [if_neg (by omega), if_neg (by omega), if_neg (by omega), if_neg (by omega)]; rfl
                          · intro hc18
                            try simp only [decide_eq_true_eq, decide_eq_false_iff_not, Bool.not_eq_true', Bool.not_eq_false', Bool.and_eq_true, Bool.or_eq_false_iff] at hc18
                            refine KC.seq ?_
                            refine KC.region ?_
                            refine KL.op (R.eql rfl rfl rfl) rfl rfl rfl ?_
                            refine KL.op (R.assign rfl rfl) rfl rfl rfl ?_
                            refine KL.nil ?_
                            refine KQ.seq ?_
                            refine KC.iteL rfl ?_ ?_
                            · intro hc18
                              try simp only [decide_eq_true_eq, decide_eq_false_iff_not, Bool.not_eq_true', Bool.not_eq_false', Bool.and_eq_true, Bool.or_eq_false_iff] at hc18
                              refine KC.skip ?_
                              refine KQ.seq ?_
                              refine KC.condT rfl ?_
                              refine KC.seq ?_
                              refine KC.region ?_
                              refine KL.op (R.assign rfl rfl) rfl rfl rfl ?_
                              refine KL.nil ?_
                              refine KQ.seq ?_
                              refine KC.ret ?_
                              refine KQ.retBlock ?_
                              refine KQ.retThen ?_
                              refine KQ.ofRet ?_
                              refine KQ.fin1 Try.results34 rfl ?_
                              refine ⟨congrArg (Value.int .i64) ?_, rfl⟩
                              unfold mw
                              first
                                | rw [if_pos (by omega)]; rfl
                                | rw [if_neg (by omega), if_pos (by omega)]; rfl
                                | rw [if_neg (by omega), if_neg (by omega), if_pos (by omega)]; rfl
                                | rw [if_neg (by omega), if_neg (by omega), if_neg (by omega), if_pos (by omega)]; rfl
                                | rw [if_neg (by omega), if_neg (by omega), if_neg (by omega), if_neg (by omega)]; rfl
                            · intro hc18
                              try simp only [decide_eq_true_eq, decide_eq_false_iff_not, Bool.not_eq_true', Bool.not_eq_false', Bool.and_eq_true, Bool.or_eq_false_iff] at hc18
                              refine KC.seq ?_
                              refine KC.region ?_
                              refine KL.op (R.eql rfl rfl rfl) rfl rfl rfl ?_
                              refine KL.op (R.assign rfl rfl) rfl rfl rfl ?_
                              refine KL.nil ?_
                              refine KQ.seq ?_
                              refine KC.iteL rfl ?_ ?_
                              · intro hc18
                                try simp only [decide_eq_true_eq, decide_eq_false_iff_not, Bool.not_eq_true', Bool.not_eq_false', Bool.and_eq_true, Bool.or_eq_false_iff] at hc18
                                refine KC.skip ?_
                                refine KQ.seq ?_
                                refine KC.condT rfl ?_
                                refine KC.seq ?_
                                refine KC.region ?_
                                refine KL.op (R.assign rfl rfl) rfl rfl rfl ?_
                                refine KL.nil ?_
                                refine KQ.seq ?_
                                refine KC.ret ?_
                                refine KQ.retBlock ?_
                                refine KQ.retThen ?_
                                refine KQ.ofRet ?_
                                refine KQ.fin1 Try.results34 rfl ?_
                                refine ⟨congrArg (Value.int .i64) ?_, rfl⟩
                                unfold mw
                                first
                                  | rw [if_pos (by omega)]; rfl
                                  | rw [if_neg (by omega), if_pos (by omega)]; rfl
                                  | rw [if_neg (by omega), if_neg (by omega), if_pos (by omega)]; rfl
                                  | rw [if_neg (by omega), if_neg (by omega), if_neg (by omega), if_pos (by omega)]; rfl
                                  | rw [if_neg (by omega), if_neg (by omega), if_neg (by omega), if_neg (by omega)]; rfl
                              · intro hc18
                                try simp only [decide_eq_true_eq, decide_eq_false_iff_not, Bool.not_eq_true', Bool.not_eq_false', Bool.and_eq_true, Bool.or_eq_false_iff] at hc18
                                refine KC.seq ?_
                                refine KC.region ?_
                                refine KL.op (R.eql rfl rfl rfl) rfl rfl rfl ?_
                                refine KL.op (R.assign rfl rfl) rfl rfl rfl ?_
                                refine KL.nil ?_
                                refine KQ.seq ?_
                                refine KC.iteL rfl ?_ ?_
                                · intro hc18
                                  try simp only [decide_eq_true_eq, decide_eq_false_iff_not, Bool.not_eq_true', Bool.not_eq_false', Bool.and_eq_true, Bool.or_eq_false_iff] at hc18
                                  refine KC.skip ?_
                                  refine KQ.seq ?_
                                  refine KC.condT rfl ?_
                                  refine KC.seq ?_
                                  refine KC.region ?_
                                  refine KL.op (R.assign rfl rfl) rfl rfl rfl ?_
                                  refine KL.nil ?_
                                  refine KQ.seq ?_
                                  refine KC.ret ?_
                                  refine KQ.retBlock ?_
                                  refine KQ.retThen ?_
                                  refine KQ.ofRet ?_
                                  refine KQ.fin1 Try.results34 rfl ?_
                                  refine ⟨congrArg (Value.int .i64) ?_, rfl⟩
                                  unfold mw
                                  first
                                    | rw [if_pos (by omega)]; rfl
                                    | rw [if_neg (by omega), if_pos (by omega)]; rfl
                                    | rw [if_neg (by omega), if_neg (by omega), if_pos (by omega)]; rfl
                                    | rw [if_neg (by omega), if_neg (by omega), if_neg (by omega), if_pos (by omega)]; rfl
                                    | rw [if_neg (by omega), if_neg (by omega), if_neg (by omega), if_neg (by omega)]; rfl
                                · intro hc18
                                  try simp only [decide_eq_true_eq, decide_eq_false_iff_not, Bool.not_eq_true', Bool.not_eq_false', Bool.and_eq_true, Bool.or_eq_false_iff] at hc18
                                  refine KC.region ?_
                                  refine KL.op (R.eql rfl rfl rfl) rfl rfl rfl ?_
                                  refine KL.op (R.assign rfl rfl) rfl rfl rfl ?_
                                  refine KL.nil ?_
                                  refine KQ.seq ?_
                                  refine KC.iteL rfl ?_ ?_
                                  · intro hc18
                                    try simp only [decide_eq_true_eq, decide_eq_false_iff_not, Bool.not_eq_true', Bool.not_eq_false', Bool.and_eq_true, Bool.or_eq_false_iff] at hc18
                                    refine KC.seq ?_
                                    refine KC.region ?_
                                    refine KL.op (R.assign rfl rfl) rfl rfl rfl ?_
                                    refine KL.nil ?_
                                    refine KQ.seq ?_
                                    refine KC.ret ?_
                                    refine KQ.retBlock ?_
                                    refine KQ.retThen ?_
                                    refine KQ.ofRet ?_
                                    refine KQ.fin1 Try.results34 rfl ?_
                                    refine ⟨congrArg (Value.int .i64) ?_, rfl⟩
                                    unfold mw
                                    first
                                      | rw [if_pos (by omega)]; rfl
                                      | rw [if_neg (by omega), if_pos (by omega)]; rfl
                                      | rw [if_neg (by omega), if_neg (by omega), if_pos (by omega)]; rfl
                                      | rw [if_neg (by omega), if_neg (by omega), if_neg (by omega), if_pos (by omega)]; rfl
                                      | rw [if_neg (by omega), if_neg (by omega), if_neg (by omega), if_neg (by omega)]; rfl
                                  · intro hc18
                                    try simp only [decide_eq_true_eq, decide_eq_false_iff_not, Bool.not_eq_true', Bool.not_eq_false', Bool.and_eq_true, Bool.or_eq_false_iff] at hc18
                                    refine KC.seq ?_
                                    refine KC.seq ?_
                                    refine KC.region ?_
                                    refine KL.op (R.eql rfl rfl rfl) rfl rfl rfl ?_
                                    refine KL.op (R.assign rfl rfl) rfl rfl rfl ?_
                                    refine KL.nil ?_
                                    refine KQ.seq ?_
                                    refine KC.iteL rfl ?_ ?_
                                    · intro hc24
                                      try simp only [decide_eq_true_eq, decide_eq_false_iff_not, Bool.not_eq_true', Bool.not_eq_false', Bool.and_eq_true, Bool.or_eq_false_iff] at hc24
                                      refine KC.skip ?_
                                      refine KQ.seq ?_
                                      refine KC.condT rfl ?_
                                      refine KC.seq ?_
                                      refine KC.region ?_
                                      refine KL.op (R.assign rfl rfl) rfl rfl rfl ?_
                                      refine KL.nil ?_
                                      refine KQ.seq ?_
                                      refine KC.ret ?_
                                      refine KQ.retBlock ?_
                                      refine KQ.retThen ?_
                                      refine KQ.ofRet ?_
                                      refine KQ.fin1 Try.results34 rfl ?_
                                      refine ⟨congrArg (Value.int .i64) ?_, rfl⟩
                                      unfold mw
                                      first
                                        | rw [if_pos (by omega)]; rfl
                                        | rw [if_neg (by omega), if_pos (by omega)]; rfl
                                        | rw [if_neg (by omega), if_neg (by omega), if_pos (by omega)]; rfl
                                        | rw [if_neg (by omega), if_neg (by omega), if_neg (by omega), if_pos (by omega)]; rfl
                                        | rw [if_neg (by omega), if_neg (by omega), if_neg (by omega), if_neg (by omega)]; rfl
                                    · intro hc24
                                      try simp only [decide_eq_true_eq, decide_eq_false_iff_not, Bool.not_eq_true', Bool.not_eq_false', Bool.and_eq_true, Bool.or_eq_false_iff] at hc24
                                      refine KC.region ?_
                                      refine KL.op (R.eql rfl rfl rfl) rfl rfl rfl ?_
                                      refine KL.op (R.assign rfl rfl) rfl rfl rfl ?_
                                      refine KL.nil ?_
                                      refine KQ.seq ?_
                                      refine KC.iteL rfl ?_ ?_
                                      · intro hc24
                                        try simp only [decide_eq_true_eq, decide_eq_false_iff_not, Bool.not_eq_true', Bool.not_eq_false', Bool.and_eq_true, Bool.or_eq_false_iff] at hc24
                                        refine KC.seq ?_
                                        refine KC.region ?_
                                        refine KL.op (R.assign rfl rfl) rfl rfl rfl ?_
                                        refine KL.nil ?_
                                        refine KQ.seq ?_
                                        refine KC.ret ?_
                                        refine KQ.retBlock ?_
                                        refine KQ.retThen ?_
                                        refine KQ.ofRet ?_
                                        refine KQ.fin1 Try.results34 rfl ?_
                                        refine ⟨congrArg (Value.int .i64) ?_, rfl⟩
                                        unfold mw
                                        first
                                          | rw [if_pos (by omega)]; rfl
                                          | rw [if_neg (by omega), if_pos (by omega)]; rfl
                                          | rw [if_neg (by omega), if_neg (by omega), if_pos (by omega)]; rfl
                                          | rw [if_neg (by omega), if_neg (by omega), if_neg (by omega), if_pos (by omega)]; rfl
                                          | rw [if_neg (by omega), if_neg (by omega), if_neg (by omega), if_neg (by omega)]; rfl
                                      · intro hc24
                                        try simp only [decide_eq_true_eq, decide_eq_false_iff_not, Bool.not_eq_true', Bool.not_eq_false', Bool.and_eq_true, Bool.or_eq_false_iff] at hc24
                                        refine KC.skip ?_
                                        refine KQ.normBlock ?_
                                        refine KQ.seq ?_
                                        refine KC.seq ?_
                                        refine KC.region ?_
                                        refine KL.op (R.assign rfl rfl) rfl rfl rfl ?_
                                        refine KL.nil ?_
                                        refine KQ.seq ?_
                                        refine KC.ret ?_
                                        refine KQ.ofRet ?_
                                        refine KQ.fin1 Try.results34 rfl ?_
                                        refine ⟨congrArg (Value.int .i64) ?_, rfl⟩
                                        unfold mw
                                        first
                                          | rw [if_pos (by omega)]; rfl
                                          | rw [if_neg (by omega), if_pos (by omega)]; rfl
                                          | rw [if_neg (by omega), if_neg (by omega), if_pos (by omega)]; rfl
                                          | rw [if_neg (by omega), if_neg (by omega), if_neg (by omega), if_pos (by omega)]; rfl
                                          | rw [if_neg (by omega), if_neg (by omega), if_neg (by omega), if_neg (by omega)]; rfl

set_option maxRecDepth 100000 in
set_option maxHeartbeats 4000000 in
theorem part_any {H : Heap} (g : Nat) (v : Value) (bs : List Int) (most : Int) (h : MAt 65 .u32 H g v bs most) (a n : Int) (ha : 0 ≤ a) (ha2 : a ≤ 8589934592) (hn0 : 0 ≤ n) (hn2 : n ≤ 9223372036854775807) : Ct Try.prog 27 [.pointer (some ⟨g, 0, none⟩), .int .u64 a, .int .u64 n] H (fun u H' => u = partV v bs a n ∧ H = H') := by
  refine Ct.mk Try.func27 rfl Try.ntmps27 rfl ?_
  intro W0 hW0
  have o0 : Old H H := Old.refl H
  have hb := h.b
  have hw := h.w
  have hn := h.n
  have hs := hw.sl (emptyOld _) (by decide)
  refine KC.seq ?_
  refine KC.region ?_
  refine KL.op (R.assign rfl rfl) rfl rfl rfl ?_
  refine KL.op (R.assign rfl rfl) rfl rfl rfl ?_
  refine KL.nil ?_
  refine KQ.seq ?_
  refine KC.seq ?_
  refine KC.seq ?_
  refine KC.region ?_
  refine KL.op (R.move rfl rfl) rfl rfl rfl ?_
  refine KL.op (R.eqlP rfl Try.underlying25 rfl rfl) rfl rfl rfl ?_
  refine KL.op (R.move rfl rfl) rfl rfl rfl ?_
  refine KL.op (R.move rfl rfl) rfl rfl rfl ?_
  refine KL.op (R.move rfl rfl) rfl rfl rfl ?_
  refine KL.op (R.add rfl rfl rfl (by dsimp only [InR]; omega)) rfl rfl rfl ?_
  refine KL.op (R.move rfl rfl) rfl rfl rfl ?_
  refine KL.op (R.nilCheck rfl rfl) rfl rfl rfl ?_
  refine KL.op ((by first | exact R.fieldAddr rfl Try.underlying65 rfl rfl sz22 rfl | exact R.fieldAddrP rfl Try.underlying65 rfl rfl sz22 rfl)) rfl rfl rfl ?_
  refine KL.op (R.load rfl Try.underlying22 rfl rfl (by first | exact cell_of hb rfl | assumption)) rfl rfl rfl ?_
  refine KL.op (R.lenO rfl Try.underlying22 rfl hw) rfl rfl rfl ?_
  refine KL.op (R.convI rfl Try.underlying3 Try.underlying28 rfl (by dsimp only [InR]; omega)) rfl rfl rfl ?_
  refine KL.op (R.gtr rfl rfl rfl) rfl rfl rfl ?_
  refine KL.op (R.pick rfl rfl rfl) rfl rfl rfl ?_
  refine KL.nil ?_
  refine KQ.seq ?_
  refine KC.iteL rfl ?_ ?_
  · intro hc21
    try simp only [decide_eq_true_eq, decide_eq_false_iff_not, Bool.not_eq_true', Bool.not_eq_false', Bool.and_eq_true, Bool.or_eq_false_iff] at hc21
    refine KC.seq ?_
    refine KC.region ?_
    refine KL.op (R.assign rfl rfl) rfl rfl rfl ?_
    refine KL.op (R.assign rfl rfl) rfl rfl rfl ?_
    refine KL.nil ?_
    refine KQ.seq ?_
    refine KC.ret ?_
    refine KQ.retThen ?_
    refine KQ.ofRet ?_
    refine KQ.fin2 Try.results27 rfl rfl ?_
    refine ⟨?_, rfl⟩
    unfold partV partS
    first
      | rw [if_pos (by omega), decide_eq_true (by omega)]
      | rw [if_neg (by omega), decide_eq_false (by omega)]
  · intro hc21
    try simp only [decide_eq_true_eq, decide_eq_false_iff_not, Bool.not_eq_true', Bool.not_eq_false', Bool.and_eq_true, Bool.or_eq_false_iff] at hc21
    refine KC.skip ?_
    refine KQ.seq ?_
    refine KC.seq ?_
    refine KC.region ?_
    refine KL.op (R.move rfl rfl) rfl rfl rfl ?_
    refine KL.op (R.nilCheck rfl rfl) rfl rfl rfl ?_
    refine KL.op ((by first | exact R.fieldAddr rfl Try.underlying65 rfl rfl sz22 rfl | exact R.fieldAddrP rfl Try.underlying65 rfl rfl sz22 rfl)) rfl rfl rfl ?_
    refine KL.op (R.load rfl Try.underlying22 rfl rfl (by first | exact cell_of hb rfl | assumption)) rfl rfl rfl ?_
    refine KL.op (R.move rfl rfl) rfl rfl rfl ?_
    refine KL.op (R.move rfl rfl) rfl rfl rfl ?_
    refine KL.op (R.move rfl rfl) rfl rfl rfl ?_
    refine KL.op (R.add rfl rfl rfl (by dsimp only [InR]; omega)) rfl rfl rfl ?_
    refine KL.op (R.slice (i := a.toNat) (j := (a + n).toNat) rfl Try.underlying22 sz5 rfl hs (bnd.mk rfl (by omega)) (bnd.mk rfl (by omega)) (by omega) (by omega)) rfl rfl rfl ?_
    refine KL.op (R.assign rfl rfl) rfl rfl rfl ?_
    refine KL.op (R.assign rfl rfl) rfl rfl rfl ?_
    refine KL.nil ?_
    refine KQ.seq ?_
    refine KC.ret ?_
    refine KQ.ofRet ?_
    refine KQ.fin2 Try.results27 rfl rfl ?_
    refine ⟨?_, rfl⟩
    unfold partV partS
    first
      | rw [if_pos (by omega), decide_eq_true (by omega)]
      | rw [if_neg (by omega), decide_eq_false (by omega)]

set_option maxRecDepth 100000 in
set_option maxHeartbeats 4000000 in
theorem part_nil {H : Heap} (a n : Int) : Ct Try.prog 27 [.pointer none, .int .u64 a, .int .u64 n] H (fun u H' => u = .tuple #[.slice none 0 0, .bool false] ∧ H = H') := by
  refine Ct.mk Try.func27 rfl Try.ntmps27 rfl ?_
  intro W0 hW0
  have o0 : Old H H := Old.refl H
  refine KC.seq ?_
  refine KC.region ?_
  refine KL.op (R.assign rfl rfl) rfl rfl rfl ?_
  refine KL.op (R.assign rfl rfl) rfl rfl rfl ?_
  refine KL.nil ?_
  refine KQ.seq ?_
  refine KC.seq ?_
  refine KC.seq ?_
  refine KC.region ?_
  refine KL.op (R.move rfl rfl) rfl rfl rfl ?_
  refine KL.op (R.eqlP rfl Try.underlying25 rfl rfl) rfl rfl rfl ?_
  refine KL.op (R.move rfl rfl) rfl rfl rfl ?_
  refine KL.skip rfl rfl rfl ?_
  refine KL.skip rfl rfl rfl ?_
  refine KL.skip rfl rfl rfl ?_
  refine KL.skip rfl rfl rfl ?_
  refine KL.skip rfl rfl rfl ?_
  refine KL.skip rfl rfl rfl ?_
  refine KL.skip rfl rfl rfl ?_
  refine KL.skip rfl rfl rfl ?_
  refine KL.skip rfl rfl rfl ?_
  refine KL.skip rfl rfl rfl ?_
  refine KL.op (R.pick rfl rfl rfl) rfl rfl rfl ?_
  refine KL.nil ?_
  refine KQ.seq ?_
  refine KC.condT rfl ?_
  refine KC.seq ?_
  refine KC.region ?_
  refine KL.op (R.assign rfl rfl) rfl rfl rfl ?_
  refine KL.op (R.assign rfl rfl) rfl rfl rfl ?_
  refine KL.nil ?_
  refine KQ.seq ?_
  refine KC.ret ?_
  refine KQ.retThen ?_
  refine KQ.ofRet ?_
  refine KQ.fin2 Try.results27 rfl rfl ?_
  exact ⟨rfl, rfl⟩

set_option maxRecDepth 100000 in
set_option maxHeartbeats 4000000 in
theorem access1_any {H : Heap} (g : Nat) (v : Value) (bs : List Int) (most : Int) (h : MAt 65 .u32 H g v bs most) (g1 g2 g3 : Nat) (t1 t2 t3 : TypeId) (at_ off n : Int) (b1 : H[g1]? = some (.cells [.pointer (some ⟨g, 0, none⟩)].toArray t1 (0, 0))) (b2 : H[g2]? = some (.cells [.int .u32 at_].toArray t2 (0, 0))) (b3 : H[g3]? = some (.cells [.int .u32 off].toArray t3 (0, 0))) (r2 : InR .u32 at_) (r3 : InR .u32 off) (hn0 : 0 ≤ n) (hn2 : n ≤ 8) : Ct Try.prog 33 [.int .i64 n, .pointer (some ⟨g1, 0, none⟩), .pointer (some ⟨g2, 0, none⟩), .pointer (some ⟨g3, 0, none⟩)] H (fun u H' => u = partV v bs (at_ + off) n ∧ H = H') := by
  refine Ct.mk Try.func33 rfl Try.ntmps33 rfl ?_
  intro W0 hW0
  have o0 : Old H H := Old.refl H
  dsimp only [InR] at r2 r3
  refine KC.seq ?_
  refine KC.region ?_
  refine KL.op (R.assign rfl rfl) rfl rfl rfl ?_
  refine KL.op (R.assign rfl rfl) rfl rfl rfl ?_
  refine KL.nil ?_
  refine KQ.seq ?_
  refine KC.seq ?_
  refine KC.region ?_
  refine KL.op (R.load rfl Try.underlying25 rfl rfl (by first | exact cell_of b1 rfl | exact cell_of b2 rfl | exact cell_of b3 rfl | assumption)) rfl rfl rfl ?_
  refine KL.op (R.load rfl Try.underlying23 rfl rfl (by first | exact cell_of b1 rfl | exact cell_of b2 rfl | exact cell_of b3 rfl | assumption)) rfl rfl rfl ?_
  refine KL.op (R.convI rfl Try.underlying23 Try.underlying28 rfl (by dsimp only [InR]; omega)) rfl rfl rfl ?_
  refine KL.op (R.load rfl Try.underlying23 rfl rfl (by first | exact cell_of b1 rfl | exact cell_of b2 rfl | exact cell_of b3 rfl | assumption)) rfl rfl rfl ?_
  refine KL.op (R.convI rfl Try.underlying23 Try.underlying28 rfl (by dsimp only [InR]; omega)) rfl rfl rfl ?_
  refine KL.op (R.add rfl rfl rfl (by dsimp only [InR]; omega)) rfl rfl rfl ?_
  refine KL.op (R.move rfl rfl) rfl rfl rfl ?_
  refine KL.op (R.convI rfl Try.underlying3 Try.underlying28 rfl (by dsimp only [InR]; omega)) rfl rfl rfl ?_
  refine KL.call rfl rfl rfl rfl Try.call27 rfl rfl rfl (part_any _ _ _ _ h _ _ (by omega) (by omega) (by omega) (by omega)) ?_
  rintro _ _ ⟨rfl, rfl⟩
  refine KL.op (R.extract rfl rfl rfl) rfl rfl rfl ?_
  refine KL.op (R.extract rfl rfl rfl) rfl rfl rfl ?_
  refine KL.op (R.assign rfl rfl) rfl rfl rfl ?_
  refine KL.op (R.assign rfl rfl) rfl rfl rfl ?_
  refine KL.nil ?_
  refine KQ.seq ?_
  refine KC.ret ?_
  refine KQ.ofRet ?_
  refine KQ.fin2 Try.results33 rfl rfl ?_
  exact ⟨rfl, rfl⟩

set_option maxRecDepth 100000 in
set_option maxHeartbeats 4000000 in
theorem access1_nil {H : Heap}  (g1 g2 g3 : Nat) (t1 t2 t3 : TypeId) (at_ off n : Int) (b1 : H[g1]? = some (.cells [.pointer none].toArray t1 (0, 0))) (b2 : H[g2]? = some (.cells [.int .u32 at_].toArray t2 (0, 0))) (b3 : H[g3]? = some (.cells [.int .u32 off].toArray t3 (0, 0))) (r2 : InR .u32 at_) (r3 : InR .u32 off) (hn0 : 0 ≤ n) (hn2 : n ≤ 8) : Ct Try.prog 33 [.int .i64 n, .pointer (some ⟨g1, 0, none⟩), .pointer (some ⟨g2, 0, none⟩), .pointer (some ⟨g3, 0, none⟩)] H (fun u H' => u = .tuple #[.slice none 0 0, .bool false] ∧ H = H') := by
  refine Ct.mk Try.func33 rfl Try.ntmps33 rfl ?_
  intro W0 hW0
  have o0 : Old H H := Old.refl H
  dsimp only [InR] at r2 r3
  refine KC.seq ?_
  refine KC.region ?_
  refine KL.op (R.assign rfl rfl) rfl rfl rfl ?_
  refine KL.op (R.assign rfl rfl) rfl rfl rfl ?_
  refine KL.nil ?_
  refine KQ.seq ?_
  refine KC.seq ?_
  refine KC.region ?_
  refine KL.op (R.load rfl Try.underlying25 rfl rfl (by first | exact cell_of b1 rfl | exact cell_of b2 rfl | exact cell_of b3 rfl | assumption)) rfl rfl rfl ?_
  refine KL.op (R.load rfl Try.underlying23 rfl rfl (by first | exact cell_of b1 rfl | exact cell_of b2 rfl | exact cell_of b3 rfl | assumption)) rfl rfl rfl ?_
  refine KL.op (R.convI rfl Try.underlying23 Try.underlying28 rfl (by dsimp only [InR]; omega)) rfl rfl rfl ?_
  refine KL.op (R.load rfl Try.underlying23 rfl rfl (by first | exact cell_of b1 rfl | exact cell_of b2 rfl | exact cell_of b3 rfl | assumption)) rfl rfl rfl ?_
  refine KL.op (R.convI rfl Try.underlying23 Try.underlying28 rfl (by dsimp only [InR]; omega)) rfl rfl rfl ?_
  refine KL.op (R.add rfl rfl rfl (by dsimp only [InR]; omega)) rfl rfl rfl ?_
  refine KL.op (R.move rfl rfl) rfl rfl rfl ?_
  refine KL.op (R.convI rfl Try.underlying3 Try.underlying28 rfl (by dsimp only [InR]; omega)) rfl rfl rfl ?_
  refine KL.call rfl rfl rfl rfl Try.call27 rfl rfl rfl (part_nil _ _) ?_
  rintro _ _ ⟨rfl, rfl⟩
  refine KL.op (R.extract rfl rfl rfl) rfl rfl rfl ?_
  refine KL.op (R.extract rfl rfl rfl) rfl rfl rfl ?_
  refine KL.op (R.assign rfl rfl) rfl rfl rfl ?_
  refine KL.op (R.assign rfl rfl) rfl rfl rfl ?_
  refine KL.nil ?_
  refine KQ.seq ?_
  refine KC.ret ?_
  refine KQ.ofRet ?_
  refine KQ.fin2 Try.results33 rfl rfl ?_
  exact ⟨rfl, rfl⟩

set_option maxRecDepth 100000 in
set_option maxHeartbeats 4000000 in
theorem access_any {H : Heap} (g : Nat) (v : Value) (bs : List Int) (most : Int) (h : MAt 65 .u32 H g v bs most) (op lo hi at_ off : Int) (r2 : InR .u32 at_) (r3 : InR .u32 off) (r4 : InR .u8 op) : Ct Try.prog 28 [.pointer (some ⟨g, 0, none⟩), .int .u8 op, .int .u8 lo, .int .u8 hi, .int .u32 at_, .int .u32 off] H (fun u H' => u = accV v bs lo hi op (at_ + off) ∧ Old H H') := by
  refine Ct.mk Try.func28 rfl Try.ntmps28 rfl ?_
  intro W0 hW0
  have o0 : Old H H := Old.refl H
  have hml := mw_le op
  refine KC.seq ?_
  refine KC.region ?_
  refine KL.opM (M.box rfl rfl rfl) rfl rfl rfl ?_
  rintro _ H1 ⟨rfl, n1⟩
  have z1 := n1.2.1
  have o0 := o0.trans n1.1
  have b1 := n1.2.2
  have b1 := b1
  refine KL.opM (M.box rfl rfl rfl) rfl rfl rfl ?_
  rintro _ H2 ⟨rfl, n2⟩
  have z2 := n2.2.1
  have o0 := o0.trans n2.1
  have b1 := (n2.1).blk b1
  have b2 := n2.2.2
  have b2 := b2
  refine KL.opM (M.box rfl rfl rfl) rfl rfl rfl ?_
  rintro _ H3 ⟨rfl, n3⟩
  have z3 := n3.2.1
  have o0 := o0.trans n3.1
  have b1 := (n3.1).blk b1
  have b2 := (n3.1).blk b2
  have b3 := n3.2.2
  have b3 := b3
  refine KL.op (R.assign rfl rfl) rfl rfl rfl ?_
  refine KL.op (R.assign rfl rfl) rfl rfl rfl ?_
  refine KL.nil ?_
  refine KQ.seq ?_
  refine KC.seq ?_
  refine KC.region ?_
  refine KL.op (R.makeFunc rfl rfl rfl) rfl rfl rfl ?_
  refine KL.op (R.assign rfl rfl) rfl rfl rfl ?_
  refine KL.nil ?_
  refine KQ.seq ?_
  refine KC.seq ?_
  refine KC.seq ?_
  refine KC.region ?_
  refine KL.op (R.move rfl rfl) rfl rfl rfl ?_
  refine KL.op (R.move rfl rfl) rfl rfl rfl ?_
  refine KL.op (R.lss rfl rfl rfl) rfl rfl rfl ?_
  refine KL.op (R.move rfl rfl) rfl rfl rfl ?_
  refine KL.case (d := 19) rfl ?_ ?_
  · intro hg19
    try simp only [decide_eq_true_eq, decide_eq_false_iff_not, Bool.not_eq_true', Bool.not_eq_false', Bool.and_eq_true, Bool.or_eq_false_iff] at hg19
    refine KL.skip rfl rfl rfl ?_
    refine KL.skip rfl rfl rfl ?_
    refine KL.skip rfl rfl rfl ?_
    refine KL.op (R.pick rfl rfl rfl) rfl rfl rfl ?_
    refine KL.op (R.move rfl rfl) rfl rfl rfl ?_
    refine KL.skip rfl rfl rfl ?_
    refine KL.skip rfl rfl rfl ?_
    refine KL.skip rfl rfl rfl ?_
    refine KL.op (R.pick rfl rfl rfl) rfl rfl rfl ?_
    refine KL.nil ?_
    refine KQ.seq ?_
    refine KC.condT rfl ?_
    refine KC.seq ?_
    refine KC.region ?_
    refine KL.op (R.assign rfl rfl) rfl rfl rfl ?_
    refine KL.op (R.assign rfl rfl) rfl rfl rfl ?_
    refine KL.nil ?_
    refine KQ.seq ?_
    refine KC.ret ?_
    refine KQ.retThen ?_
    refine KQ.ofRet ?_
    refine KQ.fin2 Try.results28 rfl rfl ?_
    refine ⟨?_, o0⟩
    unfold accV accS
    first
      | (have hN : ¬ inA bs lo hi op (at_ + off) := (by unfold inA; omega)
         rw [if_neg hN, decide_eq_false hN])
      | (unfold partS
         by_cases hA : at_ + off + (mw op : Nat) ≤ bs.length
         · have hY : inA bs lo hi op (at_ + off) := (by unfold inA; omega)
           rw [if_pos hA, if_pos hY, decide_eq_true hA, decide_eq_true hY]
         · have hN : ¬ inA bs lo hi op (at_ + off) := (by unfold inA; omega)
           rw [if_neg hA, if_neg hN, decide_eq_false hA, decide_eq_false hN])
  · intro hg19
    try simp only [decide_eq_true_eq, decide_eq_false_iff_not, Bool.not_eq_true', Bool.not_eq_false', Bool.and_eq_true, Bool.or_eq_false_iff] at hg19
    refine KL.op (R.move rfl rfl) rfl rfl rfl ?_
    refine KL.op (R.move rfl rfl) rfl rfl rfl ?_
    refine KL.op (R.gtr rfl rfl rfl) rfl rfl rfl ?_
    refine KL.op (R.pick rfl rfl rfl) rfl rfl rfl ?_
    refine KL.op (R.move rfl rfl) rfl rfl rfl ?_
    refine KL.case (d := 24) rfl ?_ ?_
    · intro hg24
      try simp only [decide_eq_true_eq, decide_eq_false_iff_not, Bool.not_eq_true', Bool.not_eq_false', Bool.and_eq_true, Bool.or_eq_false_iff] at hg24
      refine KL.skip rfl rfl rfl ?_
      refine KL.skip rfl rfl rfl ?_
      refine KL.skip rfl rfl rfl ?_
      refine KL.op (R.pick rfl rfl rfl) rfl rfl rfl ?_
      refine KL.nil ?_
      refine KQ.seq ?_
      refine KC.condT rfl ?_
      refine KC.seq ?_
      refine KC.region ?_
      refine KL.op (R.assign rfl rfl) rfl rfl rfl ?_
      refine KL.op (R.assign rfl rfl) rfl rfl rfl ?_
      refine KL.nil ?_
      refine KQ.seq ?_
      refine KC.ret ?_
      refine KQ.retThen ?_
      refine KQ.ofRet ?_
      refine KQ.fin2 Try.results28 rfl rfl ?_
      refine ⟨?_, o0⟩
      unfold accV accS
      first
        | (have hN : ¬ inA bs lo hi op (at_ + off) := (by unfold inA; omega)
           rw [if_neg hN, decide_eq_false hN])
        | (unfold partS
           by_cases hA : at_ + off + (mw op : Nat) ≤ bs.length
           · have hY : inA bs lo hi op (at_ + off) := (by unfold inA; omega)
             rw [if_pos hA, if_pos hY, decide_eq_true hA, decide_eq_true hY]
           · have hN : ¬ inA bs lo hi op (at_ + off) := (by unfold inA; omega)
             rw [if_neg hA, if_neg hN, decide_eq_false hA, decide_eq_false hN])
    · intro hg24
      try simp only [decide_eq_true_eq, decide_eq_false_iff_not, Bool.not_eq_true', Bool.not_eq_false', Bool.and_eq_true, Bool.or_eq_false_iff] at hg24
      refine KL.op (R.move rfl rfl) rfl rfl rfl ?_
      refine KL.call rfl rfl rfl rfl Try.call34 rfl rfl rfl (Width_any _) ?_
      rintro _ _ ⟨rfl, rfl⟩
      refine KL.op (R.eql rfl rfl rfl) rfl rfl rfl ?_
      refine KL.op (R.pick rfl rfl rfl) rfl rfl rfl ?_
      refine KL.nil ?_
      refine KQ.seq ?_
      refine KC.iteL rfl ?_ ?_
      · intro hc28
        try simp only [decide_eq_true_eq, decide_eq_false_iff_not, Bool.not_eq_true', Bool.not_eq_false', Bool.and_eq_true, Bool.or_eq_false_iff] at hc28
        refine KC.seq ?_
        refine KC.region ?_
        refine KL.op (R.assign rfl rfl) rfl rfl rfl ?_
        refine KL.op (R.assign rfl rfl) rfl rfl rfl ?_
        refine KL.nil ?_
        refine KQ.seq ?_
        refine KC.ret ?_
        refine KQ.retThen ?_
        refine KQ.ofRet ?_
        refine KQ.fin2 Try.results28 rfl rfl ?_
        refine ⟨?_, o0⟩
        unfold accV accS
        first
          | (have hN : ¬ inA bs lo hi op (at_ + off) := (by unfold inA; omega)
             rw [if_neg hN, decide_eq_false hN])
          | (unfold partS
             by_cases hA : at_ + off + (mw op : Nat) ≤ bs.length
             · have hY : inA bs lo hi op (at_ + off) := (by unfold inA; omega)
               rw [if_pos hA, if_pos hY, decide_eq_true hA, decide_eq_true hY]
             · have hN : ¬ inA bs lo hi op (at_ + off) := (by unfold inA; omega)
               rw [if_neg hA, if_neg hN, decide_eq_false hA, decide_eq_false hN])
      · intro hc28
        try simp only [decide_eq_true_eq, decide_eq_false_iff_not, Bool.not_eq_true', Bool.not_eq_false', Bool.and_eq_true, Bool.or_eq_false_iff] at hc28
        refine KC.skip ?_
        refine KQ.seq ?_
        refine KC.seq ?_
        refine KC.region ?_
        refine KL.op (R.move rfl rfl) rfl rfl rfl ?_
        refine KL.op (R.move rfl rfl) rfl rfl rfl ?_
        refine KL.call rfl rfl rfl rfl Try.call34 rfl rfl rfl (Width_any _) ?_
        rintro _ _ ⟨rfl, rfl⟩
        refine KL.call rfl rfl rfl rfl Try.call33 rfl rfl rfl (access1_any _ _ _ _ (h.old o0) _ _ _ _ _ _ _ _ _ b1 b2 b3 r2 r3 (by omega) (by omega)) ?_
        rintro _ _ ⟨rfl, rfl⟩
        refine KL.op (R.extract rfl rfl rfl) rfl rfl rfl ?_
        refine KL.op (R.extract rfl rfl rfl) rfl rfl rfl ?_
        refine KL.op (R.assign rfl rfl) rfl rfl rfl ?_
        refine KL.op (R.assign rfl rfl) rfl rfl rfl ?_
        refine KL.nil ?_
        refine KQ.seq ?_
        refine KC.ret ?_
        refine KQ.ofRet ?_
        refine KQ.fin2 Try.results28 rfl rfl ?_
        refine ⟨?_, o0⟩
        unfold accV accS
        first
          | (have hN : ¬ inA bs lo hi op (at_ + off) := (by unfold inA; omega)
             rw [if_neg hN, decide_eq_false hN])
          | (unfold partS
             by_cases hA : at_ + off + (mw op : Nat) ≤ bs.length
             · have hY : inA bs lo hi op (at_ + off) := (by unfold inA; omega)
               rw [if_pos hA, if_pos hY, decide_eq_true hA, decide_eq_true hY]
             · have hN : ¬ inA bs lo hi op (at_ + off) := (by unfold inA; omega)
               rw [if_neg hA, if_neg hN, decide_eq_false hA, decide_eq_false hN])

set_option maxRecDepth 100000 in
set_option maxHeartbeats 4000000 in
theorem access_nil {H : Heap}  (op lo hi at_ off : Int) (r2 : InR .u32 at_) (r3 : InR .u32 off) (r4 : InR .u8 op) : Ct Try.prog 28 [.pointer none, .int .u8 op, .int .u8 lo, .int .u8 hi, .int .u32 at_, .int .u32 off] H (fun u H' => u = .tuple #[.slice none 0 0, .bool false] ∧ Old H H') := by
  refine Ct.mk Try.func28 rfl Try.ntmps28 rfl ?_
  intro W0 hW0
  have o0 : Old H H := Old.refl H
  have hml := mw_le op
  refine KC.seq ?_
  refine KC.region ?_
  refine KL.opM (M.box rfl rfl rfl) rfl rfl rfl ?_
  rintro _ H1 ⟨rfl, n1⟩
  have z1 := n1.2.1
  have o0 := o0.trans n1.1
  have b1 := n1.2.2
  have b1 := b1
  refine KL.opM (M.box rfl rfl rfl) rfl rfl rfl ?_
  rintro _ H2 ⟨rfl, n2⟩
  have z2 := n2.2.1
  have o0 := o0.trans n2.1
  have b1 := (n2.1).blk b1
  have b2 := n2.2.2
  have b2 := b2
  refine KL.opM (M.box rfl rfl rfl) rfl rfl rfl ?_
  rintro _ H3 ⟨rfl, n3⟩
  have z3 := n3.2.1
  have o0 := o0.trans n3.1
  have b1 := (n3.1).blk b1
  have b2 := (n3.1).blk b2
  have b3 := n3.2.2
  have b3 := b3
  refine KL.op (R.assign rfl rfl) rfl rfl rfl ?_
  refine KL.op (R.assign rfl rfl) rfl rfl rfl ?_
  refine KL.nil ?_
  refine KQ.seq ?_
  refine KC.seq ?_
  refine KC.region ?_
  refine KL.op (R.makeFunc rfl rfl rfl) rfl rfl rfl ?_
  refine KL.op (R.assign rfl rfl) rfl rfl rfl ?_
  refine KL.nil ?_
  refine KQ.seq ?_
  refine KC.seq ?_
  refine KC.seq ?_
  refine KC.region ?_
  refine KL.op (R.move rfl rfl) rfl rfl rfl ?_
  refine KL.op (R.move rfl rfl) rfl rfl rfl ?_
  refine KL.op (R.lss rfl rfl rfl) rfl rfl rfl ?_
  refine KL.op (R.move rfl rfl) rfl rfl rfl ?_
  refine KL.case (d := 19) rfl ?_ ?_
  · intro hg19
    try simp only [decide_eq_true_eq, decide_eq_false_iff_not, Bool.not_eq_true', Bool.not_eq_false', Bool.and_eq_true, Bool.or_eq_false_iff] at hg19
    refine KL.skip rfl rfl rfl ?_
    refine KL.skip rfl rfl rfl ?_
    refine KL.skip rfl rfl rfl ?_
    refine KL.op (R.pick rfl rfl rfl) rfl rfl rfl ?_
    refine KL.op (R.move rfl rfl) rfl rfl rfl ?_
    refine KL.skip rfl rfl rfl ?_
    refine KL.skip rfl rfl rfl ?_
    refine KL.skip rfl rfl rfl ?_
    refine KL.op (R.pick rfl rfl rfl) rfl rfl rfl ?_
    refine KL.nil ?_
    refine KQ.seq ?_
    refine KC.condT rfl ?_
    refine KC.seq ?_
    refine KC.region ?_
    refine KL.op (R.assign rfl rfl) rfl rfl rfl ?_
    refine KL.op (R.assign rfl rfl) rfl rfl rfl ?_
    refine KL.nil ?_
    refine KQ.seq ?_
    refine KC.ret ?_
    refine KQ.retThen ?_
    refine KQ.ofRet ?_
    refine KQ.fin2 Try.results28 rfl rfl ?_
    exact ⟨rfl, o0⟩
  · intro hg19
    try simp only [decide_eq_true_eq, decide_eq_false_iff_not, Bool.not_eq_true', Bool.not_eq_false', Bool.and_eq_true, Bool.or_eq_false_iff] at hg19
    refine KL.op (R.move rfl rfl) rfl rfl rfl ?_
    refine KL.op (R.move rfl rfl) rfl rfl rfl ?_
    refine KL.op (R.gtr rfl rfl rfl) rfl rfl rfl ?_
    refine KL.op (R.pick rfl rfl rfl) rfl rfl rfl ?_
    refine KL.op (R.move rfl rfl) rfl rfl rfl ?_
    refine KL.case (d := 24) rfl ?_ ?_
    · intro hg24
      try simp only [decide_eq_true_eq, decide_eq_false_iff_not, Bool.not_eq_true', Bool.not_eq_false', Bool.and_eq_true, Bool.or_eq_false_iff] at hg24
      refine KL.skip rfl rfl rfl ?_
      refine KL.skip rfl rfl rfl ?_
      refine KL.skip rfl rfl rfl ?_
      refine KL.op (R.pick rfl rfl rfl) rfl rfl rfl ?_
      refine KL.nil ?_
      refine KQ.seq ?_
      refine KC.condT rfl ?_
      refine KC.seq ?_
      refine KC.region ?_
      refine KL.op (R.assign rfl rfl) rfl rfl rfl ?_
      refine KL.op (R.assign rfl rfl) rfl rfl rfl ?_
      refine KL.nil ?_
      refine KQ.seq ?_
      refine KC.ret ?_
      refine KQ.retThen ?_
      refine KQ.ofRet ?_
      refine KQ.fin2 Try.results28 rfl rfl ?_
      exact ⟨rfl, o0⟩
    · intro hg24
      try simp only [decide_eq_true_eq, decide_eq_false_iff_not, Bool.not_eq_true', Bool.not_eq_false', Bool.and_eq_true, Bool.or_eq_false_iff] at hg24
      refine KL.op (R.move rfl rfl) rfl rfl rfl ?_
      refine KL.call rfl rfl rfl rfl Try.call34 rfl rfl rfl (Width_any _) ?_
      rintro _ _ ⟨rfl, rfl⟩
      refine KL.op (R.eql rfl rfl rfl) rfl rfl rfl ?_
      refine KL.op (R.pick rfl rfl rfl) rfl rfl rfl ?_
      refine KL.nil ?_
      refine KQ.seq ?_
      refine KC.iteL rfl ?_ ?_
      · intro hc28
        try simp only [decide_eq_true_eq, decide_eq_false_iff_not, Bool.not_eq_true', Bool.not_eq_false', Bool.and_eq_true, Bool.or_eq_false_iff] at hc28
        refine KC.seq ?_
        refine KC.region ?_
        refine KL.op (R.assign rfl rfl) rfl rfl rfl ?_
        refine KL.op (R.assign rfl rfl) rfl rfl rfl ?_
        refine KL.nil ?_
        refine KQ.seq ?_
        refine KC.ret ?_
        refine KQ.retThen ?_
        refine KQ.ofRet ?_
        refine KQ.fin2 Try.results28 rfl rfl ?_
        exact ⟨rfl, o0⟩
      · intro hc28
        try simp only [decide_eq_true_eq, decide_eq_false_iff_not, Bool.not_eq_true', Bool.not_eq_false', Bool.and_eq_true, Bool.or_eq_false_iff] at hc28
        refine KC.skip ?_
        refine KQ.seq ?_
        refine KC.seq ?_
        refine KC.region ?_
        refine KL.op (R.move rfl rfl) rfl rfl rfl ?_
        refine KL.op (R.move rfl rfl) rfl rfl rfl ?_
        refine KL.call rfl rfl rfl rfl Try.call34 rfl rfl rfl (Width_any _) ?_
        rintro _ _ ⟨rfl, rfl⟩
        refine KL.call rfl rfl rfl rfl Try.call33 rfl rfl rfl (access1_nil _ _ _ _ _ _ _ _ _ b1 b2 b3 r2 r3 (by omega) (by omega)) ?_
        rintro _ _ ⟨rfl, rfl⟩
        refine KL.op (R.extract rfl rfl rfl) rfl rfl rfl ?_
        refine KL.op (R.extract rfl rfl rfl) rfl rfl rfl ?_
        refine KL.op (R.assign rfl rfl) rfl rfl rfl ?_
        refine KL.op (R.assign rfl rfl) rfl rfl rfl ?_
        refine KL.nil ?_
        refine KQ.seq ?_
        refine KC.ret ?_
        refine KQ.ofRet ?_
        refine KQ.fin2 Try.results28 rfl rfl ?_
        exact ⟨rfl, o0⟩

end Go.Proofs.Ytdefjpakpgchhaa
