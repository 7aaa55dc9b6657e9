/- No space. No condition. -/
import Derived.Test.YtbmikddaiedhiaaSpF
namespace Go.Proofs.Ytbmikddaiedhiaa
open Go Go.RowKit
set_option linter.unusedVariables false
set_option linter.unusedSimpArgs false
set_option linter.unnecessarySimpa false
set_option maxRecDepth 100000 in
set_option maxHeartbeats 4000000 in
theorem NFunc_any {H : Heap} (i : Int) : Ct Try.prog 11 [.pointer none, .int .u32 i] H (fun u H' => u = .tuple #[.agg [.slice none 0 0, .slice none 0 0].toArray, .bool false] ∧ Old H H') := by
  refine Ct.mk Try.func11 rfl Try.ntmps11 rfl ?_
  intro W0 hW0
  have o0 : Old H H := Old.refl H
  refine KC.seq ?_
  refine KC.region ?_
  refine KL.opM (M.alloc rfl zr24 rfl) rfl rfl rfl ?_
  rintro _ H1 ⟨rfl, n1⟩
  have z1 := n1.2.1
  have o0 := o0.trans n1.1
  have b1 := n1.2.2
  have bq := b1
  refine KL.op (R.assign rfl rfl) rfl rfl rfl ?_
  refine KL.nil ?_
  refine KQ.seq ?_
  refine KC.seq ?_
  refine KC.seq ?_
  refine KC.region ?_
  refine KL.op (R.move rfl rfl) rfl rfl rfl ?_
  refine KL.op ((R.eqlP rfl Try.underlying40 rfl rfl).val (show _ = Value.bool true from rfl)) rfl rfl rfl ?_
  refine KL.nil ?_
  refine KQ.seq ?_
  refine KC.condT rfl ?_
  refine KC.seq ?_
  refine KC.region ?_
  refine KL.op (R.buildL rfl Try.underlying24 zr24 [(0, 1), (1, 1)] (fun w => by kernel_rfl) rfl trivial rfl rfl trivial rfl) rfl rfl rfl ?_
  refine KL.opS (S.storeAgg rfl sz24 rfl rfl (rfl) (by intro u hu; simp only [List.mem_cons, List.not_mem_nil, or_false] at hu; rcases hu with rfl | rfl <;> rfl) bq (by simp)) rfl rfl ?_
  rintro H2 ⟨u2, b2⟩
  have o0 := o0.upd u2 (by omega)
  have zu2 := u2.1
  have bq := b2
  rw [over_all (by rfl)] at bq
  refine KL.op (R.assign rfl rfl) rfl rfl rfl ?_
  refine KL.nil ?_
  refine KQ.seq ?_
  refine KC.ret ?_
  refine KQ.retThen ?_
  refine KQ.ofRet ?_
  refine KQ.finCell2 Try.results11 rfl Try.underlying24 rfl sz24 (cells_of bq) (rfl) rfl ?_
  exact ⟨rfl, o0⟩

set_option maxRecDepth 100000 in
set_option maxHeartbeats 4000000 in
theorem NType_any {H : Heap} (i : Int) : Ct Try.prog 18 [.pointer none, .int .u32 i] H (fun u H' => u = .tuple #[.agg [.slice none 0 0, .slice none 0 0].toArray, .bool false] ∧ Old H H') := by
  refine Ct.mk Try.func18 rfl Try.ntmps18 rfl ?_
  intro W0 hW0
  have o0 : Old H H := Old.refl H
  refine KC.seq ?_
  refine KC.region ?_
  refine KL.opM (M.alloc rfl zr24 rfl) rfl rfl rfl ?_
  rintro _ H1 ⟨rfl, n1⟩
  have z1 := n1.2.1
  have o0 := o0.trans n1.1
  have b1 := n1.2.2
  have bq := b1
  refine KL.op (R.assign rfl rfl) rfl rfl rfl ?_
  refine KL.nil ?_
  refine KQ.seq ?_
  refine KC.seq ?_
  refine KC.seq ?_
  refine KC.region ?_
  refine KL.op (R.move rfl rfl) rfl rfl rfl ?_
  refine KL.op ((R.eqlP rfl Try.underlying40 rfl rfl).val (show _ = Value.bool true from rfl)) rfl rfl rfl ?_
  refine KL.nil ?_
  refine KQ.seq ?_
  refine KC.condT rfl ?_
  refine KC.seq ?_
  refine KC.region ?_
  refine KL.op (R.buildL rfl Try.underlying24 zr24 [(0, 1), (1, 1)] (fun w => by kernel_rfl) rfl trivial rfl rfl trivial rfl) rfl rfl rfl ?_
  refine KL.opS (S.storeAgg rfl sz24 rfl rfl (rfl) (by intro u hu; simp only [List.mem_cons, List.not_mem_nil, or_false] at hu; rcases hu with rfl | rfl <;> rfl) bq (by simp)) rfl rfl ?_
  rintro H2 ⟨u2, b2⟩
  have o0 := o0.upd u2 (by omega)
  have zu2 := u2.1
  have bq := b2
  rw [over_all (by rfl)] at bq
  refine KL.op (R.assign rfl rfl) rfl rfl rfl ?_
  refine KL.nil ?_
  refine KQ.seq ?_
  refine KC.ret ?_
  refine KQ.retThen ?_
  refine KQ.ofRet ?_
  refine KQ.finCell2 Try.results18 rfl Try.underlying24 rfl sz24 (cells_of bq) (rfl) rfl ?_
  exact ⟨rfl, o0⟩

set_option maxRecDepth 100000 in
set_option maxHeartbeats 4000000 in
theorem NExp_any {H : Heap} (nm : ByteArray) (k : Int) : Ct Try.prog 19 [.pointer none, .string nm, .int .u8 k] H (fun u H' => u = .tuple #[.int .u32 0, .bool false] ∧ Old H H') := by
  refine Ct.mk Try.func19 rfl Try.ntmps19 rfl ?_
  intro W0 hW0
  have o0 : Old H H := Old.refl H
  refine KC.seq ?_
  refine KC.region ?_
  refine KL.op (R.assign rfl rfl) rfl rfl rfl ?_
  refine KL.op (R.assign rfl rfl) rfl rfl rfl ?_
  refine KL.nil ?_
  refine KQ.seq ?_
  refine KC.seq ?_
  refine KC.seq ?_
  refine KC.region ?_
  refine KL.op (R.move rfl rfl) rfl rfl rfl ?_
  refine KL.op ((R.eqlP rfl Try.underlying40 rfl rfl).val (show _ = Value.bool true from rfl)) rfl rfl rfl ?_
  refine KL.nil ?_
  refine KQ.seq ?_
  refine KC.condT rfl ?_
  refine KC.seq ?_
  refine KC.region ?_
  refine KL.op (R.assign rfl rfl) rfl rfl rfl ?_
  refine KL.op (R.assign rfl rfl) rfl rfl rfl ?_
  refine KL.nil ?_
  refine KQ.seq ?_
  refine KC.ret ?_
  refine KQ.retThen ?_
  refine KQ.ofRet ?_
  refine KQ.fin2 Try.results19 rfl rfl ?_
  exact ⟨rfl, o0⟩

set_option maxRecDepth 100000 in
set_option maxHeartbeats 4000000 in
theorem NCount_any {H : Heap} (k : Int) : Ct Try.prog 21 [.pointer none, .int .u8 k] H (fun u H' => u = .int .i64 0 ∧ Old H H') := by
  refine Ct.mk Try.func21 rfl Try.ntmps21 rfl ?_
  intro W0 hW0
  have o0 : Old H H := Old.refl H
  refine KC.seq ?_
  refine KC.region ?_
  refine KL.op (R.assign rfl rfl) rfl rfl rfl ?_
  refine KL.nil ?_
  refine KQ.seq ?_
  refine KC.seq ?_
  refine KC.seq ?_
  refine KC.region ?_
  refine KL.op (R.move rfl rfl) rfl rfl rfl ?_
  refine KL.op ((R.eqlP rfl Try.underlying40 rfl rfl).val (show _ = Value.bool true from rfl)) rfl rfl rfl ?_
  refine KL.op (R.move rfl rfl) rfl rfl rfl ?_
  refine KL.skip rfl rfl rfl ?_
  refine KL.skip rfl rfl rfl ?_
  refine KL.op (R.pick rfl rfl rfl) rfl rfl rfl ?_
  refine KL.nil ?_
  refine KQ.seq ?_
  refine KC.condT rfl ?_
  refine KC.seq ?_
  refine KC.region ?_
  refine KL.op (R.assign rfl rfl) rfl rfl rfl ?_
  refine KL.nil ?_
  refine KQ.seq ?_
  refine KC.ret ?_
  refine KQ.retThen ?_
  refine KQ.ofRet ?_
  refine KQ.fin1 Try.results21 rfl ?_
  exact ⟨rfl, o0⟩

set_option maxRecDepth 100000 in
set_option maxHeartbeats 4000000 in
theorem NImported_any {H : Heap} (k : Int) : Ct Try.prog 23 [.pointer none, .int .u8 k] H (fun u H' => u = .int .i64 0 ∧ Old H H') := by
  refine Ct.mk Try.func23 rfl Try.ntmps23 rfl ?_
  intro W0 hW0
  have o0 : Old H H := Old.refl H
  refine KC.seq ?_
  refine KC.region ?_
  refine KL.op (R.assign rfl rfl) rfl rfl rfl ?_
  refine KL.nil ?_
  refine KQ.seq ?_
  refine KC.seq ?_
  refine KC.seq ?_
  refine KC.region ?_
  refine KL.op (R.move rfl rfl) rfl rfl rfl ?_
  refine KL.op ((R.eqlP rfl Try.underlying40 rfl rfl).val (show _ = Value.bool true from rfl)) rfl rfl rfl ?_
  refine KL.op (R.move rfl rfl) rfl rfl rfl ?_
  refine KL.skip rfl rfl rfl ?_
  refine KL.skip rfl rfl rfl ?_
  refine KL.op (R.pick rfl rfl rfl) rfl rfl rfl ?_
  refine KL.nil ?_
  refine KQ.seq ?_
  refine KC.condT rfl ?_
  refine KC.seq ?_
  refine KC.region ?_
  refine KL.op (R.assign rfl rfl) rfl rfl rfl ?_
  refine KL.nil ?_
  refine KQ.seq ?_
  refine KC.ret ?_
  refine KQ.retThen ?_
  refine KQ.ofRet ?_
  refine KQ.fin1 Try.results23 rfl ?_
  exact ⟨rfl, o0⟩


def cntK (s : Spc) : Nat → Nat
  | 0 => s.funcs.length
  | 1 => s.tables.length
  | 2 => s.mems.length
  | 3 => s.globals.length
  | _ => 0
theorem cntK_no {s : Spc} {k : Nat} (h : 3 < k) : cntK s k = 0 := by
  match k, h with
  | k + 4, _ => rfl
theorem cntK_at {s : Spc} {k : Nat} (hk : k ≤ 3) : nth ([Value.int .i64 (s.funcs.length : Nat), .int .i64 (s.tables.length : Nat), .int .i64 (s.mems.length : Nat), .int .i64 (s.globals.length : Nat)] : List Value) k = some (.int .i64 (cntK s k : Nat)) := by
  have h4 : k = 0 ∨ k = 1 ∨ k = 2 ∨ k = 3 := by omega
  rcases h4 with rfl | rfl | rfl | rfl <;> rfl

set_option maxRecDepth 100000 in
set_option maxHeartbeats 4000000 in
theorem SCount_any {H : Heap} {g : Nat} {vt vf vg va vm ve : Value} {s : Spc} (sp : SP H g vt vf vg va vm ve s) (k : Nat) : Ct Try.prog 21 [.pointer (some ⟨g, 0, none⟩), .int .u8 (k : Nat)] H (fun u H' => u = .int .i64 (cntK s k : Nat) ∧ H = H') := by
  refine Ct.mk Try.func21 rfl Try.ntmps21 rfl ?_
  intro W0 hW0
  have o0 : Old H H := Old.refl H
  refine KC.seq ?_
  refine KC.region ?_
  refine KL.op (R.assign rfl rfl) rfl rfl rfl ?_
  refine KL.nil ?_
  refine KQ.seq ?_
  refine KC.seq ?_
  refine KC.seq ?_
  refine KC.region ?_
  refine KL.op (R.move rfl rfl) rfl rfl rfl ?_
  refine KL.op ((R.eqlP rfl Try.underlying40 rfl rfl).val (show _ = Value.bool false from rfl)) rfl rfl rfl ?_
  refine KL.op (R.move rfl rfl) rfl rfl rfl ?_
  refine KL.op (R.move rfl rfl) rfl rfl rfl ?_
  refine KL.op (R.gtr rfl rfl rfl) rfl rfl rfl ?_
  refine KL.op (R.pick rfl rfl rfl) rfl rfl rfl ?_
  refine KL.nil ?_
  refine KQ.seq ?_
  refine KC.iteL rfl ?_ ?_
  · intro hc10
    try simp only [decide_eq_true_eq, decide_eq_false_iff_not, Bool.not_eq_true', Bool.not_eq_false', Bool.and_eq_true, Bool.or_eq_false_iff] at hc10
    refine KC.seq ?_
    refine KC.region ?_
    refine KL.op (R.assign rfl rfl) rfl rfl rfl ?_
    refine KL.nil ?_
    refine KQ.seq ?_
    refine KC.ret ?_
    refine KQ.retThen ?_
    refine KQ.ofRet ?_
    refine KQ.fin1 Try.results21 rfl ?_
    first
      | exact ⟨rfl, rfl⟩
      | exact ⟨by rw [cntK_no (by omega)]; rfl, rfl⟩
  · intro hc10
    try simp only [decide_eq_true_eq, decide_eq_false_iff_not, Bool.not_eq_true', Bool.not_eq_false', Bool.and_eq_true, Bool.or_eq_false_iff] at hc10
    refine KC.skip ?_
    refine KQ.seq ?_
    refine KC.seq ?_
    refine KC.quiet (by kernel_rfl) (by kernel_rfl) ?_
    refine KD.op (R.move rfl rfl) rfl rfl rfl ?_
    refine KD.op (R.nilCheck rfl rfl) rfl rfl rfl ?_
    refine KD.op ((by first | exact R.fieldAddr rfl Try.underlying74 rfl rfl sz70 rfl | exact R.fieldAddrP rfl Try.underlying74 rfl rfl sz70 rfl)) rfl rfl rfl ?_
    refine KD.op (R.load rfl Try.underlying70 rfl rfl (by first | exact cell_of sp.b rfl | assumption)) rfl rfl rfl ?_
    refine KD.op (R.lenS rfl Try.underlying70 rfl sp.f) rfl rfl rfl ?_
    refine KD.op (R.move rfl rfl) rfl rfl rfl ?_
    refine KD.op (R.nilCheck rfl rfl) rfl rfl rfl ?_
    refine KD.op ((by first | exact R.fieldAddr rfl Try.underlying74 rfl rfl sz30 rfl | exact R.fieldAddrP rfl Try.underlying74 rfl rfl sz30 rfl)) rfl rfl rfl ?_
    refine KD.op (R.load rfl Try.underlying30 rfl rfl (by first | exact cell_of sp.b rfl | assumption)) rfl rfl rfl ?_
    refine KD.op (R.lenS rfl Try.underlying30 rfl sp.a) rfl rfl rfl ?_
    refine KD.op (R.move rfl rfl) rfl rfl rfl ?_
    refine KD.op (R.nilCheck rfl rfl) rfl rfl rfl ?_
    refine KD.op ((by first | exact R.fieldAddr rfl Try.underlying74 rfl rfl sz30 rfl | exact R.fieldAddrP rfl Try.underlying74 rfl rfl sz30 rfl)) rfl rfl rfl ?_
    refine KD.op (R.load rfl Try.underlying30 rfl rfl (by first | exact cell_of sp.b rfl | assumption)) rfl rfl rfl ?_
    refine KD.op (R.lenS rfl Try.underlying30 rfl sp.m) rfl rfl rfl ?_
    refine KD.op (R.move rfl rfl) rfl rfl rfl ?_
    refine KD.op (R.nilCheck rfl rfl) rfl rfl rfl ?_
    refine KD.op ((by first | exact R.fieldAddr rfl Try.underlying74 rfl rfl sz71 rfl | exact R.fieldAddrP rfl Try.underlying74 rfl rfl sz71 rfl)) rfl rfl rfl ?_
    refine KD.op (R.load rfl Try.underlying71 rfl rfl (by first | exact cell_of sp.b rfl | assumption)) rfl rfl rfl ?_
    refine KD.op (R.lenS rfl Try.underlying71 rfl sp.g) rfl rfl rfl ?_
    refine KD.op (R.buildArrL rfl Try.underlying72 zr72 sz3 rfl rfl rfl (by kernel_rfl) rfl) rfl rfl rfl ?_
    refine KD.op (R.move rfl rfl) rfl rfl rfl ?_
    refine KD.op (R.indexArr (j := k) (v := .int .i64 (cntK s k : Nat)) rfl Try.underlying72 sz3 Try.underlying3 rfl rfl rfl rfl (by omega) (cntK_at (k := k) (by omega))) rfl rfl rfl ?_
    refine KD.op (R.assign rfl rfl) rfl rfl rfl ?_
    refine KD.nil ?_
    refine KQ.seq ?_
    refine KC.ret ?_
    refine KQ.ofRet ?_
    refine KQ.fin1 Try.results21 rfl ?_
    first
      | exact ⟨rfl, rfl⟩
      | exact ⟨by rw [cntK_no (by omega)]; rfl, rfl⟩

end Go.Proofs.Ytbmikddaiedhiaa
