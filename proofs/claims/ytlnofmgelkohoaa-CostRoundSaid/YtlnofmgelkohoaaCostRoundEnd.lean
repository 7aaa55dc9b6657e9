/- CostRound: the law's walk; printed by gen_round.py. No condition. -/
import Derived.Test.YtlnofmgelkohoaaCostRoundA
import Derived.Test.YtlnofmgelkohoaaCostRoundB
import Derived.Test.YtlnofmgelkohoaaCostRoundC
namespace Go.Proofs.Ytlnofmgelkohoaa
open Go.RowKit
set_option linter.unusedVariables false

theorem Cost.pos (op : Int) (h0 : 0 ≤ op) (h1 : op < 256) (n2 : op ≠ 2) (n3 : op ≠ 3) (n5 : op ≠ 5) (n11 : op ≠ 11) : Opc.known op = true ↔ 0 < Cost.of op := by
  have H : ∀ j : Fin 256, (j.1 : Int) ≠ 2 → (j.1 : Int) ≠ 3 → (j.1 : Int) ≠ 5 → (j.1 : Int) ≠ 11 → (Opc.known (j.1 : Int) = true ↔ 0 < Cost.of (j.1 : Int)) := by decide +kernel
  have := H ⟨op.toNat, by omega⟩
  simp only [Int.toNat_of_nonneg h0] at this
  exact this n2 n3 n5 n11

theorem roundA (op a b : Int) (v vm : Value) (l m : List Ins) (w : World) (h0 : 0 ≤ op) (h1 : op < 256) (hv : IsIns w v l) (hm : IsIns w vm m) (hl : 2000 < l.length) :
    Calls Try.prog 4 #[.int .u8 op, .int .u32 a, .int .u32 b, v, vm] w fun e w' => e = .returned (.bool true) ∧ Below w.heap.size w w' := by
  by_cases e12 : op = 12
  · rw [e12]; exact round_12A a b v vm l m w hv hm hl
  by_cases e13 : op = 13
  · rw [e13]; exact round_13A a b v vm l m w hv hm hl
  by_cases e14 : op = 14
  · rw [e14]; exact round_14A a b v vm l m w hv hm hl
  by_cases e16 : op = 16
  · rw [e16]; exact round_16A a b v vm l m w hv hm hl
  by_cases e17 : op = 17
  · rw [e17]; exact round_17A a b v vm l m w hv hm hl
  by_cases e15 : op = 15
  · rw [e15]; exact round_15A a b v vm l m w hv hm hl
  by_cases e2 : op = 2
  · rw [e2]; exact round_2A a b v vm l m w hv hm hl
  by_cases e3 : op = 3
  · rw [e3]; exact round_3A a b v vm l m w hv hm hl
  by_cases e5 : op = 5
  · rw [e5]; exact round_5A a b v vm l m w hv hm hl
  by_cases e11 : op = 11
  · rw [e11]; exact round_11A a b v vm l m w hv hm hl
  have hp := Cost.pos op h0 h1 e2 e3 e5 e11
  cases hk : Opc.known op
  · exact round_fA op h0 h1 (by simpa using e12) (by simpa using e13) (by simpa using e14) (by simpa using e16) (by simpa using e17) (by simpa using e15) (by simpa using e2) (by simpa using e3) (by simpa using e5) (by simpa using e11) hk (fun h => by rw [hp.2 h] at hk; cases hk) a b v vm l m w hv hm hl
  · exact round_tA op h0 h1 (by simpa using e12) (by simpa using e13) (by simpa using e14) (by simpa using e16) (by simpa using e17) (by simpa using e15) (by simpa using e2) (by simpa using e3) (by simpa using e5) (by simpa using e11) hk (hp.1 hk) a b v vm l m w hv hm hl

theorem roundB (op a b : Int) (v vm : Value) (l m : List Ins) (w : World) (h0 : 0 ≤ op) (h1 : op < 256) (hv : IsIns w v l) (hm : IsIns w vm m) (hl : l.length ≤ 2000) (hm2 : 2000 < m.length) :
    Calls Try.prog 4 #[.int .u8 op, .int .u32 a, .int .u32 b, v, vm] w fun e w' => e = .returned (.bool true) ∧ Below w.heap.size w w' := by
  by_cases e12 : op = 12
  · rw [e12]; exact round_12B a b v vm l m w hv hm hl hm2
  by_cases e13 : op = 13
  · rw [e13]; exact round_13B a b v vm l m w hv hm hl hm2
  by_cases e14 : op = 14
  · rw [e14]; exact round_14B a b v vm l m w hv hm hl hm2
  by_cases e16 : op = 16
  · rw [e16]; exact round_16B a b v vm l m w hv hm hl hm2
  by_cases e17 : op = 17
  · rw [e17]; exact round_17B a b v vm l m w hv hm hl hm2
  by_cases e15 : op = 15
  · rw [e15]; exact round_15B a b v vm l m w hv hm hl hm2
  by_cases e2 : op = 2
  · rw [e2]; exact round_2B a b v vm l m w hv hm hl hm2
  by_cases e3 : op = 3
  · rw [e3]; exact round_3B a b v vm l m w hv hm hl hm2
  by_cases e5 : op = 5
  · rw [e5]; exact round_5B a b v vm l m w hv hm hl hm2
  by_cases e11 : op = 11
  · rw [e11]; exact round_11B a b v vm l m w hv hm hl hm2
  have hp := Cost.pos op h0 h1 e2 e3 e5 e11
  cases hk : Opc.known op
  · exact round_fB op h0 h1 (by simpa using e12) (by simpa using e13) (by simpa using e14) (by simpa using e16) (by simpa using e17) (by simpa using e15) (by simpa using e2) (by simpa using e3) (by simpa using e5) (by simpa using e11) hk (fun h => by rw [hp.2 h] at hk; cases hk) a b v vm l m w hv hm hl hm2
  · exact round_tB op h0 h1 (by simpa using e12) (by simpa using e13) (by simpa using e14) (by simpa using e16) (by simpa using e17) (by simpa using e15) (by simpa using e2) (by simpa using e3) (by simpa using e5) (by simpa using e11) hk (hp.1 hk) a b v vm l m w hv hm hl hm2

theorem roundC (op a b : Int) (v vm : Value) (l m : List Ins) (w : World) (h0 : 0 ≤ op) (h1 : op < 256) (hv : IsIns w v l) (hm : IsIns w vm m) (hl : l.length ≤ 2000) (hm2 : m.length ≤ 2000) :
    Calls Try.prog 4 #[.int .u8 op, .int .u32 a, .int .u32 b, v, vm] w fun e w' => e = .returned (.bool true) ∧ Below w.heap.size w w' := by
  by_cases e12 : op = 12
  · rw [e12]; exact round_12C a b v vm l m w hv hm hl hm2
  by_cases e13 : op = 13
  · rw [e13]; exact round_13C a b v vm l m w hv hm hl hm2
  by_cases e14 : op = 14
  · rw [e14]; exact round_14C a b v vm l m w hv hm hl hm2
  by_cases e16 : op = 16
  · rw [e16]; exact round_16C a b v vm l m w hv hm hl hm2
  by_cases e17 : op = 17
  · rw [e17]; exact round_17C a b v vm l m w hv hm hl hm2
  by_cases e15 : op = 15
  · rw [e15]; exact round_15C a b v vm l m w hv hm hl hm2
  by_cases e2 : op = 2
  · rw [e2]; exact round_2C a b v vm l m w hv hm hl hm2
  by_cases e3 : op = 3
  · rw [e3]; exact round_3C a b v vm l m w hv hm hl hm2
  by_cases e5 : op = 5
  · rw [e5]; exact round_5C a b v vm l m w hv hm hl hm2
  by_cases e11 : op = 11
  · rw [e11]; exact round_11C a b v vm l m w hv hm hl hm2
  have hp := Cost.pos op h0 h1 e2 e3 e5 e11
  cases hk : Opc.known op
  · exact round_fC op h0 h1 (by simpa using e12) (by simpa using e13) (by simpa using e14) (by simpa using e16) (by simpa using e17) (by simpa using e15) (by simpa using e2) (by simpa using e3) (by simpa using e5) (by simpa using e11) hk (fun h => by rw [hp.2 h] at hk; cases hk) a b v vm l m w hv hm hl hm2
  · exact round_tC op h0 h1 (by simpa using e12) (by simpa using e13) (by simpa using e14) (by simpa using e16) (by simpa using e17) (by simpa using e15) (by simpa using e2) (by simpa using e3) (by simpa using e5) (by simpa using e11) hk (hp.1 hk) a b v vm l m w hv hm hl hm2

theorem CostRound_walk (op a b : Int) (v vm : Value) (l m : List Ins) (w : World) (h0 : 0 ≤ op) (h1 : op < 256) (hv : IsIns w v l) (hm : IsIns w vm m) :
    Calls Try.prog 4 #[.int .u8 op, .int .u32 a, .int .u32 b, v, vm] w fun e w' => e = .returned (.bool true) ∧ Below w.heap.size w w' := by
  by_cases hl : 2000 < l.length
  · exact roundA op a b v vm l m w h0 h1 hv hm hl
  · by_cases hm2 : 2000 < m.length
    · exact roundB op a b v vm l m w h0 h1 hv hm (by omega) hm2
    · exact roundC op a b v vm l m w h0 h1 hv hm (by omega) (by omega)
end Go.Proofs.Ytlnofmgelkohoaa
