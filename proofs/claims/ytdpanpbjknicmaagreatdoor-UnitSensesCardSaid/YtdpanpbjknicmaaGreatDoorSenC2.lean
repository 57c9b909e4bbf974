/- UnitSenses: the cases, each run by the kernel: no condition. -/
import Derived.Test.YtdpanpbjknicmaaGreatDoorSenP
namespace Go.Proofs.YtdpanpbjknicmaaGreatDoor.senses
open Go Go.Eng Go.RowKit
set_option linter.unusedVariables false
set_option maxRecDepth 1000000
theorem t_4_true_0 (n : Int) : run4 (S4 true (.c 0) n 4 []) = some (.ret, SF, []) := by kernel_rfl
theorem t_4_true_1 (n : Int) : run4 (S4 true (.c 1) n 4 []) = some (.ret, SF, []) := by kernel_rfl
theorem t_4_true_2 (n : Int) : run4 (S4 true (.c 2) n 4 []) = some (.ret, SF, []) := by kernel_rfl
theorem t_4_true_3 (n : Int) : run4 (S4 true (.c 3) n 4 []) = some (.ret, SF, []) := by kernel_rfl
theorem t_4_true_4 (n : Int) : run4 (S4 true (.c 4) n 4 []) = some (.ret, SF, []) := by kernel_rfl
theorem t_4_true_5 (n : Int) : run4 (S4 true (.c 5) n 4 []) = some (.ret, SF, []) := by kernel_rfl
theorem t_4_true_6 (n : Int) : run4 (S4 true (.c 6) n 4 []) = some (.ret, SF, []) := by kernel_rfl
theorem t_4_true_7 (n : Int) : run4 (S4 true (.c 7) n 4 []) = some (.ret, SF, []) := by kernel_rfl
theorem t_4_true_s (n al : Int) : run4 (S4 true (.s al) n 4 orctrue) = some (.ret, SF, pcstrue al) := by kernel_rfl
theorem t_4_false_0 (n : Int) : run4 (S4 false (.c 0) n 4 []) = some (.ret, SF, []) := by kernel_rfl
theorem t_4_false_1 (n : Int) : run4 (S4 false (.c 1) n 4 []) = some (.ret, SF, []) := by kernel_rfl
theorem t_4_false_2 (n : Int) : run4 (S4 false (.c 2) n 4 []) = some (.ret, SF, []) := by kernel_rfl
theorem t_4_false_3 (n : Int) : run4 (S4 false (.c 3) n 4 []) = some (.ret, SF, []) := by kernel_rfl
theorem t_4_false_4 (n : Int) : run4 (S4 false (.c 4) n 4 []) = some (.ret, SF, []) := by kernel_rfl
theorem t_4_false_5 (n : Int) : run4 (S4 false (.c 5) n 4 []) = some (.ret, SF, []) := by kernel_rfl
theorem t_4_false_6 (n : Int) : run4 (S4 false (.c 6) n 4 []) = some (.ret, SF, []) := by kernel_rfl
theorem t_4_false_7 (n : Int) : run4 (S4 false (.c 7) n 4 []) = some (.ret, SF, []) := by kernel_rfl
theorem t_4_false_8 (n : Int) : run4 (S4 false (.c 8) n 4 []) = some (.ret, SF, []) := by kernel_rfl
theorem t_4_false_9 (n : Int) : run4 (S4 false (.c 9) n 4 []) = some (.ret, SF, []) := by kernel_rfl
theorem t_4_false_10 (n : Int) : run4 (S4 false (.c 10) n 4 []) = some (.ret, SF, []) := by kernel_rfl
theorem t_4_false_11 (n : Int) : run4 (S4 false (.c 11) n 4 []) = some (.ret, SF, []) := by kernel_rfl
theorem t_4_false_12 (n : Int) : run4 (S4 false (.c 12) n 4 []) = some (.ret, SF, []) := by kernel_rfl
theorem t_4_false_13 (n : Int) : run4 (S4 false (.c 13) n 4 []) = some (.ret, SF, []) := by kernel_rfl
theorem t_4_false_14 (n : Int) : run4 (S4 false (.c 14) n 4 []) = some (.ret, SF, []) := by kernel_rfl
theorem t_4_false_15 (n : Int) : run4 (S4 false (.c 15) n 4 []) = some (.ret, SF, []) := by kernel_rfl
theorem t_4_false_16 (n : Int) : run4 (S4 false (.c 16) n 4 []) = some (.ret, SF, []) := by kernel_rfl
theorem t_4_false_17 (n : Int) : run4 (S4 false (.c 17) n 4 []) = some (.ret, SF, []) := by kernel_rfl
theorem t_4_false_s (n al : Int) : run4 (S4 false (.s al) n 4 orcfalse) = some (.ret, SF, pcsfalse al) := by kernel_rfl
theorem t_5_true_0 (n : Int) : run4 (S4 true (.c 0) n 5 []) = some (.ret, SF, []) := by kernel_rfl
theorem t_5_true_1 (n : Int) : run4 (S4 true (.c 1) n 5 []) = some (.ret, SF, []) := by kernel_rfl
theorem t_5_true_2 (n : Int) : run4 (S4 true (.c 2) n 5 []) = some (.ret, SF, []) := by kernel_rfl
theorem t_5_true_3 (n : Int) : run4 (S4 true (.c 3) n 5 []) = some (.ret, SF, []) := by kernel_rfl
theorem t_5_true_4 (n : Int) : run4 (S4 true (.c 4) n 5 []) = some (.ret, SF, []) := by kernel_rfl
theorem t_5_true_5 (n : Int) : run4 (S4 true (.c 5) n 5 []) = some (.ret, SF, []) := by kernel_rfl
theorem t_5_true_6 (n : Int) : run4 (S4 true (.c 6) n 5 []) = some (.ret, SF, []) := by kernel_rfl
theorem t_5_true_7 (n : Int) : run4 (S4 true (.c 7) n 5 []) = some (.ret, SF, []) := by kernel_rfl
theorem t_5_true_s (n al : Int) : run4 (S4 true (.s al) n 5 orctrue) = some (.ret, SF, pcstrue al) := by kernel_rfl
theorem t_5_false_0 (n : Int) : run4 (S4 false (.c 0) n 5 []) = some (.ret, SF, []) := by kernel_rfl
theorem t_5_false_1 (n : Int) : run4 (S4 false (.c 1) n 5 []) = some (.ret, SF, []) := by kernel_rfl
theorem t_5_false_2 (n : Int) : run4 (S4 false (.c 2) n 5 []) = some (.ret, SF, []) := by kernel_rfl
theorem t_5_false_3 (n : Int) : run4 (S4 false (.c 3) n 5 []) = some (.ret, SF, []) := by kernel_rfl
theorem t_5_false_4 (n : Int) : run4 (S4 false (.c 4) n 5 []) = some (.ret, SF, []) := by kernel_rfl
theorem t_5_false_5 (n : Int) : run4 (S4 false (.c 5) n 5 []) = some (.ret, SF, []) := by kernel_rfl
theorem t_5_false_6 (n : Int) : run4 (S4 false (.c 6) n 5 []) = some (.ret, SF, []) := by kernel_rfl
theorem t_5_false_7 (n : Int) : run4 (S4 false (.c 7) n 5 []) = some (.ret, SF, []) := by kernel_rfl
theorem t_5_false_8 (n : Int) : run4 (S4 false (.c 8) n 5 []) = some (.ret, SF, []) := by kernel_rfl
theorem t_5_false_9 (n : Int) : run4 (S4 false (.c 9) n 5 []) = some (.ret, SF, []) := by kernel_rfl
theorem t_5_false_10 (n : Int) : run4 (S4 false (.c 10) n 5 []) = some (.ret, SF, []) := by kernel_rfl
theorem t_5_false_11 (n : Int) : run4 (S4 false (.c 11) n 5 []) = some (.ret, SF, []) := by kernel_rfl
theorem t_5_false_12 (n : Int) : run4 (S4 false (.c 12) n 5 []) = some (.ret, SF, []) := by kernel_rfl
theorem t_5_false_13 (n : Int) : run4 (S4 false (.c 13) n 5 []) = some (.ret, SF, []) := by kernel_rfl
theorem t_5_false_14 (n : Int) : run4 (S4 false (.c 14) n 5 []) = some (.ret, SF, []) := by kernel_rfl
theorem t_5_false_15 (n : Int) : run4 (S4 false (.c 15) n 5 []) = some (.ret, SF, []) := by kernel_rfl
theorem t_5_false_16 (n : Int) : run4 (S4 false (.c 16) n 5 []) = some (.ret, SF, []) := by kernel_rfl
theorem t_5_false_17 (n : Int) : run4 (S4 false (.c 17) n 5 []) = some (.ret, SF, []) := by kernel_rfl
theorem t_5_false_s (n al : Int) : run4 (S4 false (.s al) n 5 orcfalse) = some (.ret, SF, pcsfalse al) := by kernel_rfl
end Go.Proofs.YtdpanpbjknicmaaGreatDoor.senses
