/- UnitAttends: for every nexus, other, bits and sense the law returns true, and its arguments read as they did: the card. No condition beyond the row's own. -/
import Derived.Test.YtdpanpbjknicmaaGreatDoorAttC0
import Derived.Test.YtdpanpbjknicmaaGreatDoorAttC1
import Derived.Test.YtdpanpbjknicmaaGreatDoorAttC2
import Derived.Test.YtdpanpbjknicmaaGreatDoorAttC3
import Derived.Test.YtdpanpbjknicmaaGreatDoorAttF
import Derived.Test.YtdpanpbjknicmaaGreatDoorCards
import Derived.Test.YtdpanpbjknicmaaGreatDoorTie
import Derived.Lay
import Derived.LaidLaws
import Derived.Handed
import Derived.LaidOnce
import Derived.SevenTiedAt
import Derived.Shelf.Lay
import Derived.MakeChecks
import Derived.Stop.Joined
namespace Go.Proofs.YtdpanpbjknicmaaGreatDoor.attends
open Go Go.Eng Go.RowKit Go.ChangeShapes Go.WideShapes Go.ChangeAt
set_option maxRecDepth 1000000

theorem hdm (ops : List Oper) : MonoK (evDraw E0 (rec0 60) ops) := mono_evDraw (mono0 60)
theorem hdr (B : Base) : DrOK E0 Tryz.prog B (evDraw E0 (rec0 60)) := evDraw_ok ttok xok hmix (mono0 60) (fun B => ok0 60 B) B
theorem fin_0_0 (n o b : Int) (e : Bool) (rb : Int) (h : rb = 0 ∨ rb = 1 ∨ rb = 2 ∨ rb = 3 ∨ rb = 4 ∨ rb = 5 ∨ rb = 6 ∨ rb = 7) : JN Tryz.prog E0 (dropSeq 2 (dropSeq 6 c0)) (S8_0_0 n o b e rb) .ret SF := by
  rcases h with rfl | rfl | rfl | rfl | rfl | rfl | rfl | rfl <;> cases e
  · exact JN.last ttok xok (mono0 60) (fun B => ok0 60 B) hdm hdr 100000 (t4_0_0_0_false n o b) (fun p hp => by cases hp)
  · exact JN.last ttok xok (mono0 60) (fun B => ok0 60 B) hdm hdr 100000 (t4_0_0_0_true n o b) (fun p hp => by cases hp)
  · exact JN.last ttok xok (mono0 60) (fun B => ok0 60 B) hdm hdr 100000 (t4_0_0_1_false n o b) (fun p hp => by cases hp)
  · exact JN.last ttok xok (mono0 60) (fun B => ok0 60 B) hdm hdr 100000 (t4_0_0_1_true n o b) (fun p hp => by cases hp)
  · exact JN.last ttok xok (mono0 60) (fun B => ok0 60 B) hdm hdr 100000 (t4_0_0_2_false n o b) (fun p hp => by cases hp)
  · exact JN.last ttok xok (mono0 60) (fun B => ok0 60 B) hdm hdr 100000 (t4_0_0_2_true n o b) (fun p hp => by cases hp)
  · exact JN.last ttok xok (mono0 60) (fun B => ok0 60 B) hdm hdr 100000 (t4_0_0_3_false n o b) (fun p hp => by cases hp)
  · exact JN.last ttok xok (mono0 60) (fun B => ok0 60 B) hdm hdr 100000 (t4_0_0_3_true n o b) (fun p hp => by cases hp)
  · exact JN.last ttok xok (mono0 60) (fun B => ok0 60 B) hdm hdr 100000 (t4_0_0_4_false n o b) (fun p hp => by cases hp)
  · exact JN.last ttok xok (mono0 60) (fun B => ok0 60 B) hdm hdr 100000 (t4_0_0_4_true n o b) (fun p hp => by cases hp)
  · exact JN.last ttok xok (mono0 60) (fun B => ok0 60 B) hdm hdr 100000 (t4_0_0_5_false n o b) (fun p hp => by cases hp)
  · exact JN.last ttok xok (mono0 60) (fun B => ok0 60 B) hdm hdr 100000 (t4_0_0_5_true n o b) (fun p hp => by cases hp)
  · exact JN.last ttok xok (mono0 60) (fun B => ok0 60 B) hdm hdr 100000 (t4_0_0_6_false n o b) (fun p hp => by cases hp)
  · exact JN.last ttok xok (mono0 60) (fun B => ok0 60 B) hdm hdr 100000 (t4_0_0_6_true n o b) (fun p hp => by cases hp)
  · exact JN.last ttok xok (mono0 60) (fun B => ok0 60 B) hdm hdr 100000 (t4_0_0_7_false n o b) (fun p hp => by cases hp)
  · exact JN.last ttok xok (mono0 60) (fun B => ok0 60 B) hdm hdr 100000 (t4_0_0_7_true n o b) (fun p hp => by cases hp)
theorem fin_0_1 (n o b : Int) (e : Bool) (rb : Int) (h : rb = 0 ∨ rb = 1 ∨ rb = 2 ∨ rb = 3 ∨ rb = 4 ∨ rb = 5 ∨ rb = 6 ∨ rb = 7) : JN Tryz.prog E0 (dropSeq 2 (dropSeq 6 c0)) (S8_0_1 n o b e rb) .ret SF := by
  rcases h with rfl | rfl | rfl | rfl | rfl | rfl | rfl | rfl <;> cases e
  · exact JN.last ttok xok (mono0 60) (fun B => ok0 60 B) hdm hdr 100000 (t4_0_1_0_false n o b) (fun p hp => by cases hp)
  · exact JN.last ttok xok (mono0 60) (fun B => ok0 60 B) hdm hdr 100000 (t4_0_1_0_true n o b) (fun p hp => by cases hp)
  · exact JN.last ttok xok (mono0 60) (fun B => ok0 60 B) hdm hdr 100000 (t4_0_1_1_false n o b) (fun p hp => by cases hp)
  · exact JN.last ttok xok (mono0 60) (fun B => ok0 60 B) hdm hdr 100000 (t4_0_1_1_true n o b) (fun p hp => by cases hp)
  · exact JN.last ttok xok (mono0 60) (fun B => ok0 60 B) hdm hdr 100000 (t4_0_1_2_false n o b) (fun p hp => by cases hp)
  · exact JN.last ttok xok (mono0 60) (fun B => ok0 60 B) hdm hdr 100000 (t4_0_1_2_true n o b) (fun p hp => by cases hp)
  · exact JN.last ttok xok (mono0 60) (fun B => ok0 60 B) hdm hdr 100000 (t4_0_1_3_false n o b) (fun p hp => by cases hp)
  · exact JN.last ttok xok (mono0 60) (fun B => ok0 60 B) hdm hdr 100000 (t4_0_1_3_true n o b) (fun p hp => by cases hp)
  · exact JN.last ttok xok (mono0 60) (fun B => ok0 60 B) hdm hdr 100000 (t4_0_1_4_false n o b) (fun p hp => by cases hp)
  · exact JN.last ttok xok (mono0 60) (fun B => ok0 60 B) hdm hdr 100000 (t4_0_1_4_true n o b) (fun p hp => by cases hp)
  · exact JN.last ttok xok (mono0 60) (fun B => ok0 60 B) hdm hdr 100000 (t4_0_1_5_false n o b) (fun p hp => by cases hp)
  · exact JN.last ttok xok (mono0 60) (fun B => ok0 60 B) hdm hdr 100000 (t4_0_1_5_true n o b) (fun p hp => by cases hp)
  · exact JN.last ttok xok (mono0 60) (fun B => ok0 60 B) hdm hdr 100000 (t4_0_1_6_false n o b) (fun p hp => by cases hp)
  · exact JN.last ttok xok (mono0 60) (fun B => ok0 60 B) hdm hdr 100000 (t4_0_1_6_true n o b) (fun p hp => by cases hp)
  · exact JN.last ttok xok (mono0 60) (fun B => ok0 60 B) hdm hdr 100000 (t4_0_1_7_false n o b) (fun p hp => by cases hp)
  · exact JN.last ttok xok (mono0 60) (fun B => ok0 60 B) hdm hdr 100000 (t4_0_1_7_true n o b) (fun p hp => by cases hp)
theorem fin_1_0 (n o b : Int) (e : Bool) (rb : Int) (h : rb = 0 ∨ rb = 1 ∨ rb = 2 ∨ rb = 3 ∨ rb = 4 ∨ rb = 5 ∨ rb = 6 ∨ rb = 7) : JN Tryz.prog E0 (dropSeq 2 (dropSeq 6 c0)) (S8_1_0 n o b e rb) .ret SF := by
  rcases h with rfl | rfl | rfl | rfl | rfl | rfl | rfl | rfl <;> cases e
  · exact JN.last ttok xok (mono0 60) (fun B => ok0 60 B) hdm hdr 100000 (t4_1_0_0_false n o b) (fun p hp => by cases hp)
  · exact JN.last ttok xok (mono0 60) (fun B => ok0 60 B) hdm hdr 100000 (t4_1_0_0_true n o b) (fun p hp => by cases hp)
  · exact JN.last ttok xok (mono0 60) (fun B => ok0 60 B) hdm hdr 100000 (t4_1_0_1_false n o b) (fun p hp => by cases hp)
  · exact JN.last ttok xok (mono0 60) (fun B => ok0 60 B) hdm hdr 100000 (t4_1_0_1_true n o b) (fun p hp => by cases hp)
  · exact JN.last ttok xok (mono0 60) (fun B => ok0 60 B) hdm hdr 100000 (t4_1_0_2_false n o b) (fun p hp => by cases hp)
  · exact JN.last ttok xok (mono0 60) (fun B => ok0 60 B) hdm hdr 100000 (t4_1_0_2_true n o b) (fun p hp => by cases hp)
  · exact JN.last ttok xok (mono0 60) (fun B => ok0 60 B) hdm hdr 100000 (t4_1_0_3_false n o b) (fun p hp => by cases hp)
  · exact JN.last ttok xok (mono0 60) (fun B => ok0 60 B) hdm hdr 100000 (t4_1_0_3_true n o b) (fun p hp => by cases hp)
  · exact JN.last ttok xok (mono0 60) (fun B => ok0 60 B) hdm hdr 100000 (t4_1_0_4_false n o b) (fun p hp => by cases hp)
  · exact JN.last ttok xok (mono0 60) (fun B => ok0 60 B) hdm hdr 100000 (t4_1_0_4_true n o b) (fun p hp => by cases hp)
  · exact JN.last ttok xok (mono0 60) (fun B => ok0 60 B) hdm hdr 100000 (t4_1_0_5_false n o b) (fun p hp => by cases hp)
  · exact JN.last ttok xok (mono0 60) (fun B => ok0 60 B) hdm hdr 100000 (t4_1_0_5_true n o b) (fun p hp => by cases hp)
  · exact JN.last ttok xok (mono0 60) (fun B => ok0 60 B) hdm hdr 100000 (t4_1_0_6_false n o b) (fun p hp => by cases hp)
  · exact JN.last ttok xok (mono0 60) (fun B => ok0 60 B) hdm hdr 100000 (t4_1_0_6_true n o b) (fun p hp => by cases hp)
  · exact JN.last ttok xok (mono0 60) (fun B => ok0 60 B) hdm hdr 100000 (t4_1_0_7_false n o b) (fun p hp => by cases hp)
  · exact JN.last ttok xok (mono0 60) (fun B => ok0 60 B) hdm hdr 100000 (t4_1_0_7_true n o b) (fun p hp => by cases hp)
theorem fin_1_1 (n o b : Int) (e : Bool) (rb : Int) (h : rb = 0 ∨ rb = 1 ∨ rb = 2 ∨ rb = 3 ∨ rb = 4 ∨ rb = 5 ∨ rb = 6 ∨ rb = 7) : JN Tryz.prog E0 (dropSeq 2 (dropSeq 6 c0)) (S8_1_1 n o b e rb) .ret SF := by
  rcases h with rfl | rfl | rfl | rfl | rfl | rfl | rfl | rfl <;> cases e
  · exact JN.last ttok xok (mono0 60) (fun B => ok0 60 B) hdm hdr 100000 (t4_1_1_0_false n o b) (fun p hp => by cases hp)
  · exact JN.last ttok xok (mono0 60) (fun B => ok0 60 B) hdm hdr 100000 (t4_1_1_0_true n o b) (fun p hp => by cases hp)
  · exact JN.last ttok xok (mono0 60) (fun B => ok0 60 B) hdm hdr 100000 (t4_1_1_1_false n o b) (fun p hp => by cases hp)
  · exact JN.last ttok xok (mono0 60) (fun B => ok0 60 B) hdm hdr 100000 (t4_1_1_1_true n o b) (fun p hp => by cases hp)
  · exact JN.last ttok xok (mono0 60) (fun B => ok0 60 B) hdm hdr 100000 (t4_1_1_2_false n o b) (fun p hp => by cases hp)
  · exact JN.last ttok xok (mono0 60) (fun B => ok0 60 B) hdm hdr 100000 (t4_1_1_2_true n o b) (fun p hp => by cases hp)
  · exact JN.last ttok xok (mono0 60) (fun B => ok0 60 B) hdm hdr 100000 (t4_1_1_3_false n o b) (fun p hp => by cases hp)
  · exact JN.last ttok xok (mono0 60) (fun B => ok0 60 B) hdm hdr 100000 (t4_1_1_3_true n o b) (fun p hp => by cases hp)
  · exact JN.last ttok xok (mono0 60) (fun B => ok0 60 B) hdm hdr 100000 (t4_1_1_4_false n o b) (fun p hp => by cases hp)
  · exact JN.last ttok xok (mono0 60) (fun B => ok0 60 B) hdm hdr 100000 (t4_1_1_4_true n o b) (fun p hp => by cases hp)
  · exact JN.last ttok xok (mono0 60) (fun B => ok0 60 B) hdm hdr 100000 (t4_1_1_5_false n o b) (fun p hp => by cases hp)
  · exact JN.last ttok xok (mono0 60) (fun B => ok0 60 B) hdm hdr 100000 (t4_1_1_5_true n o b) (fun p hp => by cases hp)
  · exact JN.last ttok xok (mono0 60) (fun B => ok0 60 B) hdm hdr 100000 (t4_1_1_6_false n o b) (fun p hp => by cases hp)
  · exact JN.last ttok xok (mono0 60) (fun B => ok0 60 B) hdm hdr 100000 (t4_1_1_6_true n o b) (fun p hp => by cases hp)
  · exact JN.last ttok xok (mono0 60) (fun B => ok0 60 B) hdm hdr 100000 (t4_1_1_7_false n o b) (fun p hp => by cases hp)
  · exact JN.last ttok xok (mono0 60) (fun B => ok0 60 B) hdm hdr 100000 (t4_1_1_7_true n o b) (fun p hp => by cases hp)
theorem fin_2_0 (n o b : Int) (e : Bool) (rb : Int) (h : rb = 0 ∨ rb = 1 ∨ rb = 2 ∨ rb = 3 ∨ rb = 4 ∨ rb = 5 ∨ rb = 6 ∨ rb = 7) : JN Tryz.prog E0 (dropSeq 2 (dropSeq 6 c0)) (S8_2_0 n o b e rb) .ret SF := by
  rcases h with rfl | rfl | rfl | rfl | rfl | rfl | rfl | rfl <;> cases e
  · exact JN.last ttok xok (mono0 60) (fun B => ok0 60 B) hdm hdr 100000 (t4_2_0_0_false n o b) (fun p hp => by cases hp)
  · exact JN.last ttok xok (mono0 60) (fun B => ok0 60 B) hdm hdr 100000 (t4_2_0_0_true n o b) (fun p hp => by cases hp)
  · exact JN.last ttok xok (mono0 60) (fun B => ok0 60 B) hdm hdr 100000 (t4_2_0_1_false n o b) (fun p hp => by cases hp)
  · exact JN.last ttok xok (mono0 60) (fun B => ok0 60 B) hdm hdr 100000 (t4_2_0_1_true n o b) (fun p hp => by cases hp)
  · exact JN.last ttok xok (mono0 60) (fun B => ok0 60 B) hdm hdr 100000 (t4_2_0_2_false n o b) (fun p hp => by cases hp)
  · exact JN.last ttok xok (mono0 60) (fun B => ok0 60 B) hdm hdr 100000 (t4_2_0_2_true n o b) (fun p hp => by cases hp)
  · exact JN.last ttok xok (mono0 60) (fun B => ok0 60 B) hdm hdr 100000 (t4_2_0_3_false n o b) (fun p hp => by cases hp)
  · exact JN.last ttok xok (mono0 60) (fun B => ok0 60 B) hdm hdr 100000 (t4_2_0_3_true n o b) (fun p hp => by cases hp)
  · exact JN.last ttok xok (mono0 60) (fun B => ok0 60 B) hdm hdr 100000 (t4_2_0_4_false n o b) (fun p hp => by cases hp)
  · exact JN.last ttok xok (mono0 60) (fun B => ok0 60 B) hdm hdr 100000 (t4_2_0_4_true n o b) (fun p hp => by cases hp)
  · exact JN.last ttok xok (mono0 60) (fun B => ok0 60 B) hdm hdr 100000 (t4_2_0_5_false n o b) (fun p hp => by cases hp)
  · exact JN.last ttok xok (mono0 60) (fun B => ok0 60 B) hdm hdr 100000 (t4_2_0_5_true n o b) (fun p hp => by cases hp)
  · exact JN.last ttok xok (mono0 60) (fun B => ok0 60 B) hdm hdr 100000 (t4_2_0_6_false n o b) (fun p hp => by cases hp)
  · exact JN.last ttok xok (mono0 60) (fun B => ok0 60 B) hdm hdr 100000 (t4_2_0_6_true n o b) (fun p hp => by cases hp)
  · exact JN.last ttok xok (mono0 60) (fun B => ok0 60 B) hdm hdr 100000 (t4_2_0_7_false n o b) (fun p hp => by cases hp)
  · exact JN.last ttok xok (mono0 60) (fun B => ok0 60 B) hdm hdr 100000 (t4_2_0_7_true n o b) (fun p hp => by cases hp)
theorem fin_2_1 (n o b : Int) (e : Bool) (rb : Int) (h : rb = 0 ∨ rb = 1 ∨ rb = 2 ∨ rb = 3 ∨ rb = 4 ∨ rb = 5 ∨ rb = 6 ∨ rb = 7) : JN Tryz.prog E0 (dropSeq 2 (dropSeq 6 c0)) (S8_2_1 n o b e rb) .ret SF := by
  rcases h with rfl | rfl | rfl | rfl | rfl | rfl | rfl | rfl <;> cases e
  · exact JN.last ttok xok (mono0 60) (fun B => ok0 60 B) hdm hdr 100000 (t4_2_1_0_false n o b) (fun p hp => by cases hp)
  · exact JN.last ttok xok (mono0 60) (fun B => ok0 60 B) hdm hdr 100000 (t4_2_1_0_true n o b) (fun p hp => by cases hp)
  · exact JN.last ttok xok (mono0 60) (fun B => ok0 60 B) hdm hdr 100000 (t4_2_1_1_false n o b) (fun p hp => by cases hp)
  · exact JN.last ttok xok (mono0 60) (fun B => ok0 60 B) hdm hdr 100000 (t4_2_1_1_true n o b) (fun p hp => by cases hp)
  · exact JN.last ttok xok (mono0 60) (fun B => ok0 60 B) hdm hdr 100000 (t4_2_1_2_false n o b) (fun p hp => by cases hp)
  · exact JN.last ttok xok (mono0 60) (fun B => ok0 60 B) hdm hdr 100000 (t4_2_1_2_true n o b) (fun p hp => by cases hp)
  · exact JN.last ttok xok (mono0 60) (fun B => ok0 60 B) hdm hdr 100000 (t4_2_1_3_false n o b) (fun p hp => by cases hp)
  · exact JN.last ttok xok (mono0 60) (fun B => ok0 60 B) hdm hdr 100000 (t4_2_1_3_true n o b) (fun p hp => by cases hp)
  · exact JN.last ttok xok (mono0 60) (fun B => ok0 60 B) hdm hdr 100000 (t4_2_1_4_false n o b) (fun p hp => by cases hp)
  · exact JN.last ttok xok (mono0 60) (fun B => ok0 60 B) hdm hdr 100000 (t4_2_1_4_true n o b) (fun p hp => by cases hp)
  · exact JN.last ttok xok (mono0 60) (fun B => ok0 60 B) hdm hdr 100000 (t4_2_1_5_false n o b) (fun p hp => by cases hp)
  · exact JN.last ttok xok (mono0 60) (fun B => ok0 60 B) hdm hdr 100000 (t4_2_1_5_true n o b) (fun p hp => by cases hp)
  · exact JN.last ttok xok (mono0 60) (fun B => ok0 60 B) hdm hdr 100000 (t4_2_1_6_false n o b) (fun p hp => by cases hp)
  · exact JN.last ttok xok (mono0 60) (fun B => ok0 60 B) hdm hdr 100000 (t4_2_1_6_true n o b) (fun p hp => by cases hp)
  · exact JN.last ttok xok (mono0 60) (fun B => ok0 60 B) hdm hdr 100000 (t4_2_1_7_false n o b) (fun p hp => by cases hp)
  · exact JN.last ttok xok (mono0 60) (fun B => ok0 60 B) hdm hdr 100000 (t4_2_1_7_true n o b) (fun p hp => by cases hp)
theorem fin_3_0 (n o b : Int) (e : Bool) (rb : Int) (h : rb = 0 ∨ rb = 1 ∨ rb = 2 ∨ rb = 3 ∨ rb = 4 ∨ rb = 5 ∨ rb = 6 ∨ rb = 7) : JN Tryz.prog E0 (dropSeq 2 (dropSeq 6 c0)) (S8_3_0 n o b e rb) .ret SF := by
  rcases h with rfl | rfl | rfl | rfl | rfl | rfl | rfl | rfl <;> cases e
  · exact JN.last ttok xok (mono0 60) (fun B => ok0 60 B) hdm hdr 100000 (t4_3_0_0_false n o b) (fun p hp => by cases hp)
  · exact JN.last ttok xok (mono0 60) (fun B => ok0 60 B) hdm hdr 100000 (t4_3_0_0_true n o b) (fun p hp => by cases hp)
  · exact JN.last ttok xok (mono0 60) (fun B => ok0 60 B) hdm hdr 100000 (t4_3_0_1_false n o b) (fun p hp => by cases hp)
  · exact JN.last ttok xok (mono0 60) (fun B => ok0 60 B) hdm hdr 100000 (t4_3_0_1_true n o b) (fun p hp => by cases hp)
  · exact JN.last ttok xok (mono0 60) (fun B => ok0 60 B) hdm hdr 100000 (t4_3_0_2_false n o b) (fun p hp => by cases hp)
  · exact JN.last ttok xok (mono0 60) (fun B => ok0 60 B) hdm hdr 100000 (t4_3_0_2_true n o b) (fun p hp => by cases hp)
  · exact JN.last ttok xok (mono0 60) (fun B => ok0 60 B) hdm hdr 100000 (t4_3_0_3_false n o b) (fun p hp => by cases hp)
  · exact JN.last ttok xok (mono0 60) (fun B => ok0 60 B) hdm hdr 100000 (t4_3_0_3_true n o b) (fun p hp => by cases hp)
  · exact JN.last ttok xok (mono0 60) (fun B => ok0 60 B) hdm hdr 100000 (t4_3_0_4_false n o b) (fun p hp => by cases hp)
  · exact JN.last ttok xok (mono0 60) (fun B => ok0 60 B) hdm hdr 100000 (t4_3_0_4_true n o b) (fun p hp => by cases hp)
  · exact JN.last ttok xok (mono0 60) (fun B => ok0 60 B) hdm hdr 100000 (t4_3_0_5_false n o b) (fun p hp => by cases hp)
  · exact JN.last ttok xok (mono0 60) (fun B => ok0 60 B) hdm hdr 100000 (t4_3_0_5_true n o b) (fun p hp => by cases hp)
  · exact JN.last ttok xok (mono0 60) (fun B => ok0 60 B) hdm hdr 100000 (t4_3_0_6_false n o b) (fun p hp => by cases hp)
  · exact JN.last ttok xok (mono0 60) (fun B => ok0 60 B) hdm hdr 100000 (t4_3_0_6_true n o b) (fun p hp => by cases hp)
  · exact JN.last ttok xok (mono0 60) (fun B => ok0 60 B) hdm hdr 100000 (t4_3_0_7_false n o b) (fun p hp => by cases hp)
  · exact JN.last ttok xok (mono0 60) (fun B => ok0 60 B) hdm hdr 100000 (t4_3_0_7_true n o b) (fun p hp => by cases hp)
theorem fin_3_1 (n o b : Int) (e : Bool) (rb : Int) (h : rb = 0 ∨ rb = 1 ∨ rb = 2 ∨ rb = 3 ∨ rb = 4 ∨ rb = 5 ∨ rb = 6 ∨ rb = 7) : JN Tryz.prog E0 (dropSeq 2 (dropSeq 6 c0)) (S8_3_1 n o b e rb) .ret SF := by
  rcases h with rfl | rfl | rfl | rfl | rfl | rfl | rfl | rfl <;> cases e
  · exact JN.last ttok xok (mono0 60) (fun B => ok0 60 B) hdm hdr 100000 (t4_3_1_0_false n o b) (fun p hp => by cases hp)
  · exact JN.last ttok xok (mono0 60) (fun B => ok0 60 B) hdm hdr 100000 (t4_3_1_0_true n o b) (fun p hp => by cases hp)
  · exact JN.last ttok xok (mono0 60) (fun B => ok0 60 B) hdm hdr 100000 (t4_3_1_1_false n o b) (fun p hp => by cases hp)
  · exact JN.last ttok xok (mono0 60) (fun B => ok0 60 B) hdm hdr 100000 (t4_3_1_1_true n o b) (fun p hp => by cases hp)
  · exact JN.last ttok xok (mono0 60) (fun B => ok0 60 B) hdm hdr 100000 (t4_3_1_2_false n o b) (fun p hp => by cases hp)
  · exact JN.last ttok xok (mono0 60) (fun B => ok0 60 B) hdm hdr 100000 (t4_3_1_2_true n o b) (fun p hp => by cases hp)
  · exact JN.last ttok xok (mono0 60) (fun B => ok0 60 B) hdm hdr 100000 (t4_3_1_3_false n o b) (fun p hp => by cases hp)
  · exact JN.last ttok xok (mono0 60) (fun B => ok0 60 B) hdm hdr 100000 (t4_3_1_3_true n o b) (fun p hp => by cases hp)
  · exact JN.last ttok xok (mono0 60) (fun B => ok0 60 B) hdm hdr 100000 (t4_3_1_4_false n o b) (fun p hp => by cases hp)
  · exact JN.last ttok xok (mono0 60) (fun B => ok0 60 B) hdm hdr 100000 (t4_3_1_4_true n o b) (fun p hp => by cases hp)
  · exact JN.last ttok xok (mono0 60) (fun B => ok0 60 B) hdm hdr 100000 (t4_3_1_5_false n o b) (fun p hp => by cases hp)
  · exact JN.last ttok xok (mono0 60) (fun B => ok0 60 B) hdm hdr 100000 (t4_3_1_5_true n o b) (fun p hp => by cases hp)
  · exact JN.last ttok xok (mono0 60) (fun B => ok0 60 B) hdm hdr 100000 (t4_3_1_6_false n o b) (fun p hp => by cases hp)
  · exact JN.last ttok xok (mono0 60) (fun B => ok0 60 B) hdm hdr 100000 (t4_3_1_6_true n o b) (fun p hp => by cases hp)
  · exact JN.last ttok xok (mono0 60) (fun B => ok0 60 B) hdm hdr 100000 (t4_3_1_7_false n o b) (fun p hp => by cases hp)
  · exact JN.last ttok xok (mono0 60) (fun B => ok0 60 B) hdm hdr 100000 (t4_3_1_7_true n o b) (fun p hp => by cases hp)
theorem fin_4_0 (n o b : Int) (e : Bool) (rb : Int) (h : rb = 0 ∨ rb = 1 ∨ rb = 2 ∨ rb = 3 ∨ rb = 4 ∨ rb = 5 ∨ rb = 6 ∨ rb = 7) : JN Tryz.prog E0 (dropSeq 2 (dropSeq 6 c0)) (S8_4_0 n o b e rb) .ret SF := by
  rcases h with rfl | rfl | rfl | rfl | rfl | rfl | rfl | rfl <;> cases e
  · exact JN.last ttok xok (mono0 60) (fun B => ok0 60 B) hdm hdr 100000 (t4_4_0_0_false n o b) (fun p hp => by cases hp)
  · exact JN.last ttok xok (mono0 60) (fun B => ok0 60 B) hdm hdr 100000 (t4_4_0_0_true n o b) (fun p hp => by cases hp)
  · exact JN.last ttok xok (mono0 60) (fun B => ok0 60 B) hdm hdr 100000 (t4_4_0_1_false n o b) (fun p hp => by cases hp)
  · exact JN.last ttok xok (mono0 60) (fun B => ok0 60 B) hdm hdr 100000 (t4_4_0_1_true n o b) (fun p hp => by cases hp)
  · exact JN.last ttok xok (mono0 60) (fun B => ok0 60 B) hdm hdr 100000 (t4_4_0_2_false n o b) (fun p hp => by cases hp)
  · exact JN.last ttok xok (mono0 60) (fun B => ok0 60 B) hdm hdr 100000 (t4_4_0_2_true n o b) (fun p hp => by cases hp)
  · exact JN.last ttok xok (mono0 60) (fun B => ok0 60 B) hdm hdr 100000 (t4_4_0_3_false n o b) (fun p hp => by cases hp)
  · exact JN.last ttok xok (mono0 60) (fun B => ok0 60 B) hdm hdr 100000 (t4_4_0_3_true n o b) (fun p hp => by cases hp)
  · exact JN.last ttok xok (mono0 60) (fun B => ok0 60 B) hdm hdr 100000 (t4_4_0_4_false n o b) (fun p hp => by cases hp)
  · exact JN.last ttok xok (mono0 60) (fun B => ok0 60 B) hdm hdr 100000 (t4_4_0_4_true n o b) (fun p hp => by cases hp)
  · exact JN.last ttok xok (mono0 60) (fun B => ok0 60 B) hdm hdr 100000 (t4_4_0_5_false n o b) (fun p hp => by cases hp)
  · exact JN.last ttok xok (mono0 60) (fun B => ok0 60 B) hdm hdr 100000 (t4_4_0_5_true n o b) (fun p hp => by cases hp)
  · exact JN.last ttok xok (mono0 60) (fun B => ok0 60 B) hdm hdr 100000 (t4_4_0_6_false n o b) (fun p hp => by cases hp)
  · exact JN.last ttok xok (mono0 60) (fun B => ok0 60 B) hdm hdr 100000 (t4_4_0_6_true n o b) (fun p hp => by cases hp)
  · exact JN.last ttok xok (mono0 60) (fun B => ok0 60 B) hdm hdr 100000 (t4_4_0_7_false n o b) (fun p hp => by cases hp)
  · exact JN.last ttok xok (mono0 60) (fun B => ok0 60 B) hdm hdr 100000 (t4_4_0_7_true n o b) (fun p hp => by cases hp)
theorem fin_4_1 (n o b : Int) (e : Bool) (rb : Int) (h : rb = 0 ∨ rb = 1 ∨ rb = 2 ∨ rb = 3 ∨ rb = 4 ∨ rb = 5 ∨ rb = 6 ∨ rb = 7) : JN Tryz.prog E0 (dropSeq 2 (dropSeq 6 c0)) (S8_4_1 n o b e rb) .ret SF := by
  rcases h with rfl | rfl | rfl | rfl | rfl | rfl | rfl | rfl <;> cases e
  · exact JN.last ttok xok (mono0 60) (fun B => ok0 60 B) hdm hdr 100000 (t4_4_1_0_false n o b) (fun p hp => by cases hp)
  · exact JN.last ttok xok (mono0 60) (fun B => ok0 60 B) hdm hdr 100000 (t4_4_1_0_true n o b) (fun p hp => by cases hp)
  · exact JN.last ttok xok (mono0 60) (fun B => ok0 60 B) hdm hdr 100000 (t4_4_1_1_false n o b) (fun p hp => by cases hp)
  · exact JN.last ttok xok (mono0 60) (fun B => ok0 60 B) hdm hdr 100000 (t4_4_1_1_true n o b) (fun p hp => by cases hp)
  · exact JN.last ttok xok (mono0 60) (fun B => ok0 60 B) hdm hdr 100000 (t4_4_1_2_false n o b) (fun p hp => by cases hp)
  · exact JN.last ttok xok (mono0 60) (fun B => ok0 60 B) hdm hdr 100000 (t4_4_1_2_true n o b) (fun p hp => by cases hp)
  · exact JN.last ttok xok (mono0 60) (fun B => ok0 60 B) hdm hdr 100000 (t4_4_1_3_false n o b) (fun p hp => by cases hp)
  · exact JN.last ttok xok (mono0 60) (fun B => ok0 60 B) hdm hdr 100000 (t4_4_1_3_true n o b) (fun p hp => by cases hp)
  · exact JN.last ttok xok (mono0 60) (fun B => ok0 60 B) hdm hdr 100000 (t4_4_1_4_false n o b) (fun p hp => by cases hp)
  · exact JN.last ttok xok (mono0 60) (fun B => ok0 60 B) hdm hdr 100000 (t4_4_1_4_true n o b) (fun p hp => by cases hp)
  · exact JN.last ttok xok (mono0 60) (fun B => ok0 60 B) hdm hdr 100000 (t4_4_1_5_false n o b) (fun p hp => by cases hp)
  · exact JN.last ttok xok (mono0 60) (fun B => ok0 60 B) hdm hdr 100000 (t4_4_1_5_true n o b) (fun p hp => by cases hp)
  · exact JN.last ttok xok (mono0 60) (fun B => ok0 60 B) hdm hdr 100000 (t4_4_1_6_false n o b) (fun p hp => by cases hp)
  · exact JN.last ttok xok (mono0 60) (fun B => ok0 60 B) hdm hdr 100000 (t4_4_1_6_true n o b) (fun p hp => by cases hp)
  · exact JN.last ttok xok (mono0 60) (fun B => ok0 60 B) hdm hdr 100000 (t4_4_1_7_false n o b) (fun p hp => by cases hp)
  · exact JN.last ttok xok (mono0 60) (fun B => ok0 60 B) hdm hdr 100000 (t4_4_1_7_true n o b) (fun p hp => by cases hp)
theorem fin_5_0 (n o b : Int) (e : Bool) (rb : Int) (h : rb = 0 ∨ rb = 1 ∨ rb = 2 ∨ rb = 3 ∨ rb = 4 ∨ rb = 5 ∨ rb = 6 ∨ rb = 7) : JN Tryz.prog E0 (dropSeq 2 (dropSeq 6 c0)) (S8_5_0 n o b e rb) .ret SF := by
  rcases h with rfl | rfl | rfl | rfl | rfl | rfl | rfl | rfl <;> cases e
  · exact JN.last ttok xok (mono0 60) (fun B => ok0 60 B) hdm hdr 100000 (t4_5_0_0_false n o b) (fun p hp => by cases hp)
  · exact JN.last ttok xok (mono0 60) (fun B => ok0 60 B) hdm hdr 100000 (t4_5_0_0_true n o b) (fun p hp => by cases hp)
  · exact JN.last ttok xok (mono0 60) (fun B => ok0 60 B) hdm hdr 100000 (t4_5_0_1_false n o b) (fun p hp => by cases hp)
  · exact JN.last ttok xok (mono0 60) (fun B => ok0 60 B) hdm hdr 100000 (t4_5_0_1_true n o b) (fun p hp => by cases hp)
  · exact JN.last ttok xok (mono0 60) (fun B => ok0 60 B) hdm hdr 100000 (t4_5_0_2_false n o b) (fun p hp => by cases hp)
  · exact JN.last ttok xok (mono0 60) (fun B => ok0 60 B) hdm hdr 100000 (t4_5_0_2_true n o b) (fun p hp => by cases hp)
  · exact JN.last ttok xok (mono0 60) (fun B => ok0 60 B) hdm hdr 100000 (t4_5_0_3_false n o b) (fun p hp => by cases hp)
  · exact JN.last ttok xok (mono0 60) (fun B => ok0 60 B) hdm hdr 100000 (t4_5_0_3_true n o b) (fun p hp => by cases hp)
  · exact JN.last ttok xok (mono0 60) (fun B => ok0 60 B) hdm hdr 100000 (t4_5_0_4_false n o b) (fun p hp => by cases hp)
  · exact JN.last ttok xok (mono0 60) (fun B => ok0 60 B) hdm hdr 100000 (t4_5_0_4_true n o b) (fun p hp => by cases hp)
  · exact JN.last ttok xok (mono0 60) (fun B => ok0 60 B) hdm hdr 100000 (t4_5_0_5_false n o b) (fun p hp => by cases hp)
  · exact JN.last ttok xok (mono0 60) (fun B => ok0 60 B) hdm hdr 100000 (t4_5_0_5_true n o b) (fun p hp => by cases hp)
  · exact JN.last ttok xok (mono0 60) (fun B => ok0 60 B) hdm hdr 100000 (t4_5_0_6_false n o b) (fun p hp => by cases hp)
  · exact JN.last ttok xok (mono0 60) (fun B => ok0 60 B) hdm hdr 100000 (t4_5_0_6_true n o b) (fun p hp => by cases hp)
  · exact JN.last ttok xok (mono0 60) (fun B => ok0 60 B) hdm hdr 100000 (t4_5_0_7_false n o b) (fun p hp => by cases hp)
  · exact JN.last ttok xok (mono0 60) (fun B => ok0 60 B) hdm hdr 100000 (t4_5_0_7_true n o b) (fun p hp => by cases hp)
theorem fin_5_1 (n o b : Int) (e : Bool) (rb : Int) (h : rb = 0 ∨ rb = 1 ∨ rb = 2 ∨ rb = 3 ∨ rb = 4 ∨ rb = 5 ∨ rb = 6 ∨ rb = 7) : JN Tryz.prog E0 (dropSeq 2 (dropSeq 6 c0)) (S8_5_1 n o b e rb) .ret SF := by
  rcases h with rfl | rfl | rfl | rfl | rfl | rfl | rfl | rfl <;> cases e
  · exact JN.last ttok xok (mono0 60) (fun B => ok0 60 B) hdm hdr 100000 (t4_5_1_0_false n o b) (fun p hp => by cases hp)
  · exact JN.last ttok xok (mono0 60) (fun B => ok0 60 B) hdm hdr 100000 (t4_5_1_0_true n o b) (fun p hp => by cases hp)
  · exact JN.last ttok xok (mono0 60) (fun B => ok0 60 B) hdm hdr 100000 (t4_5_1_1_false n o b) (fun p hp => by cases hp)
  · exact JN.last ttok xok (mono0 60) (fun B => ok0 60 B) hdm hdr 100000 (t4_5_1_1_true n o b) (fun p hp => by cases hp)
  · exact JN.last ttok xok (mono0 60) (fun B => ok0 60 B) hdm hdr 100000 (t4_5_1_2_false n o b) (fun p hp => by cases hp)
  · exact JN.last ttok xok (mono0 60) (fun B => ok0 60 B) hdm hdr 100000 (t4_5_1_2_true n o b) (fun p hp => by cases hp)
  · exact JN.last ttok xok (mono0 60) (fun B => ok0 60 B) hdm hdr 100000 (t4_5_1_3_false n o b) (fun p hp => by cases hp)
  · exact JN.last ttok xok (mono0 60) (fun B => ok0 60 B) hdm hdr 100000 (t4_5_1_3_true n o b) (fun p hp => by cases hp)
  · exact JN.last ttok xok (mono0 60) (fun B => ok0 60 B) hdm hdr 100000 (t4_5_1_4_false n o b) (fun p hp => by cases hp)
  · exact JN.last ttok xok (mono0 60) (fun B => ok0 60 B) hdm hdr 100000 (t4_5_1_4_true n o b) (fun p hp => by cases hp)
  · exact JN.last ttok xok (mono0 60) (fun B => ok0 60 B) hdm hdr 100000 (t4_5_1_5_false n o b) (fun p hp => by cases hp)
  · exact JN.last ttok xok (mono0 60) (fun B => ok0 60 B) hdm hdr 100000 (t4_5_1_5_true n o b) (fun p hp => by cases hp)
  · exact JN.last ttok xok (mono0 60) (fun B => ok0 60 B) hdm hdr 100000 (t4_5_1_6_false n o b) (fun p hp => by cases hp)
  · exact JN.last ttok xok (mono0 60) (fun B => ok0 60 B) hdm hdr 100000 (t4_5_1_6_true n o b) (fun p hp => by cases hp)
  · exact JN.last ttok xok (mono0 60) (fun B => ok0 60 B) hdm hdr 100000 (t4_5_1_7_false n o b) (fun p hp => by cases hp)
  · exact JN.last ttok xok (mono0 60) (fun B => ok0 60 B) hdm hdr 100000 (t4_5_1_7_true n o b) (fun p hp => by cases hp)
theorem fin_6_0 (n o b : Int) (e : Bool) (rb : Int) (h : rb = 0 ∨ rb = 1 ∨ rb = 2 ∨ rb = 3 ∨ rb = 4 ∨ rb = 5 ∨ rb = 6 ∨ rb = 7) : JN Tryz.prog E0 (dropSeq 2 (dropSeq 6 c0)) (S8_6_0 n o b e rb) .ret SF := by
  rcases h with rfl | rfl | rfl | rfl | rfl | rfl | rfl | rfl <;> cases e
  · exact JN.last ttok xok (mono0 60) (fun B => ok0 60 B) hdm hdr 100000 (t4_6_0_0_false n o b) (fun p hp => by cases hp)
  · exact JN.last ttok xok (mono0 60) (fun B => ok0 60 B) hdm hdr 100000 (t4_6_0_0_true n o b) (fun p hp => by cases hp)
  · exact JN.last ttok xok (mono0 60) (fun B => ok0 60 B) hdm hdr 100000 (t4_6_0_1_false n o b) (fun p hp => by cases hp)
  · exact JN.last ttok xok (mono0 60) (fun B => ok0 60 B) hdm hdr 100000 (t4_6_0_1_true n o b) (fun p hp => by cases hp)
  · exact JN.last ttok xok (mono0 60) (fun B => ok0 60 B) hdm hdr 100000 (t4_6_0_2_false n o b) (fun p hp => by cases hp)
  · exact JN.last ttok xok (mono0 60) (fun B => ok0 60 B) hdm hdr 100000 (t4_6_0_2_true n o b) (fun p hp => by cases hp)
  · exact JN.last ttok xok (mono0 60) (fun B => ok0 60 B) hdm hdr 100000 (t4_6_0_3_false n o b) (fun p hp => by cases hp)
  · exact JN.last ttok xok (mono0 60) (fun B => ok0 60 B) hdm hdr 100000 (t4_6_0_3_true n o b) (fun p hp => by cases hp)
  · exact JN.last ttok xok (mono0 60) (fun B => ok0 60 B) hdm hdr 100000 (t4_6_0_4_false n o b) (fun p hp => by cases hp)
  · exact JN.last ttok xok (mono0 60) (fun B => ok0 60 B) hdm hdr 100000 (t4_6_0_4_true n o b) (fun p hp => by cases hp)
  · exact JN.last ttok xok (mono0 60) (fun B => ok0 60 B) hdm hdr 100000 (t4_6_0_5_false n o b) (fun p hp => by cases hp)
  · exact JN.last ttok xok (mono0 60) (fun B => ok0 60 B) hdm hdr 100000 (t4_6_0_5_true n o b) (fun p hp => by cases hp)
  · exact JN.last ttok xok (mono0 60) (fun B => ok0 60 B) hdm hdr 100000 (t4_6_0_6_false n o b) (fun p hp => by cases hp)
  · exact JN.last ttok xok (mono0 60) (fun B => ok0 60 B) hdm hdr 100000 (t4_6_0_6_true n o b) (fun p hp => by cases hp)
  · exact JN.last ttok xok (mono0 60) (fun B => ok0 60 B) hdm hdr 100000 (t4_6_0_7_false n o b) (fun p hp => by cases hp)
  · exact JN.last ttok xok (mono0 60) (fun B => ok0 60 B) hdm hdr 100000 (t4_6_0_7_true n o b) (fun p hp => by cases hp)
theorem fin_6_1 (n o b : Int) (e : Bool) (rb : Int) (h : rb = 0 ∨ rb = 1 ∨ rb = 2 ∨ rb = 3 ∨ rb = 4 ∨ rb = 5 ∨ rb = 6 ∨ rb = 7) : JN Tryz.prog E0 (dropSeq 2 (dropSeq 6 c0)) (S8_6_1 n o b e rb) .ret SF := by
  rcases h with rfl | rfl | rfl | rfl | rfl | rfl | rfl | rfl <;> cases e
  · exact JN.last ttok xok (mono0 60) (fun B => ok0 60 B) hdm hdr 100000 (t4_6_1_0_false n o b) (fun p hp => by cases hp)
  · exact JN.last ttok xok (mono0 60) (fun B => ok0 60 B) hdm hdr 100000 (t4_6_1_0_true n o b) (fun p hp => by cases hp)
  · exact JN.last ttok xok (mono0 60) (fun B => ok0 60 B) hdm hdr 100000 (t4_6_1_1_false n o b) (fun p hp => by cases hp)
  · exact JN.last ttok xok (mono0 60) (fun B => ok0 60 B) hdm hdr 100000 (t4_6_1_1_true n o b) (fun p hp => by cases hp)
  · exact JN.last ttok xok (mono0 60) (fun B => ok0 60 B) hdm hdr 100000 (t4_6_1_2_false n o b) (fun p hp => by cases hp)
  · exact JN.last ttok xok (mono0 60) (fun B => ok0 60 B) hdm hdr 100000 (t4_6_1_2_true n o b) (fun p hp => by cases hp)
  · exact JN.last ttok xok (mono0 60) (fun B => ok0 60 B) hdm hdr 100000 (t4_6_1_3_false n o b) (fun p hp => by cases hp)
  · exact JN.last ttok xok (mono0 60) (fun B => ok0 60 B) hdm hdr 100000 (t4_6_1_3_true n o b) (fun p hp => by cases hp)
  · exact JN.last ttok xok (mono0 60) (fun B => ok0 60 B) hdm hdr 100000 (t4_6_1_4_false n o b) (fun p hp => by cases hp)
  · exact JN.last ttok xok (mono0 60) (fun B => ok0 60 B) hdm hdr 100000 (t4_6_1_4_true n o b) (fun p hp => by cases hp)
  · exact JN.last ttok xok (mono0 60) (fun B => ok0 60 B) hdm hdr 100000 (t4_6_1_5_false n o b) (fun p hp => by cases hp)
  · exact JN.last ttok xok (mono0 60) (fun B => ok0 60 B) hdm hdr 100000 (t4_6_1_5_true n o b) (fun p hp => by cases hp)
  · exact JN.last ttok xok (mono0 60) (fun B => ok0 60 B) hdm hdr 100000 (t4_6_1_6_false n o b) (fun p hp => by cases hp)
  · exact JN.last ttok xok (mono0 60) (fun B => ok0 60 B) hdm hdr 100000 (t4_6_1_6_true n o b) (fun p hp => by cases hp)
  · exact JN.last ttok xok (mono0 60) (fun B => ok0 60 B) hdm hdr 100000 (t4_6_1_7_false n o b) (fun p hp => by cases hp)
  · exact JN.last ttok xok (mono0 60) (fun B => ok0 60 B) hdm hdr 100000 (t4_6_1_7_true n o b) (fun p hp => by cases hp)
theorem fin_7_0 (n o b : Int) (e : Bool) (rb : Int) (h : rb = 0 ∨ rb = 1 ∨ rb = 2 ∨ rb = 3 ∨ rb = 4 ∨ rb = 5 ∨ rb = 6 ∨ rb = 7) : JN Tryz.prog E0 (dropSeq 2 (dropSeq 6 c0)) (S8_7_0 n o b e rb) .ret SF := by
  rcases h with rfl | rfl | rfl | rfl | rfl | rfl | rfl | rfl <;> cases e
  · exact JN.last ttok xok (mono0 60) (fun B => ok0 60 B) hdm hdr 100000 (t4_7_0_0_false n o b) (fun p hp => by cases hp)
  · exact JN.last ttok xok (mono0 60) (fun B => ok0 60 B) hdm hdr 100000 (t4_7_0_0_true n o b) (fun p hp => by cases hp)
  · exact JN.last ttok xok (mono0 60) (fun B => ok0 60 B) hdm hdr 100000 (t4_7_0_1_false n o b) (fun p hp => by cases hp)
  · exact JN.last ttok xok (mono0 60) (fun B => ok0 60 B) hdm hdr 100000 (t4_7_0_1_true n o b) (fun p hp => by cases hp)
  · exact JN.last ttok xok (mono0 60) (fun B => ok0 60 B) hdm hdr 100000 (t4_7_0_2_false n o b) (fun p hp => by cases hp)
  · exact JN.last ttok xok (mono0 60) (fun B => ok0 60 B) hdm hdr 100000 (t4_7_0_2_true n o b) (fun p hp => by cases hp)
  · exact JN.last ttok xok (mono0 60) (fun B => ok0 60 B) hdm hdr 100000 (t4_7_0_3_false n o b) (fun p hp => by cases hp)
  · exact JN.last ttok xok (mono0 60) (fun B => ok0 60 B) hdm hdr 100000 (t4_7_0_3_true n o b) (fun p hp => by cases hp)
  · exact JN.last ttok xok (mono0 60) (fun B => ok0 60 B) hdm hdr 100000 (t4_7_0_4_false n o b) (fun p hp => by cases hp)
  · exact JN.last ttok xok (mono0 60) (fun B => ok0 60 B) hdm hdr 100000 (t4_7_0_4_true n o b) (fun p hp => by cases hp)
  · exact JN.last ttok xok (mono0 60) (fun B => ok0 60 B) hdm hdr 100000 (t4_7_0_5_false n o b) (fun p hp => by cases hp)
  · exact JN.last ttok xok (mono0 60) (fun B => ok0 60 B) hdm hdr 100000 (t4_7_0_5_true n o b) (fun p hp => by cases hp)
  · exact JN.last ttok xok (mono0 60) (fun B => ok0 60 B) hdm hdr 100000 (t4_7_0_6_false n o b) (fun p hp => by cases hp)
  · exact JN.last ttok xok (mono0 60) (fun B => ok0 60 B) hdm hdr 100000 (t4_7_0_6_true n o b) (fun p hp => by cases hp)
  · exact JN.last ttok xok (mono0 60) (fun B => ok0 60 B) hdm hdr 100000 (t4_7_0_7_false n o b) (fun p hp => by cases hp)
  · exact JN.last ttok xok (mono0 60) (fun B => ok0 60 B) hdm hdr 100000 (t4_7_0_7_true n o b) (fun p hp => by cases hp)
theorem fin_7_1 (n o b : Int) (e : Bool) (rb : Int) (h : rb = 0 ∨ rb = 1 ∨ rb = 2 ∨ rb = 3 ∨ rb = 4 ∨ rb = 5 ∨ rb = 6 ∨ rb = 7) : JN Tryz.prog E0 (dropSeq 2 (dropSeq 6 c0)) (S8_7_1 n o b e rb) .ret SF := by
  rcases h with rfl | rfl | rfl | rfl | rfl | rfl | rfl | rfl <;> cases e
  · exact JN.last ttok xok (mono0 60) (fun B => ok0 60 B) hdm hdr 100000 (t4_7_1_0_false n o b) (fun p hp => by cases hp)
  · exact JN.last ttok xok (mono0 60) (fun B => ok0 60 B) hdm hdr 100000 (t4_7_1_0_true n o b) (fun p hp => by cases hp)
  · exact JN.last ttok xok (mono0 60) (fun B => ok0 60 B) hdm hdr 100000 (t4_7_1_1_false n o b) (fun p hp => by cases hp)
  · exact JN.last ttok xok (mono0 60) (fun B => ok0 60 B) hdm hdr 100000 (t4_7_1_1_true n o b) (fun p hp => by cases hp)
  · exact JN.last ttok xok (mono0 60) (fun B => ok0 60 B) hdm hdr 100000 (t4_7_1_2_false n o b) (fun p hp => by cases hp)
  · exact JN.last ttok xok (mono0 60) (fun B => ok0 60 B) hdm hdr 100000 (t4_7_1_2_true n o b) (fun p hp => by cases hp)
  · exact JN.last ttok xok (mono0 60) (fun B => ok0 60 B) hdm hdr 100000 (t4_7_1_3_false n o b) (fun p hp => by cases hp)
  · exact JN.last ttok xok (mono0 60) (fun B => ok0 60 B) hdm hdr 100000 (t4_7_1_3_true n o b) (fun p hp => by cases hp)
  · exact JN.last ttok xok (mono0 60) (fun B => ok0 60 B) hdm hdr 100000 (t4_7_1_4_false n o b) (fun p hp => by cases hp)
  · exact JN.last ttok xok (mono0 60) (fun B => ok0 60 B) hdm hdr 100000 (t4_7_1_4_true n o b) (fun p hp => by cases hp)
  · exact JN.last ttok xok (mono0 60) (fun B => ok0 60 B) hdm hdr 100000 (t4_7_1_5_false n o b) (fun p hp => by cases hp)
  · exact JN.last ttok xok (mono0 60) (fun B => ok0 60 B) hdm hdr 100000 (t4_7_1_5_true n o b) (fun p hp => by cases hp)
  · exact JN.last ttok xok (mono0 60) (fun B => ok0 60 B) hdm hdr 100000 (t4_7_1_6_false n o b) (fun p hp => by cases hp)
  · exact JN.last ttok xok (mono0 60) (fun B => ok0 60 B) hdm hdr 100000 (t4_7_1_6_true n o b) (fun p hp => by cases hp)
  · exact JN.last ttok xok (mono0 60) (fun B => ok0 60 B) hdm hdr 100000 (t4_7_1_7_false n o b) (fun p hp => by cases hp)
  · exact JN.last ttok xok (mono0 60) (fun B => ok0 60 B) hdm hdr 100000 (t4_7_1_7_true n o b) (fun p hp => by cases hp)

theorem main (n o b : Int) (e : Bool) (hn : 0 ≤ n ∧ n < 256) (ho : 0 ≤ o ∧ o < 256) (hb : 0 ≤ b ∧ b < 256) : ∃ orc, JN Tryz.prog E0 c0 (S0 n o b e orc) .ret SF := by
  have h8 : ∀ x : Int, 0 ≤ x ∧ x < 256 → remI (wrapF .i64 x) 8 = 0 ∨ remI (wrapF .i64 x) 8 = 1 ∨ remI (wrapF .i64 x) 8 = 2 ∨ remI (wrapF .i64 x) 8 = 3 ∨ remI (wrapF .i64 x) 8 = 4 ∨ remI (wrapF .i64 x) 8 = 5 ∨ remI (wrapF .i64 x) 8 = 6 ∨ remI (wrapF .i64 x) 8 = 7 := fun x hx => by
    have h1 : wrapF .i64 x = x := by
      rw [wrapF_eq]
      simp [IntKind.wrap, IntKind.signed, IntKind.bits]
      omega
    rw [h1, remI_eq]
    have : x.tmod 8 = x % 8 := Int.tmod_eq_emod_of_nonneg hx.1
    omega
  have h2 : ∀ x : Int, 0 ≤ x ∧ x < 256 → remI x 2 = 0 ∨ remI x 2 = 1 := fun x hx => by
    rw [remI_eq]
    have : x.tmod 2 = x % 2 := Int.tmod_eq_emod_of_nonneg hx.1
    omega
  have key : ∀ ra rb t, remI (wrapF .i64 n) 8 = ra → remI (wrapF .i64 o) 8 = rb → remI b 2 = t → JN Tryz.prog E0 (dropSeq 6 c0) (S6 n o b e ra rb [t]) .ret SF → ∃ orc, JN Tryz.prog E0 c0 (S0 n o b e orc) .ret SF := fun ra rb t h1 h2 h3 hj =>
    ⟨[ra, rb], JN.chunk ttok xok (mono0 60) (fun B => ok0 60 B) hdm hdr 100000 5 (t1 n o b e ra rb) (fun p hp => by
        simp only [List.mem_cons, List.mem_nil_iff, or_false] at hp
        rcases hp with rfl | rfl
        · exact h2
        · exact h1)
      (JN.chunk ttok xok (mono0 60) (fun B => ok0 60 B) hdm hdr 100000 1 (t2 n o b e ra rb [t]) (fun p hp => by cases hp) hj)⟩
  have hrb := h8 o ho
  rcases h8 n hn with h | h | h | h | h | h | h | h <;> rcases h2 b hb with g | g
  · exact key _ _ _ h rfl g (JN.chunk ttok xok (mono0 60) (fun B => ok0 60 B) hdm hdr 100000 2 (t3_0_0 n o b e _) (fun p hp => by simp only [List.mem_cons, List.mem_nil_iff, or_false] at hp; subst hp; exact g) (fin_0_0 n o b e _ hrb))
  · exact key _ _ _ h rfl g (JN.chunk ttok xok (mono0 60) (fun B => ok0 60 B) hdm hdr 100000 2 (t3_0_1 n o b e _) (fun p hp => by simp only [List.mem_cons, List.mem_nil_iff, or_false] at hp; subst hp; exact g) (fin_0_1 n o b e _ hrb))
  · exact key _ _ _ h rfl g (JN.chunk ttok xok (mono0 60) (fun B => ok0 60 B) hdm hdr 100000 2 (t3_1_0 n o b e _) (fun p hp => by simp only [List.mem_cons, List.mem_nil_iff, or_false] at hp; subst hp; exact g) (fin_1_0 n o b e _ hrb))
  · exact key _ _ _ h rfl g (JN.chunk ttok xok (mono0 60) (fun B => ok0 60 B) hdm hdr 100000 2 (t3_1_1 n o b e _) (fun p hp => by simp only [List.mem_cons, List.mem_nil_iff, or_false] at hp; subst hp; exact g) (fin_1_1 n o b e _ hrb))
  · exact key _ _ _ h rfl g (JN.chunk ttok xok (mono0 60) (fun B => ok0 60 B) hdm hdr 100000 2 (t3_2_0 n o b e _) (fun p hp => by simp only [List.mem_cons, List.mem_nil_iff, or_false] at hp; subst hp; exact g) (fin_2_0 n o b e _ hrb))
  · exact key _ _ _ h rfl g (JN.chunk ttok xok (mono0 60) (fun B => ok0 60 B) hdm hdr 100000 2 (t3_2_1 n o b e _) (fun p hp => by simp only [List.mem_cons, List.mem_nil_iff, or_false] at hp; subst hp; exact g) (fin_2_1 n o b e _ hrb))
  · exact key _ _ _ h rfl g (JN.chunk ttok xok (mono0 60) (fun B => ok0 60 B) hdm hdr 100000 2 (t3_3_0 n o b e _) (fun p hp => by simp only [List.mem_cons, List.mem_nil_iff, or_false] at hp; subst hp; exact g) (fin_3_0 n o b e _ hrb))
  · exact key _ _ _ h rfl g (JN.chunk ttok xok (mono0 60) (fun B => ok0 60 B) hdm hdr 100000 2 (t3_3_1 n o b e _) (fun p hp => by simp only [List.mem_cons, List.mem_nil_iff, or_false] at hp; subst hp; exact g) (fin_3_1 n o b e _ hrb))
  · exact key _ _ _ h rfl g (JN.chunk ttok xok (mono0 60) (fun B => ok0 60 B) hdm hdr 100000 2 (t3_4_0 n o b e _) (fun p hp => by simp only [List.mem_cons, List.mem_nil_iff, or_false] at hp; subst hp; exact g) (fin_4_0 n o b e _ hrb))
  · exact key _ _ _ h rfl g (JN.chunk ttok xok (mono0 60) (fun B => ok0 60 B) hdm hdr 100000 2 (t3_4_1 n o b e _) (fun p hp => by simp only [List.mem_cons, List.mem_nil_iff, or_false] at hp; subst hp; exact g) (fin_4_1 n o b e _ hrb))
  · exact key _ _ _ h rfl g (JN.chunk ttok xok (mono0 60) (fun B => ok0 60 B) hdm hdr 100000 2 (t3_5_0 n o b e _) (fun p hp => by simp only [List.mem_cons, List.mem_nil_iff, or_false] at hp; subst hp; exact g) (fin_5_0 n o b e _ hrb))
  · exact key _ _ _ h rfl g (JN.chunk ttok xok (mono0 60) (fun B => ok0 60 B) hdm hdr 100000 2 (t3_5_1 n o b e _) (fun p hp => by simp only [List.mem_cons, List.mem_nil_iff, or_false] at hp; subst hp; exact g) (fin_5_1 n o b e _ hrb))
  · exact key _ _ _ h rfl g (JN.chunk ttok xok (mono0 60) (fun B => ok0 60 B) hdm hdr 100000 2 (t3_6_0 n o b e _) (fun p hp => by simp only [List.mem_cons, List.mem_nil_iff, or_false] at hp; subst hp; exact g) (fin_6_0 n o b e _ hrb))
  · exact key _ _ _ h rfl g (JN.chunk ttok xok (mono0 60) (fun B => ok0 60 B) hdm hdr 100000 2 (t3_6_1 n o b e _) (fun p hp => by simp only [List.mem_cons, List.mem_nil_iff, or_false] at hp; subst hp; exact g) (fin_6_1 n o b e _ hrb))
  · exact key _ _ _ h rfl g (JN.chunk ttok xok (mono0 60) (fun B => ok0 60 B) hdm hdr 100000 2 (t3_7_0 n o b e _) (fun p hp => by simp only [List.mem_cons, List.mem_nil_iff, or_false] at hp; subst hp; exact g) (fin_7_0 n o b e _ hrb))
  · exact key _ _ _ h rfl g (JN.chunk ttok xok (mono0 60) (fun B => ok0 60 B) hdm hdr 100000 2 (t3_7_1 n o b e _) (fun p hp => by simp only [List.mem_cons, List.mem_nil_iff, or_false] at hp; subst hp; exact g) (fin_7_1 n o b e _ hrb))

theorem contract (H : Type) (enc : TypeId × Value → H) (W : World) (base : Nat) (args : Array Value) (ds gs : List (DataW H)) (before : List MemPlace)
    (hval : ∀ (j : Nat) t v, Tryz.f3.params[j]? = some t → args[j]? = some v → Value.okWide Tryz.prog W .any base t v)
    (hW : DataW.Whole enc Tryz.prog Tryz.f3.params.toList Rows.unitAttendsSpec.vars false W args.toList ds gs before) :
    Calls Tryz.prog 3 args W fun e W' => ∃ v, e = .returned v ∧ Rows.unitAttendsSpec.post enc Tryz.prog Tryz.f3 false true false false W args v W' := by
  have hW' := hW
  obtain ⟨p, q, hA0, hV, rfl, hfz, hnd⟩ := hW
  have hA : DataW.TrodAll enc Tryz.prog W 0 (fun _ => true) true Tryz.f3.params.toList args.toList ds p := hA0
  rw [Tryz.params3] at hA hval
  obtain ⟨v0, vs0, d0, ds0, p0, q0, hargs, rfl, rfl, h0, r0⟩ := trodAll_cons hA
  obtain ⟨v1, vs1, d1, ds1, p1, q1, rfl, rfl, rfl, h1, r1⟩ := trodAll_cons r0
  obtain ⟨v2, vs2, d2, ds2, p2, q2, rfl, rfl, rfl, h2, r2⟩ := trodAll_cons r1
  obtain ⟨v3, vs3, d3, ds3, p3, q3, rfl, rfl, rfl, h3, r3⟩ := trodAll_cons r2
  obtain ⟨rfl, rfl, rfl⟩ := trodAll_nil r3
  obtain rfl : args = #[v0, v1, v2, v3] := by cases args; simp_all
  obtain ⟨rfl, rfl⟩ := trodVars_none hV
  obtain ⟨x, rfl, rfl, rfl, wx⟩ := open_int Tryz.underlying5 (hval 0 5 v0 rfl rfl) h0
  obtain ⟨y, rfl, rfl, rfl, wy⟩ := open_int Tryz.underlying5 (hval 1 5 v1 rfl rfl) h1
  obtain ⟨z, rfl, rfl, rfl, wz⟩ := open_int Tryz.underlying5 (hval 2 5 v2 rfl rfl) h2
  obtain ⟨e, rfl, rfl, rfl⟩ := open_bool Tryz.underlying4 (hval 3 4 v3 rfl rfl) h3
  have hx : 0 ≤ x ∧ x < 256 := by simp [Lit.wf, IntKind.min, IntKind.max, IntKind.signed, IntKind.bits] at wx; omega
  have hy : 0 ≤ y ∧ y < 256 := by simp [Lit.wf, IntKind.min, IntKind.max, IntKind.signed, IntKind.bits] at wy; omega
  have hz : 0 ≤ z ∧ z < 256 := by simp [Lit.wf, IntKind.min, IntKind.max, IntKind.signed, IntKind.bits] at wz; omega
  obtain ⟨orc, hj⟩ := main x y z e hx hy hz
  have hcall := JN.leave (rec := rec0 60) (fn := Tryz.f3) (args := [.int .u8 (.s x), .int .u8 (.s y), .int .u8 (.s z), .bool (.c e)]) (g := ⟨.nil, 0, 1099511627776, orc, []⟩) (vs := #[.int .u8 x, .int .u8 y, .int .u8 z, .bool e]) (w := W)
    (B := ⟨W.heap.size, fun _ => False⟩) (ρ := fun _ => none) ttok (mono0 60) (fun B => ok0 60 B) Tryz.func3 body (by decide +kernel) (by kernel_rfl) (by kernel_rfl) hj ((WR.none W).of_gs rfl rfl rfl) (glok _)
    (VRs.cons (.int .u8 (.s x)) (VRs.cons (.int .u8 (.s y)) (VRs.cons (.int .u8 (.s z)) (VRs.cons (.bool (.c e)) (VRs.nil _)))))
  have hleave : Go.Eng.leave E0 (rec0 60) Tryz.f3 (.ok .ret SF) = .ret true (.bool (.c true)) SF.g := by kernel_rfl
  rw [hleave] at hcall
  refine (RCs.returns (fun m ho => ?_) hcall (fun p hp => by cases hp)).mono fun e W' ⟨he, hb⟩ => ?_
  · obtain ⟨b, k, r, hb, _⟩ := ho
    simp [T.get_nil] at hb
  · subst he
    exact ⟨_, rfl, post_law j1 rfl hW' (by kernel_rfl) hb rfl Tryz.underlying4 rfl⟩

theorem lifted (os : Os) (started : os.Started) (H : Type) (enc : TypeId × Value → H) :
    ReturnsInHanded {} Tryz.checked os 3 .any (fun w args => (Rows.unitAttendsSpec.pre enc Tryz.prog Tryz.f3 [] false w args ∧ laidMetH Tryz.prog Rows.unitAttendsRow.laid w) ∧ sizedMet enc Tryz.prog Tryz.f3 (OpenSpec.ofChange Rows.unitAttendsSpec) false w args)
      (Rows.unitAttendsSpec.post enc Tryz.prog Tryz.f3 false true false false) := by
  refine returnsInHanded_of_change_and (C := Tryz.checked) (X := fun w _ => laidMetH Tryz.prog Rows.unitAttendsRow.laid w) (fun _ _ _ hh h => h.of_heap hh) own started noInit Tryz.func3
    (ChangeSpec.witness_shaped (enc := enc) (C := Tryz.checked) (os := os) (X := fun w _ => laidMetH Tryz.prog Rows.unitAttendsRow.laid w) false (World.laidAll Tryz.prog os Rows.unitAttendsRow.laid) #[.int .u8 0, .int .u8 0, .int .u8 0, .bool true] 8 (World.laidAll_os _ _ _)
      (World.shaped_of_ZipB (by kernel_rfl) (by kernel_rfl)) (by kernel_rfl) (by kernel_rfl) (by kernel_rfl)
      (by rw [MakeChecks.laidMetH_plain _ _ _ (by kernel_rfl)]; exact laidMet_laidAll _ (by kernel_rfl) (by kernel_rfl))) ?_
  intro W base args ds gs before hval hW _ _ _ _
  exact contract H enc W base args ds gs before hval hW

theorem said : Rows.UnitAttendsSaid :=
  OpenClaim.holds_of_wide 3 Tryz.f3 rfl rfl rfl rfl rfl rfl rfl ⟨rfl, rfl, rfl, rfl, rfl⟩ rfl rfl rfl rfl rfl (by kernel_rfl) Tryz.func3 closed
    (of_decide_eq_true (by kernel_rfl)) (by unfold Func.isWrapper; first | (rw [if_pos (by decide +kernel)]; kernel_rfl) | (rw [if_neg (by decide +kernel)]; exact ⟨rfl, rfl⟩))
    (fun os started H enc _ => lifted os started H enc)

theorem plain (f : FuncId) (fn : Func) (hf : Tryz.pinned.checked.prog.funcNamed "pallet/palletlaw16.UnitAttends" = some f) (hfn : Tryz.pinned.checked.prog.funcs[f]? = some fn) :
    true = Tryz.pinned.checked.prog.looks [] ∧ ∀ (j : Nat) t, fn.params[j]? = some t → Tryz.pinned.checked.prog.wantsStandIn t = false := by
  obtain rfl : f = 3 := Option.some.inj ((show Tryz.prog.funcNamed "pallet/palletlaw16.UnitAttends" = some 3 by kernel_rfl).symm.trans hf) |>.symm
  obtain rfl : fn = Tryz.f3 := (Option.some.inj (Tryz.func3.symm.trans hfn)).symm
  refine ⟨by kernel_rfl, fun j t ht => ?_⟩
  rw [Tryz.params3] at ht
  have hm : t ∈ [5, 5, 5, 4] := by simpa using Array.mem_of_getElem? ht
  have hall : ([5, 5, 5, 4].all fun u => !Tryz.prog.wantsStandIn u) = true := by kernel_rfl
  exact (show Tryz.prog.wantsStandIn t = false by simpa using List.all_eq_true.1 hall t hm)

theorem card : Rows.UnitAttendsCardSaid :=
  Claim7.holds_tied_plain_at .later [] _ _ _ _ said (fun _ h => by cases h) (by kernel_rfl) (fun _ h => by cases h) unitAttends_row_tie rfl ⟨rfl, rfl⟩ (by kernel_rfl) rfl plain (by kernel_rfl)
end Go.Proofs.YtdpanpbjknicmaaGreatDoor.attends
