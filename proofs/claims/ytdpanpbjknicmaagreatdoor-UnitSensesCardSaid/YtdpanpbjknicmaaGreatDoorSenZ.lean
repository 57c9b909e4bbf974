/- UnitSenses: for every long, alloc and nexus the law returns true, and its arguments read as they did: the card. No condition beyond the row's own. -/
import Derived.Test.YtdpanpbjknicmaaGreatDoorSenC0
import Derived.Test.YtdpanpbjknicmaaGreatDoorSenC1
import Derived.Test.YtdpanpbjknicmaaGreatDoorSenC2
import Derived.Test.YtdpanpbjknicmaaGreatDoorSenC3
import Derived.Test.YtdpanpbjknicmaaGreatDoorSenF
import Derived.Test.YtdpanpbjknicmaaGreatDoorCards
import Derived.Test.YtdpanpbjknicmaaGreatDoorTie
import Derived.Lay
import Derived.LaidLaws
import Derived.Handed
import Derived.LaidOnce
import Derived.SevenTiedAt
import Derived.Shelf.Lay
import Derived.MakeChecks
import Derived.Stop.Joined
namespace Go.Proofs.YtdpanpbjknicmaaGreatDoor.senses
open Go Go.Eng Go.RowKit Go.ChangeShapes Go.WideShapes Go.ChangeAt
set_option maxRecDepth 1000000

theorem hdm (ops : List Oper) : MonoK (evDraw E0 (rec0 60) ops) := mono_evDraw (mono0 60)
theorem hdr (B : Base) : DrOK E0 Tryz.prog B (evDraw E0 (rec0 60)) := evDraw_ok ttok xok hmix (mono0 60) (fun B => ok0 60 B) B
theorem cases (e : Bool) (al n a : Int) (ha : a = 0 ∨ a = 1 ∨ a = 2 ∨ a = 3 ∨ a = 4 ∨ a = 5 ∨ a = 6 ∨ a = 7) (hl : 0 ≤ al ∧ al < 256) : ∃ (x : N) (orc : List Int), x.v = al ∧ JN Tryz.prog E0 c4 (S4 e x n a orc) .ret SF := by
  have fin : ∀ (x : N) (orc : List Int) (l : List PC), x.v = al → run4 (S4 e x n a orc) = some (.ret, SF, l) → PCs l → ∃ (x : N) (orc : List Int), x.v = al ∧ JN Tryz.prog E0 c4 (S4 e x n a orc) .ret SF :=
    fun x orc l hx h hp => ⟨x, orc, hx, JN.last ttok xok (mono0 60) (fun B => ok0 60 B) hdm hdr 100000 h hp⟩
  have pn : PCs [] := fun p hp => by cases hp
  have ctrue : al < 8 → al = 0 ∨ al = 1 ∨ al = 2 ∨ al = 3 ∨ al = 4 ∨ al = 5 ∨ al = 6 ∨ al = 7 := fun h => by omega
  have cfalse : al < 18 → al = 0 ∨ al = 1 ∨ al = 2 ∨ al = 3 ∨ al = 4 ∨ al = 5 ∨ al = 6 ∨ al = 7 ∨ al = 8 ∨ al = 9 ∨ al = 10 ∨ al = 11 ∨ al = 12 ∨ al = 13 ∨ al = 14 ∨ al = 15 ∨ al = 16 ∨ al = 17 := fun h => by omega
  cases e
  · by_cases h : al < 18
    · rcases cfalse h with rfl | rfl | rfl | rfl | rfl | rfl | rfl | rfl | rfl | rfl | rfl | rfl | rfl | rfl | rfl | rfl | rfl | rfl <;> rcases ha with rfl | rfl | rfl | rfl | rfl | rfl | rfl | rfl
      · exact fin (.c 0) [] [] rfl (t_0_false_0 n) pn
      · exact fin (.c 0) [] [] rfl (t_1_false_0 n) pn
      · exact fin (.c 0) [] [] rfl (t_2_false_0 n) pn
      · exact fin (.c 0) [] [] rfl (t_3_false_0 n) pn
      · exact fin (.c 0) [] [] rfl (t_4_false_0 n) pn
      · exact fin (.c 0) [] [] rfl (t_5_false_0 n) pn
      · exact fin (.c 0) [] [] rfl (t_6_false_0 n) pn
      · exact fin (.c 0) [] [] rfl (t_7_false_0 n) pn
      · exact fin (.c 1) [] [] rfl (t_0_false_1 n) pn
      · exact fin (.c 1) [] [] rfl (t_1_false_1 n) pn
      · exact fin (.c 1) [] [] rfl (t_2_false_1 n) pn
      · exact fin (.c 1) [] [] rfl (t_3_false_1 n) pn
      · exact fin (.c 1) [] [] rfl (t_4_false_1 n) pn
      · exact fin (.c 1) [] [] rfl (t_5_false_1 n) pn
      · exact fin (.c 1) [] [] rfl (t_6_false_1 n) pn
      · exact fin (.c 1) [] [] rfl (t_7_false_1 n) pn
      · exact fin (.c 2) [] [] rfl (t_0_false_2 n) pn
      · exact fin (.c 2) [] [] rfl (t_1_false_2 n) pn
      · exact fin (.c 2) [] [] rfl (t_2_false_2 n) pn
      · exact fin (.c 2) [] [] rfl (t_3_false_2 n) pn
      · exact fin (.c 2) [] [] rfl (t_4_false_2 n) pn
      · exact fin (.c 2) [] [] rfl (t_5_false_2 n) pn
      · exact fin (.c 2) [] [] rfl (t_6_false_2 n) pn
      · exact fin (.c 2) [] [] rfl (t_7_false_2 n) pn
      · exact fin (.c 3) [] [] rfl (t_0_false_3 n) pn
      · exact fin (.c 3) [] [] rfl (t_1_false_3 n) pn
      · exact fin (.c 3) [] [] rfl (t_2_false_3 n) pn
      · exact fin (.c 3) [] [] rfl (t_3_false_3 n) pn
      · exact fin (.c 3) [] [] rfl (t_4_false_3 n) pn
      · exact fin (.c 3) [] [] rfl (t_5_false_3 n) pn
      · exact fin (.c 3) [] [] rfl (t_6_false_3 n) pn
      · exact fin (.c 3) [] [] rfl (t_7_false_3 n) pn
      · exact fin (.c 4) [] [] rfl (t_0_false_4 n) pn
      · exact fin (.c 4) [] [] rfl (t_1_false_4 n) pn
      · exact fin (.c 4) [] [] rfl (t_2_false_4 n) pn
      · exact fin (.c 4) [] [] rfl (t_3_false_4 n) pn
      · exact fin (.c 4) [] [] rfl (t_4_false_4 n) pn
      · exact fin (.c 4) [] [] rfl (t_5_false_4 n) pn
      · exact fin (.c 4) [] [] rfl (t_6_false_4 n) pn
      · exact fin (.c 4) [] [] rfl (t_7_false_4 n) pn
      · exact fin (.c 5) [] [] rfl (t_0_false_5 n) pn
      · exact fin (.c 5) [] [] rfl (t_1_false_5 n) pn
      · exact fin (.c 5) [] [] rfl (t_2_false_5 n) pn
      · exact fin (.c 5) [] [] rfl (t_3_false_5 n) pn
      · exact fin (.c 5) [] [] rfl (t_4_false_5 n) pn
      · exact fin (.c 5) [] [] rfl (t_5_false_5 n) pn
      · exact fin (.c 5) [] [] rfl (t_6_false_5 n) pn
      · exact fin (.c 5) [] [] rfl (t_7_false_5 n) pn
      · exact fin (.c 6) [] [] rfl (t_0_false_6 n) pn
      · exact fin (.c 6) [] [] rfl (t_1_false_6 n) pn
      · exact fin (.c 6) [] [] rfl (t_2_false_6 n) pn
      · exact fin (.c 6) [] [] rfl (t_3_false_6 n) pn
      · exact fin (.c 6) [] [] rfl (t_4_false_6 n) pn
      · exact fin (.c 6) [] [] rfl (t_5_false_6 n) pn
      · exact fin (.c 6) [] [] rfl (t_6_false_6 n) pn
      · exact fin (.c 6) [] [] rfl (t_7_false_6 n) pn
      · exact fin (.c 7) [] [] rfl (t_0_false_7 n) pn
      · exact fin (.c 7) [] [] rfl (t_1_false_7 n) pn
      · exact fin (.c 7) [] [] rfl (t_2_false_7 n) pn
      · exact fin (.c 7) [] [] rfl (t_3_false_7 n) pn
      · exact fin (.c 7) [] [] rfl (t_4_false_7 n) pn
      · exact fin (.c 7) [] [] rfl (t_5_false_7 n) pn
      · exact fin (.c 7) [] [] rfl (t_6_false_7 n) pn
      · exact fin (.c 7) [] [] rfl (t_7_false_7 n) pn
      · exact fin (.c 8) [] [] rfl (t_0_false_8 n) pn
      · exact fin (.c 8) [] [] rfl (t_1_false_8 n) pn
      · exact fin (.c 8) [] [] rfl (t_2_false_8 n) pn
      · exact fin (.c 8) [] [] rfl (t_3_false_8 n) pn
      · exact fin (.c 8) [] [] rfl (t_4_false_8 n) pn
      · exact fin (.c 8) [] [] rfl (t_5_false_8 n) pn
      · exact fin (.c 8) [] [] rfl (t_6_false_8 n) pn
      · exact fin (.c 8) [] [] rfl (t_7_false_8 n) pn
      · exact fin (.c 9) [] [] rfl (t_0_false_9 n) pn
      · exact fin (.c 9) [] [] rfl (t_1_false_9 n) pn
      · exact fin (.c 9) [] [] rfl (t_2_false_9 n) pn
      · exact fin (.c 9) [] [] rfl (t_3_false_9 n) pn
      · exact fin (.c 9) [] [] rfl (t_4_false_9 n) pn
      · exact fin (.c 9) [] [] rfl (t_5_false_9 n) pn
      · exact fin (.c 9) [] [] rfl (t_6_false_9 n) pn
      · exact fin (.c 9) [] [] rfl (t_7_false_9 n) pn
      · exact fin (.c 10) [] [] rfl (t_0_false_10 n) pn
      · exact fin (.c 10) [] [] rfl (t_1_false_10 n) pn
      · exact fin (.c 10) [] [] rfl (t_2_false_10 n) pn
      · exact fin (.c 10) [] [] rfl (t_3_false_10 n) pn
      · exact fin (.c 10) [] [] rfl (t_4_false_10 n) pn
      · exact fin (.c 10) [] [] rfl (t_5_false_10 n) pn
      · exact fin (.c 10) [] [] rfl (t_6_false_10 n) pn
      · exact fin (.c 10) [] [] rfl (t_7_false_10 n) pn
      · exact fin (.c 11) [] [] rfl (t_0_false_11 n) pn
      · exact fin (.c 11) [] [] rfl (t_1_false_11 n) pn
      · exact fin (.c 11) [] [] rfl (t_2_false_11 n) pn
      · exact fin (.c 11) [] [] rfl (t_3_false_11 n) pn
      · exact fin (.c 11) [] [] rfl (t_4_false_11 n) pn
      · exact fin (.c 11) [] [] rfl (t_5_false_11 n) pn
      · exact fin (.c 11) [] [] rfl (t_6_false_11 n) pn
      · exact fin (.c 11) [] [] rfl (t_7_false_11 n) pn
      · exact fin (.c 12) [] [] rfl (t_0_false_12 n) pn
      · exact fin (.c 12) [] [] rfl (t_1_false_12 n) pn
      · exact fin (.c 12) [] [] rfl (t_2_false_12 n) pn
      · exact fin (.c 12) [] [] rfl (t_3_false_12 n) pn
      · exact fin (.c 12) [] [] rfl (t_4_false_12 n) pn
      · exact fin (.c 12) [] [] rfl (t_5_false_12 n) pn
      · exact fin (.c 12) [] [] rfl (t_6_false_12 n) pn
      · exact fin (.c 12) [] [] rfl (t_7_false_12 n) pn
      · exact fin (.c 13) [] [] rfl (t_0_false_13 n) pn
      · exact fin (.c 13) [] [] rfl (t_1_false_13 n) pn
      · exact fin (.c 13) [] [] rfl (t_2_false_13 n) pn
      · exact fin (.c 13) [] [] rfl (t_3_false_13 n) pn
      · exact fin (.c 13) [] [] rfl (t_4_false_13 n) pn
      · exact fin (.c 13) [] [] rfl (t_5_false_13 n) pn
      · exact fin (.c 13) [] [] rfl (t_6_false_13 n) pn
      · exact fin (.c 13) [] [] rfl (t_7_false_13 n) pn
      · exact fin (.c 14) [] [] rfl (t_0_false_14 n) pn
      · exact fin (.c 14) [] [] rfl (t_1_false_14 n) pn
      · exact fin (.c 14) [] [] rfl (t_2_false_14 n) pn
      · exact fin (.c 14) [] [] rfl (t_3_false_14 n) pn
      · exact fin (.c 14) [] [] rfl (t_4_false_14 n) pn
      · exact fin (.c 14) [] [] rfl (t_5_false_14 n) pn
      · exact fin (.c 14) [] [] rfl (t_6_false_14 n) pn
      · exact fin (.c 14) [] [] rfl (t_7_false_14 n) pn
      · exact fin (.c 15) [] [] rfl (t_0_false_15 n) pn
      · exact fin (.c 15) [] [] rfl (t_1_false_15 n) pn
      · exact fin (.c 15) [] [] rfl (t_2_false_15 n) pn
      · exact fin (.c 15) [] [] rfl (t_3_false_15 n) pn
      · exact fin (.c 15) [] [] rfl (t_4_false_15 n) pn
      · exact fin (.c 15) [] [] rfl (t_5_false_15 n) pn
      · exact fin (.c 15) [] [] rfl (t_6_false_15 n) pn
      · exact fin (.c 15) [] [] rfl (t_7_false_15 n) pn
      · exact fin (.c 16) [] [] rfl (t_0_false_16 n) pn
      · exact fin (.c 16) [] [] rfl (t_1_false_16 n) pn
      · exact fin (.c 16) [] [] rfl (t_2_false_16 n) pn
      · exact fin (.c 16) [] [] rfl (t_3_false_16 n) pn
      · exact fin (.c 16) [] [] rfl (t_4_false_16 n) pn
      · exact fin (.c 16) [] [] rfl (t_5_false_16 n) pn
      · exact fin (.c 16) [] [] rfl (t_6_false_16 n) pn
      · exact fin (.c 16) [] [] rfl (t_7_false_16 n) pn
      · exact fin (.c 17) [] [] rfl (t_0_false_17 n) pn
      · exact fin (.c 17) [] [] rfl (t_1_false_17 n) pn
      · exact fin (.c 17) [] [] rfl (t_2_false_17 n) pn
      · exact fin (.c 17) [] [] rfl (t_3_false_17 n) pn
      · exact fin (.c 17) [] [] rfl (t_4_false_17 n) pn
      · exact fin (.c 17) [] [] rfl (t_5_false_17 n) pn
      · exact fin (.c 17) [] [] rfl (t_6_false_17 n) pn
      · exact fin (.c 17) [] [] rfl (t_7_false_17 n) pn
    · rcases ha with rfl | rfl | rfl | rfl | rfl | rfl | rfl | rfl
      · exact fin (.s al) orcfalse _ rfl (t_0_false_s n al) (pcsfalse_ok (by omega) hl.2)
      · exact fin (.s al) orcfalse _ rfl (t_1_false_s n al) (pcsfalse_ok (by omega) hl.2)
      · exact fin (.s al) orcfalse _ rfl (t_2_false_s n al) (pcsfalse_ok (by omega) hl.2)
      · exact fin (.s al) orcfalse _ rfl (t_3_false_s n al) (pcsfalse_ok (by omega) hl.2)
      · exact fin (.s al) orcfalse _ rfl (t_4_false_s n al) (pcsfalse_ok (by omega) hl.2)
      · exact fin (.s al) orcfalse _ rfl (t_5_false_s n al) (pcsfalse_ok (by omega) hl.2)
      · exact fin (.s al) orcfalse _ rfl (t_6_false_s n al) (pcsfalse_ok (by omega) hl.2)
      · exact fin (.s al) orcfalse _ rfl (t_7_false_s n al) (pcsfalse_ok (by omega) hl.2)
  · by_cases h : al < 8
    · rcases ctrue h with rfl | rfl | rfl | rfl | rfl | rfl | rfl | rfl <;> rcases ha with rfl | rfl | rfl | rfl | rfl | rfl | rfl | rfl
      · exact fin (.c 0) [] [] rfl (t_0_true_0 n) pn
      · exact fin (.c 0) [] [] rfl (t_1_true_0 n) pn
      · exact fin (.c 0) [] [] rfl (t_2_true_0 n) pn
      · exact fin (.c 0) [] [] rfl (t_3_true_0 n) pn
      · exact fin (.c 0) [] [] rfl (t_4_true_0 n) pn
      · exact fin (.c 0) [] [] rfl (t_5_true_0 n) pn
      · exact fin (.c 0) [] [] rfl (t_6_true_0 n) pn
      · exact fin (.c 0) [] [] rfl (t_7_true_0 n) pn
      · exact fin (.c 1) [] [] rfl (t_0_true_1 n) pn
      · exact fin (.c 1) [] [] rfl (t_1_true_1 n) pn
      · exact fin (.c 1) [] [] rfl (t_2_true_1 n) pn
      · exact fin (.c 1) [] [] rfl (t_3_true_1 n) pn
      · exact fin (.c 1) [] [] rfl (t_4_true_1 n) pn
      · exact fin (.c 1) [] [] rfl (t_5_true_1 n) pn
      · exact fin (.c 1) [] [] rfl (t_6_true_1 n) pn
      · exact fin (.c 1) [] [] rfl (t_7_true_1 n) pn
      · exact fin (.c 2) [] [] rfl (t_0_true_2 n) pn
      · exact fin (.c 2) [] [] rfl (t_1_true_2 n) pn
      · exact fin (.c 2) [] [] rfl (t_2_true_2 n) pn
      · exact fin (.c 2) [] [] rfl (t_3_true_2 n) pn
      · exact fin (.c 2) [] [] rfl (t_4_true_2 n) pn
      · exact fin (.c 2) [] [] rfl (t_5_true_2 n) pn
      · exact fin (.c 2) [] [] rfl (t_6_true_2 n) pn
      · exact fin (.c 2) [] [] rfl (t_7_true_2 n) pn
      · exact fin (.c 3) [] [] rfl (t_0_true_3 n) pn
      · exact fin (.c 3) [] [] rfl (t_1_true_3 n) pn
      · exact fin (.c 3) [] [] rfl (t_2_true_3 n) pn
      · exact fin (.c 3) [] [] rfl (t_3_true_3 n) pn
      · exact fin (.c 3) [] [] rfl (t_4_true_3 n) pn
      · exact fin (.c 3) [] [] rfl (t_5_true_3 n) pn
      · exact fin (.c 3) [] [] rfl (t_6_true_3 n) pn
      · exact fin (.c 3) [] [] rfl (t_7_true_3 n) pn
      · exact fin (.c 4) [] [] rfl (t_0_true_4 n) pn
      · exact fin (.c 4) [] [] rfl (t_1_true_4 n) pn
      · exact fin (.c 4) [] [] rfl (t_2_true_4 n) pn
      · exact fin (.c 4) [] [] rfl (t_3_true_4 n) pn
      · exact fin (.c 4) [] [] rfl (t_4_true_4 n) pn
      · exact fin (.c 4) [] [] rfl (t_5_true_4 n) pn
      · exact fin (.c 4) [] [] rfl (t_6_true_4 n) pn
      · exact fin (.c 4) [] [] rfl (t_7_true_4 n) pn
      · exact fin (.c 5) [] [] rfl (t_0_true_5 n) pn
      · exact fin (.c 5) [] [] rfl (t_1_true_5 n) pn
      · exact fin (.c 5) [] [] rfl (t_2_true_5 n) pn
      · exact fin (.c 5) [] [] rfl (t_3_true_5 n) pn
      · exact fin (.c 5) [] [] rfl (t_4_true_5 n) pn
      · exact fin (.c 5) [] [] rfl (t_5_true_5 n) pn
      · exact fin (.c 5) [] [] rfl (t_6_true_5 n) pn
      · exact fin (.c 5) [] [] rfl (t_7_true_5 n) pn
      · exact fin (.c 6) [] [] rfl (t_0_true_6 n) pn
      · exact fin (.c 6) [] [] rfl (t_1_true_6 n) pn
      · exact fin (.c 6) [] [] rfl (t_2_true_6 n) pn
      · exact fin (.c 6) [] [] rfl (t_3_true_6 n) pn
      · exact fin (.c 6) [] [] rfl (t_4_true_6 n) pn
      · exact fin (.c 6) [] [] rfl (t_5_true_6 n) pn
      · exact fin (.c 6) [] [] rfl (t_6_true_6 n) pn
      · exact fin (.c 6) [] [] rfl (t_7_true_6 n) pn
      · exact fin (.c 7) [] [] rfl (t_0_true_7 n) pn
      · exact fin (.c 7) [] [] rfl (t_1_true_7 n) pn
      · exact fin (.c 7) [] [] rfl (t_2_true_7 n) pn
      · exact fin (.c 7) [] [] rfl (t_3_true_7 n) pn
      · exact fin (.c 7) [] [] rfl (t_4_true_7 n) pn
      · exact fin (.c 7) [] [] rfl (t_5_true_7 n) pn
      · exact fin (.c 7) [] [] rfl (t_6_true_7 n) pn
      · exact fin (.c 7) [] [] rfl (t_7_true_7 n) pn
    · rcases ha with rfl | rfl | rfl | rfl | rfl | rfl | rfl | rfl
      · exact fin (.s al) orctrue _ rfl (t_0_true_s n al) (pcstrue_ok (by omega) hl.2)
      · exact fin (.s al) orctrue _ rfl (t_1_true_s n al) (pcstrue_ok (by omega) hl.2)
      · exact fin (.s al) orctrue _ rfl (t_2_true_s n al) (pcstrue_ok (by omega) hl.2)
      · exact fin (.s al) orctrue _ rfl (t_3_true_s n al) (pcstrue_ok (by omega) hl.2)
      · exact fin (.s al) orctrue _ rfl (t_4_true_s n al) (pcstrue_ok (by omega) hl.2)
      · exact fin (.s al) orctrue _ rfl (t_5_true_s n al) (pcstrue_ok (by omega) hl.2)
      · exact fin (.s al) orctrue _ rfl (t_6_true_s n al) (pcstrue_ok (by omega) hl.2)
      · exact fin (.s al) orctrue _ rfl (t_7_true_s n al) (pcstrue_ok (by omega) hl.2)
theorem main (e : Bool) (al n : Int) (hl : 0 ≤ al ∧ al < 256) (hn : 0 ≤ n ∧ n < 256) : ∃ (x : N) (orc : List Int), x.v = al ∧ JN Tryz.prog E0 c0 (S0 e x n orc) .ret SF := by
  have h8 : ∀ x : Int, 0 ≤ x ∧ x < 256 → remI (wrapF .i64 x) 8 = 0 ∨ remI (wrapF .i64 x) 8 = 1 ∨ remI (wrapF .i64 x) 8 = 2 ∨ remI (wrapF .i64 x) 8 = 3 ∨ remI (wrapF .i64 x) 8 = 4 ∨ remI (wrapF .i64 x) 8 = 5 ∨ remI (wrapF .i64 x) 8 = 6 ∨ remI (wrapF .i64 x) 8 = 7 := fun x hx => by
    have h1 : wrapF .i64 x = x := by
      rw [wrapF_eq]
      simp [IntKind.wrap, IntKind.signed, IntKind.bits]
      omega
    rw [h1, remI_eq]
    have : x.tmod 8 = x % 8 := Int.tmod_eq_emod_of_nonneg hx.1
    omega
  obtain ⟨x, orc, hx, hj⟩ := cases e al n _ (h8 n hn) hl
  exact ⟨x, _, hx, JN.chunk ttok xok (mono0 60) (fun B => ok0 60 B) hdm hdr 100000 4 (t1 e x n _ orc) (fun p hp => by
    simp only [List.mem_cons, List.mem_nil_iff, or_false] at hp; subst hp; exact rfl) hj⟩

theorem contract (H : Type) (enc : TypeId × Value → H) (W : World) (base : Nat) (args : Array Value) (ds gs : List (DataW H)) (before : List MemPlace)
    (hval : ∀ (j : Nat) t v, Tryz.f9.params[j]? = some t → args[j]? = some v → Value.okWide Tryz.prog W .any base t v)
    (hW : DataW.Whole enc Tryz.prog Tryz.f9.params.toList Rows.unitSensesSpec.vars false W args.toList ds gs before) :
    Calls Tryz.prog 9 args W fun e W' => ∃ v, e = .returned v ∧ Rows.unitSensesSpec.post enc Tryz.prog Tryz.f9 false true false false W args v W' := by
  have hW' := hW
  obtain ⟨p, q, hA0, hV, rfl, hfz, hnd⟩ := hW
  have hA : DataW.TrodAll enc Tryz.prog W 0 (fun _ => true) true Tryz.f9.params.toList args.toList ds p := hA0
  rw [Tryz.params9] at hA hval
  obtain ⟨v0, vs0, d0, ds0, p0, q0, hargs, rfl, rfl, h0, r0⟩ := trodAll_cons hA
  obtain ⟨v1, vs1, d1, ds1, p1, q1, rfl, rfl, rfl, h1, r1⟩ := trodAll_cons r0
  obtain ⟨v2, vs2, d2, ds2, p2, q2, rfl, rfl, rfl, h2, r2⟩ := trodAll_cons r1
  obtain ⟨rfl, rfl, rfl⟩ := trodAll_nil r2
  obtain rfl : args = #[v0, v1, v2] := by cases args; simp_all
  obtain ⟨rfl, rfl⟩ := trodVars_none hV
  obtain ⟨e, rfl, rfl, rfl⟩ := open_bool Tryz.underlying4 (hval 0 4 v0 rfl rfl) h0
  obtain ⟨y, rfl, rfl, rfl, wy⟩ := open_int Tryz.underlying5 (hval 1 5 v1 rfl rfl) h1
  obtain ⟨z, rfl, rfl, rfl, wz⟩ := open_int Tryz.underlying5 (hval 2 5 v2 rfl rfl) h2
  have hy : 0 ≤ y ∧ y < 256 := by simp [Lit.wf, IntKind.min, IntKind.max, IntKind.signed, IntKind.bits] at wy; omega
  have hz : 0 ≤ z ∧ z < 256 := by simp [Lit.wf, IntKind.min, IntKind.max, IntKind.signed, IntKind.bits] at wz; omega
  obtain ⟨x, orc, rfl, hj⟩ := main e y z hy hz
  have hcall := JN.leave (rec := rec0 60) (fn := Tryz.f9) (args := [.bool (.c e), .int .u8 x, .int .u8 (.s z)]) (g := ⟨.nil, 0, 1099511627776, orc, []⟩) (vs := #[.bool e, .int .u8 x.v, .int .u8 z]) (w := W)
    (B := ⟨W.heap.size, fun _ => False⟩) (ρ := fun _ => none) ttok (mono0 60) (fun B => ok0 60 B) Tryz.func9 body (by decide +kernel) (by kernel_rfl) (by kernel_rfl) hj ((WR.none W).of_gs rfl rfl rfl) (glok _)
    (VRs.cons (.bool (.c e)) (VRs.cons (.int .u8 x) (VRs.cons (.int .u8 (.s z)) (VRs.nil _))))
  have hleave : Go.Eng.leave E0 (rec0 60) Tryz.f9 (.ok .ret SF) = .ret true (.bool (.c true)) SF.g := by kernel_rfl
  rw [hleave] at hcall
  refine (RCs.returns (fun m ho => ?_) hcall (fun p hp => by cases hp)).mono fun e W' ⟨he, hb⟩ => ?_
  · obtain ⟨b, k, r, hb, _⟩ := ho
    simp [T.get_nil] at hb
  · subst he
    exact ⟨_, rfl, post_law j1 rfl hW' (by kernel_rfl) hb rfl Tryz.underlying4 rfl⟩

theorem lifted (os : Os) (started : os.Started) (H : Type) (enc : TypeId × Value → H) :
    ReturnsInHanded {} Tryz.checked os 9 .any (fun w args => (Rows.unitSensesSpec.pre enc Tryz.prog Tryz.f9 [] false w args ∧ laidMetH Tryz.prog Rows.unitSensesRow.laid w) ∧ sizedMet enc Tryz.prog Tryz.f9 (OpenSpec.ofChange Rows.unitSensesSpec) false w args)
      (Rows.unitSensesSpec.post enc Tryz.prog Tryz.f9 false true false false) := by
  refine returnsInHanded_of_change_and (C := Tryz.checked) (X := fun w _ => laidMetH Tryz.prog Rows.unitSensesRow.laid w) (fun _ _ _ hh h => h.of_heap hh) own started noInit Tryz.func9
    (ChangeSpec.witness_shaped (enc := enc) (C := Tryz.checked) (os := os) (X := fun w _ => laidMetH Tryz.prog Rows.unitSensesRow.laid w) false (World.laidAll Tryz.prog os Rows.unitSensesRow.laid) #[.bool true, .int .u8 0, .int .u8 0] 8 (World.laidAll_os _ _ _)
      (World.shaped_of_ZipB (by kernel_rfl) (by kernel_rfl)) (by kernel_rfl) (by kernel_rfl) (by kernel_rfl)
      (by rw [MakeChecks.laidMetH_plain _ _ _ (by kernel_rfl)]; exact laidMet_laidAll _ (by kernel_rfl) (by kernel_rfl))) ?_
  intro W base args ds gs before hval hW _ _ _ _
  exact contract H enc W base args ds gs before hval hW

theorem said : Rows.UnitSensesSaid :=
  OpenClaim.holds_of_wide 9 Tryz.f9 rfl rfl rfl rfl rfl rfl rfl ⟨rfl, rfl, rfl, rfl, rfl⟩ rfl rfl rfl rfl rfl (by kernel_rfl) Tryz.func9 closed
    (of_decide_eq_true (by kernel_rfl)) (by unfold Func.isWrapper; first | (rw [if_pos (by decide +kernel)]; kernel_rfl) | (rw [if_neg (by decide +kernel)]; exact ⟨rfl, rfl⟩))
    (fun os started H enc _ => lifted os started H enc)

theorem plain (f : FuncId) (fn : Func) (hf : Tryz.pinned.checked.prog.funcNamed "pallet/palletlaw16.UnitSenses" = some f) (hfn : Tryz.pinned.checked.prog.funcs[f]? = some fn) :
    true = Tryz.pinned.checked.prog.looks [] ∧ ∀ (j : Nat) t, fn.params[j]? = some t → Tryz.pinned.checked.prog.wantsStandIn t = false := by
  obtain rfl : f = 9 := Option.some.inj ((show Tryz.prog.funcNamed "pallet/palletlaw16.UnitSenses" = some 9 by kernel_rfl).symm.trans hf) |>.symm
  obtain rfl : fn = Tryz.f9 := (Option.some.inj (Tryz.func9.symm.trans hfn)).symm
  refine ⟨by kernel_rfl, fun j t ht => ?_⟩
  rw [Tryz.params9] at ht
  have hm : t ∈ [4, 5, 5] := by simpa using Array.mem_of_getElem? ht
  have hall : ([4, 5, 5].all fun u => !Tryz.prog.wantsStandIn u) = true := by kernel_rfl
  exact (show Tryz.prog.wantsStandIn t = false by simpa using List.all_eq_true.1 hall t hm)

theorem card : Rows.UnitSensesCardSaid :=
  Claim7.holds_tied_plain_at .later [] _ _ _ _ said (fun _ h => by cases h) (by kernel_rfl) (fun _ h => by cases h) unitSenses_row_tie rfl ⟨rfl, rfl⟩ (by kernel_rfl) rfl plain (by kernel_rfl)
end Go.Proofs.YtdpanpbjknicmaaGreatDoor.senses
