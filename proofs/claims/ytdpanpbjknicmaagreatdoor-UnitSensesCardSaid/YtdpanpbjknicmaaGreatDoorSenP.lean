/- UnitSenses: what is asked where the length asked for is not less than what there is: the conditions, and that they hold. -/
import Derived.Test.YtdpanpbjknicmaaGreatDoorSenA
namespace Go.Proofs.YtdpanpbjknicmaaGreatDoor.senses
open Go Go.Eng Go.RowKit
set_option linter.unusedVariables false
set_option maxRecDepth 1000000
noncomputable def chk : PC → Bool
  | .b t v => t == v
  | .n t v => eqI t v
theorem chk_holds {p : PC} (h : chk p = true) : p.holds := by
  cases p with
  | b t v => exact eq_of_beq h
  | n t v =>
    have h : eqI t v = true := h
    rw [eqI_eq] at h; exact (of_decide_eq_true h : t = v)
theorem pcs_of {f : Int → List PC} {lo : Nat} (h : ((List.range 256).all fun n => Nat.blt n lo || (f (Int.ofNat n)).all chk) = true) {al : Int} (h0 : (lo : Int) ≤ al) (h1 : al < 256) : PCs (f al) := by
  obtain ⟨n, rfl⟩ : ∃ n : Nat, al = Int.ofNat n := ⟨al.toNat, by simp; omega⟩
  have hn : n < 256 := by have : (n : Int) < 256 := h1; omega
  have := List.all_eq_true.1 h n (by simpa using hn)
  have hb : Nat.blt n lo = false := by
    rw [ofNat_blt]; simp only [decide_eq_false_iff_not]
    have : (lo : Int) ≤ (n : Int) := h0
    omega
  rw [hb, Bool.false_or] at this
  exact fun p hp => chk_holds (List.all_eq_true.1 this p hp)
noncomputable def orcfalse : List Int := [0, 0, 0, 0, 0, 0, 0, 0, 0, 18, 0, 0, 0, 0, 0, 0, 0, 0, 0, 18]
noncomputable def pcsfalse (al : Int) : List PC := [.n (mmF false (mmF true (wrapF .i64 al) 0) 18) 18, .b (eqI (bitsF .and .u8 (shrF (bitsF .andNot .u8 al 255) 0) 1) 1) false, .b (eqI (bitsF .and .u8 (shrF (bitsF .andNot .u8 al 255) 1) 1) 1) false, .b (eqI (bitsF .and .u8 (shrF (bitsF .andNot .u8 al 255) 2) 1) 1) false, .b (eqI (bitsF .and .u8 (shrF (bitsF .andNot .u8 al 255) 3) 1) 1) false, .b (eqI (bitsF .and .u8 (shrF (bitsF .andNot .u8 al 255) 4) 1) 1) false, .b (eqI (bitsF .and .u8 (shrF (bitsF .andNot .u8 al 255) 5) 1) 1) false, .b (eqI (bitsF .and .u8 (shrF (bitsF .andNot .u8 al 255) 6) 1) 1) false, .b (eqI (bitsF .and .u8 (shrF (bitsF .andNot .u8 al 255) 7) 1) 1) false, .b (ltI (wrapF .i64 al) 18) false, .n (mmF false (mmF true (wrapF .i64 al) 0) 18) 18, .b (eqI (bitsF .and .u8 (shrF (bitsF .andNot .u8 al 255) 0) 1) 1) false, .b (eqI (bitsF .and .u8 (shrF (bitsF .andNot .u8 al 255) 1) 1) 1) false, .b (eqI (bitsF .and .u8 (shrF (bitsF .andNot .u8 al 255) 2) 1) 1) false, .b (eqI (bitsF .and .u8 (shrF (bitsF .andNot .u8 al 255) 3) 1) 1) false, .b (eqI (bitsF .and .u8 (shrF (bitsF .andNot .u8 al 255) 4) 1) 1) false, .b (eqI (bitsF .and .u8 (shrF (bitsF .andNot .u8 al 255) 5) 1) 1) false, .b (eqI (bitsF .and .u8 (shrF (bitsF .andNot .u8 al 255) 6) 1) 1) false, .b (eqI (bitsF .and .u8 (shrF (bitsF .andNot .u8 al 255) 7) 1) 1) false, .b (ltI (wrapF .i64 al) 18) false]
theorem pcsfalse_ok {al : Int} (h0 : 18 ≤ al) (h1 : al < 256) : PCs (pcsfalse al) := pcs_of (f := pcsfalse) (lo := 18) (by kernel_rfl) h0 h1
noncomputable def orctrue : List Int := [0, 0, 0, 0, 0, 0, 0, 0, 0, 8, 0, 0, 0, 0, 0, 0, 0, 0, 0, 8]
noncomputable def pcstrue (al : Int) : List PC := [.n (mmF false (mmF true (wrapF .i64 al) 0) 8) 8, .b (eqI (bitsF .and .u8 (shrF (bitsF .andNot .u8 al 255) 0) 1) 1) false, .b (eqI (bitsF .and .u8 (shrF (bitsF .andNot .u8 al 255) 1) 1) 1) false, .b (eqI (bitsF .and .u8 (shrF (bitsF .andNot .u8 al 255) 2) 1) 1) false, .b (eqI (bitsF .and .u8 (shrF (bitsF .andNot .u8 al 255) 3) 1) 1) false, .b (eqI (bitsF .and .u8 (shrF (bitsF .andNot .u8 al 255) 4) 1) 1) false, .b (eqI (bitsF .and .u8 (shrF (bitsF .andNot .u8 al 255) 5) 1) 1) false, .b (eqI (bitsF .and .u8 (shrF (bitsF .andNot .u8 al 255) 6) 1) 1) false, .b (eqI (bitsF .and .u8 (shrF (bitsF .andNot .u8 al 255) 7) 1) 1) false, .b (ltI (wrapF .i64 al) 8) false, .n (mmF false (mmF true (wrapF .i64 al) 0) 8) 8, .b (eqI (bitsF .and .u8 (shrF (bitsF .andNot .u8 al 255) 0) 1) 1) false, .b (eqI (bitsF .and .u8 (shrF (bitsF .andNot .u8 al 255) 1) 1) 1) false, .b (eqI (bitsF .and .u8 (shrF (bitsF .andNot .u8 al 255) 2) 1) 1) false, .b (eqI (bitsF .and .u8 (shrF (bitsF .andNot .u8 al 255) 3) 1) 1) false, .b (eqI (bitsF .and .u8 (shrF (bitsF .andNot .u8 al 255) 4) 1) 1) false, .b (eqI (bitsF .and .u8 (shrF (bitsF .andNot .u8 al 255) 5) 1) 1) false, .b (eqI (bitsF .and .u8 (shrF (bitsF .andNot .u8 al 255) 6) 1) 1) false, .b (eqI (bitsF .and .u8 (shrF (bitsF .andNot .u8 al 255) 7) 1) 1) false, .b (ltI (wrapF .i64 al) 8) false]
theorem pcstrue_ok {al : Int} (h0 : 8 ≤ al) (h1 : al < 256) : PCs (pcstrue al) := pcs_of (f := pcstrue) (lo := 8) (by kernel_rfl) h0 h1
end Go.Proofs.YtdpanpbjknicmaaGreatDoor.senses
