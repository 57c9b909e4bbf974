/- THE ENGINE, part 3 of 3: regions whose order is open; runs cut into pieces; tables; the last part of a law. No condition. -/
import Derived.Test.YtdpanpbjknicmaaGreatDoorEb
import Derived.Orders
import Derived.Carry
import Derived.ProofKit
/- Regions whose order is open: the plan, and the evaluator. -/
namespace Go.Eng
open Go.RowKit
set_option linter.unusedVariables false
set_option linter.unusedSimpArgs false

/- An operation of a plan: its place, its kind (0: looks at memory at most; 1: makes a block; 2: all else), who goes ahead of it (a mask), between which of kind 2 it may come. -/
structure PO where
  i : Nat
  o : Oper
  k : Nat
  anc : Nat
  lo : Nat
  hi : Nat
structure Plan where
  segs : List (List PO × PO)
  last : List PO
structure AE where
  i : Nat
  name : Nat
  blk : AB
  ph : Nat
structure CK where
  p : PO
  tm : T AV
  v : AV
structure DS where
  tm : T AV
  g : GS
  ab : List AE
  ck : List CK

noncomputable section
def bindsL (o : Oper) : List Nat := o.after.toList.filterMap fun e => match Region.binds .any e with
  | true => some e.on
  | false => none
def ancOf (acc l : List Nat) : Nat := l.foldl (fun m e => Nat.lor m (Nat.lor (Nat.shiftLeft 1 e) (acc.getD e 0))) 0
def ancs : List Oper → List Nat → List Nat
  | [], acc => acc
  | o :: l, acc => ancs l (acc ++ [ancOf acc (bindsL o)])
def kindOf (E : Env) (o : Oper) : Nat := match isLight E o.op with
  | true => 0
  | false => match o.op with
    | .alloc _ => 1
    | .box _ _ => 1
    | .buildSlice _ _ _ => 1
    | .defer _ => 3
    | .go _ => 3
    | .select _ _ => 3
    | _ => 2
def bitAt (m i : Nat) : Bool := Nat.testBit m i
def countB {α : Type} (f : α → Bool) : List α → Nat
  | [] => 0
  | a :: l => match f a with
    | true => countB f l + 1
    | false => countB f l
def posOf (E : Env) : List Oper → List Nat → Nat → List PO
  | o :: l, a :: m, i => ⟨i, o, kindOf E o, a, 0, 0⟩ :: posOf E l m (i + 1)
  | _, _, _ => []
def isH (p : PO) : Bool := eqN p.k 2
def boundsOf (hs : List PO) (p : PO) : PO := { p with lo := countB (fun h => bitAt p.anc h.i) hs, hi := countB (fun h => notB (bitAt h.anc p.i)) hs }
def segsOf (all : List PO) : List PO → Nat → List (List PO × PO) × List PO
  | [], m => ([], all.filter fun p => notB (bitAt m p.i))
  | h :: hs, m =>
    let seg := all.filter fun p => andB (notB (bitAt m p.i)) (bitAt h.anc p.i)
    let r := segsOf all hs (seg.foldl (fun m p => Nat.lor m (Nat.shiftLeft 1 p.i)) (Nat.lor m (Nat.shiftLeft 1 h.i)))
    ((seg, h) :: r.1, r.2)
/- Do two operations meet at a temporary? -/
def meets (ops : Array Oper) (x y : Oper) : Bool := notB (x.apart ops y)
def allPairs (f : PO → PO → Bool) : List PO → Bool
  | [] => true
  | p :: l => andB (l.all (f p)) (allPairs f l)
def flat (pl : Plan) : List PO := pl.segs.foldr (fun s l => s.1 ++ s.2 :: l) pl.last
/- Each has those ahead of it behind it: the mask of those placed grows. -/
def ordOK (n : Nat) : List PO → Nat → Bool
  | [], m => eqN (Nat.add m 1) (Nat.pow 2 n)
  | p :: l, m => andB (andB (notB (bitAt m p.i)) (eqN (Nat.land p.anc m) p.anc)) (ordOK n l (Nat.lor m (Nat.shiftLeft 1 p.i)))
def planOK (ops : Array Oper) (all : List PO) (pl : Plan) : Bool :=
  andB (all.all fun p => andB (andB (Nat.blt p.k 3) ((bindsL p.o).all fun e => Nat.blt e p.i)) (eqN (Nat.shiftRight p.anc p.i) 0))
  (andB (allPairs (fun p q => match bitAt q.anc p.i with
    | true => true
    | false => notB (orB (meets ops p.o q.o) (andB (isH p) (isH q)))) all)
  (andB (ordOK all.length (flat pl) 0) (andB (eqN (flat pl).length all.length)
  (andB (pl.segs.all fun s => andB (isH s.2) (s.1.all fun p => andB (notB (isH p)) (bitAt s.2.anc p.i))) (pl.last.all fun p => notB (isH p))))))
def planOf (E : Env) (ops : List Oper) : Option Plan :=
  let a0 := posOf E ops (ancs ops []) 0
  let all := a0.map (boundsOf (a0.filter isH))
  let r := segsOf all (all.filter isH) 0
  match planOK ops.toArray all ⟨r.1, r.2⟩ with
  | true => some ⟨r.1, r.2⟩
  | false => none

/- Blocks that may be made early: their cells, and whether a slice of so many leads there. -/
def aCells (E : Env) (X : Operand → AV) : Op → Option (List AV × Option Nat)
  | .alloc t => match E.tt.get t with
    | some i => some (i.zv.cells, none)
    | none => none
  | .box _ x => match (X x).isBad with
    | true => none
    | false => some ((X x).cells, none)
  | .buildSlice t len parts => match E.tt.get t with
    | some i => match i.k with
      | .sl e => match E.tt.get e with
        | some ei => match andB ei.zl (andB (Nat.ble 1 ei.size) (Nat.ble (Nat.mul len ei.size) 16777216)) with
          | true => match fillA (fun j => some (Nat.mul j ei.size, ei.size)) (repL ei.zv.cells len) (parts.toList.map fun p => (p.1, X p.2)) with
            | some l => some (l, some len)
            | none => none
          | false => none
        | none => none
      | _ => none
    | none => none
  | _ => none
def aVal (b : Nat) : Option Nat → AV
  | none => .ptr b 0
  | some n => .slx b 0 n n

def wantedD (ops : List Oper) (o : Oper) (tm : T AV) : Option Bool :=
  match o.guard with
  | none => some true
  | some (j, want) => match (ops[j]?).bind (·.dst) with
    | none => some false
    | some d => match (tm.get d).getD .undef with
      | .bool (.c b) => some (b == want)
      | .undef => some false
      | _ => none
def setD (tm : T AV) (d : Option Tmp) (v : AV) : T AV := match d with
  | none => tm
  | some d => T.set (some v) D tm d
def emptyG (g : GS) : GS := { bl := .nil, nx := 1099511627774, fx := 17592186044415, orc := g.orc, pcs := g.pcs }
def addA (gl : GS) (ab : List AE) (anc j : Nat) : GS :=
  ab.foldr (fun e g => match andB (bitAt anc e.i) (Nat.ble j e.ph) with
    | true => { g with bl := T.set (some e.blk) D g.bl e.name }
    | false => g) gl

/- Are two values one? What is not known of numbers becomes a condition. -/
def eqNP (a b : N) (P : List PC) : Option (List PC) := match a, b with
  | .c x, .c y => match eqI x y with
    | true => some P
    | false => none
  | .s x, b => some (.n x b.v :: P)
  | .c x, .s y => some (.n y x :: P)
def eqNsP : List N → List N → List PC → Option (List PC)
  | [], [], P => some P
  | a :: l, b :: m, P => match eqNP a b P with
    | some P => eqNsP l m P
    | none => none
  | _, _, _ => none
def eq0P (a b : AV) (P : List PC) : Option (List PC) := match a, b with
  | .bad, _ => some P
  | .undef, .undef => some P
  | .bool (.c x), .bool (.c y) => match x == y with
    | true => some P
    | false => none
  | .bool (.s x), .bool y => some (.b x y.v :: P)
  | .int j x, .int k y => match eqN (kindNo j) (kindNo k) with
    | true => eqNP x y P
    | false => none
  | .str l, .str m => eqNsP l m P
  | .nilp, .nilp => some P
  | .ptr b o, .ptr c p => match andB (eqN b c) (eqN o p) with
    | true => some P
    | false => none
  | .snil, .snil => some P
  | .slx b o l c, .slx b' o' l' c' => match andB (andB (eqN b b') (eqN o o')) (andB (eqN l l') (eqN c c')) with
    | true => some P
    | false => none
  | .slu b o l c, .slu b' o' l' c' => match andB (andB (eqN b b') (eqN o o')) (andB (eqN l l') (eqN c c')) with
    | true => some P
    | false => none
  | .sle, .sle => some P
  | .map b, .map c => match eqN b c with
    | true => some P
    | false => none
  | .mapn, .mapn => some P
  | .nilf, .nilf => some P
  | .nili, .nili => some P
  | _, _ => none
def eqsP (f : AV → AV → List PC → Option (List PC)) : List AV → List AV → List PC → Option (List PC)
  | [], [], P => some P
  | a :: l, b :: m, P => match f a b P with
    | some P => eqsP f l m P
    | none => none
  | _, _, _ => none
def eq1P (a b : AV) (P : List PC) : Option (List PC) := match a, b with
  | .agg l, .agg m => eqsP eq0P l m P
  | .tup l, .tup m => eqsP eq0P l m P
  | .ifc t x, .ifc u y => match eqN t u with
    | true => eq0P x y P
    | false => none
  | a, b => eq0P a b P
end

noncomputable section
def stepL (E : Env) (ops : List Oper) (F k : Nat) (gs : T GS) (p : PO) (s : DS) (K : DS → RR) : RR :=
  match wantedD ops p.o s.tm with
  | none => .fail "guard"
  | some false => K { s with tm := setD s.tm p.o.dst .undef }
  | some true => match eqN p.k 0 with
    | true => match evO E (emptyG s.g) (evX E s.tm) p.o.op with
      | .val v g' => K ⟨setD s.tm p.o.dst v, ⟨s.g.bl, s.g.nx, s.g.fx, g'.orc, g'.pcs⟩, s.ab, s.ck⟩
      | _ => match gs.get p.lo with
        | none => .fail "phase"
        | some gl =>
          let gl := addA gl s.ab p.anc p.lo
          match evO E ⟨gl.bl, gl.nx, gl.fx, s.g.orc, s.g.pcs⟩ (evX E s.tm) p.o.op with
          | .val v g' => K ⟨setD s.tm p.o.dst v, ⟨s.g.bl, s.g.nx, s.g.fx, g'.orc, g'.pcs⟩, s.ab, match Nat.blt p.lo p.hi with
            | true => ⟨p, s.tm, v⟩ :: s.ck
            | false => s.ck⟩
          | _ => .fail ("light " ++ p.o.pos)
    | false => match aCells E (evX E s.tm) p.o.op with
      | none => .fail ("cells " ++ p.o.pos)
      | some (l, kd) => match Nat.blt l.length 549755813888 with
        | true =>
          let blk := AB.cells true true l.length (T.ofFrom .nil 0 l)
          K ⟨setD s.tm p.o.dst (aVal (Nat.add F p.i) kd), ⟨T.set (some blk) D s.g.bl (Nat.add F p.i), s.g.nx, s.g.fx, s.g.orc, s.g.pcs⟩, ⟨p.i, Nat.add F p.i, blk, k⟩ :: s.ab, s.ck⟩
        | false => .fail "cells"
def stepsL (E : Env) (ops : List Oper) (F k : Nat) (gs : T GS) : List PO → DS → (DS → RR) → RR
  | [], s, K => K s
  | p :: l, s, K => stepL E ops F k gs p s fun s => stepsL E ops F k gs l s K
def stepH (E : Env) (rec : FuncId → List AV → GS → RC) (ops : List Oper) (p : PO) (s : DS) (K : DS → RR) : RR :=
  match wantedD ops p.o s.tm with
  | none => .fail "guard"
  | some false => K { s with tm := setD s.tm p.o.dst .undef }
  | some true => match evO E s.g (evX E s.tm) p.o.op with
    | .val v g => K ⟨setD s.tm p.o.dst v, g, s.ab, s.ck⟩
    | .call f args g => callK E rec f args g (fun v g => K ⟨setD s.tm p.o.dst v, g, s.ab, s.ck⟩) (fun _ _ => .fail ("panic " ++ p.o.pos))
    | _ => .fail p.o.pos
def runSegs (E : Env) (rec : FuncId → List AV → GS → RC) (ops : List Oper) (F : Nat) : List (List PO × PO) → Nat → T GS → DS → (Nat → T GS → DS → RR) → RR
  | [], k, gs, s, K => K k gs s
  | (seg, h) :: l, k, gs, s, K => stepsL E ops F k gs seg s fun s => stepH E rec ops h s fun s => runSegs E rec ops F l (k + 1) (T.set (some s.g) D gs (k + 1)) s K
/- Is a value the same at the later phases? -/
def phasesOK (E : Env) (gs : T GS) (ab : List AE) (c : CK) : Nat → Nat → List PC → Option (List PC)
  | 0, j, P => some P
  | n + 1, j, P => match gs.get j with
    | none => none
    | some gl =>
      let gl := addA gl ab c.p.anc j
      match evO E ⟨gl.bl, gl.nx, gl.fx, [], P⟩ (evX E c.tm) c.p.o.op with
      | .val v g' => match eq1P c.v v g'.pcs with
        | some P => phasesOK E gs ab c n (j + 1) P
        | none => none
      | _ => none
def checksOK (E : Env) (gs : T GS) (ab : List AE) : List CK → List PC → Option (List PC)
  | [], P => some P
  | c :: l, P => match phasesOK E gs ab c (Nat.sub c.p.hi c.p.lo) (c.p.lo + 1) P with
    | some P => checksOK E gs ab l P
    | none => none
def evDraw (E : Env) (rec : FuncId → List AV → GS → RC) (ops : List Oper) (s : ST) : RR :=
  match planOf E ops with
  | none => .fail "plan"
  | some pl => match andB (Nat.blt (Nat.add s.g.fx ops.length) 17592186044415) (ops.all fun o => match o.dst with
      | none => true
      | some d => Nat.blt d s.n) with
    | false => .fail "names"
    | true =>
      let g0 : GS := ⟨s.g.bl, s.g.nx, Nat.add s.g.fx ops.length, s.g.orc, s.g.pcs⟩
      runSegs E rec ops s.g.fx pl.segs 0 (T.set (some g0) D .nil 0) ⟨s.tm, g0, [], []⟩ fun k gs d => stepsL E ops s.g.fx k gs pl.last d fun d =>
        match checksOK E gs d.ab d.ck d.g.pcs with
        | some P => .ok .normal ⟨d.tm, s.n, s.df, ⟨d.g.bl, d.g.nx, d.g.fx, d.g.orc, P⟩⟩
        | none => .fail "phases"
end
end Go.Eng

/- Regions whose order is open: what an operation looks at; blocks made early; equal values. -/
namespace Go.Eng
open Go.RowKit
set_option linter.unusedVariables false
set_option linter.unusedSimpArgs false

section
variable {E : Env} {g : GS} {X Y : Operand → AV}
theorem evO_congr (o : Op) (h : ∀ x ∈ o.operands, X x = Y x) : evO E g X o = evO E g Y o := by
  have pairs : ∀ ps : Array (Nat × Operand), (∀ x ∈ (ps.toList.map (·.2)).toArray, X x = Y x) → (ps.toList.map fun p => (p.1, X p.2)) = (ps.toList.map fun p => (p.1, Y p.2)) := fun ps hp =>
    List.map_congr_left fun p hm => by rw [hp p.2 (by simp only [List.mem_toArray, List.mem_map]; exact ⟨p, hm, rfl⟩)]
  have lst : ∀ a : Array Operand, (∀ x ∈ a, X x = Y x) → a.toList.map X = a.toList.map Y := fun a ha => List.map_congr_left fun x hx => ha x (by simpa using hx)
  cases o <;> simp only [Op.operands] at h <;> simp only [evO]
  case build t ps => rw [pairs ps h]
  case buildSlice t n ps => rw [pairs ps h]
  case makeFunc fn first captured => rw [lst first fun x hx => h x (by simp [hx]), lst captured fun x hx => h x (by simp [hx])]
  case makeMap t r => cases r <;> simp_all
  case slice t x lo hi mx => cases lo <;> cases hi <;> cases mx <;> simp_all
  case call c =>
    have ha := lst c.args fun x hx => h x (by simp [Call.operands, hx])
    unfold oCall
    cases hc : c.callee with
    | value f =>
      have hf : X f = Y f := h f (by simp [Call.operands, hc])
      simp only [hf, ha]
    | builtin b => simp only [ha]
    | invoke r m => rfl
  case defer c =>
    have ha := lst c.args fun x hx => h x (by simp [Call.operands, hx])
    unfold oDefer
    cases hc : c.callee with
    | value f =>
      have hf : X f = Y f := h f (by simp [Call.operands, hc])
      simp only [hf, ha]
    | builtin b => rfl
    | invoke r m => rfl
  all_goals (first | rfl | (simp_all; done))
theorem aCells_congr (o : Op) (h : ∀ x ∈ o.operands, X x = Y x) : aCells E X o = aCells E Y o := by
  have pairs : ∀ ps : Array (Nat × Operand), (∀ x ∈ (ps.toList.map (·.2)).toArray, X x = Y x) → (ps.toList.map fun p => (p.1, X p.2)) = (ps.toList.map fun p => (p.1, Y p.2)) := fun ps hp =>
    List.map_congr_left fun p hm => by rw [hp p.2 (by simp only [List.mem_toArray, List.mem_map]; exact ⟨p, hm, rfl⟩)]
  cases o <;> simp only [Op.operands] at h <;> simp only [aCells]
  case box t x => rw [h x (by simp)]
  case buildSlice t n ps => rw [pairs ps h]
end

def aValue (blk : Nat) : Option Nat → Value
  | none => .pointer (some ⟨blk, 0, none⟩)
  | some n => .slice (some ⟨blk, 0, none⟩) n n
theorem aVal_VR {ρ : Ren} {b : Nat} {r : BR} (h : ρ b = some r) (h0 : r.base = 0) (k : Option Nat) : VR ρ (aVal b k) (aValue r.blk k) := by
  cases k with
  | none => have := VR.ptr b 0 r h; rwa [h0] at this
  | some n => have := VR.slx b 0 n n r h; rwa [h0] at this

section
variable {P : Program} {E : Env} {ρ : Ren} {w : World} {X : Operand → AV} {V : Operand → Value}
theorem aCells_run (htt : TTok P E.tt) (hX : ∀ x, VR ρ (X x) (V x)) (o : Oper) {l : List AV} {k : Option Nat} (h : aCells E X o.op = some (l, k)) :
    ∃ (arr : Array Value) (e : TypeId), VRs ρ l arr.toList ∧ (execOp V o).run P w = .ok (.value (aValue w.heap.size k)) { w with heap := w.heap.push (.cells arr e (0, 0)) } := by
  obtain ⟨dst, op, type, pos, after, guard⟩ := o
  cases op
  case alloc t =>
    simp only [aCells] at h
    split at h
    · rename_i i hi
      cases h
      have hti := htt t i hi
      obtain ⟨z, hz, hzv⟩ := hti.run_zero w
      refine ⟨z.cells, t, (hzv ρ).cells hti.zv_ne, ?_⟩
      simp [execOp, Instr.alloc, hz, newVar, newRow, Result.andThen, aValue]
    · cases h
  case box t x =>
    simp only [aCells] at h
    split at h
    · cases h
    · rename_i hb
      cases h
      refine ⟨(V x).cells, t, (hX x).cells (isBad_ne (by simp [notB, hb])), ?_⟩
      simp [execOp, Instr.box, newVar, newRow, Result.andThen, aValue]
  case buildSlice t len parts =>
    simp only [aCells] at h
    split at h
    · rename_i i hi
      split at h
      · rename_i e hk
        split at h
        · rename_i ei hei'
          split at h
          · rename_i hc
            split at h
            · rename_i l' hl
              cases h
              have hti := htt t i hi
              have hei := htt e ei hei'
              obtain ⟨d, hd, hdk, _⟩ := hti.und
              rw [hk] at hdk; have := mkTK_sl hdk; subst this
              obtain ⟨c1, c2⟩ := andB_true hc
              obtain ⟨c3, c4⟩ := andB_true c2
              have hzl := hei.zv_len c1
              have hle : len * ei.size ≤ 16777216 := ble_le c4
              obtain ⟨z, hz, hzv⟩ := hei.run_zero w
              have hzc := (hzv ρ).cells hei.zv_ne
              have hpos : 1 ≤ ei.size := ble_le c3
              have hp := parts_rel hX parts
              by_cases h0 : len * ei.size = 0
              · have hl0 : len = 0 := by
                  rcases Nat.mul_eq_zero.1 h0 with h | h <;> omega
                subst hl0
                have hz0 : VRs ρ (repL ei.zv.cells 0) ((Array.range (0 * ei.size)).map fun i => (#[] : Array Value)[i % (#[] : Array Value).size]!).toList := by simp [repL, VRs.nil]
                obtain ⟨arr, h1, h2, h3⟩ := fillA_spec _ _ _ _ _ hz0 hp hl
                refine ⟨arr, e, h2, ?_⟩
                have hfn : (fun i => some (i * ei.size, ei.size)) = fun j => some (Nat.mul j ei.size, ei.size) := rfl
                simp only [execOp, Instr.buildSlice, Sem.run_bind, Result.andThen, run_underlying hd, hei.run_size, Nat.zero_mul]
                rw [if_neg (by omega)]
                simp only [if_true, hfn, Sem.run_bind, Sem.run_pure, Result.andThen]
                simp only [Nat.zero_mul] at h1
                rw [h1]
                simp [newRow, Result.andThen, aValue]
              · have hzz := zeros_VRs hzc len (len * ei.size) (by rw [hzl])
                obtain ⟨arr, h1, h2, h3⟩ := fillA_spec _ _ _ _ _ hzz hp hl
                refine ⟨arr, e, h2, ?_⟩
                have hfn : (fun i => some (i * ei.size, ei.size)) = fun j => some (Nat.mul j ei.size, ei.size) := rfl
                simp only [execOp, Instr.buildSlice, Sem.run_bind, Result.andThen, run_underlying hd, hei.run_size]
                rw [if_neg (by omega)]
                simp only [Sem.run_pure, if_neg h0, hfn, Sem.run_bind, hz, Result.andThen]
                rw [h1]
                simp [newRow, Result.andThen, aValue]
            · cases h
          · cases h
        · cases h
      · cases h
    · cases h
  all_goals (simp [aCells] at h)

theorem eqNP_spec {a b : N} {L L' : List PC} (h : eqNP a b L = some L') (hp : PCs L') : L <:+ L' ∧ a.v = b.v := by
  cases a with
  | c x => cases b with
    | c y =>
      simp only [eqNP] at h
      split at h
      · rename_i he
        cases h
        rw [eqI_eq] at he
        exact ⟨List.suffix_refl _, of_decide_eq_true he⟩
      · cases h
    | s y =>
      cases h
      exact ⟨List.suffix_cons _ _, (hp (.n y x) List.mem_cons_self : y = x).symm⟩
  | s x =>
    cases h
    exact ⟨List.suffix_cons _ _, hp (.n x b.v) List.mem_cons_self⟩
theorem eqNsP_spec : ∀ {l m : List N} {L L' : List PC}, eqNsP l m L = some L' → PCs L' → L <:+ L' ∧ l.map N.v = m.map N.v
  | [], [], L, L', h, hp => by cases h; exact ⟨List.suffix_refl _, rfl⟩
  | a :: l, b :: m, L, L', h, hp => by
    simp only [eqNsP] at h
    split at h
    · rename_i L1 h1
      obtain ⟨s1, e1⟩ := eqNsP_spec h hp
      obtain ⟨s2, e2⟩ := eqNP_spec h1 (hp.of_suffix s1)
      exact ⟨s2.trans s1, by simp [e1, e2]⟩
    · cases h
  | [], _ :: _, L, L', h, hp => by cases h
  | _ :: _, [], L, L', h, hp => by cases h
theorem eq0P_spec {a b : AV} {L L' : List PC} (h : eq0P a b L = some L') (hp : PCs L') : L <:+ L' ∧ ∀ (ρ : Ren) x, VR ρ b x → VR ρ a x := by
  unfold eq0P at h
  split at h
  · cases h; exact ⟨List.suffix_refl _, fun ρ x _ => .any x⟩
  · cases h; exact ⟨List.suffix_refl _, fun ρ x h => h⟩
  · split at h
    · rename_i he
      cases h
      have := eq_of_beq he
      subst this
      exact ⟨List.suffix_refl _, fun ρ x h => h⟩
    · cases h
  · rename_i x y
    cases h
    have hh : x = y.v := hp (.b x y.v) List.mem_cons_self
    refine ⟨List.suffix_cons _ _, fun ρ z hz => ?_⟩
    have := bool_inv hz; subst this
    rw [← hh]; exact .bool (.s x)
  · split at h
    · rename_i he
      have := kind_eq he; subst this
      obtain ⟨s1, e1⟩ := eqNP_spec h hp
      refine ⟨s1, fun ρ z hz => ?_⟩
      have := hz.int_inv; subst this
      rw [← e1]; exact .int _ _
    · cases h
  · rename_i l m
    obtain ⟨s1, e1⟩ := eqNsP_spec h hp
    refine ⟨s1, fun ρ z hz => ?_⟩
    obtain ⟨s, rfl, hs⟩ := hz.str_inv
    exact .str l s (by rw [hs, e1])
  · cases h; exact ⟨List.suffix_refl _, fun ρ x h => h⟩
  · split at h
    · rename_i he
      cases h
      obtain ⟨h1, h2⟩ := andB_true he
      have := eqN_true h1; have := eqN_true h2; subst_vars
      exact ⟨List.suffix_refl _, fun ρ x h => h⟩
    · cases h
  · cases h; exact ⟨List.suffix_refl _, fun ρ x h => h⟩
  · split at h
    · rename_i he
      cases h
      obtain ⟨h1, h2⟩ := andB_true he
      obtain ⟨h3, h4⟩ := andB_true h1
      obtain ⟨h5, h6⟩ := andB_true h2
      have := eqN_true h3; have := eqN_true h4; have := eqN_true h5; have := eqN_true h6; subst_vars
      exact ⟨List.suffix_refl _, fun ρ x h => h⟩
    · cases h
  · split at h
    · rename_i he
      cases h
      obtain ⟨h1, h2⟩ := andB_true he
      obtain ⟨h3, h4⟩ := andB_true h1
      obtain ⟨h5, h6⟩ := andB_true h2
      have := eqN_true h3; have := eqN_true h4; have := eqN_true h5; have := eqN_true h6; subst_vars
      exact ⟨List.suffix_refl _, fun ρ x h => h⟩
    · cases h
  · cases h; exact ⟨List.suffix_refl _, fun ρ x h => h⟩
  · split at h
    · rename_i he
      cases h
      have := eqN_true he; subst this
      exact ⟨List.suffix_refl _, fun ρ x h => h⟩
    · cases h
  · cases h; exact ⟨List.suffix_refl _, fun ρ x h => h⟩
  · cases h; exact ⟨List.suffix_refl _, fun ρ x h => h⟩
  · cases h; exact ⟨List.suffix_refl _, fun ρ x h => h⟩
  · cases h
theorem eqsP_spec : ∀ {l m : List AV} {L L' : List PC}, eqsP eq0P l m L = some L' → PCs L' → L <:+ L' ∧ ∀ (ρ : Ren) xs, VRs ρ m xs → VRs ρ l xs
  | [], [], L, L', h, hp => by cases h; exact ⟨List.suffix_refl _, fun ρ x h => h⟩
  | a :: l, b :: m, L, L', h, hp => by
    simp only [eqsP] at h
    split at h
    · rename_i L1 h1
      obtain ⟨s1, e1⟩ := eqsP_spec h hp
      obtain ⟨s2, e2⟩ := eq0P_spec h1 (hp.of_suffix s1)
      refine ⟨s2.trans s1, fun ρ xs hx => ?_⟩
      obtain ⟨x, ys, rfl, hx1, hx2⟩ := hx.cons_inv
      exact VRs.cons (e2 ρ x hx1) (e1 ρ ys hx2)
    · cases h
  | [], _ :: _, L, L', h, hp => by cases h
  | _ :: _, [], L, L', h, hp => by cases h
theorem eq1P_spec {a b : AV} {L L' : List PC} (h : eq1P a b L = some L') (hp : PCs L') : L <:+ L' ∧ ∀ (ρ : Ren) x, VR ρ b x → VR ρ a x := by
  unfold eq1P at h
  split at h
  · obtain ⟨s1, e1⟩ := eqsP_spec h hp
    refine ⟨s1, fun ρ x hx => ?_⟩
    obtain ⟨xs, rfl, hxs⟩ := hx.agg_inv
    exact VRs.agg (e1 ρ _ hxs)
  · obtain ⟨s1, e1⟩ := eqsP_spec h hp
    refine ⟨s1, fun ρ x hx => ?_⟩
    obtain ⟨xs, rfl, hxs⟩ := hx.tup_inv
    exact VRs.tup (e1 ρ _ hxs)
  · split at h
    · rename_i t x u y he
      have := eqN_true he; subst this
      obtain ⟨s1, e1⟩ := eq0P_spec h hp
      refine ⟨s1, fun ρ x hx => ?_⟩
      cases hx with | ifc _ _ z hz => exact .ifc _ _ _ (e1 ρ z hz)
    · cases h
  · exact eq0P_spec h hp
end
end Go.Eng

/- Regions whose order is open: what a plan's check says. -/
namespace Go.Eng
open Go.RowKit
set_option linter.unusedVariables false
set_option linter.unusedSimpArgs false

theorem bit_or (a b j : Nat) : bitAt (Nat.lor a b) j = (bitAt a j || bitAt b j) := Nat.testBit_or a b j
theorem bit_one (e j : Nat) : bitAt (Nat.shiftLeft 1 e) j = decide (j = e) := by
  show Nat.testBit (1 <<< e) j = _
  rw [Nat.testBit_shiftLeft]
  by_cases h : j = e
  · subst h; simp
  · by_cases h2 : j ≥ e
    · have h3 : j - e ≠ 0 := by omega
      have : Nat.testBit 1 (j - e) = false := by
        rw [Nat.testBit_eq_decide_div_mod_eq]
        have : 1 / 2 ^ (j - e) = 0 := Nat.div_eq_of_lt (Nat.one_lt_two_pow h3)
        simp [this]
      simp [this, h]
    · simp [h2, h]
theorem bit_zero (j : Nat) : bitAt 0 j = false := Nat.zero_testBit j
theorem bit_foldl (acc : List Nat) (j : Nat) : ∀ (l : List Nat) (m : Nat), bitAt (l.foldl (fun m e => Nat.lor m (Nat.lor (Nat.shiftLeft 1 e) (acc.getD e 0))) m) j = true ↔ bitAt m j = true ∨ ∃ e ∈ l, j = e ∨ bitAt (acc.getD e 0) j = true
  | [], m => by simp
  | e :: l, m => by
    rw [List.foldl_cons, bit_foldl acc j l, bit_or, bit_or, bit_one]
    simp only [Bool.or_eq_true, decide_eq_true_eq, List.mem_cons]
    constructor
    · rintro ((h | h | h) | ⟨e', he, h⟩)
      · exact .inl h
      · exact .inr ⟨e, .inl rfl, .inl h⟩
      · exact .inr ⟨e, .inl rfl, .inr h⟩
      · exact .inr ⟨e', .inr he, h⟩
    · rintro (h | ⟨e', rfl | he, h⟩)
      · exact .inl (.inl h)
      · exact .inl (.inr h)
      · exact .inr ⟨e', he, h⟩
theorem bit_ancOf (acc l : List Nat) (j : Nat) : bitAt (ancOf acc l) j = true ↔ ∃ e ∈ l, j = e ∨ bitAt (acc.getD e 0) j = true := by
  unfold ancOf; rw [bit_foldl, bit_zero]; simp

theorem ancs_spec : ∀ (l : List Oper) (acc : List Nat), ∃ m, ancs l acc = acc ++ m ∧ m.length = l.length ∧ ∀ j o, l[j]? = some o → m[j]? = some (ancOf (acc ++ m.take j) (bindsL o))
  | [], acc => ⟨[], by simp [ancs], rfl, fun j o h => by simp at h⟩
  | o :: l, acc => by
    obtain ⟨m, h1, h2, h3⟩ := ancs_spec l (acc ++ [ancOf acc (bindsL o)])
    refine ⟨ancOf acc (bindsL o) :: m, by simp [ancs, h1], by simp [h2], fun j o' h => ?_⟩
    cases j with
    | zero => simp at h; subst h; simp
    | succ j =>
      simp at h
      have := h3 j o' h
      simp only [List.getElem?_cons_succ, this, List.take_succ_cons, List.append_assoc, List.singleton_append]
theorem posOf_spec (E : Env) : ∀ (l : List Oper) (m : List Nat) (i : Nat), m.length = l.length → (posOf E l m i).length = l.length ∧ ∀ j p, (posOf E l m i)[j]? = some p → p.i = i + j ∧ l[j]? = some p.o ∧ m[j]? = some p.anc ∧ p.k = kindOf E p.o
  | [], [], i, _ => ⟨rfl, fun j p h => by simp [posOf] at h⟩
  | [], _ :: _, i, h => by simp at h
  | _ :: _, [], i, h => by simp at h
  | o :: l, a :: m, i, h => by
    obtain ⟨h1, h2⟩ := posOf_spec E l m (i + 1) (by simpa using h)
    refine ⟨by simp [posOf, h1], fun j p hp => ?_⟩
    cases j with
    | zero => simp [posOf] at hp; subst hp; simp
    | succ j =>
      simp only [posOf, List.getElem?_cons_succ] at hp
      obtain ⟨k1, k2, k3, k4⟩ := h2 j p hp
      exact ⟨by omega, by simpa using k2, by simpa using k3, k4⟩

/- The list of all operations of a plan. -/
noncomputable def allOf (E : Env) (ops : List Oper) : List PO :=
  (posOf E ops (ancs ops []) 0).map (boundsOf ((posOf E ops (ancs ops []) 0).filter isH))
theorem allOf_len (E : Env) (ops : List Oper) : (allOf E ops).length = ops.length := by
  obtain ⟨m, h1, h2, _⟩ := ancs_spec ops []
  simp only [allOf, List.length_map]
  exact (posOf_spec E ops _ 0 (by rw [h1]; simpa using h2)).1
theorem allOf_get {E : Env} {ops : List Oper} {j : Nat} {p : PO} (h : (allOf E ops)[j]? = some p) :
    p.i = j ∧ ops[j]? = some p.o ∧ (ancs ops [])[j]? = some p.anc ∧ p.k = kindOf E p.o := by
  obtain ⟨m, h1, h2, _⟩ := ancs_spec ops []
  have hs := (posOf_spec E ops (ancs ops []) 0 (by rw [h1]; simpa using h2)).2
  simp only [allOf, List.getElem?_map, Option.map_eq_some_iff] at h
  obtain ⟨q, hq, rfl⟩ := h
  obtain ⟨k1, k2, k3, k4⟩ := hs j q hq
  exact ⟨by simpa [boundsOf] using k1, k2, k3, k4⟩
theorem mem_allOf {E : Env} {ops : List Oper} {p : PO} (h : p ∈ allOf E ops) : (allOf E ops)[p.i]? = some p := by
  obtain ⟨j, hj⟩ := List.getElem?_of_mem h
  have := (allOf_get hj).1
  rw [this]; exact hj
theorem anc_get {ops : List Oper} {i : Nat} {o : Oper} {a : Nat} (ho : ops[i]? = some o) (ha : (ancs ops [])[i]? = some a) (hb : ∀ e ∈ bindsL o, e < i) (j : Nat) :
    bitAt a j = true ↔ ∃ e ∈ bindsL o, j = e ∨ bitAt ((ancs ops []).getD e 0) j = true := by
  obtain ⟨m, h1, h2, h3⟩ := ancs_spec ops []
  simp only [List.nil_append] at h1 h3
  rw [h1] at ha ⊢
  rw [h3 i o ho] at ha
  cases ha
  rw [bit_ancOf]
  have key : ∀ e, e < i → (m.take i).getD e 0 = m.getD e 0 := fun e he => by
    simp only [List.getD_eq_getElem?_getD, List.getElem?_take, if_pos he]
  constructor
  · rintro ⟨e, he, h⟩; exact ⟨e, he, by rwa [key e (hb e he)] at h⟩
  · rintro ⟨e, he, h⟩; exact ⟨e, he, by rwa [key e (hb e he)]⟩
theorem mem_bindsL {o : Oper} {j : Nat} : j ∈ bindsL o ↔ ∃ e ∈ o.after, Region.binds .any e = true ∧ e.on = j := by
  simp only [bindsL, List.mem_filterMap, Array.mem_toList_iff]
  constructor
  · rintro ⟨e, he, h⟩
    cases hb : Region.binds .any e with
    | true => rw [hb] at h; simp only at h; exact ⟨e, he, hb, by simpa using h⟩
    | false => rw [hb] at h; cases h
  · rintro ⟨e, he, hb, rfl⟩
    exact ⟨e, he, by rw [hb]⟩

theorem allPairs_spec {f : PO → PO → Bool} : ∀ {l : List PO}, allPairs f l = true → ∀ (i j : Nat) p q, i < j → l[i]? = some p → l[j]? = some q → f p q = true
  | [], _, i, j, p, q, _, h, _ => by simp at h
  | x :: l, h, i, j, p, q, hij, hp, hq => by
    obtain ⟨h1, h2⟩ := andB_true h
    cases j with
    | zero => omega
    | succ j =>
      simp at hq
      cases i with
      | zero =>
        simp at hp; subst hp
        exact List.all_eq_true.1 h1 q (List.mem_of_getElem? hq)
      | succ i => simp at hp; exact allPairs_spec h2 i j p q (by omega) hp hq

theorem segsOf_spec (all : List PO) : ∀ (hs : List PO) (m : Nat), (segsOf all hs m).1.map (·.2) = hs ∧ (∀ s ∈ (segsOf all hs m).1, ∀ p ∈ s.1, p ∈ all) ∧ ∀ p ∈ (segsOf all hs m).2, p ∈ all
  | [], m => ⟨rfl, fun s h => by simp [segsOf] at h, fun p h => by simp only [segsOf, List.mem_filter] at h; exact h.1⟩
  | h :: hs, m => by
    obtain ⟨h1, h2, h3⟩ := segsOf_spec all hs ((all.filter fun p => andB (notB (bitAt m p.i)) (bitAt h.anc p.i)).foldl (fun m p => Nat.lor m (Nat.shiftLeft 1 p.i)) (Nat.lor m (Nat.shiftLeft 1 h.i)))
    refine ⟨by simp only [segsOf, List.map_cons, h1], fun s hs' p hp => ?_, h3⟩
    simp only [segsOf, List.mem_cons] at hs'
    rcases hs' with rfl | hs'
    · simp only [List.mem_filter] at hp; exact hp.1
    · exact h2 s hs' p hp

/- All that the check says. -/
structure Stat (E : Env) (ops : Array Oper) (pl : Plan) : Prop where
  k3 : ∀ p ∈ allOf E ops.toList, p.k < 3
  edge : ∀ p ∈ allOf E ops.toList, ∀ e ∈ p.o.after, Region.binds .any e = true → e.on < p.i ∧ bitAt p.anc e.on = true
  anc : ∀ p ∈ allOf E ops.toList, ∀ j, bitAt p.anc j = true → j < p.i ∧ ∃ e ∈ p.o.after, Region.binds .any e = true ∧ (e.on = j ∨ ∃ q, q ∈ allOf E ops.toList ∧ q.i = e.on ∧ bitAt q.anc j = true)
  apart : ∀ p ∈ allOf E ops.toList, ∀ q ∈ allOf E ops.toList, p.i < q.i → bitAt q.anc p.i = false → p.o.apart ops q.o = true ∧ ¬ (p.k = 2 ∧ q.k = 2)
  hs : pl.segs.map (·.2) = (allOf E ops.toList).filter isH
  mem : ∀ p ∈ flat pl, p ∈ allOf E ops.toList
  ord : ordOK ops.size (flat pl) 0 = true
  len : (flat pl).length = ops.size
  seg : ∀ s ∈ pl.segs, s.2.k = 2 ∧ ∀ p ∈ s.1, p.k ≠ 2 ∧ bitAt s.2.anc p.i = true
  last : ∀ p ∈ pl.last, p.k ≠ 2

theorem flat_mem {pl : Plan} {p : PO} : p ∈ flat pl ↔ (∃ s ∈ pl.segs, p ∈ s.1 ∨ p = s.2) ∨ p ∈ pl.last := by
  unfold flat
  induction pl.segs with
  | nil => simp
  | cons s l ih =>
    simp only [List.foldr_cons, List.mem_append, List.mem_cons, ih]
    constructor
    · rintro (h | h | (⟨s', hs, h⟩ | h))
      · exact .inl ⟨s, .inl rfl, .inl h⟩
      · exact .inl ⟨s, .inl rfl, .inr h⟩
      · exact .inl ⟨s', .inr hs, h⟩
      · exact .inr h
    · rintro (⟨s', rfl | hs, h⟩ | h)
      · rcases h with h | h
        · exact .inl h
        · exact .inr (.inl h)
      · exact .inr (.inr (.inl ⟨s', hs, h⟩))
      · exact .inr (.inr (.inr h))

theorem isH_iff {p : PO} : isH p = true ↔ p.k = 2 := by
  unfold isH eqN
  constructor
  · intro h; exact Nat.eq_of_beq_eq_true h
  · intro h; rw [h]; rfl

theorem planOf_stat {E : Env} {ops : Array Oper} {pl : Plan} (h : planOf E ops.toList = some pl) : Stat E ops pl := by
  unfold planOf at h
  simp only at h
  split at h
  · rename_i hok
    cases h
    have e1 : ((posOf E ops.toList (ancs ops.toList []) 0).map (boundsOf ((posOf E ops.toList (ancs ops.toList []) 0).filter isH))) = allOf E ops.toList := rfl
    rw [e1] at hok ⊢
    have e2 : ops.toList.toArray = ops := by simp
    rw [e2] at hok
    unfold planOK at hok
    obtain ⟨c1, hok⟩ := andB_true hok
    obtain ⟨c2, hok⟩ := andB_true hok
    obtain ⟨c3, hok⟩ := andB_true hok
    obtain ⟨c4, hok⟩ := andB_true hok
    obtain ⟨c5, c6⟩ := andB_true hok
    have hlen : (allOf E ops.toList).length = ops.size := by rw [allOf_len]; simp
    have hsp := segsOf_spec (allOf E ops.toList) ((allOf E ops.toList).filter isH) 0
    have p1 : ∀ p ∈ allOf E ops.toList, p.k < 3 ∧ (∀ e ∈ bindsL p.o, e < p.i) ∧ Nat.shiftRight p.anc p.i = 0 := fun p hp => by
      have := List.all_eq_true.1 c1 p hp
      obtain ⟨a1, a2⟩ := andB_true this
      obtain ⟨a3, a4⟩ := andB_true a1
      exact ⟨blt_lt a3, fun e he => blt_lt (List.all_eq_true.1 a4 e he), eqN_true a2⟩
    have panc : ∀ p ∈ allOf E ops.toList, ∀ j, bitAt p.anc j = true ↔ ∃ e ∈ bindsL p.o, j = e ∨ bitAt ((ancs ops.toList []).getD e 0) j = true := fun p hp j => by
      obtain ⟨b1, b2, b3, b4⟩ := allOf_get (mem_allOf hp)
      exact anc_get b2 b3 (p1 p hp).2.1 j
    refine ⟨fun p hp => (p1 p hp).1, ?_, ?_, ?_, ?_, ?_, ?_, ?_, ?_, ?_⟩
    · intro p hp e he hb
      have hm : e.on ∈ bindsL p.o := mem_bindsL.2 ⟨e, he, hb, rfl⟩
      exact ⟨(p1 p hp).2.1 _ hm, (panc p hp e.on).2 ⟨e.on, hm, .inl rfl⟩⟩
    · intro p hp j hj
      refine ⟨?_, ?_⟩
      · rcases Nat.lt_or_ge j p.i with h | h
        · exact h
        · have h0 := (p1 p hp).2.2
          have : Nat.testBit (p.anc >>> p.i) (j - p.i) = true := by
            rw [Nat.testBit_shiftRight, show p.i + (j - p.i) = j by omega]; exact hj
          rw [show p.anc >>> p.i = 0 from h0] at this
          simp at this
      · obtain ⟨e, he, h⟩ := (panc p hp j).1 hj
        obtain ⟨ed, hed, hb, rfl⟩ := mem_bindsL.1 he
        refine ⟨ed, hed, hb, ?_⟩
        rcases h with h | h
        · exact .inl h.symm
        · right
          have hlt := (p1 p hp).2.1 _ he
          have hpl : p.i < (allOf E ops.toList).length := by
            have := mem_allOf hp
            exact (List.getElem?_eq_some_iff.1 this).1
          have hq : (allOf E ops.toList)[ed.on]? = some (allOf E ops.toList)[ed.on] := List.getElem?_eq_getElem (by omega)
          obtain ⟨b1, b2, b3, b4⟩ := allOf_get hq
          refine ⟨_, List.mem_of_getElem? hq, b1, ?_⟩
          rw [List.getD_eq_getElem?_getD, b3] at h
          exact h
    · intro p hp q hq hlt hbit
      have := allPairs_spec c2 p.i q.i p q hlt (mem_allOf hp) (mem_allOf hq)
      rw [hbit] at this
      simp only at this
      have h1 : meets ops p.o q.o = false ∧ andB (isH p) (isH q) = false := by
        revert this; cases meets ops p.o q.o <;> cases andB (isH p) (isH q) <;> simp [notB, orB]
      refine ⟨?_, fun ⟨hk1, hk2⟩ => ?_⟩
      · have := h1.1; unfold meets at this; revert this; cases p.o.apart ops q.o <;> simp [notB]
      · have := h1.2
        rw [isH_iff.2 hk1, isH_iff.2 hk2] at this
        cases this
    · exact hsp.1
    · intro p hp
      rcases flat_mem.1 hp with ⟨s, hs, h | h⟩ | h
      · exact hsp.2.1 s hs p h
      · have : s.2 ∈ (segsOf (allOf E ops.toList) ((allOf E ops.toList).filter isH) 0).1.map (·.2) := List.mem_map.2 ⟨s, hs, rfl⟩
        rw [hsp.1, List.mem_filter] at this
        rw [h]; exact this.1
      · exact hsp.2.2 p h
    · rw [← hlen]; exact c3
    · rw [← hlen]; exact eqN_true c4
    · intro s hs
      obtain ⟨a1, a2⟩ := andB_true (List.all_eq_true.1 c5 s hs)
      refine ⟨isH_iff.1 a1, fun p hp => ?_⟩
      obtain ⟨a3, a4⟩ := andB_true (List.all_eq_true.1 a2 p hp)
      exact ⟨fun e => (by rw [isH_iff.2 e] at a3; cases a3), a4⟩
    · intro p hp e
      have := List.all_eq_true.1 c6 p hp
      rw [isH_iff.2 e] at this; cases this
  · cases h
end Go.Eng

/- Regions whose order is open: orders, and who wrote a temporary last. -/
namespace Go.Eng
open Go.RowKit
set_option linter.unusedVariables false
set_option linter.unusedSimpArgs false

def ins (S : Nat → Bool) (i : Nat) : Nat → Bool := fun j => S j || decide (j = i)
theorem ins_self (S : Nat → Bool) (i : Nat) : ins S i i = true := by simp [ins]
theorem ins_ne {S : Nat → Bool} {i j : Nat} (h : j ≠ i) : ins S i j = S j := by simp [ins, h]
theorem ins_of {S : Nat → Bool} {i j : Nat} (h : S j = true) : ins S i j = true := by simp [ins, h]
def Ord (n : Nat) (S : Nat → Bool) : List PO → Prop
  | [] => ∀ i, i < n → S i = true
  | p :: l => S p.i = false ∧ (∀ j, bitAt p.anc j = true → S j = true) ∧ Ord n (ins S p.i) l
theorem bit_ins (m i : Nat) : bitAt (Nat.lor m (Nat.shiftLeft 1 i)) = ins (bitAt m) i := by
  funext j; rw [bit_or, bit_one]; rfl

theorem ordOK_spec (n : Nat) : ∀ (l : List PO) (m : Nat), ordOK n l m = true → Ord n (bitAt m) l
  | [], m, h => fun i hi => by
    have h1 : m + 1 = 2 ^ n := eqN_true h
    have : m = 2 ^ n - 1 := by omega
    rw [this]
    show Nat.testBit (2 ^ n - 1) i = true
    rw [Nat.testBit_two_pow_sub_one]; simpa using hi
  | p :: l, m, h => by
    obtain ⟨h1, h2⟩ := andB_true h
    obtain ⟨h3, h4⟩ := andB_true h1
    have h5 : Nat.land p.anc m = p.anc := eqN_true h4
    refine ⟨(by revert h3; cases bitAt m p.i <;> simp [notB]), fun j hj => ?_, ?_⟩
    · have : Nat.testBit (p.anc &&& m) j = true := by rw [show p.anc &&& m = p.anc from h5]; exact hj
      rw [Nat.testBit_and] at this
      simp only [Bool.and_eq_true] at this
      exact this.2
    · rw [← bit_ins]; exact ordOK_spec n l _ h2

/- The last of those below n for which f holds. -/
def lastW {α : Type} (f : Nat → Bool) (V : Nat → α) (d : α) : Nat → α
  | 0 => d
  | n + 1 => match f n with
    | true => V n
    | false => lastW f V d n
theorem lastW_congr {α : Type} {f f' : Nat → Bool} {V V' : Nat → α} {d : α} : ∀ {n : Nat}, (∀ i, i < n → f i = f' i) → (∀ i, i < n → f i = true → V i = V' i) → lastW f V d n = lastW f' V' d n
  | 0, _, _ => rfl
  | n + 1, h, hv => by
    simp only [lastW, ← h n (by omega)]
    cases hf : f n with
    | true => exact hv n (by omega) hf
    | false => exact lastW_congr (fun i hi => h i (by omega)) (fun i hi => hv i (by omega))
theorem lastW_ins {α : Type} {f : Nat → Bool} {V : Nat → α} {d : α} {i : Nat} : ∀ {n : Nat}, i < n → f i = true → (∀ j, j < n → i < j → f j = false) → lastW f V d n = V i
  | n + 1, hi, hf, h => by
    simp only [lastW]
    by_cases e : i = n
    · subst e; rw [hf]
    · rw [h n (by omega) (by omega)]
      exact lastW_ins (by omega) hf fun j hj => h j (by omega)
theorem lastW_all {α : Type} {f : Nat → Bool} {V : Nat → α} {d : α} {R : α → Prop} (hd : R d) : ∀ {n : Nat}, (∀ i, i < n → f i = true → R (V i)) → R (lastW f V d n)
  | 0, _ => hd
  | n + 1, h => by
    simp only [lastW]
    cases hf : f n with
    | true => exact h n (by omega) hf
    | false => exact lastW_all hd fun i hi => h i (by omega)

def dstOf (ops : Array Oper) (i : Nat) : Option Tmp := (ops[i]?).bind (·.dst)
def tmS (ops : Array Oper) {α : Type} (V : Nat → α) (tm0 : Tmp → α) (S : Nat → Bool) (t : Tmp) : α := lastW (fun i => S i && decide (dstOf ops i = some t)) V (tm0 t) ops.size

theorem tmS_congr {ops : Array Oper} {α : Type} {V : Nat → α} {tm0 : Tmp → α} {S S' : Nat → Bool} {t : Tmp} (h : ∀ i, i < ops.size → dstOf ops i = some t → S i = S' i) : tmS ops V tm0 S t = tmS ops V tm0 S' t := by
  refine lastW_congr (fun i hi => ?_) (fun i hi _ => rfl)
  by_cases hd : dstOf ops i = some t
  · rw [h i hi hd]
  · simp [hd]

section
variable {E : Env} {ops : Array Oper} {pl : Plan}
def DownC (E : Env) (ops : Array Oper) (S : Nat → Bool) : Prop := ∀ p ∈ allOf E ops.toList, S p.i = true → ∀ j, bitAt p.anc j = true → S j = true

theorem all_at (E : Env) {ops : Array Oper} {i : Nat} {o : Oper} (h : ops[i]? = some o) : ∃ p ∈ allOf E ops.toList, p.i = i ∧ p.o = o := by
  have hi : i < ops.size := (Array.getElem?_eq_some_iff.1 h).1
  have hl : i < (allOf E ops.toList).length := by rw [allOf_len]; simpa using hi
  have hq := List.getElem?_eq_getElem hl
  obtain ⟨b1, b2, _, _⟩ := allOf_get hq
  refine ⟨_, List.mem_of_getElem? hq, b1, ?_⟩
  have : ops[i]? = some ((allOf E ops.toList)[i]).o := by simpa using b2
  rw [h] at this; exact (Option.some.inj this).symm
theorem all_op {p : PO} (h : p ∈ allOf E ops.toList) : ops[p.i]? = some p.o ∧ p.i < ops.size := by
  have := (allOf_get (mem_allOf h)).2.1
  have h1 : ops[p.i]? = some p.o := by simpa using this
  exact ⟨h1, (Array.getElem?_eq_some_iff.1 h1).1⟩
theorem all_eq {p q : PO} (hp : p ∈ allOf E ops.toList) (hq : q ∈ allOf E ops.toList) (h : p.i = q.i) : p = q := by
  have h1 := mem_allOf hp
  have h2 := mem_allOf hq
  rw [h, h2] at h1
  exact (Option.some.inj h1).symm

/- Two operations of which one writes what the other looks at, or writes, do not pass each other. -/
theorem Stat.comp (hs : Stat E ops pl) {p q : PO} (hp : p ∈ allOf E ops.toList) (hq : q ∈ allOf E ops.toList) (hne : p.i ≠ q.i) {t : Tmp} (hd : p.o.dst = some t) (ht : t ∈ q.o.looksAt ops ∨ q.o.dst = some t) :
    bitAt q.anc p.i = true ∧ p.i < q.i ∨ bitAt p.anc q.i = true ∧ q.i < p.i := by
  have nap : p.o.apart ops q.o = true → False := fun h => by
    obtain ⟨h1, h2, h3⟩ := Oper.apart_spec h
    rcases ht with ht | ht
    · exact h1 t hd ht
    · exact h2 t hd ht
  have nap' : q.o.apart ops p.o = true → False := fun h => by
    obtain ⟨h1, h2, h3⟩ := Oper.apart_spec h
    rcases ht with ht | ht
    · exact h3 t hd ht
    · exact h2 t ht hd
  rcases Nat.lt_or_ge p.i q.i with h | h
  · cases hb : bitAt q.anc p.i with
    | true => exact .inl ⟨rfl, h⟩
    | false => exact absurd (hs.apart p hp q hq h hb).1 fun h => nap h
  · have h : q.i < p.i := by omega
    cases hb : bitAt p.anc q.i with
    | true => exact .inr ⟨rfl, h⟩
    | false => exact absurd (hs.apart q hq p hp h hb).1 fun h => nap' h

/- What an operation looks at was written last by one that goes ahead of it. -/
theorem tmS_reads (hs : Stat E ops pl) {α : Type} {V : Nat → α} {tm0 : Tmp → α} {S : Nat → Bool} (hS : DownC E ops S) {p : PO} (hp : p ∈ allOf E ops.toList) (hp0 : S p.i = false) (hpa : ∀ j, bitAt p.anc j = true → S j = true)
    {t : Tmp} (ht : t ∈ p.o.looksAt ops) : tmS ops V tm0 S t = tmS ops V tm0 (bitAt p.anc) t := by
  refine tmS_congr fun i hi hd => ?_
  obtain ⟨o, ho, hod⟩ := Option.bind_eq_some_iff.1 hd
  obtain ⟨q, hq, rfl, rfl⟩ := all_at E ho
  by_cases he : q.i = p.i
  · rw [he, hp0]
    cases hb : bitAt p.anc p.i with
    | false => rfl
    | true => have := (hs.anc p hp p.i hb).1; omega
  · rcases hs.comp hq hp he hod (.inl ht) with ⟨h1, h2⟩ | ⟨h1, h2⟩
    · rw [h1, hpa _ h1]
    · cases hb : bitAt p.anc q.i with
      | true => have := (hs.anc p hp q.i hb).1; omega
      | false =>
        cases hSq : S q.i with
        | false => rfl
        | true => have := hS q hq hSq p.i h1; rw [hp0] at this; cases this

theorem tmS_ins (hs : Stat E ops pl) {α : Type} {V : Nat → α} {tm0 : Tmp → α} {S : Nat → Bool} (hS : DownC E ops S) {p : PO} (hp : p ∈ allOf E ops.toList) (hp0 : S p.i = false) (v : α) (t : Tmp) :
    tmS ops (fun j => if j = p.i then v else V j) tm0 (ins S p.i) t = if p.o.dst = some t then v else tmS ops V tm0 S t := by
  obtain ⟨ho, hlt⟩ := all_op hp
  have hd0 : dstOf ops p.i = p.o.dst := by simp [dstOf, ho]
  by_cases hd : p.o.dst = some t
  · rw [if_pos hd]
    have : tmS ops (fun j => if j = p.i then v else V j) tm0 (ins S p.i) t = (fun j => if j = p.i then v else V j) p.i := by
      refine lastW_ins hlt (by simp [ins_self, hd0, hd]) fun j hj hij => ?_
      by_cases hdj : dstOf ops j = some t
      · obtain ⟨o, ho', hod⟩ := Option.bind_eq_some_iff.1 hdj
        obtain ⟨q, hq, rfl, rfl⟩ := all_at E ho'
        rw [ins_ne (by omega)]
        rcases hs.comp hq hp (by omega) hod (.inr hd) with ⟨h1, h2⟩ | ⟨h1, h2⟩
        · omega
        · cases hSq : S q.i with
          | false => rfl
          | true => have := hS q hq hSq p.i h1; rw [hp0] at this; cases this
      · simp [hdj]
    rw [this]; simp
  · rw [if_neg hd]
    refine lastW_congr (fun i hi => ?_) (fun i hi hf => ?_)
    · by_cases he : i = p.i
      · subst he; simp [hd0, hd]
      · rw [ins_ne he]
    · have : i ≠ p.i := fun e => by subst e; simp [hd0, hd] at hf
      simp [this]

theorem DownC.ins {S : Nat → Bool} (hS : DownC E ops S) {p : PO} (hp : p ∈ allOf E ops.toList) (hpa : ∀ j, bitAt p.anc j = true → S j = true) : DownC E ops (ins S p.i) := by
  intro q hq hSq j hj
  by_cases he : q.i = p.i
  · have := all_eq hq hp he; subst this
    exact ins_of (hpa j hj)
  · rw [ins_ne he] at hSq
    exact ins_of (hS q hq hSq j hj)
end
end Go.Eng

/- Regions whose order is open: conditions only grow. -/
namespace Go.Eng
open Go.RowKit
set_option linter.unusedVariables false
set_option linter.unusedSimpArgs false

def MonoD (K : DS → RR) : Prop := ∀ (l : List PC) s, l <:+ s.g.pcs → MonoRR l (K s)

section
variable {E : Env} {rec : FuncId → List AV → GS → RC} {ops : List Oper} {F k : Nat} {gs : T GS}
theorem mono_stepL {p : PO} {s : DS} {K : DS → RR} {l : List PC} (hK : MonoD K) (h : l <:+ s.g.pcs) : MonoRR l (stepL E ops F k gs p s K) := by
  unfold stepL
  split
  · trivial
  · exact hK _ _ h
  · split
    · have h1 := evO_mono l E (emptyG s.g) (evX E s.tm) p.o.op h
      split
      · rename_i v g' he
        rw [he] at h1; exact hK _ _ h1
      · split
        · trivial
        · rename_i gl hgl
          simp only
          split
          · rename_i v g' he
            have h2 := evO_mono l E ⟨(addA gl s.ab p.anc p.lo).bl, (addA gl s.ab p.anc p.lo).nx, (addA gl s.ab p.anc p.lo).fx, s.g.orc, s.g.pcs⟩ (evX E s.tm) p.o.op h
            rw [he] at h2; exact hK _ _ h2
          · trivial
    · split
      · trivial
      · split
        · exact hK _ _ h
        · trivial
theorem mono_stepsL {l : List PC} : ∀ (m : List PO) {s : DS} {K : DS → RR}, MonoD K → l <:+ s.g.pcs → MonoRR l (stepsL E ops F k gs m s K)
  | [], s, K, hK, h => hK _ _ h
  | p :: m, s, K, hK, h => mono_stepL (fun l s h => mono_stepsL m hK h) h
theorem mono_stepH (hr : MonoRec rec) {p : PO} {s : DS} {K : DS → RR} {l : List PC} (hK : MonoD K) (h : l <:+ s.g.pcs) : MonoRR l (stepH E rec ops p s K) := by
  unfold stepH
  split
  · trivial
  · exact hK _ _ h
  · have h1 := evO_mono l E s.g (evX E s.tm) p.o.op h
    split
    · rename_i v g' he
      rw [he] at h1; exact hK _ _ h1
    · rename_i f args g' he
      rw [he] at h1
      exact mono_callK hr h1 (fun v g' h => hK _ _ h) (fun v g' h => trivial)
    · trivial
theorem mono_runSegs (hr : MonoRec rec) {l : List PC} : ∀ (m : List (List PO × PO)) {k : Nat} {gs : T GS} {s : DS} {K : Nat → T GS → DS → RR}, (∀ k gs, MonoD (K k gs)) → l <:+ s.g.pcs → MonoRR l (runSegs E rec ops F m k gs s K)
  | [], k, gs, s, K, hK, h => hK _ _ _ _ h
  | (seg, p) :: m, k, gs, s, K, hK, h => mono_stepsL seg (fun l s h => mono_stepH hr (fun l s h => mono_runSegs hr m hK h) h) h
theorem eqNP_suf {a b : N} {L L' : List PC} (h : eqNP a b L = some L') : L <:+ L' := by
  cases a <;> cases b <;> simp only [eqNP] at h
  · split at h
    · cases h; exact List.suffix_refl _
    · cases h
  all_goals (cases h; exact List.suffix_cons _ _)
theorem eqNsP_suf : ∀ {l m : List N} {L L' : List PC}, eqNsP l m L = some L' → L <:+ L'
  | [], [], L, L', h => by cases h; exact List.suffix_refl _
  | a :: l, b :: m, L, L', h => by
    simp only [eqNsP] at h
    split at h
    · rename_i L1 h1
      exact (eqNP_suf h1).trans (eqNsP_suf h)
    · cases h
  | [], _ :: _, L, L', h => by cases h
  | _ :: _, [], L, L', h => by cases h
theorem eq0P_suf {a b : AV} {L L' : List PC} (h : eq0P a b L = some L') : L <:+ L' := by
  unfold eq0P at h
  split at h
  all_goals first
    | (cases h; done)
    | (cases h; first | exact List.suffix_refl _ | exact List.suffix_cons _ _)
    | exact eqNsP_suf h
    | (split at h <;> first | exact eqNP_suf h | (cases h; done) | (cases h; exact List.suffix_refl _))
theorem eqsP_suf : ∀ {l m : List AV} {L L' : List PC}, eqsP eq0P l m L = some L' → L <:+ L'
  | [], [], L, L', h => by cases h; exact List.suffix_refl _
  | a :: l, b :: m, L, L', h => by
    simp only [eqsP] at h
    split at h
    · rename_i L1 h1
      exact (eq0P_suf h1).trans (eqsP_suf h)
    · cases h
  | [], _ :: _, L, L', h => by cases h
  | _ :: _, [], L, L', h => by cases h
theorem eq1P_suf {a b : AV} {L L' : List PC} (h : eq1P a b L = some L') : L <:+ L' := by
  unfold eq1P at h
  split at h
  · exact eqsP_suf h
  · exact eqsP_suf h
  · split at h
    · exact eq0P_suf h
    · cases h
  · exact eq0P_suf h
theorem phasesOK_suf {ab : List AE} {c : CK} : ∀ (n j : Nat) {L L' : List PC}, phasesOK E gs ab c n j L = some L' → L <:+ L'
  | 0, j, L, L', h => by cases h; exact List.suffix_refl _
  | n + 1, j, L, L', h => by
    simp only [phasesOK] at h
    split at h
    · cases h
    · rename_i gl hgl
      split at h
      · rename_i v g' he
        have h2 := evO_mono L E ⟨(addA gl ab c.p.anc j).bl, (addA gl ab c.p.anc j).nx, (addA gl ab c.p.anc j).fx, [], L⟩ (evX E c.tm) c.p.o.op (List.suffix_refl _)
        rw [he] at h2
        split at h
        · rename_i L1 h1
          exact (h2.trans (eq1P_suf h1)).trans (phasesOK_suf n (j + 1) h)
        · cases h
      · cases h
theorem checksOK_suf {ab : List AE} : ∀ (ck : List CK) {L L' : List PC}, checksOK E gs ab ck L = some L' → L <:+ L'
  | [], L, L', h => by cases h; exact List.suffix_refl _
  | c :: ck, L, L', h => by
    simp only [checksOK] at h
    split at h
    · rename_i L1 h1
      exact (phasesOK_suf _ _ h1).trans (checksOK_suf ck h)
    · cases h
theorem mono_finish {s : ST} (ab : DS → List AE) (gs : T GS) : MonoD (fun d => match checksOK E gs d.ab d.ck d.g.pcs with
    | some P => .ok .normal ⟨d.tm, s.n, s.df, ⟨d.g.bl, d.g.nx, d.g.fx, d.g.orc, P⟩⟩
    | none => .fail "phases") := fun l d h => by
  simp only
  split
  · rename_i L hL
    exact h.trans (checksOK_suf _ hL)
  · trivial
theorem mono_evDraw (hr : MonoRec rec) : MonoK (evDraw E rec ops) := fun l s h => by
  unfold evDraw
  split
  · trivial
  · split
    · trivial
    · exact mono_runSegs hr _ (fun k gs l d h => mono_stepsL _ (mono_finish (fun d => d.ab) gs) h) h
end
end Go.Eng

/- Regions whose order is open: the facts that a run collects. -/
namespace Go.Eng
open Go.RowKit
set_option linter.unusedVariables false
set_option linter.unusedSimpArgs false

noncomputable def adoptB (bl : T AB) (ab : List AE) (k : Nat) : T AB := ab.foldr (fun e bl => if e.ph = k then T.set (some e.blk) D bl e.name else bl) bl

inductive HRes (E : Env) (rec : FuncId → List AV → GS → RC) (gp : GS) (X : Operand → AV) (op : Op) (v : AV) (g' : GS) : Prop where
  | val (h : evO E gp X op = .val v g')
  | ext (f : FuncId) (args : List AV) (gc : GS) (k : XK) (h : evO E gp X op = .call f args gc) (hp : PCs gc.pcs) (hk : E.xt.get f = some k) (h' : oXK gc k args = .val v g')
  | rc (f : FuncId) (args : List AV) (gc : GS) (nd : Bool) (h : evO E gp X op = .call f args gc) (hp : PCs gc.pcs) (hk : E.xt.get f = none) (h' : rec f args gc = .ret nd v g')

section
variable (E : Env) (rec : FuncId → List AV → GS → RC) (ops : Array Oper) (F : Nat) (tm0 : Tmp → AV)
noncomputable def hsOf : List PO := (allOf E ops.toList).filter isH

def Look (V : Nat → AV) (p : PO) (Tm : T AV) : Prop := ∀ t ∈ p.o.looksAt ops, (Tm.get t).getD .undef = tmS ops V tm0 (bitAt p.anc) t
def LAt (gs : T GS) (ab : List AE) (p : PO) (Tm : T AV) (v : AV) (j : Nat) : Prop :=
  ∃ gl orc pcs v' g', gs.get j = some gl ∧ PCs g'.pcs ∧ evO E ⟨(addA gl ab p.anc j).bl, (addA gl ab p.anc j).nx, (addA gl ab p.anc j).fx, orc, pcs⟩ (evX E Tm) p.o.op = .val v' g' ∧ ∀ (ρ : Ren) x, VR ρ v' x → VR ρ v x
def LFact (gs : T GS) (ab : List AE) (ck : List CK) (p : PO) (Tm : T AV) (v : AV) : Prop :=
  (∃ g g', PCs g'.pcs ∧ evO E (emptyG g) (evX E Tm) p.o.op = .val v g') ∨ (LAt E gs ab p Tm v p.lo ∧ (p.lo < p.hi → ⟨p, Tm, v⟩ ∈ ck))
def AFact (ab : List AE) (p : PO) (Tm : T AV) (v : AV) : Prop :=
  ∃ l kd ph, aCells E (evX E Tm) p.o.op = some (l, kd) ∧ l.length < 549755813888 ∧ v = aVal (F + p.i) kd ∧ ⟨p.i, F + p.i, .cells true true l.length (T.ofFrom .nil 0 l), ph⟩ ∈ ab
def HFact (gs : T GS) (ab : List AE) (p : PO) (Tm : T AV) (W : Bool) (v : AV) : Prop :=
  ∃ r g0r gp g', (hsOf E ops)[r]? = some p ∧ gs.get r = some g0r ∧ gs.get (r + 1) = some g' ∧ gp.bl = adoptB g0r.bl ab r ∧ gp.nx = g0r.nx ∧ gp.fx = g0r.fx ∧ PCs g'.pcs ∧
    (W = true → HRes E rec gp (evX E Tm) p.o.op v g') ∧ (W = false → g' = gp) ∧ ∀ e ∈ ab, e.ph = r → bitAt p.anc e.i = true
def Fact (V : Nat → AV) (gs : T GS) (ab : List AE) (ck : List CK) (p : PO) : Prop :=
  ∃ Tm W, Look ops tm0 V p Tm ∧ wantedD ops.toList p.o Tm = some W ∧ (W = false → V p.i = .undef ∧ ∀ e ∈ ab, e.i ≠ p.i) ∧ (W = true → p.k = 0 → LFact E gs ab ck p Tm (V p.i)) ∧
    (W = true → p.k = 1 → AFact E F ab p Tm (V p.i)) ∧ (p.k = 2 → HFact E rec ops gs ab p Tm W (V p.i))

structure Acc (S : Nat → Bool) (V : Nat → AV) (k : Nat) (gs : T GS) (s : DS) : Prop where
  dc : DownC E ops S
  tm : ∀ t, (s.tm.get t).getD .undef = tmS ops V tm0 S t
  fact : ∀ p ∈ allOf E ops.toList, S p.i = true → Fact E rec ops F tm0 V gs s.ab s.ck p
  gk : ∃ g0k, gs.get k = some g0k ∧ s.g.bl = adoptB g0k.bl s.ab k ∧ s.g.nx = g0k.nx ∧ s.g.fx = g0k.fx
  gle : ∀ j g, gs.get j = some g → j ≤ k
  abS : ∀ e ∈ s.ab, S e.i = true ∧ e.ph ≤ k ∧ e.name = F + e.i ∧ (∃ n cs, e.blk = .cells true true n cs) ∧ ∃ p ∈ allOf E ops.toList, p.i = e.i ∧ p.k = 1
  abU : ∀ e ∈ s.ab, ∀ e' ∈ s.ab, e.i = e'.i → e = e'
  hk : ∀ r p, (hsOf E ops)[r]? = some p → (S p.i = true ↔ r < k)
end

section
variable {E : Env} {rec : FuncId → List AV → GS → RC} {ops : Array Oper} {F : Nat} {tm0 : Tmp → AV}

theorem adoptB_append {bl : T AB} {ab : List AE} {k : Nat} : ∀ (new : List AE), (∀ e ∈ new, e.ph ≠ k) → adoptB bl (new ++ ab) k = adoptB bl ab k
  | [], _ => rfl
  | e :: new, h => by
    show (if e.ph = k then T.set (some e.blk) D (adoptB bl (new ++ ab) k) e.name else adoptB bl (new ++ ab) k) = _
    rw [if_neg (h e List.mem_cons_self)]
    exact adoptB_append new fun e' he => h e' (List.mem_cons_of_mem _ he)
theorem addA_cons {gl : GS} {ab : List AE} {anc j : Nat} (e : AE) : addA gl (e :: ab) anc j = match andB (bitAt anc e.i) (Nat.ble j e.ph) with
    | true => { addA gl ab anc j with bl := T.set (some e.blk) D (addA gl ab anc j).bl e.name }
    | false => addA gl ab anc j := rfl
theorem addA_append {gl : GS} {ab : List AE} {anc j : Nat} : ∀ (new : List AE), (∀ e ∈ new, bitAt anc e.i = false) → addA gl (new ++ ab) anc j = addA gl ab anc j
  | [], _ => rfl
  | e :: new, h => by
    rw [List.cons_append, addA_cons, h e List.mem_cons_self]
    exact addA_append new fun e' he => h e' (List.mem_cons_of_mem _ he)

/- What was found stays so. -/
theorem Fact.grow {S : Nat → Bool} (hdc : DownC E ops S) {V V' : Nat → AV} {k : Nat} {gs gs' : T GS} {ab new : List AE} {ck ck' : List CK} {p : PO} (hp : p ∈ allOf E ops.toList) (hS : S p.i = true)
    (hV : ∀ i, S i = true → V' i = V i) (hgs : ∀ j, j ≤ k → gs'.get j = gs.get j) (hgle : ∀ j g, gs.get j = some g → j ≤ k) (hnew : ∀ e ∈ new, S e.i = false ∧ k ≤ e.ph)
    (hhk : ∀ r p, (hsOf E ops)[r]? = some p → (S p.i = true ↔ r < k)) (hck : ∀ c ∈ ck, c ∈ ck') (h : Fact E rec ops F tm0 V gs ab ck p) : Fact E rec ops F tm0 V' gs' (new ++ ab) ck' p := by
  obtain ⟨Tm, W, h1, h2, h3, h4, h5, h6⟩ := h
  have hanc := hdc p hp hS
  have hno : ∀ e ∈ new, bitAt p.anc e.i = false := fun e he => by
    cases hb : bitAt p.anc e.i with
    | false => rfl
    | true => have := hanc _ hb; rw [(hnew e he).1] at this; cases this
  refine ⟨Tm, W, fun t ht => ?_, h2, fun hw => ⟨by rw [hV _ hS]; exact (h3 hw).1, fun e he heq => ?_⟩, fun hw hk => ?_, fun hw hk => ?_, fun hk => ?_⟩
  · rw [h1 t ht]
    refine lastW_congr (fun i hi => rfl) (fun i hi hf => ?_)
    simp only [Bool.and_eq_true] at hf
    exact (hV i (hanc i hf.1)).symm
  · rcases List.mem_append.1 he with he | he
    · have := (hnew e he).1; rw [heq, hS] at this; cases this
    · exact (h3 hw).2 e he heq
  · rw [hV _ hS]
    rcases h4 hw hk with h | ⟨⟨gl, orc, pcs, v', g', a1, a2, a3, a4⟩, hc⟩
    · exact .inl h
    · refine .inr ⟨⟨gl, orc, pcs, v', g', ?_, a2, ?_, a4⟩, fun hlt => hck _ (hc hlt)⟩
      · rw [hgs _ (hgle _ _ a1)]; exact a1
      · rw [addA_append new hno]; exact a3
  · rw [hV _ hS]
    obtain ⟨l, kd, ph, a1, a2, a3, a4⟩ := h5 hw hk
    exact ⟨l, kd, ph, a1, a2, a3, List.mem_append_right _ a4⟩
  · rw [hV _ hS]
    obtain ⟨r, g0r, gp, g', a1, a2, a3, a4, a5, a6, a7, a8, a9, a10⟩ := h6 hk
    have hrk : r < k := (hhk r p a1).1 hS
    refine ⟨r, g0r, gp, g', a1, by rw [hgs r (by omega)]; exact a2, by rw [hgs (r + 1) (by omega)]; exact a3, ?_, a5, a6, a7, a8, a9, fun e he hph => ?_⟩
    · rw [adoptB_append new fun e he => by have := (hnew e he).2; omega]; exact a4
    · rcases List.mem_append.1 he with he | he
      · have := (hnew e he).2; omega
      · exact a10 e he hph

theorem setD_get {tm : T AV} {d : Option Tmp} {v : AV} (hd : ∀ x : Nat, d = some x → x < 1000000) (t : Tmp) : ((setD tm d v).get t).getD .undef = if d = some t then v else (tm.get t).getD .undef := by
  cases d with
  | none => simp [setD]
  | some x =>
    have : Nat.lt x 1000000 := hd x rfl
    have : @LT.lt Nat _ x 1000000 := this
    simp only [setD]
    by_cases hx : x = t
    · subst hx
      rw [T.get_set_same _ _ _ _ (by simp only [D]; omega)]; simp
    · rw [T.get_set_ne _ _ _ _ _ (fun e => hx e.symm)]
      rw [if_neg (by simpa using hx)]
end
end Go.Eng

/- Regions whose order is open: each step of the run adds its fact. -/
namespace Go.Eng
open Go.RowKit
set_option linter.unusedVariables false
set_option linter.unusedSimpArgs false

section
variable {E : Env} {rec : FuncId → List AV → GS → RC} {ops : Array Oper} {pl : Plan} {F : Nat} {tm0 : Tmp → AV}

def updV (V : Nat → AV) (i : Nat) (v : AV) : Nat → AV := fun j => if j = i then v else V j

theorem Acc.look (hs : Stat E ops pl) {S : Nat → Bool} {V : Nat → AV} {k : Nat} {gs : T GS} {s : DS} (h : Acc E rec ops F tm0 S V k gs s) {p : PO} (hp : p ∈ allOf E ops.toList) (hp0 : S p.i = false) (hpa : ∀ j, bitAt p.anc j = true → S j = true) (v : AV) :
    Look ops tm0 (updV V p.i v) p s.tm := fun t ht => by
  rw [h.tm t, tmS_reads hs h.dc hp hp0 hpa ht]
  refine lastW_congr (fun i hi => rfl) (fun i hi hf => ?_)
  simp only [Bool.and_eq_true] at hf
  have : i ≠ p.i := fun e => by subst e; have := (hs.anc p hp p.i hf.1).1; omega
  simp [updV, this]

/- A step that is no H. -/
theorem Acc.step (hs : Stat E ops pl) {S : Nat → Bool} {V : Nat → AV} {k : Nat} {gs : T GS} {s s' : DS} (h : Acc E rec ops F tm0 S V k gs s) {p : PO} (hp : p ∈ allOf E ops.toList) (hp0 : S p.i = false) (hpa : ∀ j, bitAt p.anc j = true → S j = true)
    (hd : ∀ x : Nat, p.o.dst = some x → x < 1000000) (hk2 : p.k ≠ 2) {v : AV} {new : List AE} (e1 : s'.tm = setD s.tm p.o.dst v) (e2 : s'.ab = new ++ s.ab) (e3 : ∀ c ∈ s.ck, c ∈ s'.ck)
    (e4 : s'.g.nx = s.g.nx) (e5 : s'.g.fx = s.g.fx) (e6 : ∀ bl, s.g.bl = adoptB bl s.ab k → s'.g.bl = adoptB bl s'.ab k)
    (hnew : ∀ e ∈ new, e.i = p.i ∧ e.ph = k ∧ e.name = F + e.i ∧ (∃ n cs, e.blk = .cells true true n cs) ∧ p.k = 1) (hnewU : ∀ e ∈ new, ∀ e' ∈ new, e = e')
    (hf : Fact E rec ops F tm0 (updV V p.i v) gs s'.ab s'.ck p) : Acc E rec ops F tm0 (ins S p.i) (updV V p.i v) k gs s' := by
  have hnS : ∀ e ∈ new, S e.i = false ∧ k ≤ e.ph := fun e he => by
    obtain ⟨h1, h2, _⟩ := hnew e he
    exact ⟨by rw [h1]; exact hp0, by omega⟩
  refine ⟨h.dc.ins hp hpa, fun t => ?_, fun q hq hSq => ?_, ?_, h.gle, fun e he => ?_, fun e he e' he' heq => ?_, fun r q hq => ?_⟩
  · rw [e1, setD_get hd t]
    have := tmS_ins hs (tm0 := tm0) (V := V) h.dc hp hp0 v t
    have h2 : tmS ops (updV V p.i v) tm0 (ins S p.i) t = if p.o.dst = some t then v else tmS ops V tm0 S t := this
    rw [h2, h.tm t]
  · by_cases hqp : q.i = p.i
    · have := all_eq hq hp hqp; subst this; exact hf
    · rw [ins_ne hqp] at hSq
      rw [e2]
      refine (h.fact q hq hSq).grow h.dc hq hSq (fun i hi => ?_) (fun j hj => rfl) h.gle hnS h.hk e3
      have : i ≠ p.i := fun e => by subst e; rw [hp0] at hi; cases hi
      simp [updV, this]
  · obtain ⟨g0k, a1, a2, a3, a4⟩ := h.gk
    exact ⟨g0k, a1, e6 _ a2, by rw [e4]; exact a3, by rw [e5]; exact a4⟩
  · rw [e2] at he
    rcases List.mem_append.1 he with he | he
    · obtain ⟨h1, h2, h3, h4, h5⟩ := hnew e he
      exact ⟨by rw [h1]; exact ins_self _ _, by omega, h3, h4, p, hp, h1.symm, h5⟩
    · obtain ⟨h1, h2⟩ := h.abS e he
      exact ⟨ins_of h1, h2⟩
  · rw [e2] at he he'
    rcases List.mem_append.1 he with he | he <;> rcases List.mem_append.1 he' with he' | he'
    · exact hnewU e he e' he'
    · have := (hnS e he).1; rw [heq, (h.abS e' he').1] at this; cases this
    · have := (hnS e' he').1; rw [← heq, (h.abS e he).1] at this; cases this
    · exact h.abU e he e' he' heq
  · have hne : q.i ≠ p.i := fun e => by
      have hm := List.mem_of_getElem? hq
      simp only [hsOf, List.mem_filter] at hm
      have := all_eq hm.1 hp e; subst this
      exact hk2 (isH_iff.1 hm.2)
    rw [ins_ne hne]; exact h.hk r q hq

theorem stepL_acc (hs : Stat E ops pl) {S : Nat → Bool} {V : Nat → AV} {k : Nat} {gs : T GS} {s : DS} (h : Acc E rec ops F tm0 S V k gs s) {p : PO} (hp : p ∈ allOf E ops.toList) (hp0 : S p.i = false) (hpa : ∀ j, bitAt p.anc j = true → S j = true)
    (hd : ∀ x : Nat, p.o.dst = some x → x < 1000000) (hk2 : p.k ≠ 2) {K : DS → RR} (hK : MonoD K) {e : EX} {sf : ST} (hr : stepL E ops.toList F k gs p s K = .ok e sf) (hpc : PCs sf.g.pcs) :
    ∃ s' v, K s' = .ok e sf ∧ Acc E rec ops F tm0 (ins S p.i) (updV V p.i v) k gs s' ∧ ∃ new, s'.ab = new ++ s.ab ∧ ∀ a ∈ new, a.i = p.i := by
  have hpc' : ∀ s' : DS, K s' = .ok e sf → PCs s'.g.pcs := fun s' he => by
    have := hK _ s' (List.suffix_refl _)
    rw [he] at this; exact hpc.of_suffix this
  have hlook := fun v => h.look hs hp hp0 hpa v
  have hvi : ∀ v, updV V p.i v p.i = v := fun v => by simp [updV]
  unfold stepL at hr
  split at hr
  · cases hr
  · rename_i hw
    refine ⟨_, .undef, hr, h.step hs hp hp0 hpa hd hk2 (new := []) rfl rfl (fun c hc => hc) rfl rfl (fun bl hb => hb) (fun e he => by cases he) (fun e he => by cases he) ?_, [], rfl, fun a ha => (by cases ha)⟩
    exact ⟨s.tm, false, hlook _, hw, fun _ => ⟨hvi _, fun e he heq => by have := (h.abS e he).1; rw [heq, hp0] at this; cases this⟩, fun h => (by cases h), fun h => (by cases h), fun hk => absurd hk hk2⟩
  · rename_i hw
    split at hr
    · rename_i hk0
      have hk0 : p.k = 0 := eqN_true hk0
      split at hr
      · rename_i v g' he
        have hp1 := hpc' _ hr
        refine ⟨_, v, hr, h.step hs hp hp0 hpa hd hk2 (new := []) rfl rfl (fun c hc => hc) rfl rfl (fun bl hb => hb) (fun e he => by cases he) (fun e he => by cases he) ?_, [], rfl, fun a ha => (by cases ha)⟩
        refine ⟨s.tm, true, hlook _, hw, fun h => (by cases h), fun _ _ => .inl ⟨s.g, g', hp1, by rw [hvi]; exact he⟩, fun _ hk => (by omega), fun hk => absurd hk hk2⟩
      · split at hr
        · cases hr
        · rename_i gl hgl
          simp only at hr
          split at hr
          · rename_i v g' he
            have hp1 := hpc' _ hr
            refine ⟨_, v, hr, h.step hs hp hp0 hpa hd hk2 (new := []) rfl rfl (fun c hc => ?_) rfl rfl (fun bl hb => hb) (fun e he => by cases he) (fun e he => by cases he) ?_, [], rfl, fun a ha => (by cases ha)⟩
            · simp only; split
              · exact List.mem_cons_of_mem _ hc
              · exact hc
            · refine ⟨s.tm, true, hlook _, hw, fun h => (by cases h), fun _ _ => .inr ⟨⟨gl, s.g.orc, s.g.pcs, v, g', hgl, hp1, he, fun ρ x hx => by rw [hvi]; exact hx⟩, fun hlt => ?_⟩, fun _ hk => (by omega), fun hk => absurd hk hk2⟩
              have hb : Nat.blt p.lo p.hi = true := by rw [ofNat_blt]; exact decide_eq_true hlt
              simp only [hb, hvi]
              exact List.mem_cons_self
          · cases hr
    · rename_i hk0
      have hk0 : p.k ≠ 0 := eqN_false hk0
      have hk1 : p.k = 1 := by have := hs.k3 p hp; omega
      split at hr
      · cases hr
      · rename_i l kd hc
        split at hr
        · rename_i hl
          have hl := blt_lt hl
          refine ⟨_, aVal (F + p.i) kd, hr, h.step hs hp hp0 hpa hd hk2 (new := [⟨p.i, F + p.i, .cells true true l.length (T.ofFrom .nil 0 l), k⟩]) rfl rfl (fun c hc => hc) rfl rfl (fun bl hb => ?_) (fun e he => ?_) (fun e he e' he' => ?_) ?_, [⟨p.i, F + p.i, .cells true true l.length (T.ofFrom .nil 0 l), k⟩], rfl, fun a ha => (by simp only [List.mem_singleton] at ha; subst ha; rfl)⟩
          · simp only [adoptB, List.foldr_cons, if_true]
            rw [hb]; rfl
          · simp only [List.mem_singleton] at he; subst he
            exact ⟨rfl, rfl, rfl, ⟨_, _, rfl⟩, hk1⟩
          · simp only [List.mem_singleton] at he he'; rw [he, he']
          · refine ⟨s.tm, true, hlook _, hw, fun h => (by cases h), fun _ hk => absurd hk hk0, fun _ _ => ⟨l, kd, k, hc, hl, hvi _, List.mem_cons_self⟩, fun hk => absurd hk hk2⟩
        · cases hr
end
end Go.Eng

/- Regions whose order is open: the whole run. -/
namespace Go.Eng
open Go.RowKit
set_option linter.unusedVariables false
set_option linter.unusedSimpArgs false

section
variable {E : Env} {rec : FuncId → List AV → GS → RC} {ops : Array Oper} {pl : Plan} {F : Nat} {tm0 : Tmp → AV}

def insL (S : Nat → Bool) (l : List PO) : Nat → Bool := l.foldl (fun S p => ins S p.i) S
def OrdP (S : Nat → Bool) : List PO → Prop
  | [] => True
  | p :: l => S p.i = false ∧ (∀ j, bitAt p.anc j = true → S j = true) ∧ OrdP (ins S p.i) l
theorem Ord.split {n : Nat} : ∀ {l m : List PO} {S : Nat → Bool}, Ord n S (l ++ m) → OrdP S l ∧ Ord n (insL S l) m
  | [], m, S, h => ⟨trivial, h⟩
  | p :: l, m, S, h => by
    obtain ⟨h1, h2, h3⟩ := h
    obtain ⟨h4, h5⟩ := Ord.split h3
    exact ⟨⟨h1, h2, h4⟩, h5⟩

theorem stepsL_acc (hs : Stat E ops pl) (hd : ∀ p ∈ allOf E ops.toList, ∀ x : Nat, p.o.dst = some x → x < 1000000) : ∀ (l : List PO) {S : Nat → Bool} {V : Nat → AV} {k : Nat} {gs : T GS} {s : DS}, Acc E rec ops F tm0 S V k gs s →
    (∀ p ∈ l, p ∈ allOf E ops.toList ∧ p.k ≠ 2) → OrdP S l → ∀ {K : DS → RR}, MonoD K → ∀ {e : EX} {sf : ST}, stepsL E ops.toList F k gs l s K = .ok e sf → PCs sf.g.pcs →
    ∃ s' V', K s' = .ok e sf ∧ Acc E rec ops F tm0 (insL S l) V' k gs s' ∧ ∃ new, s'.ab = new ++ s.ab ∧ ∀ a ∈ new, ∃ p ∈ l, p.i = a.i
  | [], S, V, k, gs, s, h, _, _, K, hK, e, sf, hr, hpc => ⟨s, V, hr, h, [], rfl, fun a ha => by cases ha⟩
  | p :: l, S, V, k, gs, s, h, hm, ho, K, hK, e, sf, hr, hpc => by
    obtain ⟨h1, h2, h3⟩ := ho
    obtain ⟨hp, hk⟩ := hm p List.mem_cons_self
    obtain ⟨s1, v, a1, a2, new1, a3, a4⟩ := stepL_acc hs h hp h1 h2 (hd p hp) hk (K := fun s => stepsL E ops.toList F k gs l s K) (fun l' s' h' => mono_stepsL l hK h') hr hpc
    obtain ⟨s2, V2, b1, b2, new2, b3, b4⟩ := stepsL_acc hs hd l a2 (fun q hq => hm q (List.mem_cons_of_mem _ hq)) h3 hK a1 hpc
    refine ⟨s2, V2, b1, b2, new2 ++ new1, by rw [b3, a3, List.append_assoc], fun a ha => ?_⟩
    rcases List.mem_append.1 ha with ha | ha
    · obtain ⟨q, hq, e⟩ := b4 a ha
      exact ⟨q, List.mem_cons_of_mem _ hq, e⟩
    · exact ⟨p, List.mem_cons_self, (a4 a ha).symm⟩

theorem adoptB_none {bl : T AB} {k : Nat} : ∀ {ab : List AE}, (∀ e ∈ ab, e.ph ≠ k) → adoptB bl ab k = bl
  | [], _ => rfl
  | e :: ab, h => by
    show (if e.ph = k then T.set (some e.blk) D (adoptB bl ab k) e.name else adoptB bl ab k) = _
    rw [if_neg (h e List.mem_cons_self)]
    exact adoptB_none fun e' he => h e' (List.mem_cons_of_mem _ he)
theorem hsOf_inj {r r' : Nat} {p q : PO} (hp : (hsOf E ops)[r]? = some p) (hq : (hsOf E ops)[r']? = some q) (h : p.i = q.i) : r = r' := by
  have hpw : (hsOf E ops).Pairwise (fun a b => a.i < b.i) := by
    refine List.Pairwise.filter _ ?_
    rw [List.pairwise_iff_getElem]
    intro i j hi hj hij
    have h1 := (allOf_get (List.getElem?_eq_getElem hi)).1
    have h2 := (allOf_get (List.getElem?_eq_getElem hj)).1
    omega
  rw [List.pairwise_iff_getElem] at hpw
  obtain ⟨h1, e1⟩ := List.getElem?_eq_some_iff.1 hp
  obtain ⟨h2, e2⟩ := List.getElem?_eq_some_iff.1 hq
  rcases Nat.lt_trichotomy r r' with h3 | h3 | h3
  · have := hpw r r' h1 h2 h3
    rw [e1, e2] at this; omega
  · exact h3
  · have := hpw r' r h2 h1 h3
    rw [e1, e2] at this; omega

theorem Acc.stepH (hs : Stat E ops pl) {S : Nat → Bool} {V : Nat → AV} {k : Nat} {gs : T GS} {s s' : DS} (h : Acc E rec ops F tm0 S V k gs s) {p : PO} (hpk : (hsOf E ops)[k]? = some p) (hpa : ∀ j, bitAt p.anc j = true → S j = true)
    (hd : ∀ x : Nat, p.o.dst = some x → x < 1000000) (hkn : k < 17592186044416) (hseg : ∀ a ∈ s.ab, a.ph = k → bitAt p.anc a.i = true) {v : AV} (e1 : s'.tm = setD s.tm p.o.dst v) (e2 : s'.ab = s.ab) (e3 : s'.ck = s.ck) (hpcs : PCs s'.g.pcs)
    {W : Bool} (hw : wantedD ops.toList p.o s.tm = some W) (hW0 : W = false → v = .undef ∧ s'.g = s.g) (hW1 : W = true → HRes E rec s.g (evX E s.tm) p.o.op v s'.g) :
    Acc E rec ops F tm0 (ins S p.i) (updV V p.i v) (k + 1) (T.set (some s'.g) D gs (k + 1)) s' := by
  have hpm : p ∈ allOf E ops.toList ∧ isH p = true := by
    have := List.mem_of_getElem? hpk
    simpa [hsOf] using this
  have hp := hpm.1
  have hp0 : S p.i = false := by
    cases hS : S p.i with
    | false => rfl
    | true => have := (h.hk k p hpk).1 hS; omega
  have hget : ∀ j, j ≤ k → (T.set (some s'.g) D gs (k + 1)).get j = gs.get j := fun j hj => T.get_set_ne _ _ _ _ _ (by omega)
  have hget1 : (T.set (some s'.g) D gs (k + 1)).get (k + 1) = some s'.g := T.get_set_same _ _ _ _ (by simp only [D]; omega)
  have hvi : updV V p.i v p.i = v := by simp [updV]
  refine ⟨h.dc.ins hp hpa, fun t => ?_, fun q hq hSq => ?_, ?_, fun j g hj => ?_, fun a ha => ?_, fun a ha a' ha' heq => ?_, fun r q hq => ?_⟩
  · rw [e1, setD_get hd t]
    have h2 : tmS ops (updV V p.i v) tm0 (ins S p.i) t = if p.o.dst = some t then v else tmS ops V tm0 S t := tmS_ins hs (tm0 := tm0) (V := V) h.dc hp hp0 v t
    rw [h2, h.tm t]
  · by_cases hqp : q.i = p.i
    · have := all_eq hq hp hqp; subst this
      obtain ⟨g0k, a1, a2, a3, a4⟩ := h.gk
      refine ⟨s.tm, W, h.look hs hp hp0 hpa v, hw, fun hw => ⟨by rw [hvi]; exact (hW0 hw).1, fun e he heq => by rw [e2] at he; have := (h.abS e he).1; rw [heq, hp0] at this; cases this⟩, fun _ hk => ?_, fun _ hk => ?_, fun _ => ?_⟩
      · have := isH_iff.1 hpm.2; omega
      · have := isH_iff.1 hpm.2; omega
      · refine ⟨k, g0k, s.g, s'.g, hpk, by rw [hget k (by omega)]; exact a1, hget1, by rw [e2]; exact a2, a3, a4, hpcs, fun hw => by rw [hvi]; exact hW1 hw, fun hw => (hW0 hw).2, fun a ha hph => ?_⟩
        rw [e2] at ha
        exact hseg a ha hph
    · rw [ins_ne hqp] at hSq
      rw [e2, e3]
      have := (h.fact q hq hSq).grow (V' := updV V p.i v) (gs' := T.set (some s'.g) D gs (k + 1)) (new := []) (ck' := s.ck) h.dc hq hSq (fun i hi => ?_) hget h.gle (fun e he => by cases he) h.hk (fun c hc => hc)
      · exact this
      · have : i ≠ p.i := fun e => by subst e; rw [hp0] at hi; cases hi
        simp [updV, this]
  · refine ⟨s'.g, hget1, ?_, rfl, rfl⟩
    rw [adoptB_none fun a ha => ?_]
    rw [e2] at ha
    have := (h.abS a ha).2.1; omega
  · by_cases hjk : j = k + 1
    · omega
    · rw [T.get_set_ne _ _ _ _ _ hjk] at hj
      have := h.gle j g hj; omega
  · rw [e2] at ha
    obtain ⟨b1, b2, b3⟩ := h.abS a ha
    exact ⟨ins_of b1, by omega, b3⟩
  · rw [e2] at ha ha'
    exact h.abU a ha a' ha' heq
  · by_cases hrk : r = k
    · subst hrk
      rw [hpk] at hq; cases hq
      rw [ins_self]; simp
    · have hne : q.i ≠ p.i := fun e => hrk (hsOf_inj hq hpk e)
      rw [ins_ne hne, h.hk r q hq]; omega

theorem stepH_run (hm : MonoRec rec) {p : PO} {s : DS} {K : DS → RR} (hK : MonoD K) {e : EX} {sf : ST} (hr : stepH E rec ops.toList p s K = .ok e sf) (hpc : PCs sf.g.pcs) :
    ∃ s' v W, K s' = .ok e sf ∧ wantedD ops.toList p.o s.tm = some W ∧ s'.tm = setD s.tm p.o.dst v ∧ s'.ab = s.ab ∧ s'.ck = s.ck ∧ PCs s'.g.pcs ∧ (W = false → v = .undef ∧ s'.g = s.g) ∧ (W = true → HRes E rec s.g (evX E s.tm) p.o.op v s'.g) := by
  have hpc' : ∀ s' : DS, K s' = .ok e sf → PCs s'.g.pcs := fun s' he => by
    have := hK _ s' (List.suffix_refl _)
    rw [he] at this; exact hpc.of_suffix this
  unfold Go.Eng.stepH at hr
  split at hr
  · cases hr
  · rename_i hw
    exact ⟨_, .undef, false, hr, hw, rfl, rfl, rfl, hpc' _ hr, fun _ => ⟨rfl, rfl⟩, fun h => by cases h⟩
  · rename_i hw
    split at hr
    · rename_i v g' he
      exact ⟨_, v, true, hr, hw, rfl, rfl, rfl, hpc' _ hr, fun h => (by cases h), fun _ => .val he⟩
    · rename_i f args gc he
      unfold callK at hr
      have hpg : ∀ (v : AV) (g' : GS), K ⟨setD s.tm p.o.dst v, g', s.ab, s.ck⟩ = .ok e sf → PCs g'.pcs := fun v g' h => hpc' _ h
      cases hx : E.xt.get f with
      | none =>
        rw [hx] at hr
        replace hr : (RC.rec (motive := fun _ => RR) (fun y => .fail y) (fun _ v g => K ⟨setD s.tm p.o.dst v, g, s.ab, s.ck⟩) (fun _ v g => .fail ("panic " ++ p.o.pos)) (rec f args gc) : RR) = .ok e sf := hr
        have hmr := hm gc.pcs f args gc (List.suffix_refl _)
        cases hc : rec f args gc with
        | fail y => rw [hc] at hr; cases hr
        | pan nd v g' => rw [hc] at hr; cases hr
        | ret nd v g' =>
          rw [hc] at hr hmr
          exact ⟨_, v, true, hr, hw, rfl, rfl, rfl, hpc' _ hr, fun h => (by cases h), fun _ => .rc f args gc nd he ((hpg v g' hr).of_suffix hmr) hx hc⟩
      | some k =>
        rw [hx] at hr
        replace hr : (OR.rec (motive := fun _ => RR) (.fail "extern") (fun v g => K ⟨setD s.tm p.o.dst v, g, s.ab, s.ck⟩) (fun _ _ _ => .fail "extern") (fun _ _ _ => .fail "extern") (fun _ _ => .fail "extern") (oXK gc k args) : RR) = .ok e sf := hr
        have hmr := mono_oXK (l := gc.pcs) (g := gc) (k := k) (args := args) (List.suffix_refl _)
        cases hc : oXK gc k args with
        | val v g' =>
          rw [hc] at hr hmr
          exact ⟨_, v, true, hr, hw, rfl, rfl, rfl, hpc' _ hr, fun h => (by cases h), fun _ => .ext f args gc k he ((hpg v g' hr).of_suffix hmr) hx hc⟩
        | fail => rw [hc] at hr; cases hr
        | call _ _ _ => rw [hc] at hr; cases hr
        | dfr _ _ _ => rw [hc] at hr; cases hr
        | pan _ _ => rw [hc] at hr; cases hr
    · cases hr

theorem insL_mem {l : List PO} : ∀ {S : Nat → Bool} {j : Nat}, insL S l j = true → S j = true ∨ ∃ p ∈ l, p.i = j := by
  induction l with
  | nil => intro S j h; exact .inl h
  | cons p l ih =>
    intro S j h
    rcases ih h with h | ⟨q, hq, e⟩
    · by_cases hj : j = p.i
      · exact .inr ⟨p, List.mem_cons_self, hj.symm⟩
      · have h : ins S p.i j = true := h
        rw [ins_ne hj] at h; exact .inl h
    · exact .inr ⟨q, List.mem_cons_of_mem _ hq, e⟩

theorem runSegs_acc (hs : Stat E ops pl) (hd : ∀ p ∈ allOf E ops.toList, ∀ x : Nat, p.o.dst = some x → x < 1000000) (hm : MonoRec rec) (hn : ops.size < 17592186044416) (last : List PO) : ∀ (segs : List (List PO × PO)) {S : Nat → Bool} {V : Nat → AV} {k : Nat} {gs : T GS} {s : DS},
    Acc E rec ops F tm0 S V k gs s → segs.map (·.2) = (hsOf E ops).drop k → (∀ sg ∈ segs, ∀ p ∈ sg.1, p ∈ allOf E ops.toList ∧ p.k ≠ 2 ∧ bitAt sg.2.anc p.i = true) → (∀ a ∈ s.ab, a.ph < k) → k ≤ (hsOf E ops).length →
    Ord ops.size S (segs.foldr (fun s l => s.1 ++ s.2 :: l) last) → ∀ {K : Nat → T GS → DS → RR}, (∀ k gs, MonoD (K k gs)) → ∀ {e : EX} {sf : ST}, runSegs E rec ops.toList F segs k gs s K = .ok e sf → PCs sf.g.pcs →
    ∃ S' V' k' gs' s', K k' gs' s' = .ok e sf ∧ Acc E rec ops F tm0 S' V' k' gs' s' ∧ Ord ops.size S' last ∧ (∀ a ∈ s'.ab, a.ph < k') ∧ k' = (hsOf E ops).length ∧ ∀ j, j ≤ k → gs'.get j = gs.get j
  | [], S, V, k, gs, s, h, hsg, hmem, hph, hkl, ho, K, hK, e, sf, hr, hpc => by
    refine ⟨S, V, k, gs, s, hr, h, ho, hph, ?_, fun j hj => rfl⟩
    have hge : (hsOf E ops).length ≤ k := by
      have : (hsOf E ops).drop k = [] := hsg.symm
      exact List.drop_eq_nil_iff.1 this
    omega
  | (seg, p) :: segs, S, V, k, gs, s, h, hsg, hmem, hph, hkl, ho, K, hK, e, sf, hr, hpc => by
    have hpk : (hsOf E ops)[k]? = some p := by
      have : ((hsOf E ops).drop k)[0]? = some p := by rw [← hsg]; rfl
      rw [List.getElem?_drop] at this; simpa using this
    have hkl' : k < (hsOf E ops).length := (List.getElem?_eq_some_iff.1 hpk).1
    have hsg' : segs.map (·.2) = (hsOf E ops).drop (k + 1) := by
      have : ((hsOf E ops).drop k).drop 1 = segs.map (·.2) := by rw [← hsg]; rfl
      rw [List.drop_drop] at this; exact this.symm
    have hlen : (hsOf E ops).length ≤ ops.size := by
      have := List.length_filter_le isH (allOf E ops.toList)
      rw [allOf_len] at this; simpa [hsOf] using this
    have hpm : p ∈ allOf E ops.toList := by
      have := List.mem_of_getElem? hpk
      simp only [hsOf, List.mem_filter] at this; exact this.1
    replace ho : Ord ops.size S (seg ++ (p :: segs.foldr (fun s l => s.1 ++ s.2 :: l) last)) := ho
    obtain ⟨o1, o2⟩ := Ord.split ho
    obtain ⟨q1, q2, q3⟩ := o2
    have hK1 : MonoD (fun s => stepH E rec ops.toList p s fun s => runSegs E rec ops.toList F segs (k + 1) (T.set (some s.g) D gs (k + 1)) s K) := fun l' s' h' => mono_stepH hm (fun l' s' h' => mono_runSegs hm segs hK h') h'
    obtain ⟨s1, V1, a1, a2, new, a3, a4⟩ := stepsL_acc hs hd seg h (fun q hq => ⟨(hmem _ List.mem_cons_self q hq).1, (hmem _ List.mem_cons_self q hq).2.1⟩) o1 hK1 hr hpc
    obtain ⟨s2, v, W, b1, b2, b3, b4, b5, b6, b7, b8⟩ := stepH_run hm (fun l' s' h' => mono_runSegs hm segs hK h') a1 hpc
    have hacc := a2.stepH hs hpk q2 (hd p hpm) (by omega) (fun a ha hpa => by
      rw [a3] at ha
      rcases List.mem_append.1 ha with ha | ha
      · obtain ⟨q, hq, e⟩ := a4 a ha
        rw [← e]; exact (hmem _ List.mem_cons_self q hq).2.2
      · have := hph a ha; omega) b3 b4 b5 b6 b2 b7 b8
    obtain ⟨S', V', k', gs', s', z1, z2, z3, z4, z5, z6⟩ := runSegs_acc hs hd hm hn last segs hacc hsg' (fun sg hsg => hmem sg (List.mem_cons_of_mem _ hsg)) (fun a ha => by
      rw [b4] at ha
      have := (a2.abS a ha).2.1; omega) (by omega) q3 hK b1 hpc
    exact ⟨S', V', k', gs', s', z1, z2, z3, z4, z5, fun j hj => by rw [z6 j (by omega)]; exact T.get_set_ne _ _ _ _ _ (by omega)⟩
end
end Go.Eng

/- Regions whose order is open: the later phases. -/
namespace Go.Eng
open Go.RowKit
set_option linter.unusedVariables false
set_option linter.unusedSimpArgs false

section
variable {E : Env} {gs : T GS} {ab : List AE}
theorem phasesOK_spec {c : CK} : ∀ (n j : Nat) {L L' : List PC}, phasesOK E gs ab c n j L = some L' → PCs L' → ∀ i, j ≤ i → i < j + n → LAt E gs ab c.p c.tm c.v i
  | 0, j, L, L', h, hp, i, h1, h2 => by omega
  | n + 1, j, L, L', h, hp, i, h1, h2 => by
    simp only [phasesOK] at h
    split at h
    · cases h
    · rename_i gl hgl
      split at h
      · rename_i v g' he
        split at h
        · rename_i L1 hL1
          have hs := phasesOK_suf n (j + 1) h
          by_cases hij : i = j
          · subst hij
            obtain ⟨s1, e1⟩ := eq1P_spec hL1 (hp.of_suffix hs)
            exact ⟨gl, [], L, v, g', hgl, (hp.of_suffix hs).of_suffix s1, he, e1⟩
          · exact phasesOK_spec n (j + 1) h hp i (by omega) (by omega)
        · cases h
      · cases h
theorem checksOK_spec : ∀ (ck : List CK) {L L' : List PC}, checksOK E gs ab ck L = some L' → PCs L' → ∀ c ∈ ck, ∀ i, c.p.lo < i → i ≤ c.p.hi → LAt E gs ab c.p c.tm c.v i
  | [], L, L', h, hp, c, hc => by cases hc
  | c :: ck, L, L', h, hp, c', hc' => fun i h1 h2 => by
    simp only [checksOK] at h
    split at h
    · rename_i L1 hL1
      have hs := checksOK_suf ck h
      rcases List.mem_cons.1 hc' with rfl | hc'
      · have : Nat.sub c'.p.hi c'.p.lo = c'.p.hi - c'.p.lo := rfl
        exact phasesOK_spec _ _ hL1 (hp.of_suffix hs) i (by omega) (by omega)
      · exact checksOK_spec ck h hp c' hc' i h1 h2
    · cases h
end
end Go.Eng

/- Regions whose order is open: heaps with blocks put in and left out. -/
namespace Go.Eng
open Go.RowKit
set_option linter.unusedVariables false
set_option linter.unusedSimpArgs false

theorem BOK.base {B B' : Base} (h : B.n = B'.n) {ρ : Ren} {r : BR} {w : World} {k : AB} (hk : BOK B ρ r w k) : BOK B' ρ r w k := by
  cases k with
  | dead => trivial
  | cells rw plain size cs => cases rw <;> simp only [BOK, h] at hk ⊢ <;> exact hk
  | map es clock => simp only [BOK, h] at hk ⊢; exact hk
  | siter l pos => simp only [BOK, h] at hk ⊢; exact hk
theorem WR.weaken {B B' : Base} (h : B.n = B'.n) (hno : ∀ b, B'.no b → B.no b) {ρ : Ren} {g : GS} {w : World} (hw : WR B ρ g w) : WR B' ρ g w :=
  ⟨fun b k hb => (hw.blk b k hb).imp id fun ⟨r, h1, h2⟩ => ⟨r, h1, h2.base h⟩, hw.sep, hw.nxb, hw.fresh, hw.nxl, hw.fxl, h ▸ hw.size, fun b hb => hw.nou b (hno b hb)⟩
theorem WR.empty {B : Base} {ρ : Ren} {g : GS} {w : World} (hw : WR B ρ g w) (x : GS) : WR B ρ (emptyG x) w := by
  have h1 := hw.nxl
  have h2 := hw.fxl
  refine ⟨fun b k hb => ?_, fun b b' k k' r r' hb => ?_, fun b k hb => ?_, fun b hb => hw.fresh b ?_, ?_, ?_, hw.size, fun b hb => ⟨(hw.nou b hb).1, (hw.nou b hb).2.1, ?_⟩⟩
  · simp [emptyG, T.get_nil] at hb
  · simp [emptyG, T.get_nil] at hb
  · simp [emptyG, T.get_nil] at hb
  · simp only [emptyG] at hb; omega
  · simp [emptyG]
  · simp [emptyG]
  · have := (hw.nou b hb).2.2; simp only [emptyG]; omega

/- A block more. -/
theorem WR.add {B : Base} {ρ : Ren} {g : GS} {w : World} (hw : WR B ρ g w) {b : Nat} {k : AB} {r : BR} (hr : ρ b = some r) (hk : BOK B ρ r w k) (hb : 1099511627776 ≤ b) (hf : b < g.fx)
    (hap : ∀ b' k' r', b' ≠ b → g.bl.get b' = some k' → k'.Rw → ρ b' = some r' → r'.blk ≠ r.blk) {g' : GS} (e1 : g'.bl = T.set (some k) D g.bl b) (e2 : g'.nx = g.nx) (e3 : g'.fx = g.fx) : WR B ρ g' w := by
  have h2 := hw.fxl
  have hget : ∀ c, g'.bl.get c = if c = b then some k else g.bl.get c := fun c => by
    rw [e1]
    by_cases hc : c = b
    · subst hc; rw [if_pos rfl, T.get_set_same _ _ _ _ (by simp only [D]; omega)]
    · rw [if_neg hc, T.get_set_ne _ _ _ _ _ hc]
  refine ⟨fun c k' hc => ?_, fun c c' k1 k2 r1 r2 h1 hk1 h3 hk2 hr1 hr2 heq => ?_, fun c k' hc => ?_, fun c hc => hw.fresh c (by rw [e2, e3] at hc; exact hc), by rw [e2]; exact hw.nxl, by rw [e3]; exact hw.fxl, hw.size, fun c hc => by rw [e3]; exact hw.nou c hc⟩
  · rw [hget] at hc
    by_cases hcb : c = b
    · rw [if_pos hcb] at hc; cases hc; subst hcb; exact .inr ⟨r, hr, hk⟩
    · rw [if_neg hcb] at hc; exact hw.blk c k' hc
  · rw [hget] at h1 h3
    by_cases hcb : c = b <;> by_cases hcb' : c' = b
    · rw [hcb, hcb']
    · rw [if_neg hcb'] at h3
      subst hcb; rw [hr] at hr1; cases hr1
      exact absurd heq.symm (hap c' k2 r2 hcb' h3 hk2 hr2)
    · rw [if_neg hcb] at h1
      subst hcb'; rw [hr] at hr2; cases hr2
      exact absurd heq (hap c k1 r1 hcb h1 hk1 hr1)
    · rw [if_neg hcb] at h1; rw [if_neg hcb'] at h3
      exact hw.sep c c' k1 k2 r1 r2 h1 hk1 h3 hk2 hr1 hr2 heq
  · rw [hget] at hc
    by_cases hcb : c = b
    · rw [e3, hcb]; exact .inr ⟨hb, hf⟩
    · rw [if_neg hcb] at hc; rw [e2, e3]; exact hw.nxb c k' hc

noncomputable def addSel (bl : T AB) (ab : List AE) (sel : AE → Bool) : T AB := ab.foldr (fun e bl => match sel e with
  | true => T.set (some e.blk) D bl e.name
  | false => bl) bl
theorem adoptB_sel (bl : T AB) (ab : List AE) (k : Nat) : adoptB bl ab k = addSel bl ab (fun e => decide (e.ph = k)) := by
  unfold adoptB addSel
  congr 1
  funext e bl
  by_cases h : e.ph = k <;> simp [h]
theorem addA_sel (gl : GS) (ab : List AE) (anc j : Nat) : addA gl ab anc j = { gl with bl := addSel gl.bl ab (fun e => andB (bitAt anc e.i) (Nat.ble j e.ph)) } := by
  induction ab with
  | nil => rfl
  | cons e ab ih =>
    rw [addA_cons, ih]
    cases hc : andB (bitAt anc e.i) (Nat.ble j e.ph)
    · simp only [addSel, List.foldr_cons, hc]
    · simp only [addSel, List.foldr_cons, hc]

/- A block that was made early. -/
structure Pend (B : Base) (ρ : Ren) (g : GS) (w : World) (e : AE) (r : BR) : Prop where
  ren : ρ e.name = some r
  ok : BOK B ρ r w e.blk
  ge : 1099511627776 ≤ e.name
  ap : ∀ b' k' r', g.bl.get b' = some k' → k'.Rw → ρ b' = some r' → r'.blk ≠ r.blk
  lt : e.name < g.fx

theorem WR.addL {B : Base} {ρ : Ren} {g : GS} {w : World} (hw : WR B ρ g w) {sel : AE → Bool} : ∀ (ab : List AE), (∀ e ∈ ab, sel e = true → ∃ r, Pend B ρ g w e r) →
    (∀ e ∈ ab, ∀ e' ∈ ab, sel e = true → sel e' = true → ∀ r r', ρ e.name = some r → ρ e'.name = some r' → r.blk = r'.blk → e.name = e'.name) →
    ∀ {g' : GS}, g'.bl = addSel g.bl ab sel → g'.nx = g.nx → g'.fx = g.fx → WR B ρ g' w ∧ ∀ c k, g'.bl.get c = some k → g.bl.get c = some k ∨ ∃ e ∈ ab, sel e = true ∧ c = e.name ∧ k = e.blk
  | [], h1, h2, g', e1, e2, e3 => ⟨hw.of_gs e1 e2 e3, fun c k hc => .inl (by rw [e1] at hc; exact hc)⟩
  | e :: ab, h1, h2, g', e1, e2, e3 => by
    obtain ⟨i1, i2⟩ := WR.addL hw (sel := sel) ab (fun e' he => h1 e' (List.mem_cons_of_mem _ he)) (fun a ha a' ha' => h2 a (List.mem_cons_of_mem _ ha) a' (List.mem_cons_of_mem _ ha'))
      (g' := ⟨addSel g.bl ab sel, g.nx, g.fx, g'.orc, g'.pcs⟩) rfl rfl rfl
    have hb : g'.bl = match sel e with
      | true => T.set (some e.blk) D (addSel g.bl ab sel) e.name
      | false => addSel g.bl ab sel := e1
    cases hse : sel e with
    | false =>
      rw [hse] at hb
      refine ⟨i1.of_gs hb e2 e3, fun c k hc => ?_⟩
      rw [hb] at hc
      rcases i2 c k hc with h | ⟨a, ha, h⟩
      · exact .inl h
      · exact .inr ⟨a, List.mem_cons_of_mem _ ha, h⟩
    | true =>
      rw [hse] at hb
      obtain ⟨r, hp⟩ := h1 e List.mem_cons_self hse
      refine ⟨i1.add hp.ren hp.ok hp.ge hp.lt (fun b' k' r' hne hb' hk' hr' heq => ?_) hb e2 e3, fun c k hc => ?_⟩
      · rcases i2 b' k' hb' with h | ⟨a, ha, hsa, rfl, rfl⟩
        · exact hp.ap b' k' r' h hk' hr' heq
        · exact hne (h2 a (List.mem_cons_of_mem _ ha) e List.mem_cons_self hsa hse r' r hr' hp.ren heq)
      · rw [hb] at hc
        by_cases hce : c = e.name
        · subst hce
          have := i1.fxl
          rw [T.get_set_same _ _ _ _ (by have h5 := hp.lt; have h6 := hw.fxl; simp only [D]; omega)] at hc
          cases hc
          exact .inr ⟨e, List.mem_cons_self, hse, rfl, rfl⟩
        · rw [T.get_set_ne _ _ _ _ _ hce] at hc
          rcases i2 c k hc with h | ⟨a, ha, h⟩
          · exact .inl h
          · exact .inr ⟨a, List.mem_cons_of_mem _ ha, h⟩
end Go.Eng

/- Regions whose order is open: what a run has found out, and what holds in every order. -/
namespace Go.Eng
open Go.RowKit
set_option linter.unusedVariables false
set_option linter.unusedSimpArgs false

section
variable (E : Env) (rec : FuncId → List AV → GS → RC) (ops : Array Oper) (F : Nat) (tm0 : Tmp → AV)

def Fact2 (V : Nat → AV) (gs : T GS) (ab : List AE) (p : PO) : Prop :=
  ∃ Tm W, Look ops tm0 V p Tm ∧ wantedD ops.toList p.o Tm = some W ∧ (W = false → V p.i = .undef ∧ ∀ e ∈ ab, e.i ≠ p.i) ∧
    (W = true → p.k = 0 → (∃ g g', PCs g'.pcs ∧ evO E (emptyG g) (evX E Tm) p.o.op = .val (V p.i) g') ∨ ∀ j, p.lo ≤ j → j ≤ p.hi → LAt E gs ab p Tm (V p.i) j) ∧
    (W = true → p.k = 1 → AFact E F ab p Tm (V p.i)) ∧ (p.k = 2 → HFact E rec ops gs ab p Tm W (V p.i))
structure Cert (V : Nat → AV) (gs : T GS) (ab : List AE) : Prop where
  fact : ∀ p ∈ allOf E ops.toList, Fact2 E rec ops F tm0 V gs ab p
  abS : ∀ e ∈ ab, e.name = F + e.i ∧ (∃ n cs, e.blk = .cells true true n cs) ∧ ∃ p ∈ allOf E ops.toList, p.i = e.i ∧ p.k = 1
  abU : ∀ e ∈ ab, ∀ e' ∈ ab, e.i = e'.i → e = e'
end

theorem Acc.cert {E : Env} {rec : FuncId → List AV → GS → RC} {ops : Array Oper} {F : Nat} {tm0 : Tmp → AV} {S : Nat → Bool} {V : Nat → AV} {k : Nat} {gs : T GS} {s : DS} (h : Acc E rec ops F tm0 S V k gs s)
    (hS : ∀ i, i < ops.size → S i = true) (hc : ∀ c ∈ s.ck, ∀ i, c.p.lo < i → i ≤ c.p.hi → LAt E gs s.ab c.p c.tm c.v i) : Cert E rec ops F tm0 V gs s.ab := by
  refine ⟨fun p hp => ?_, fun e he => (h.abS e he).2.2, h.abU⟩
  obtain ⟨Tm, W, h1, h2, h3, h4, h5, h6⟩ := h.fact p hp (hS _ (all_op hp).2)
  refine ⟨Tm, W, h1, h2, h3, fun hw hk => ?_, h5, h6⟩
  rcases h4 hw hk with h | ⟨h7, h8⟩
  · exact .inl h
  · refine .inr fun j hj1 hj2 => ?_
    by_cases hj : j = p.lo
    · subst hj; exact h7
    · exact hc _ (h8 (by omega)) j (by simp only; omega) hj2

/- The names that are not yet given. -/
def Bs (B : Base) (F n : Nat) (S : Nat → Bool) : Base := ⟨B.n, fun b => B.no b ∨ ∃ i, i < n ∧ S i = false ∧ b = F + i⟩

section
variable (E : Env) (ops : Array Oper) (F : Nat) (tm0 : Tmp → AV) (V : Nat → AV) (gs : T GS) (ab : List AE) (B : Base) (n0 : Nat) (df : List (FuncId × List AV)) (O0 : Nat → Prop) (w0 : World) (ρ0 : Ren)
/- The block is made, and not yet taken over. -/
def Due (S : Nat → Bool) (k : Nat) (e : AE) : Prop := e ∈ ab ∧ S e.i = true ∧ k ≤ e.ph
structure Inv (ρ : Ren) (S : Nat → Bool) (k : Nat) (g : GS) (a : Act) (w : World) : Prop where
  dc : DownC E ops S
  hk : ∀ r p, (hsOf E ops)[r]? = some p → (S p.i = true ↔ r < k)
  kle : k ≤ (hsOf E ops).length
  tm : ∀ t, VR ρ (tmS ops V tm0 S t) (a.tmps.getD t undef)
  n : a.tmps.size = n0
  df : DR ρ df a.defers
  gl : GR E ρ
  le : ρ0.le ρ
  gk : gs.get k = some g
  wr : WR (Bs B F ops.size S) ρ g w
  pend : ∀ e, Due ab S k e → ∃ r, Pend (Bs B F ops.size S) ρ g w e r
  apart : ∀ e e', Due ab S k e → Due ab S k e' → ∀ r r', ρ e.name = some r → ρ e'.name = some r' → r.blk = r'.blk → e.name = e'.name
  stp : Stp O0 w0 (fun b => Own ρ g b ∨ ∃ e r, Due ab S k e ∧ ρ e.name = some r ∧ r.blk = b) w
end
end Go.Eng

/- Regions whose order is open: what holds in every order, step by step. -/
namespace Go.Eng
open Go.RowKit
set_option linter.unusedVariables false
set_option linter.unusedSimpArgs false

/- What an operation reads. -/
noncomputable def xAt (E : Env) (f : Tmp → AV) : Operand → AV
  | .tmp t => f t
  | .const v => evX E .nil (.const v)
  | .global g => evX E .nil (.global g)
  | .func g => evX E .nil (.func g)
section
variable {P : Program} {E : Env} {ρ : Ren} {ops : Array Oper} {a : Act}
theorem xAt_VR {f : Tmp → AV} (hg : GR E ρ) (h : ∀ t, VR ρ (f t) (a.tmps.getD t undef)) (x : Operand) : VR ρ (xAt E f x) (a.eval x) := by
  cases x with
  | tmp t => exact h t
  | const v =>
    show VR ρ (Option.rec (motive := fun _ => AV) .bad (fun v => v) (constAV v)) v
    cases hc : constAV v with
    | none => exact .any v
    | some x => exact constAV_VR hc ρ
  | global g =>
    show VR ρ (Option.rec (motive := fun _ => AV) .bad (fun b => .ptr b 0) (E.gl.get g)) (.pointer (some ⟨g, 0, none⟩))
    cases hc : E.gl.get g with
    | none => exact .any _
    | some b =>
      obtain ⟨r, h1, h2, h3⟩ := hg g b hc
      have := VR.ptr b 0 r h1
      rw [h2, h3] at this
      exact this
  | func f => exact .fn _ [] [] #[] #[] rfl rfl (fun i x y hx => by simp at hx) (fun i x y hx => by simp at hx)
theorem xAt_evX {f : Tmp → AV} {Tm : T AV} {o : Oper} (h : ∀ t ∈ o.looksAt ops, (Tm.get t).getD .undef = f t) : ∀ x ∈ o.op.operands, evX E Tm x = xAt E f x := by
  intro x hx
  cases x with
  | tmp t =>
    have ht : t ∈ o.looksAt ops := List.mem_append_left _ (List.mem_filterMap.2 ⟨.tmp t, by simpa using hx, rfl⟩)
    rw [show xAt E f (.tmp t) = f t from rfl, ← h t ht]
    show Option.rec (motive := fun _ => AV) .undef (fun v => v) (Tm.get t) = _
    cases Tm.get t <;> rfl
  | _ => rfl
theorem wantedD_spec {o : Oper} {Tm : T AV} {W : Bool} (h : wantedD ops.toList o Tm = some W) (hl : ∀ t ∈ o.looksAt ops, VR ρ ((Tm.get t).getD .undef) (a.tmps.getD t undef)) :
    Region.wanted o (yielded ops a.tmps) = W := by
  unfold wantedD at h
  unfold Region.wanted
  cases hg : o.guard with
  | none => rw [hg] at h; cases h; rfl
  | some p =>
    obtain ⟨j, want⟩ := p
    rw [hg] at h
    simp only at h ⊢
    rw [Array.getElem?_toList] at h
    unfold yielded
    cases hd : (ops[j]?).bind (·.dst) with
    | none => rw [hd] at h; cases h; simp
    | some d =>
      rw [hd] at h
      simp only [Option.bind_some] at h ⊢
      have hmem : d ∈ o.looksAt ops := by
        refine List.mem_append_right _ ?_
        simp only [hg, hd, Option.toList, List.mem_singleton]
      have hv := hl d hmem
      rw [Array.getD_eq_getD_getElem?] at hv
      split at h
      · rename_i b heq
        rw [heq] at hv
        have hb := bool_inv hv
        have hget : a.tmps[d]? = some (.bool b) := by
          cases hq : a.tmps[d]? with
          | none => rw [hq] at hb; simp [undef] at hb
          | some y => rw [hq] at hb; simp only [Option.getD_some] at hb; rw [hb]; rfl
        rw [hget]
        cases h
        cases b <;> cases want <;> rfl
      · rename_i heq
        rw [heq] at hv
        have hu : (a.tmps[d]?).getD undef = undef := by
          generalize (a.tmps[d]?).getD undef = y at hv
          cases hv; rfl
        cases h
        cases hq : a.tmps[d]? with
        | none => simp
        | some y =>
          rw [hq] at hu
          simp only [Option.getD_some] at hu
          subst hu; simp [undef]
      · cases h
end

/- Counting. -/
theorem countB_le {α : Type} {f : α → Bool} : ∀ (l : List α) (k : Nat), (∀ (i : Nat) x, l[i]? = some x → f x = true → i < k) → countB f l ≤ k
  | [], k, h => Nat.zero_le k
  | x :: l, k, h => by
    have hk : ∀ k', k = k' + 1 → countB f l ≤ k' := fun k' hk => countB_le l k' fun i y hy hf => by
      have := h (i + 1) y (by simpa using hy) hf; omega
    simp only [countB]
    split
    · rename_i hf
      have := h 0 x rfl hf
      cases k with
      | zero => omega
      | succ k => have := hk k rfl; omega
    · cases k with
      | zero => exact countB_le l 0 fun i y hy hf => by have := h (i + 1) y (by simpa using hy) hf; omega
      | succ k => have := hk k rfl; omega
theorem le_countB {α : Type} {f : α → Bool} : ∀ (l : List α) (k : Nat), k ≤ l.length → (∀ (i : Nat) x, l[i]? = some x → i < k → f x = true) → k ≤ countB f l
  | [], k, hk, h => by simp at hk; subst hk; exact Nat.zero_le _
  | x :: l, 0, hk, h => Nat.zero_le _
  | x :: l, k + 1, hk, h => by
    have h1 := h 0 x rfl (by omega)
    have := le_countB l k (by simpa using hk) fun i y hy hi => h (i + 1) y (by simpa using hy) (by omega)
    simp only [countB, h1]; omega
def unl (S : Nat → Bool) : Nat → Nat
  | 0 => 0
  | n + 1 => (match S n with | true => 0 | false => 1) + unl S n
theorem unl_congr {S S' : Nat → Bool} : ∀ {n : Nat}, (∀ i, i < n → S i = S' i) → unl S n = unl S' n
  | 0, _ => rfl
  | n + 1, h => by
    have h1 := unl_congr (n := n) (S := S) (S' := S') fun i hi => h i (by omega)
    simp only [unl, h n (by omega), h1]
theorem unl_ins {S : Nat → Bool} {i : Nat} (hi : S i = false) : ∀ {n : Nat}, i < n → unl (ins S i) n + 1 = unl S n
  | n + 1, h => by
    by_cases e : i = n
    · subst e
      have : unl (ins S i) i = unl S i := unl_congr fun j hj => ins_ne (by omega)
      simp only [unl, ins_self, hi, this]; omega
    · have := unl_ins hi (n := n) (by omega)
      simp only [unl, ins_ne (S := S) (i := i) (j := n) (fun h => e h.symm)]
      omega
theorem unl_zero {S : Nat → Bool} : ∀ {n : Nat}, unl S n = 0 → ∀ i, i < n → S i = true
  | n + 1, h, i, hi => by
    simp only [unl] at h
    by_cases e : i = n
    · subst e
      cases hS : S i with
      | true => rfl
      | false => rw [hS] at h; simp at h
    · exact unl_zero (n := n) (by omega) i (by omega)

section
variable {P : Program} {E : Env} {rec : FuncId → List AV → GS → RC} {ops : Array Oper} {pl : Plan} {F : Nat} {tm0 : Tmp → AV} {V : Nat → AV} {gs : T GS} {ab : List AE} {B : Base} {n0 : Nat} {df : List (FuncId × List AV)} {O0 : Nat → Prop} {w0 : World} {ρ0 : Ren}

theorem tmS_ins' (hs : Stat E ops pl) {S : Nat → Bool} (hS : DownC E ops S) {p : PO} (hp : p ∈ allOf E ops.toList) (hp0 : S p.i = false) (t : Tmp) :
    tmS ops V tm0 (ins S p.i) t = if p.o.dst = some t then V p.i else tmS ops V tm0 S t := by
  have h := tmS_ins hs (tm0 := tm0) (V := V) hS hp hp0 (V p.i) t
  have e : (fun j => if j = p.i then V p.i else V j) = V := by
    funext j
    by_cases hj : j = p.i
    · rw [if_pos hj, hj]
    · rw [if_neg hj]
  rw [e] at h; exact h

theorem put_VR {ρ : Ren} {f : Tmp → AV} {a : Act} (h : ∀ t, VR ρ (f t) (a.tmps.getD t undef)) {d : Option Tmp} (hd : ∀ x, d = some x → x < a.tmps.size) {v : AV} {v' : Value} (hv : VR ρ v v') (t : Tmp) :
    VR ρ (if d = some t then v else f t) ((a.put d v').tmps.getD t undef) := by
  cases d with
  | none => rw [if_neg (by simp)]; exact h t
  | some x =>
    by_cases hx : x = t
    · subst hx
      rw [if_pos rfl]
      simp only [Act.put, Array.getD_eq_getD_getElem?]
      rw [Array.getElem?_setIfInBounds_self_of_lt (hd x rfl)]
      exact hv
    · rw [if_neg (by simpa using hx)]
      have := h t
      simp only [Act.put, Array.getD_eq_getD_getElem?] at this ⊢
      rw [Array.getElem?_setIfInBounds_ne hx]
      exact this

theorem Pend.base {B B' : Base} (h : B.n = B'.n) {ρ : Ren} {g : GS} {w : World} {e : AE} {r : BR} (hp : Pend B ρ g w e r) : Pend B' ρ g w e r :=
  ⟨hp.ren, hp.ok.base h, hp.ge, hp.ap, hp.lt⟩
theorem Bs_ins {S : Nat → Bool} {i n : Nat} (b : Nat) (h : (Bs B F n (ins S i)).no b) : (Bs B F n S).no b := by
  rcases h with h | ⟨j, h1, h2, h3⟩
  · exact .inl h
  · refine .inr ⟨j, h1, ?_, h3⟩
    cases hS : S j with
    | false => rfl
    | true => rw [ins_of hS] at h2; cases h2

/- What the next operation is. -/
theorem Inv.anc (hs : Stat E ops pl) {ρ : Ren} {S : Nat → Bool} {k : Nat} {g : GS} {a : Act} {w : World} (h : Inv E ops F tm0 V gs ab B n0 df O0 w0 ρ0 ρ S k g a w) {p : PO} (hp : p ∈ allOf E ops.toList)
    (hr : ∀ e ∈ p.o.after, Region.binds .any e = true → S e.on = true) (j : Nat) (hj : bitAt p.anc j = true) : S j = true := by
  obtain ⟨_, e, he, hb, h1⟩ := hs.anc p hp j hj
  rcases h1 with rfl | ⟨q, hq, h2, h3⟩
  · exact hr e he hb
  · exact h.dc q hq (by rw [h2]; exact hr e he hb) j h3

/- An H comes at its own place. -/
theorem Inv.isk (hs : Stat E ops pl) {ρ : Ren} {S : Nat → Bool} {k : Nat} {g : GS} {a : Act} {w : World} (h : Inv E ops F tm0 V gs ab B n0 df O0 w0 ρ0 ρ S k g a w) {p : PO} {r : Nat} (hpk : (hsOf E ops)[r]? = some p) (hp0 : S p.i = false)
    (hpa : ∀ j, bitAt p.anc j = true → S j = true) : r = k := by
  have hmem : ∀ {r : Nat} {q : PO}, (hsOf E ops)[r]? = some q → q ∈ allOf E ops.toList ∧ q.k = 2 := fun hq => by
    have := List.mem_of_getElem? hq
    simp only [hsOf, List.mem_filter] at this
    exact ⟨this.1, isH_iff.1 this.2⟩
  have h1 : ¬ r < k := fun hlt => by have := (h.hk r p hpk).2 hlt; rw [hp0] at this; cases this
  by_cases hrk : r = k
  · exact hrk
  · have hlen : r < (hsOf E ops).length := (List.getElem?_eq_some_iff.1 hpk).1
    have hq : (hsOf E ops)[k]? = some (hsOf E ops)[k] := List.getElem?_eq_getElem (by omega)
    obtain ⟨hq1, hq2⟩ := hmem hq
    obtain ⟨hp1, hp2⟩ := hmem hpk
    have hSq : S ((hsOf E ops)[k]).i = false := by
      cases hS : S ((hsOf E ops)[k]).i with
      | false => rfl
      | true => have := (h.hk k _ hq).1 hS; omega
    have hlt : ((hsOf E ops)[k]).i < p.i := by
      have hpw : (hsOf E ops).Pairwise (fun a b => a.i < b.i) := by
        refine List.Pairwise.filter _ ?_
        rw [List.pairwise_iff_getElem]
        intro i j hi hj hij
        have h1 := (allOf_get (List.getElem?_eq_getElem hi)).1
        have h2 := (allOf_get (List.getElem?_eq_getElem hj)).1
        omega
      rw [List.pairwise_iff_getElem] at hpw
      have := hpw k r (by omega) hlen (by omega)
      rw [(List.getElem?_eq_some_iff.1 hpk).2] at this
      exact this
    cases hb : bitAt p.anc ((hsOf E ops)[k]).i with
    | true => have := hpa _ hb; rw [hSq] at this; cases this
    | false => exact absurd ⟨hq2, hp2⟩ (hs.apart _ hq1 p hp1 hlt hb).2

/- A step that changes no memory. -/
theorem Inv.light (hs : Stat E ops pl) {ρ : Ren} {S : Nat → Bool} {k : Nat} {g : GS} {a : Act} {w : World} (h : Inv E ops F tm0 V gs ab B n0 df O0 w0 ρ0 ρ S k g a w) {p : PO} (hp : p ∈ allOf E ops.toList) (hp0 : S p.i = false)
    (hpa : ∀ j, bitAt p.anc j = true → S j = true) (hd : ∀ x, p.o.dst = some x → x < n0) (hk : p.k ≠ 2) (hab : ∀ e ∈ ab, e.i ≠ p.i) {v : Value} (hv : VR ρ (V p.i) v) :
    Inv E ops F tm0 V gs ab B n0 df O0 w0 ρ0 ρ (ins S p.i) k g (a.put p.o.dst v) w := by
  have hdue : ∀ e, Due ab (ins S p.i) k e → Due ab S k e := fun e ⟨h1, h2, h3⟩ => ⟨h1, by rw [ins_ne (hab e h1)] at h2; exact h2, h3⟩
  have hdue' : ∀ e, Due ab S k e → Due ab (ins S p.i) k e := fun e ⟨h1, h2, h3⟩ => ⟨h1, ins_of h2, h3⟩
  refine ⟨h.dc.ins hp hpa, fun r q hq => ?_, h.kle, fun t => ?_, ?_, ?_, h.gl, h.le, h.gk, WR.weaken (B := Bs B F ops.size S) (B' := Bs B F ops.size (ins S p.i)) rfl (fun b hb => Bs_ins b hb) h.wr, fun e he => ?_, fun e e' he he' => h.apart e e' (hdue e he) (hdue e' he'), ?_⟩
  · have hne : q.i ≠ p.i := fun e => by
      have hm := List.mem_of_getElem? hq
      simp only [hsOf, List.mem_filter] at hm
      have := all_eq hm.1 hp e; subst this
      exact hk (isH_iff.1 hm.2)
    rw [ins_ne hne]; exact h.hk r q hq
  · rw [tmS_ins' hs h.dc hp hp0 t]
    exact put_VR h.tm (fun x hx => by rw [h.n]; exact hd x hx) hv t
  · have := h.n
    cases p.o.dst <;> simpa [Act.put] using this
  · have := h.df
    cases p.o.dst <;> simpa [Act.put] using this
  · obtain ⟨r, hr⟩ := h.pend e (hdue e he)
    exact ⟨r, Pend.base (B := Bs B F ops.size S) (B' := Bs B F ops.size (ins S p.i)) rfl hr⟩
  · have : (fun b => Own ρ g b ∨ ∃ e r, Due ab (ins S p.i) k e ∧ ρ e.name = some r ∧ r.blk = b) = fun b => Own ρ g b ∨ ∃ e r, Due ab S k e ∧ ρ e.name = some r ∧ r.blk = b := by
      funext b
      refine propext ⟨fun h => h.imp id fun ⟨e, r, h1, h2⟩ => ⟨e, r, hdue e h1, h2⟩, fun h => h.imp id fun ⟨e, r, h1, h2⟩ => ⟨e, r, hdue' e h1, h2⟩⟩
    rw [this]; exact h.stp
end
end Go.Eng

/- Regions whose order is open: what holds in every order: blocks made early, and the steps of the H. -/
namespace Go.Eng
open Go.RowKit
set_option linter.unusedVariables false
set_option linter.unusedSimpArgs false

section
variable {P : Program} {E : Env} {rec : FuncId → List AV → GS → RC} {ops : Array Oper} {pl : Plan} {F : Nat} {tm0 : Tmp → AV} {V : Nat → AV} {gs : T GS} {ab : List AE} {B : Base} {n0 : Nat} {df : List (FuncId × List AV)} {O0 : Nat → Prop} {w0 : World} {ρ0 : Ren}

theorem put_size {a : Act} {d : Option Tmp} {v : Value} : (a.put d v).tmps.size = a.tmps.size := by
  cases d <;> simp [Act.put]
theorem put_defers {a : Act} {d : Option Tmp} {v : Value} : (a.put d v).defers = a.defers := by
  cases d <;> simp [Act.put]

theorem BOK.lt {B : Base} {ρ : Ren} {r : BR} {w : World} {n : Nat} {cs : T AV} {pl : Bool} (h : BOK B ρ r w (.cells true pl n cs)) : r.blk < w.heap.size := by
  obtain ⟨_, arr, e, fr, h1, _⟩ := h
  exact (Array.getElem?_eq_some_iff.1 h1).1
theorem BOK.ltRw {B : Base} {ρ : Ren} {r : BR} {w : World} {k : AB} (hk : k.Rw) (h : BOK B ρ r w k) : r.blk < w.heap.size := by
  cases hk with
  | cells plain size cs => exact h.lt
  | map es clock => obtain ⟨_, es', h1, _⟩ := h; exact (Array.getElem?_eq_some_iff.1 h1).1
  | siter l pos => obtain ⟨_, _, s, h1, _⟩ := h; exact (Array.getElem?_eq_some_iff.1 h1).1
theorem Rw_ne {k : AB} (h : k.Rw) : k ≠ .dead := by intro e; subst e; cases h

/- A block is made early. -/
theorem Inv.early (hs : Stat E ops pl) (hBF : ∀ b, B.no b → b < F) (hcab : ∀ e ∈ ab, e.name = F + e.i ∧ (∃ n cs, e.blk = .cells true true n cs) ∧ ∃ p ∈ allOf E ops.toList, p.i = e.i ∧ p.k = 1) (hcu : ∀ e ∈ ab, ∀ e' ∈ ab, e.i = e'.i → e = e')
    {ρ : Ren} {S : Nat → Bool} {k : Nat} {g : GS} {a : Act} {w : World} (h : Inv E ops F tm0 V gs ab B n0 df O0 w0 ρ0 ρ S k g a w) {p : PO} (hp : p ∈ allOf E ops.toList) (hp0 : S p.i = false)
    (hpa : ∀ j, bitAt p.anc j = true → S j = true) (hd : ∀ x, p.o.dst = some x → x < n0) (hk : p.k = 1) {l : List AV} {arr : Array Value} {ty : TypeId} {kd : Option Nat} (hl : l.length < 549755813888) (hv : V p.i = aVal (F + p.i) kd)
    (hc : VRs ρ l arr.toList) (hblk : ∀ e ∈ ab, e.i = p.i → e.blk = .cells true true l.length (T.ofFrom .nil 0 l)) :
    ∃ ρ', ρ.le ρ' ∧ Inv E ops F tm0 V gs ab B n0 df O0 w0 ρ0 ρ' (ins S p.i) k g (a.put p.o.dst (aValue w.heap.size kd)) { w with heap := w.heap.push (.cells arr ty (0, 0)) } := by
  have hlt := (all_op hp).2
  have hno : (Bs B F ops.size S).no (F + p.i) := .inr ⟨p.i, hlt, hp0, rfl⟩
  obtain ⟨hnone, hge, hfx⟩ := h.wr.nou _ hno
  have hsz : (Bs B F ops.size S).n ≤ w.heap.size := h.wr.size
  have hle : ρ.le (ρ.upd (F + p.i) ⟨w.heap.size, 0, l.length⟩) := Ren.le_upd hnone _
  have hold : ∀ (m : Nat), m < w.heap.size → (w.heap.push (.cells arr ty (0, 0)))[m]? = w.heap[m]? := by
    intro m hm; rw [Array.getElem?_push, if_neg (by omega)]
  have hne : ∀ b k' r, g.bl.get b = some k' → k'.Rw → (ρ.upd (F + p.i) ⟨w.heap.size, 0, l.length⟩) b = some r → ρ b = some r ∧ BOK (Bs B F ops.size S) ρ r w k' := fun b k' r hb hk' hr => by
    rcases h.wr.blk b k' hb with e | ⟨r', hr', hok⟩
    · exact absurd e (Rw_ne hk')
    · by_cases hbe : b = F + p.i
      · subst hbe; rw [hnone] at hr'; cases hr'
      · rw [Ren.upd_ne _ _ hbe] at hr
        rw [hr] at hr'; cases hr'
        exact ⟨hr, hok⟩
  have hdue : ∀ e, Due ab (ins S p.i) k e → e.i ≠ p.i → Due ab S k e := fun e ⟨h1, h2, h3⟩ h4 => ⟨h1, by rw [ins_ne h4] at h2; exact h2, h3⟩
  have hname : ∀ e ∈ ab, e.i ≠ p.i → (ρ.upd (F + p.i) ⟨w.heap.size, 0, l.length⟩) e.name = ρ e.name := fun e he hei => by
    have := (hcab e he).1
    exact Ren.upd_ne _ _ (by omega)
  have hpl : ∀ e, Due ab S k e → ∀ r, ρ e.name = some r → r.blk < w.heap.size := fun e he r hr => by
    obtain ⟨r', hp'⟩ := h.pend e he
    have := hp'.ren; rw [hr] at this; cases this
    obtain ⟨_, ⟨n, cs, hb⟩, _⟩ := hcab e he.1
    have := hp'.ok; rw [hb] at this
    exact this.lt
  refine ⟨_, hle, ⟨h.dc.ins hp hpa, fun r q hq => ?_, h.kle, fun t => ?_, by rw [put_size]; exact h.n, by rw [put_defers]; exact h.df.mono hle, h.gl.mono hle, Ren.le_trans h.le hle, h.gk, ⟨?_, ?_, h.wr.nxb, fun b hb => ?_, h.wr.nxl, h.wr.fxl, ?_, fun b hb => ?_⟩, fun e he => ?_, fun e e' he he' r r' hr hr' heq => ?_, ?_⟩⟩
  · have hne : q.i ≠ p.i := fun e => by
      have hm := List.mem_of_getElem? hq
      simp only [hsOf, List.mem_filter] at hm
      have := all_eq hm.1 hp e; subst this
      have := isH_iff.1 hm.2; omega
    rw [ins_ne hne]; exact h.hk r q hq
  · rw [tmS_ins' hs h.dc hp hp0 t]
    refine put_VR (fun t => (h.tm t).mono hle) (fun x hx => by rw [h.n]; exact hd x hx) ?_ t
    rw [hv]
    exact aVal_VR (r := ⟨w.heap.size, 0, l.length⟩) (Ren.upd_same _ _ _) rfl kd
  · intro b k' hb
    rcases h.wr.blk b k' hb with e | ⟨r, hr, hok⟩
    · exact .inl e
    · by_cases hd : k' = .dead
      · exact .inl hd
      · refine .inr ⟨r, hle _ _ hr, ?_⟩
        have hrlt : r.blk < w.heap.size := by
          cases k' with
          | dead => exact absurd rfl hd
          | cells rw pl size cs =>
            cases rw with
            | false => have := hok.1; omega
            | true => exact hok.lt
          | map es clock => exact hok.ltRw (.map _ _)
          | siter l pos => exact hok.ltRw (.siter _ _)
        exact ((hok.base (B' := Bs B F ops.size (ins S p.i)) rfl).mono hle).same (hold _ hrlt)
  · intro b b' k1 k2 r r' hb h1 hb' h2 hr hr' heq
    exact h.wr.sep b b' k1 k2 r r' hb h1 hb' h2 (hne b k1 r hb h1 hr).1 (hne b' k2 r' hb' h2 hr').1 heq
  · have := h.wr.fresh b hb
    have hb' : b ≠ F + p.i := by have h1 := h.wr.fxl; omega
    rw [Ren.upd_ne _ _ hb']; exact this
  · simp only [Array.size_push]
    have : (Bs B F ops.size (ins S p.i)).n = (Bs B F ops.size S).n := rfl
    omega
  · have h1 := h.wr.nou b (Bs_ins b hb)
    refine ⟨?_, h1.2⟩
    have hbne : b ≠ F + p.i := by
      rcases hb with hb | ⟨j, hj, hSj, rfl⟩
      · have := hBF b hb; omega
      · intro e
        have : j = p.i := by omega
        rw [this, ins_self] at hSj; cases hSj
    rw [Ren.upd_ne _ _ hbne]; exact h1.1
  · by_cases hei : e.i = p.i
    · have hb := hblk e he.1 hei
      have hnm := (hcab e he.1).1
      refine ⟨⟨w.heap.size, 0, l.length⟩, ⟨by rw [hnm, hei]; exact Ren.upd_same _ _ _, ?_, by omega, fun b' k' r' hb' hk' hr' => ?_, by omega⟩⟩
      · rw [hb]
        have hl2 : l.length = arr.size := by simpa using hc.1
        refine ⟨hsz, arr, ty, (0, 0), by simp, Nat.le_refl _, by simp only; omega, .inl rfl, fun _ => rfl, ?_⟩
        have := Cells.of_list (hc.mono hle) (l := l) (by omega)
        refine fun i hi => ?_
        obtain ⟨v, x, a1, a2, a3⟩ := this i hi
        exact ⟨v, x, a1, by simpa using a2, a3⟩
      · obtain ⟨h1, h2⟩ := hne b' k' r' hb' hk' hr'
        have := h2.ltRw hk'
        simp only; omega
    · obtain ⟨r, hp'⟩ := h.pend e (hdue e he hei)
      have hrl := hpl e (hdue e he hei) r hp'.ren
      refine ⟨r, ⟨hle _ _ hp'.ren, ((hp'.ok.base (B' := Bs B F ops.size (ins S p.i)) rfl).mono hle).same (hold _ hrl), hp'.ge, fun b' k' r' hb' hk' hr' => ?_, hp'.lt⟩⟩
      exact hp'.ap b' k' r' hb' hk' (hne b' k' r' hb' hk' hr').1
  · by_cases hei : e.i = p.i <;> by_cases hei' : e'.i = p.i
    · rw [hcu e he.1 e' he'.1 (hei.trans hei'.symm)]
    · have h1 := (hcab e he.1).1
      rw [h1, hei, Ren.upd_same] at hr; cases hr
      rw [hname e' he'.1 hei'] at hr'
      have := hpl e' (hdue e' he' hei') r' hr'
      simp only at heq; omega
    · have h1 := (hcab e' he'.1).1
      rw [h1, hei', Ren.upd_same] at hr'; cases hr'
      rw [hname e he.1 hei] at hr
      have := hpl e (hdue e he hei) r hr
      simp only at heq; omega
    · rw [hname e he.1 hei] at hr
      rw [hname e' he'.1 hei'] at hr'
      exact h.apart e e' (hdue e he hei) (hdue e' he' hei') r r' hr hr' heq
  · refine h.stp.trans ⟨rfl, rfl, rfl, by simp, fun n hn _ => hold n hn, ?_⟩
    rintro n (⟨b, k', r, hb, hk', hr, rfl⟩ | ⟨e, r, he, hr, rfl⟩)
    · exact .inl (.inl ⟨b, k', r, hb, hk', (hne b k' r hb hk' hr).1, rfl⟩)
    · by_cases hei : e.i = p.i
      · have h1 := (hcab e he.1).1
        rw [h1, hei, Ren.upd_same] at hr; cases hr
        exact .inr (Nat.le_refl _)
      · rw [hname e he.1 hei] at hr
        exact .inl (.inr ⟨e, r, hdue e he hei, hr, rfl⟩)

/- The blocks of a phase are taken over. -/
theorem Inv.adopt {ρ : Ren} {S : Nat → Bool} {k : Nat} {g : GS} {a : Act} {w : World} (h : Inv E ops F tm0 V gs ab B n0 df O0 w0 ρ0 ρ S k g a w) (hS : ∀ e ∈ ab, e.ph = k → S e.i = true)
    {gp : GS} (e1 : gp.bl = adoptB g.bl ab k) (e2 : gp.nx = g.nx) (e3 : gp.fx = g.fx) :
    WR (Bs B F ops.size S) ρ gp w ∧ ∀ c k', gp.bl.get c = some k' → g.bl.get c = some k' ∨ ∃ e ∈ ab, e.ph = k ∧ S e.i = true ∧ c = e.name ∧ k' = e.blk := by
  have hdue : ∀ e ∈ ab, decide (e.ph = k) = true → Due ab S k e := fun e he hd => by
    have hd := of_decide_eq_true hd
    exact ⟨he, hS e he hd, by omega⟩
  rw [adoptB_sel] at e1
  obtain ⟨h1, h2⟩ := h.wr.addL ab (fun e he hd => h.pend e (hdue e he hd)) (fun e he e' he' hd hd' r r' hr hr' heq => h.apart e e' (hdue e he hd) (hdue e' he' hd') r r' hr hr' heq) e1 e2 e3
  refine ⟨h1, fun c k' hc => ?_⟩
  rcases h2 c k' hc with h3 | ⟨e, he, hd, h4, h5⟩
  · exact .inl h3
  · exact .inr ⟨e, he, of_decide_eq_true hd, (hdue e he hd).2.1, h4, h5⟩

/- The step of an H. -/
theorem Inv.heavy (hs : Stat E ops pl) (hcab : ∀ e ∈ ab, e.name = F + e.i ∧ (∃ n cs, e.blk = .cells true true n cs) ∧ ∃ p ∈ allOf E ops.toList, p.i = e.i ∧ p.k = 1) (hcu : ∀ e ∈ ab, ∀ e' ∈ ab, e.i = e'.i → e = e')
    {ρ : Ren} {S : Nat → Bool} {k : Nat} {g : GS} {a : Act} {w : World} (h : Inv E ops F tm0 V gs ab B n0 df O0 w0 ρ0 ρ S k g a w) {p : PO} (hpk : (hsOf E ops)[k]? = some p) (hp0 : S p.i = false)
    (hpa : ∀ j, bitAt p.anc j = true → S j = true) (hd : ∀ x, p.o.dst = some x → x < n0) (hS : ∀ e ∈ ab, e.ph = k → S e.i = true)
    {gp : GS} (e1 : gp.bl = adoptB g.bl ab k) (e2 : gp.nx = g.nx) (e3 : gp.fx = g.fx) {ρ' : Ren} {g' : GS} {w' : World} {v : Value} (hle : ρ.le ρ') (hw : WR (Bs B F ops.size S) ρ' g' w') (hst : Stp (Own ρ gp) w (Own ρ' g') w')
    (hv : VR ρ' (V p.i) v) (hg : gs.get (k + 1) = some g') :
    Inv E ops F tm0 V gs ab B n0 df O0 w0 ρ0 ρ' (ins S p.i) (k + 1) g' (a.put p.o.dst v) w' := by
  have hpm : p ∈ allOf E ops.toList ∧ isH p = true := by
    have := List.mem_of_getElem? hpk
    simpa [hsOf] using this
  have hp := hpm.1
  have hp2 := isH_iff.1 hpm.2
  obtain ⟨hwp, hget⟩ := h.adopt hS e1 e2 e3
  have hei : ∀ e ∈ ab, e.i ≠ p.i := fun e he heq => by
    obtain ⟨_, _, q, hq, h1, h2⟩ := hcab e he
    have := all_eq hq hp (h1.trans heq); subst this; omega
  have hdue : ∀ e, Due ab (ins S p.i) (k + 1) e → Due ab S k e ∧ e.ph ≠ k := fun e ⟨h1, h2, h3⟩ => ⟨⟨h1, by rw [ins_ne (hei e h1)] at h2; exact h2, by omega⟩, by omega⟩
  have hown : ∀ n, Own ρ gp n → Own ρ g n ∨ ∃ e r, Due ab S k e ∧ ρ e.name = some r ∧ r.blk = n := by
    rintro n ⟨b, k', r, hb, hk', hr, rfl⟩
    rcases hget b k' hb with h1 | ⟨e, he, h1, h2, rfl, rfl⟩
    · exact .inl ⟨b, k', r, h1, hk', hr, rfl⟩
    · exact .inr ⟨e, r, ⟨he, h2, by omega⟩, hr, rfl⟩
  have hnot : ∀ e r, Due ab (ins S p.i) (k + 1) e → Pend (Bs B F ops.size S) ρ g w e r → ¬ Own ρ gp r.blk := by
    rintro e r he hpe ⟨b, k', r1, hb, hk', hr, heq⟩
    rcases hget b k' hb with h1 | ⟨e', he', h1, h2, rfl, rfl⟩
    · exact hpe.ap b k' r1 h1 hk' hr heq
    · have hn := h.apart e' e ⟨he', h2, by omega⟩ (hdue e he).1 r1 r hr hpe.ren heq
      have n1 := (hcab e' he').1
      have n2 := (hcab e he.1).1
      have := hcu e' he' e he.1 (by omega)
      subst this
      exact (hdue _ he).2 h1
  refine ⟨h.dc.ins hp hpa, fun r q hq => ?_, ?_, fun t => ?_, by rw [put_size]; exact h.n, by rw [put_defers]; exact h.df.mono hle, h.gl.mono hle, Ren.le_trans h.le hle, hg, WR.weaken (B := Bs B F ops.size S) (B' := Bs B F ops.size (ins S p.i)) rfl (fun b hb => Bs_ins b hb) hw, fun e he => ?_, fun e e' he he' r r' hr hr' heq => ?_, ?_⟩
  · by_cases hrk : r = k
    · subst hrk
      rw [hpk] at hq; cases hq
      rw [ins_self]; simp
    · have hne : q.i ≠ p.i := fun e => hrk (hsOf_inj hq hpk e)
      rw [ins_ne hne, h.hk r q hq]; omega
  · exact (List.getElem?_eq_some_iff.1 hpk).1
  · rw [tmS_ins' hs h.dc hp hp0 t]
    exact put_VR (fun t => (h.tm t).mono hle) (fun x hx => by rw [h.n]; exact hd x hx) hv t
  · obtain ⟨r, hpe⟩ := h.pend e (hdue e he).1
    obtain ⟨_, ⟨n, cs, hb⟩, _⟩ := hcab e he.1
    have hrl : r.blk < w.heap.size := by have := hpe.ok; rw [hb] at this; exact this.lt
    have hno := hnot e r he hpe
    refine ⟨r, ⟨hle _ _ hpe.ren, ((hpe.ok.base (B' := Bs B F ops.size (ins S p.i)) rfl).mono hle).same (hst.kept _ hrl hno), hpe.ge, fun b' k' r' hb' hk' hr' heq => ?_, ?_⟩⟩
    · rcases hst.own r'.blk ⟨b', k', r', hb', hk', hr', rfl⟩ with h1 | h1
      · rw [heq] at h1; exact hno h1
      · omega
    · rcases Nat.lt_or_ge e.name g'.fx with h1 | h1
      · exact h1
      · have := hw.fresh e.name (.inr h1)
        rw [hle _ _ hpe.ren] at this; cases this
  · have conv : ∀ e, Due ab (ins S p.i) (k + 1) e → ∀ r, ρ' e.name = some r → ρ e.name = some r := fun e he r hr => by
      obtain ⟨r0, hpe⟩ := h.pend e (hdue e he).1
      have := hle _ _ hpe.ren
      rw [hr] at this; cases this
      exact hpe.ren
    exact h.apart e e' (hdue e he).1 (hdue e' he').1 r r' (conv e he r hr) (conv e' he' r' hr') heq
  · refine h.stp.trans ⟨hst.os, hst.tape, hst.output, hst.size, fun n hn hno => hst.kept n hn fun ho => hno (hown n ho), ?_⟩
    rintro n (ho | ⟨e, r, he, hr, rfl⟩)
    · rcases hst.own n ho with h1 | h1
      · exact .inl (hown n h1)
      · exact .inr h1
    · obtain ⟨r0, hpe⟩ := h.pend e (hdue e he).1
      have := hle _ _ hpe.ren
      rw [hr] at this; cases this
      exact .inl (.inr ⟨e, r, (hdue e he).1, hpe.ren, rfl⟩)
end
end Go.Eng

/- Regions whose order is open: every order comes to what the run came to. -/
namespace Go.Eng
open Go.RowKit
set_option linter.unusedVariables false
set_option linter.unusedSimpArgs false

section
variable {P : Program} {E : Env} {rec : FuncId → List AV → GS → RC} {ops : Array Oper} {pl : Plan} {F : Nat} {tm0 : Tmp → AV} {V : Nat → AV} {gs : T GS} {ab : List AE} {B : Base} {n0 : Nat} {df : List (FuncId × List AV)} {O0 : Nat → Prop} {w0 : World} {ρ0 : Ren}

theorem all_bounds {p : PO} (hp : p ∈ allOf E ops.toList) : ∃ hs0 : List PO, hs0.map (boundsOf hs0) = hsOf E ops ∧ p.lo = countB (fun h => bitAt p.anc h.i) hs0 ∧ p.hi = countB (fun h => notB (bitAt h.anc p.i)) hs0 := by
  refine ⟨(posOf E ops.toList (ancs ops.toList []) 0).filter isH, ?_, ?_⟩
  · unfold hsOf allOf
    rw [List.filter_map]
    rfl
  · unfold allOf at hp
    obtain ⟨q, hq, rfl⟩ := List.mem_map.1 hp
    exact ⟨rfl, rfl⟩

theorem Inv.bounds {ρ : Ren} {S : Nat → Bool} {k : Nat} {g : GS} {a : Act} {w : World} (h : Inv E ops F tm0 V gs ab B n0 df O0 w0 ρ0 ρ S k g a w) {p : PO} (hp : p ∈ allOf E ops.toList) (hp0 : S p.i = false)
    (hpa : ∀ j, bitAt p.anc j = true → S j = true) : p.lo ≤ k ∧ k ≤ p.hi := by
  obtain ⟨hs0, h1, h2, h3⟩ := all_bounds hp
  have key : ∀ (i : Nat) x, hs0[i]? = some x → (hsOf E ops)[i]? = some (boundsOf hs0 x) := fun i x hx => by
    rw [← h1, List.getElem?_map, hx]; rfl
  refine ⟨?_, ?_⟩
  · rw [h2]
    refine countB_le _ _ fun i x hx hb => ?_
    exact (h.hk i _ (key i x hx)).1 (hpa _ hb)
  · rw [h3]
    refine le_countB _ _ ?_ fun i x hx hi => ?_
    · have := h.kle
      rw [← h1, List.length_map] at this; exact this
    · cases hb : bitAt x.anc p.i with
      | false => rfl
      | true =>
        have hS := (h.hk i _ (key i x hx)).2 hi
        have hm : boundsOf hs0 x ∈ allOf E ops.toList := by
          have := List.mem_of_getElem? (key i x hx)
          simp only [hsOf, List.mem_filter] at this; exact this.1
        have := h.dc _ hm hS p.i hb
        rw [hp0] at this; cases this

theorem kind0 {p : PO} (hp : p ∈ allOf E ops.toList) (h : p.k = 0) : isLight E p.o.op = true := by
  have hk := (allOf_get (mem_allOf hp)).2.2.2
  rw [h] at hk
  unfold kindOf at hk
  split at hk
  · assumption
  · split at hk <;> cases hk

/- What a light operation gives. -/
theorem Inv.lightVal (htt : TTok P E.tt) (hs : Stat E ops pl) {ρ : Ren} {S : Nat → Bool} {k : Nat} {g : GS} {a : Act} {w : World} (h : Inv E ops F tm0 V gs ab B n0 df O0 w0 ρ0 ρ S k g a w) {p : PO} (hp : p ∈ allOf E ops.toList) (hp0 : S p.i = false)
    (hpa : ∀ j, bitAt p.anc j = true → S j = true) (hk : p.k = 0) {Tm : T AV} (hl : Look ops tm0 V p Tm)
    (hf : (∃ g g', PCs g'.pcs ∧ evO E (emptyG g) (evX E Tm) p.o.op = .val (V p.i) g') ∨ ∀ j, p.lo ≤ j → j ≤ p.hi → LAt E gs ab p Tm (V p.i) j) :
    ∃ v, ((execOp a.eval p.o).run P w = .ok (.value v) w ∨ (v = undef ∧ (execOp a.eval p.o).run P w = .ok .skip w)) ∧ VR ρ (V p.i) v := by
  have hlook : ∀ t ∈ p.o.looksAt ops, (Tm.get t).getD .undef = tmS ops V tm0 S t := fun t ht => by
    rw [hl t ht, tmS_reads hs h.dc hp hp0 hpa ht]
  have hX := xAt_VR (E := E) (a := a) h.gl h.tm
  have hcongr : ∀ g, evO E g (evX E Tm) p.o.op = evO E g (xAt E (tmS ops V tm0 S)) p.o.op := fun g => evO_congr _ (xAt_evX hlook)
  have main : ∀ (gA : GS) v'' g', WR (Bs B F ops.size S) ρ gA w → evO E gA (evX E Tm) p.o.op = .val v'' g' → PCs g'.pcs → ∃ v, ((execOp a.eval p.o).run P w = .ok (.value v) w ∨ (v = undef ∧ (execOp a.eval p.o).run P w = .ok .skip w)) ∧ VR ρ v'' v := fun gA v'' g' hw he hpc => by
    have hsat := evO_sat (q := true) (w := w) (V := a.eval) htt hw rfl hX p.o (fun _ => kind0 hp hk)
    rw [← hcongr, he] at hsat
    obtain ⟨ρ', v', w', h1, h2, _, _, _, h3⟩ := hsat hpc
    obtain ⟨rfl, rfl⟩ := h3 rfl
    exact ⟨v', h1, h2⟩
  rcases hf with ⟨g0, g', hpc, he⟩ | hf
  · exact main _ _ _ (h.wr.empty g0) he hpc
  · obtain ⟨hb1, hb2⟩ := h.bounds hp hp0 hpa
    obtain ⟨gl, orc, pcs, v', g', h1, h2, h3, h4⟩ := hf k hb1 hb2
    rw [h.gk] at h1; cases h1
    have hdue : ∀ e ∈ ab, andB (bitAt p.anc e.i) (Nat.ble k e.ph) = true → Due ab S k e := fun e he hc => by
      obtain ⟨c1, c2⟩ := andB_true hc
      exact ⟨he, hpa _ c1, ble_le c2⟩
    have hwA := (h.wr.addL (sel := fun e => andB (bitAt p.anc e.i) (Nat.ble k e.ph)) ab (fun e he hd => h.pend e (hdue e he hd)) (fun e he e' he' hd hd' r r' hr hr' heq => h.apart e e' (hdue e he hd) (hdue e' he' hd') r r' hr hr' heq)
      (g' := ⟨(addA g ab p.anc k).bl, (addA g ab p.anc k).nx, (addA g ab p.anc k).fx, orc, pcs⟩) (by rw [addA_sel]) (by rw [addA_sel]) (by rw [addA_sel])).1
    obtain ⟨v, h5, h6⟩ := main _ _ _ hwA h3 h2
    exact ⟨v, h5, h4 ρ v h6⟩

def LS (n : Nat) (listed : Array Bool) (S : Nat → Bool) : Prop := listed.size = n ∧ ∀ i, i < n → listed[i]? = some (S i)
theorem LS.set {n : Nat} {listed : Array Bool} {S : Nat → Bool} (h : LS n listed S) {i : Nat} (hi : i < n) : LS n (listed.setIfInBounds i true) (ins S i) := by
  refine ⟨by simpa using h.1, fun j hj => ?_⟩
  by_cases e : j = i
  · subst e; rw [ins_self, Array.getElem?_setIfInBounds_self_of_lt (by rw [h.1]; exact hi)]
  · rw [ins_ne e, Array.getElem?_setIfInBounds_ne (fun h => e h.symm)]; exact h.2 j hj
theorem LS.ready {listed : Array Bool} {S : Nat → Bool} (h : LS ops.size listed S) {j : Nat} : j ∈ Region.ready .any ops listed ↔
    ∃ o, ops[j]? = some o ∧ S j = false ∧ ∀ e ∈ o.after, Region.binds .any e = true → e.on < ops.size ∧ S e.on = true := by
  rw [mem_ready]
  constructor
  · rintro ⟨h1, o, ho, h2⟩
    have hj := (Array.getElem?_eq_some_iff.1 ho).1
    refine ⟨o, ho, ?_, fun e he hb => ?_⟩
    · have := h.2 j hj
      rw [Array.getD_eq_getD_getElem?, this] at h1; exact h1
    · have h3 := h2 e he hb
      rw [Array.getD_eq_getD_getElem?] at h3
      rcases Nat.lt_or_ge e.on ops.size with hl | hl
      · rw [h.2 _ hl] at h3; exact ⟨hl, h3⟩
      · rw [Array.getElem?_eq_none (by rw [h.1]; exact hl)] at h3; cases h3
  · rintro ⟨o, ho, h1, h2⟩
    have hj := (Array.getElem?_eq_some_iff.1 ho).1
    refine ⟨by rw [Array.getD_eq_getD_getElem?, h.2 j hj]; exact h1, o, ho, fun e he hb => ?_⟩
    obtain ⟨h3, h4⟩ := h2 e he hb
    rw [Array.getD_eq_getD_getElem?, h.2 _ h3]; exact h4

/- One step more. -/
theorem sim_step (htt : TTok P E.tt) (hx : XOK E P) (hr : ∀ B, RecOK E P B rec) (hs : Stat E ops pl) (hBF : ∀ b, B.no b → b < F) (hc : Cert E rec ops F tm0 V gs ab) (hd : ∀ p ∈ allOf E ops.toList, ∀ x, p.o.dst = some x → x < n0)
    {ρ : Ren} {S : Nat → Bool} {k : Nat} {g : GS} {a : Act} {w : World} (h : Inv E ops F tm0 V gs ab B n0 df O0 w0 ρ0 ρ S k g a w) {p : PO} (hp : p ∈ allOf E ops.toList) (hp0 : S p.i = false) (hpa : ∀ j, bitAt p.anc j = true → S j = true)
    {Q : Exit → Act → World → Prop} {K : Act → World → Prop} (HK : ∀ ρ' k' g' a' w', Inv E ops F tm0 V gs ab B n0 df O0 w0 ρ0 ρ' (ins S p.i) k' g' a' w' → K a' w') : wpOp P ops Q p.i K a w := by
  obtain ⟨Tm, W, f1, f2, f3, f4, f5, f6⟩ := hc.fact p hp
  have hlook : ∀ t ∈ p.o.looksAt ops, (Tm.get t).getD .undef = tmS ops V tm0 S t := fun t ht => by
    rw [f1 t ht, tmS_reads hs h.dc hp hp0 hpa ht]
  have hX := xAt_VR (E := E) (a := a) h.gl h.tm
  have hcongr : ∀ g, evO E g (evX E Tm) p.o.op = evO E g (xAt E (tmS ops V tm0 S)) p.o.op := fun g => evO_congr _ (xAt_evX hlook)
  have hw := wantedD_spec (ρ := ρ) (a := a) f2 (fun t ht => by rw [hlook t ht]; exact h.tm t)
  unfold wpOp
  rw [(all_op hp).1]
  simp only [hw]
  have hk3 := hs.k3 p hp
  by_cases hk2 : p.k = 2
  · obtain ⟨r, g0r, gp, g', a1, a2, a3, a4, a5, a6, a7, a8, a9, a10⟩ := f6 hk2
    have hrk := h.isk hs a1 hp0 hpa
    subst hrk
    rw [h.gk] at a2; cases a2
    have hS : ∀ e ∈ ab, e.ph = r → S e.i = true := fun e he hph => hpa _ (a10 e he hph)
    obtain ⟨hwp, _⟩ := h.adopt hS a4 a5 a6
    cases W with
    | false =>
      have hg := a9 rfl; subst hg
      simp only [Bool.false_eq_true, if_false]
      refine HK ρ (r + 1) g' _ w (h.heavy hs hc.abS hc.abU a1 hp0 hpa (hd p hp) hS a4 a5 a6 ρ.le_refl hwp (Stp.refl _ _) ?_ a3)
      rw [(f3 rfl).1]; exact .undef
    | true =>
      simp only [if_true]
      refine .inl ?_
      unfold Oper.wp
      have hsat := evO_sat (q := false) (w := w) (V := a.eval) htt hwp rfl hX p.o (by simp)
      rw [← hcongr] at hsat
      have fin : ∀ ρ' v' w', VR ρ' (V p.i) v' → ρ.le ρ' → WR (Bs B F ops.size S) ρ' g' w' → Stp (Own ρ gp) w (Own ρ' g') w' → K (a.put p.o.dst v') w' := fun ρ' v' w' h1 h2 h3 h4 =>
        HK ρ' (r + 1) g' _ w' (h.heavy hs hc.abS hc.abU a1 hp0 hpa (hd p hp) hS a4 a5 a6 h2 h3 h4 h1 a3)
      cases a8 rfl with
      | val he =>
        rw [he] at hsat
        obtain ⟨ρ', v', w', h1, h2, h3, h4, h5, _⟩ := hsat a7
        rcases h1 with h1 | ⟨rfl, h1⟩
        · rw [h1, Oper.upon_value]; exact fin _ _ _ h2 h3 h4 h5
        · rw [h1, Oper.upon_skip]; exact fin _ _ _ h2 h3 h4 h5
      | ext f args gc kx he hpc hkx he' =>
        rw [he] at hsat
        obtain ⟨rfl, vs, h1, h2⟩ := hsat hpc
        have hxs := hx f kx hkx _ ρ w gc args vs hwp h2
        rw [he'] at hxs
        obtain ⟨ρ', v', w', h3, h4, h5, h6, h7, _⟩ := hxs a7
        rw [h1]
        rcases h3 with h3 | ⟨rfl, h3⟩
        · rw [h3, Oper.upon_value]; exact fin _ _ _ h4 h5 h6 h7
        · rw [h3, Oper.upon_skip]; exact fin _ _ _ h4 h5 h6 h7
      | rc f args gc nd he hpc hkx he' =>
        rw [he] at hsat
        obtain ⟨rfl, vs, h1, h2⟩ := hsat hpc
        have hrs := hr (Bs B F ops.size S) f args gc ρ w vs hwp h.gl h2
        rw [he'] at hrs
        obtain ⟨c1, c2, _⟩ := hrs a7
        rw [h1, c1, Oper.upon_enter]
        refine c2.mono fun en w' hR => ?_
        cases en with
        | returned v' =>
          obtain ⟨ρ', hv, hle, hw', hst⟩ := hR
          exact fin _ _ _ hv hle hw' hst
        | panicked ch => exact hR.elim
        | outgrown => exact hR.elim
  · cases W with
    | false =>
      simp only [Bool.false_eq_true, if_false]
      refine HK ρ k g _ w (h.light hs hp hp0 hpa (hd p hp) hk2 (f3 rfl).2 ?_)
      rw [(f3 rfl).1]; exact .undef
    | true =>
      simp only [if_true]
      refine .inl ?_
      unfold Oper.wp
      by_cases hk0 : p.k = 0
      · obtain ⟨v, h1, h2⟩ := h.lightVal htt hs hp hp0 hpa hk0 f1 (f4 rfl hk0)
        have hab : ∀ e ∈ ab, e.i ≠ p.i := fun e he heq => by
          obtain ⟨_, _, q, hq, e1, e2⟩ := hc.abS e he
          have := all_eq hq hp (e1.trans heq); subst this; omega
        rcases h1 with h1 | ⟨rfl, h1⟩
        · rw [h1, Oper.upon_value]; exact HK ρ k g _ w (h.light hs hp hp0 hpa (hd p hp) hk2 hab h2)
        · rw [h1, Oper.upon_skip]; exact HK ρ k g _ w (h.light hs hp hp0 hpa (hd p hp) hk2 hab h2)
      · have hk1 : p.k = 1 := by omega
        obtain ⟨l, kd, ph, b1, b2, b3, b4⟩ := f5 rfl hk1
        rw [aCells_congr _ (xAt_evX hlook)] at b1
        obtain ⟨arr, ty, c1, c2⟩ := aCells_run (w := w) htt hX p.o b1
        rw [c2, Oper.upon_value]
        obtain ⟨ρ', _, h2⟩ := h.early hs hBF hc.abS hc.abU hp hp0 hpa (hd p hp) hk1 (ty := ty) b2 b3 c1 (fun e he hei => by
          have := hc.abU e he _ b4 hei
          rw [this])
        exact HK ρ' k g _ _ h2

theorem sim (htt : TTok P E.tt) (hx : XOK E P) (hr : ∀ B, RecOK E P B rec) (hs : Stat E ops pl) (hBF : ∀ b, B.no b → b < F) (hc : Cert E rec ops F tm0 V gs ab) (hd : ∀ p ∈ allOf E ops.toList, ∀ x, p.o.dst = some x → x < n0)
    {Q : Exit → Act → World → Prop} (hQ : ∀ ρ S k g a w, (∀ i, i < ops.size → S i = true) → Inv E ops F tm0 V gs ab B n0 df O0 w0 ρ0 ρ S k g a w → Q .normal a w) :
    ∀ (fuel : Nat) (listed : Array Bool) (S : Nat → Bool) (ρ : Ren) (k : Nat) (g : GS) (a : Act) (w : World), unl S ops.size ≤ fuel → LS ops.size listed S → Inv E ops F tm0 V gs ab B n0 df O0 w0 ρ0 ρ S k g a w → wpAny P .any ops Q fuel listed a w
  | 0, listed, S, ρ, k, g, a, w, hu, hl, h => by
    have hall := unl_zero (S := S) (n := ops.size) (by omega)
    refine ⟨?_, hQ ρ S k g a w hall h⟩
    refine List.eq_nil_iff_forall_not_mem.2 fun j hj => ?_
    obtain ⟨o, ho, h1, _⟩ := hl.ready.1 hj
    rw [hall j (Array.getElem?_eq_some_iff.1 ho).1] at h1; cases h1
  | fuel + 1, listed, S, ρ, k, g, a, w, hu, hl, h => by
    refine ⟨fun hnil => hQ ρ S k g a w (fun i => ?_) h, fun i hi => ?_⟩
    · induction i using Nat.strongRecOn with
      | ind i ih =>
        intro hi
        cases hS : S i with
        | true => rfl
        | false =>
          obtain ⟨p, hp, rfl, hpo⟩ := all_at E (Array.getElem?_eq_getElem hi)
          have : p.i ∈ Region.ready .any ops listed := hl.ready.2 ⟨_, (all_op hp).1, hS, fun e he hb => by
            have := (hs.edge p hp e he hb).1
            exact ⟨by omega, ih e.on this (by omega)⟩⟩
          rw [hnil] at this; cases this
    · obtain ⟨o, ho, h1, h2⟩ := hl.ready.1 hi
      obtain ⟨p, hp, rfl, rfl⟩ := all_at E ho
      have hpa := h.anc hs hp (fun e he hb => (h2 e he hb).2)
      refine sim_step htt hx hr hs hBF hc hd h hp h1 hpa fun ρ' k' g' a' w' h' => ?_
      refine sim htt hx hr hs hBF hc hd hQ fuel _ (ins S p.i) ρ' k' g' a' w' ?_ (hl.set (all_op hp).2) h'
      have := unl_ins h1 (all_op hp).2
      omega
end
end Go.Eng

/- Regions whose order is open: the evaluator is sound. -/
namespace Go.Eng
open Go.RowKit
set_option linter.unusedVariables false
set_option linter.unusedSimpArgs false

section
variable {P : Program} {E : Env} {rec : FuncId → List AV → GS → RC}

theorem Ord.stop {n : Nat} {l : List PO} {S : Nat → Bool} (h : Ord n S l) : OrdP S l ∧ ∀ i, i < n → insL S l i = true := by
  have h' : Ord n S (l ++ []) := by simpa using h
  obtain ⟨h1, h2⟩ := h'.split
  exact ⟨h1, h2⟩

theorem evDraw_ok (htt : TTok P E.tt) (hx : XOK E P) (hmo : P.follows .mixedOrders = true) (hm : MonoRec rec) (hr : ∀ B, RecOK E P B rec) (B : Base) : DrOK E P B (evDraw E rec) := by
  intro rid ops s ρ a w hsr e sf he hpc Q hQ
  unfold evDraw at he
  split at he
  · cases he
  · rename_i pl hpl
    have hs := planOf_stat hpl
    split at he
    · cases he
    · rename_i hnm
      obtain ⟨n1, n2⟩ := andB_true hnm
      have n1 : s.g.fx + ops.size < 17592186044415 := by have := blt_lt n1; simpa using this
      have hd : ∀ p ∈ allOf E ops.toList, ∀ x, p.o.dst = some x → x < s.n := fun p hp x hx => by
        have := (all_op hp).1
        have hm := List.all_eq_true.1 n2 p.o (by have := Array.mem_of_getElem? this; simpa using this)
        rw [hx] at hm
        exact blt_lt hm
      have hnl := hsr.nl
      have hd6 : ∀ p ∈ allOf E ops.toList, ∀ x : Nat, p.o.dst = some x → x < 1000000 := fun p hp x hx => by
        have : x < s.n := hd p hp x hx
        omega
      have hfx := hsr.wr.fxl
      have hnx := hsr.wr.nxl
      replace he : runSegs E rec ops.toList s.g.fx pl.segs 0 (T.set (some ⟨s.g.bl, s.g.nx, s.g.fx + ops.size, s.g.orc, s.g.pcs⟩) D .nil 0) ⟨s.tm, ⟨s.g.bl, s.g.nx, s.g.fx + ops.size, s.g.orc, s.g.pcs⟩, [], []⟩ (fun k gs d => stepsL E ops.toList s.g.fx k gs pl.last d fun d =>
        match checksOK E gs d.ab d.ck d.g.pcs with
        | some P => .ok .normal ⟨d.tm, s.n, s.df, ⟨d.g.bl, d.g.nx, d.g.fx, d.g.orc, P⟩⟩
        | none => .fail "phases") = .ok e sf := he
      have hacc : Acc E rec ops s.g.fx (fun t => (s.tm.get t).getD .undef) (fun _ => false) (fun _ => .undef) 0 (T.set (some ⟨s.g.bl, s.g.nx, s.g.fx + ops.size, s.g.orc, s.g.pcs⟩) D .nil 0) ⟨s.tm, ⟨s.g.bl, s.g.nx, s.g.fx + ops.size, s.g.orc, s.g.pcs⟩, [], []⟩ := by
        refine ⟨fun p hp h => (by cases h), fun t => ?_, fun p hp h => (by cases h), ⟨_, T.get_set_same _ _ _ _ (by simp only [D]; omega), rfl, rfl, rfl⟩, fun j g hj => ?_, fun e he => (by cases he), fun e he => (by cases he), fun r p hp => ⟨fun h => (by cases h), fun h => (by omega)⟩⟩
        · show _ = tmS ops _ _ _ t
          unfold tmS
          refine (lastW_all (R := fun x => (s.tm.get t).getD .undef = x) rfl fun i hi hf => ?_)
          simp at hf
        · by_cases hj0 : j = 0
          · omega
          · rw [T.get_set_ne _ _ _ _ _ hj0, T.get_nil] at hj; cases hj
      have hord : Ord ops.size (fun _ => false) (flat pl) := by
        have := ordOK_spec _ _ _ hs.ord
        have e0 : bitAt 0 = fun _ => false := funext bit_zero
        rwa [e0] at this
      obtain ⟨S1, V1, k1, gs1, s1, b1, b2, b3, b4, b5, b6⟩ := runSegs_acc hs hd6 hm (by omega) pl.last pl.segs hacc (by rw [hs.hs]; rfl)
        (fun sg hsg p hp => ⟨hs.mem p (flat_mem.2 (.inl ⟨sg, hsg, .inl hp⟩)), (hs.seg sg hsg).2 p hp⟩) (fun a ha => (by cases ha)) (Nat.zero_le _) hord
        (fun k gs l d h => mono_stepsL _ (mono_finish (fun d => d.ab) gs) h) he hpc
      obtain ⟨o1, o2⟩ := b3.stop
      obtain ⟨s2, V2, c1, c2, _⟩ := stepsL_acc hs hd6 pl.last b2 (fun p hp => ⟨hs.mem p (flat_mem.2 (.inr hp)), hs.last p hp⟩) o1 (mono_finish (fun d => d.ab) gs1) b1 hpc
      split at c1
      · rename_i L hL
        cases c1
        have hcert := c2.cert o2 (checksOK_spec _ hL hpc)
        have hg1 := c2.gk
        obtain ⟨g0k, g1, g2, g3, g4⟩ := hg1
        have hu0 : ∀ b, B.no b → b < s.g.fx := fun b hb => (hsr.wr.nou b hb).2.2
        -- what holds at the start
        have hwr0 : WR (Bs B s.g.fx ops.size (fun _ => false)) ρ ⟨s.g.bl, s.g.nx, s.g.fx + ops.size, s.g.orc, s.g.pcs⟩ { w with drawn := w.drawn + 1 } := by
          have h0 := hsr.wr.of_heap (w' := { w with drawn := w.drawn + 1 }) rfl
          refine ⟨fun b k hb => (h0.blk b k hb).imp id fun ⟨r, h1, h2⟩ => ⟨r, h1, h2.base rfl⟩, h0.sep, fun b k hb => ?_, fun b hb => h0.fresh b ?_, hnx, ?_, h0.size, fun b hb => ?_⟩
          · have := h0.nxb b k hb; simp only; omega
          · simp only at hb; omega
          · simp only; omega
          · rcases hb with hb | ⟨i, hi, _, rfl⟩
            · have := h0.nou b hb; exact ⟨this.1, this.2.1, by show b < s.g.fx + ops.size; omega⟩
            · refine ⟨h0.fresh _ (.inr (by omega)), by omega, by show s.g.fx + i < s.g.fx + ops.size; omega⟩
        -- a stays 0 in gs1
        have hg0 : gs1.get 0 = some ⟨s.g.bl, s.g.nx, s.g.fx + ops.size, s.g.orc, s.g.pcs⟩ := by
          rw [b6 0 (Nat.le_refl _)]; exact T.get_set_same _ _ _ _ (by simp only [D]; omega)
        have hinv : Inv E ops s.g.fx (fun t => (s.tm.get t).getD .undef) V2 gs1 s2.ab B s.n s.df (Own ρ s.g) w ρ ρ (fun _ => false) 0 ⟨s.g.bl, s.g.nx, s.g.fx + ops.size, s.g.orc, s.g.pcs⟩ a { w with drawn := w.drawn + 1 } := by
          refine ⟨fun p hp h => (by cases h), fun r p hp => ⟨fun h => (by cases h), fun h => (by omega)⟩, Nat.zero_le _, fun t => ?_, hsr.n.symm, hsr.df, hsr.gl, ρ.le_refl, hg0, hwr0, fun e he => (by cases he.2.1), fun e e' he => (by cases he.2.1), ?_⟩
          · refine lastW_all (R := fun x => VR ρ x (a.tmps.getD t undef)) (hsr.tm t) fun i hi hf => ?_
            simp at hf
          · exact ⟨rfl, rfl, rfl, Nat.le_refl _, fun _ _ _ => rfl, fun n hn => by
              rcases hn with hn | ⟨e, r, he, _⟩
              · exact .inl hn
              · cases he.2.1⟩
        refine wp_region_any hmo (sim htt hx hr hs hu0 hcert hd ?_ ops.size _ (fun _ => false) ρ 0 _ a _ ?_ ⟨by simp, fun i hi => by simp [hi]⟩ hinv)
        · intro ρ' S k g a' w' hall h
          have hk : k = (hsOf E ops).length := by
            have hle := h.kle
            rcases Nat.lt_or_ge k (hsOf E ops).length with hlt | hge
            · have hq := List.getElem?_eq_getElem hlt
              have hm := List.mem_of_getElem? hq
              simp only [hsOf, List.mem_filter] at hm
              have := (h.hk k _ hq).1 (hall _ (all_op hm.1).2)
              omega
            · omega
          have hk1 : k = k1 := by omega
          have hgk := h.gk
          rw [hk1, g1] at hgk; cases hgk
          rw [← hk1] at g2
          have hSall : ∀ e ∈ s2.ab, e.ph = k → S e.i = true := fun e he _ => by
            obtain ⟨_, _, p, hp, e1, _⟩ := hcert.abS e he
            rw [← e1]; exact hall _ (all_op hp).2
          obtain ⟨hwf, hgf⟩ := h.adopt hSall g2 g3 g4
          have hwB : WR B ρ' ⟨s2.g.bl, s2.g.nx, s2.g.fx, s2.g.orc, L⟩ w' := (WR.weaken (B := Bs B s.g.fx ops.size S) (B' := B) rfl (fun b hb => .inl hb) hwf).of_gs rfl rfl rfl
          refine hQ ρ' a' w' .normal h.le ⟨fun t => ?_, h.n.symm, hnl, h.df, h.gl, hwB⟩ ?_ rfl
          · show VR ρ' ((s2.tm.get t).getD .undef) _
            rw [c2.tm t]
            have := h.tm t
            rwa [tmS_congr (S' := insL S1 pl.last) fun i hi _ => by rw [hall i hi, o2 i hi]] at this
          · refine ⟨h.stp.os, h.stp.tape, h.stp.output, h.stp.size, h.stp.kept, fun n hn => h.stp.own n ?_⟩
            obtain ⟨b, k', r, hb, hk', hr', rfl⟩ := hn
            rcases hgf b k' hb with h1 | ⟨e, he, h1, h2, rfl, rfl⟩
            · exact .inl ⟨b, k', r, h1, hk', hr', rfl⟩
            · exact .inr ⟨e, r, ⟨he, h2, by omega⟩, hr', rfl⟩
        · have : ∀ n, unl (fun _ => false) n = n := fun n => by
            induction n with
            | zero => rfl
            | succ n ih => simp only [unl, ih]; omega
          rw [this]; exact Nat.le_refl _
      · cases c1
end
end Go.Eng

/- Runs cut into pieces: what a piece of code does to an abstract state, for every world that the state stands for. -/
namespace Go.Eng
open Go.RowKit
set_option linter.unusedVariables false
set_option linter.unusedSimpArgs false

def JW (P : Program) (E : Env) (X : (Exit → Act → World → Prop) → Act → World → Prop) (s : ST) (e : EX) (s' : ST) : Prop :=
  ∀ B ρ a w, SR E B ρ s a w → ∀ Q : Exit → Act → World → Prop,
    (∀ ρ' a' w' ex, ρ.le ρ' → SR E B ρ' s' a' w' → Stp (Own ρ s.g) w (Own ρ' s'.g) w' → ER ρ' e ex → Q ex a' w') → X Q a w
/- Code, from its start; a loop, behind a round. -/
def JN (P : Program) (E : Env) (c : Code) (s : ST) (e : EX) (s' : ST) : Prop := JW P E (fun Q => c.wp P Q) s e s'
def JL (P : Program) (E : Env) (c : Code) (s : ST) (e : EX) (s' : ST) : Prop := JW P E (fun Q => wpIn P c Q) s e s'

/- A state of which less is known. -/
structure Sub (s' s : ST) : Prop where
  tm : ∀ t, t < s.n → (s'.tm.get t).getD .undef = (s.tm.get t).getD .undef ∨ (s'.tm.get t).getD .undef = .bad
  tn : ∀ t, s.n ≤ t → (s'.tm.get t).getD .undef = .undef ∨ (s'.tm.get t).getD .undef = (s.tm.get t).getD .undef
  n : s'.n = s.n
  df : s'.df = s.df
  bl : ∀ b k, s'.g.bl.get b = some k → s.g.bl.get b = some k
  nx : s.g.nx ≤ s'.g.nx
  fx : s.g.fx ≤ s'.g.fx
  nxl : s.g.nx = s'.g.nx ∨ s'.g.nx + 1 < 1099511627776
  fxl : s.g.fx = s'.g.fx ∨ s'.g.fx < 17592186044416

section
variable {P : Program} {E : Env} {rec : FuncId → List AV → GS → RC} {X : (Exit → Act → World → Prop) → Act → World → Prop} {s s1 s2 : ST} {e : EX} {c d : Code}

theorem Sub.own {s' s : ST} (h : Sub s' s) {ρ : Ren} {n : Nat} (ho : Own ρ s'.g n) : Own ρ s.g n :=
  let ⟨b, k, r, h1, h2, h3, h4⟩ := ho; ⟨b, k, r, h.bl b k h1, h2, h3, h4⟩
theorem Sub.wr {s' s : ST} (h : Sub s' s) {B : Base} {ρ : Ren} {w : World} (hw : WR B ρ s.g w) : WR B ρ s'.g w := by
  have h1 := h.nx; have h2 := h.fx; have h3 := h.nxl; have h4 := h.fxl; have h5 := hw.nxl; have h6 := hw.fxl
  refine ⟨fun b k hb => hw.blk b k (h.bl b k hb), fun b b' k k' r r' h1 h2 h3 => hw.sep b b' k k' r r' (h.bl b k h1) h2 (h.bl b' k' h3), fun b k hb => ?_, fun b hb => hw.fresh b (by omega), by omega, by omega, hw.size, fun b hb => ?_⟩
  · have := hw.nxb b k (h.bl b k hb); omega
  · have := hw.nou b hb; exact ⟨this.1, this.2.1, by omega⟩
theorem Sub.sr {s' s : ST} (h : Sub s' s) {B : Base} {ρ : Ren} {a : Act} {w : World} (hs : SR E B ρ s a w) : SR E B ρ s' a w := by
  refine ⟨fun t => ?_, by rw [h.n]; exact hs.n, by rw [h.n]; exact hs.nl, by rw [h.df]; exact hs.df, hs.gl, h.wr hs.wr⟩
  rcases Nat.lt_or_ge t s.n with ht | ht
  · rcases h.tm t ht with h1 | h1
    · rw [h1]; exact hs.tm t
    · rw [h1]; exact .any _
  · rcases h.tn t ht with h1 | h1
    · rw [h1]
      have : a.tmps.getD t undef = undef := by
        rw [Array.getD_eq_getD_getElem?, Array.getElem?_eq_none (by rw [← hs.n]; exact ht)]; rfl
      rw [this]; exact .undef
    · rw [h1]; exact hs.tm t

theorem JW.sub (h : JW P E X s e s1) (hs : Sub s2 s1) : JW P E X s e s2 := fun B ρ a w hsr Q hQ =>
  h B ρ a w hsr Q fun ρ' a' w' ex hle hs1 hst hex => hQ ρ' a' w' ex hle (hs.sr hs1) ⟨hst.os, hst.tape, hst.output, hst.size, hst.kept, fun n hn => hst.own n (hs.own hn)⟩ hex
theorem JW.pre (h : JW P E X s1 e s2) (hs : Sub s1 s) : JW P E X s e s2 := fun B ρ a w hsr Q hQ =>
  h B ρ a w (hs.sr hsr) Q fun ρ' a' w' ex hle hs1 hst hex => hQ ρ' a' w' ex hle hs1 ⟨hst.os, hst.tape, hst.output, hst.size, fun n hn hno => hst.kept n hn fun ho => hno (hs.own ho), fun n hn => (hst.own n hn).imp (hs.own) id⟩ hex

theorem JN.eval (htt : TTok P E.tt) (hx : XOK E P) (hm : MonoRec rec) (hr : ∀ B, RecOK E P B rec) {dr : List Oper → ST → RR} (hdm : ∀ ops, MonoK (dr ops)) (hd : ∀ B, DrOK E P B dr) (n : Nat)
    (h : evCode E rec dr n c s = .ok e s1) (hp : PCs s1.g.pcs) : JN P E c s e s1 := fun B ρ a w hsr Q hQ =>
  (evCode_wp htt hx (hr B) hm hdm (hd B) n c s ρ a w hsr).1 e s1 h hp Q hQ
theorem JL.eval (htt : TTok P E.tt) (hx : XOK E P) (hm : MonoRec rec) (hr : ∀ B, RecOK E P B rec) {dr : List Oper → ST → RR} (hdm : ∀ ops, MonoK (dr ops)) (hd : ∀ B, DrOK E P B dr) (n : Nat)
    (h : evCode E rec dr n (.loop c) s = .ok e s1) (hp : PCs s1.g.pcs) : JL P E c s e s1 := fun B ρ a w hsr Q hQ =>
  (evCode_wp htt hx (hr B) hm hdm (hd B) n (.loop c) s ρ a w hsr).2 c rfl e s1 h hp Q hQ

theorem JW.then {Y : (Exit → Act → World → Prop) → Act → World → Prop} (h1 : JW P E X s .normal s1) (h2 : JW P E Y s1 e s2) : JW P E (fun Q => X (Exit.then (Y Q) Q)) s e s2 := fun B ρ a w hsr Q hQ =>
  h1 B ρ a w hsr _ fun ρ1 a1 w1 ex hle hs1 hst hex => by
    have : ex = .normal := hex
    subst this
    exact h2 B ρ1 a1 w1 hs1 Q fun ρ' a' w' ex h1 h2 h3 h4 => hQ ρ' a' w' ex (Ren.le_trans hle h1) h2 (hst.trans h3) h4
theorem JW.thenX {Y : (Exit → Act → World → Prop) → Act → World → Prop} (h1 : JW P E X s e s1) (he : e ≠ .normal) : JW P E (fun Q => X (Exit.then (Y Q) Q)) s e s1 := fun B ρ a w hsr Q hQ =>
  h1 B ρ a w hsr _ fun ρ1 a1 w1 ex hle hs1 hst hex => by
    have := hQ ρ1 a1 w1 ex hle hs1 hst hex
    cases e with
    | normal => exact absurd rfl he
    | exit i => have he : ex = .exit i := hex; subst he; exact this
    | ret => have he : ex = .ret := hex; subst he; exact this
    | pan v => obtain ⟨v', he, hv⟩ := hex; subst he; exact this

theorem JN.seq (h1 : JN P E c s .normal s1) (h2 : JN P E d s1 e s2) : JN P E (.seq c d) s e s2 := fun B ρ a w hsr Q hQ =>
  wp_seq ((JW.then (Y := fun Q => d.wp P Q) h1 h2) B ρ a w hsr Q hQ)
theorem JN.seqX (h1 : JN P E c s e s1) (he : e ≠ .normal) : JN P E (.seq c d) s e s1 := fun B ρ a w hsr Q hQ =>
  wp_seq ((JW.thenX (Y := fun Q => d.wp P Q) h1 he) B ρ a w hsr Q hQ)
theorem JN.loop (h1 : JN P E c s .normal s1) (h2 : JL P E c s1 e s2) : JN P E (.loop c) s e s2 := fun B ρ a w hsr Q hQ =>
  wp_loop_in ((JW.then (Y := fun Q => wpIn P c Q) h1 h2) B ρ a w hsr Q hQ)
theorem JN.loopX (h1 : JN P E c s e s1) (he : e ≠ .normal) : JN P E (.loop c) s e s1 := fun B ρ a w hsr Q hQ =>
  wp_loop_in ((JW.thenX (Y := fun Q => wpIn P c Q) h1 he) B ρ a w hsr Q hQ)
theorem JL.step (h1 : JN P E c s .normal s1) (h2 : JL P E c s1 e s2) : JL P E c s e s2 := fun B ρ a w hsr Q hQ =>
  wpIn_in ((JW.then (Y := fun Q => wpIn P c Q) h1 h2) B ρ a w hsr Q hQ)
theorem JL.stop (h1 : JN P E c s e s1) (he : e ≠ .normal) : JL P E c s e s1 := fun B ρ a w hsr Q hQ =>
  wpIn_in ((JW.thenX (Y := fun Q => wpIn P c Q) h1 he) B ρ a w hsr Q hQ)
theorem JN.scope (h : JN P E c s e s1) : JN P E (.scope c) s e s1 := fun B ρ a w hsr Q hQ =>
  wp_scope_straight (h B ρ a w hsr _ fun ρ1 a1 w1 ex hle hs1 hst hex => by
    have := hQ ρ1 a1 w1 ex hle hs1 hst hex
    cases e with
    | normal => have he : ex = .normal := hex; subst he; exact this
    | exit i => have he : ex = .exit i := hex; subst he; exact this
    | ret => have he : ex = .ret := hex; subst he; exact this
    | pan v => obtain ⟨v', he, hv⟩ := hex; subst he; exact this)
def inB (i : Nat) : EX → EX
  | .exit j => match Nat.beq j i with
    | true => .normal
    | false => .exit j
  | e => e
theorem JN.block {i : Nat} (h : JN P E c s e s1) : JN P E (.block i c) s (inB i e) s1 := fun B ρ a w hsr Q hQ =>
  wp_block (h B ρ a w hsr _ fun ρ1 a1 w1 ex hle hs1 hst hex => by
    cases e with
    | normal => have he : ex = .normal := hex; subst he; exact hQ ρ1 a1 w1 _ hle hs1 hst rfl
    | ret => have he : ex = .ret := hex; subst he; exact hQ ρ1 a1 w1 _ hle hs1 hst rfl
    | pan v => have := hQ ρ1 a1 w1 ex hle hs1 hst hex; obtain ⟨v', he, hv⟩ := hex; subst he; exact this
    | exit j =>
      have he : ex = .exit j := hex
      subst he
      cases hji : Nat.beq j i
      · have hi : inB i (.exit j) = .exit j := by simp only [inB, hji]
        rw [hi] at hQ
        have hne : j ≠ i := fun e => by subst e; rw [Nat.beq_refl] at hji; cases hji
        simp only [Exit.inBlock, if_neg hne]; exact hQ ρ1 a1 w1 _ hle hs1 hst rfl
      · have hi : inB i (.exit j) = .normal := by simp only [inB, hji]
        rw [hi] at hQ
        have hne : j = i := Nat.eq_of_beq_eq_true hji
        simp only [Exit.inBlock, if_pos hne]
        exact hQ ρ1 a1 w1 .normal hle hs1 hst rfl)
theorem JN.cond {x : Operand} {b : Bool} (hb : evX E s.tm x = .bool (.c b)) (h : JN P E (match b with | true => c | false => d) s e s1) : JN P E (.cond x c d) s e s1 := fun B ρ a w hsr Q hQ => by
  have hv := hsr.eval x
  rw [hb] at hv
  have := bool_inv hv
  refine wp_cond this ?_
  cases b
  · exact h B ρ a w hsr Q hQ
  · exact h B ρ a w hsr Q hQ
theorem JN.condS {x : Operand} {t b : Bool} (hb : evX E s.tm x = .bool (.s t)) (ht : t = b) (h : JN P E (match b with | true => c | false => d) s e s1) : JN P E (.cond x c d) s e s1 := fun B ρ a w hsr Q hQ => by
  have hv := hsr.eval x
  rw [hb] at hv
  have := bool_inv hv
  subst ht
  refine wp_cond this ?_
  cases t
  · exact h B ρ a w hsr Q hQ
  · exact h B ρ a w hsr Q hQ
end

/- THE KEPT PART OF A STATE, and its new oracle. -/
noncomputable def gcT {α : Type} (t : T α) : List Nat → T α → T α
  | [], r => r
  | b :: l, r => gcT t l (match t.get b with
    | some v => T.set (some v) D r b
    | none => r)
theorem gcT_get {α : Type} (t : T α) : ∀ (l : List Nat) (r : T α) (b : Nat) (v : α), (gcT t l r).get b = some v → t.get b = some v ∨ r.get b = some v
  | [], r, b, v, h => .inr h
  | c :: l, r, b, v, h => by
    rcases gcT_get t l _ b v h with h1 | h1
    · exact .inl h1
    · split at h1
      · rename_i u hu
        by_cases hc : b = c
        · subst hc
          rcases T.get_set_eq (some u) D r b with h2 | h2
          · rw [h2] at h1; cases h1; exact .inl hu
          · rw [h2] at h1; exact .inr h1
        · rw [T.get_set_ne _ _ _ _ _ hc] at h1; exact .inr h1
      · exact .inr h1
/- The temporaries that are wanted, and nothing known of the others. -/
noncomputable def putT (t : T AV) : List Nat → T AV → T AV
  | [], r => r
  | b :: l, r => putT t l (T.set (some ((t.get b).getD .undef)) D r b)
theorem putT_get (t : T AV) (n : Nat) : ∀ (l : List Nat) (r : T AV), (∀ b, n ≤ b → (r.get b).getD .undef = .undef ∨ (r.get b).getD .undef = (t.get b).getD .undef) →
    (∀ b, b < n → (r.get b).getD .undef = (t.get b).getD .undef ∨ (r.get b).getD .undef = .bad) →
    (∀ b, n ≤ b → ((putT t l r).get b).getD .undef = .undef ∨ ((putT t l r).get b).getD .undef = (t.get b).getD .undef) ∧ ∀ b, b < n → ((putT t l r).get b).getD .undef = (t.get b).getD .undef ∨ ((putT t l r).get b).getD .undef = .bad
  | [], r, h1, h2 => ⟨h1, h2⟩
  | c :: l, r, h1, h2 => by
    refine putT_get t n l _ (fun b hb => ?_) (fun b hb => ?_)
    · by_cases hc : b = c
      · subst hc
        rcases T.get_set_eq (some ((t.get b).getD .undef)) D r b with h | h
        · rw [h]; exact .inr rfl
        · rw [h]; exact h1 b hb
      · rw [T.get_set_ne _ _ _ _ _ hc]; exact h1 b hb
    · by_cases hc : b = c
      · subst hc
        rcases T.get_set_eq (some ((t.get b).getD .undef)) D r b with h | h
        · rw [h]; exact .inl rfl
        · rw [h]; exact h2 b hb
      · rw [T.get_set_ne _ _ _ _ _ hc]; exact h2 b hb
noncomputable def badL : Nat → List AV
  | 0 => []
  | n + 1 => .bad :: badL n
theorem badL_len : ∀ n, (badL n).length = n
  | 0 => rfl
  | n + 1 => by simp [badL, badL_len n]
theorem badL_get : ∀ (n i : Nat), i < n → (badL n)[i]? = some .bad
  | 0, i, h => by omega
  | n + 1, 0, h => rfl
  | n + 1, i + 1, h => by simp only [badL, List.getElem?_cons_succ]; exact badL_get n i (by omega)
/- What is kept: temporaries, blocks; the next names; the oracle. -/
structure KP where
  tk : List Nat
  bk : List Nat
  nx : Nat
  fx : Nat
  orc : List Int
noncomputable def gcS (p : KP) (s : ST) : ST := ⟨putT s.tm p.tk (T.ofFrom .nil 0 (badL s.n)), s.n, s.df, ⟨gcT s.g.bl p.bk .nil, p.nx, p.fx, p.orc, []⟩⟩
noncomputable def kpOK (p : KP) (s : ST) : Bool := andB (andB (Nat.ble s.g.nx p.nx) (Nat.ble s.g.fx p.fx)) (andB (andB (Nat.blt p.nx 549755813888) (Nat.blt p.fx 17592186044416)) (Nat.blt s.n 549755813888))
theorem gcS_sub {p : KP} {s : ST} (h : kpOK p s = true) : Sub (gcS p s) s := by
  obtain ⟨h1, h2⟩ := andB_true h
  obtain ⟨h3, h4⟩ := andB_true h1
  obtain ⟨h5, h6⟩ := andB_true h2
  obtain ⟨h7, h8⟩ := andB_true h5
  have h3 := ble_le h3; have h4 := ble_le h4; have h7 := blt_lt h7; have h8 := blt_lt h8; have h6 := blt_lt h6
  have key := putT_get s.tm s.n p.tk (T.ofFrom .nil 0 (badL s.n)) (fun b hb => ?_) (fun b hb => ?_)
  · exact ⟨key.2, key.1, rfl, rfl, fun b k h => (gcT_get s.g.bl p.bk .nil b k h).resolve_right (by rw [T.get_nil]; simp), h3, h4, .inr (by show p.nx + 1 < _; omega), .inr h8⟩
  · left
    rw [T.ofFrom_beyond _ _ _ _ (by rw [badL_len]; omega), T.get_nil]; rfl
  · right
    have := T.ofFrom_ge (badL s.n) .nil 0 b (by rw [badL_len]; omega) (by rw [badL_len]; omega)
    rw [Nat.zero_add] at this
    rw [this, badL_get _ _ hb]; rfl
noncomputable def gcR (p : KP) (r : RR) : Option (EX × ST × List PC) := match r with
  | .ok e s => match kpOK p s with
    | true => some (e, gcS p s, s.g.pcs)
    | false => none
  | .fail _ => none

/- SOME STATEMENTS OF A ROW. -/
noncomputable def evPre (E : Env) (rec : FuncId → List AV → GS → RC) (dr : List Oper → ST → RR) (n : Nat) : Nat → Code → ST → RR
  | 0, _, s => .ok .normal s
  | k + 1, c, s => match c with
    | .seq a b => thenR (evCode E rec dr n a s) (evPre E rec dr n k b)
    | _ => .fail "seq"
noncomputable def dropSeq : Nat → Code → Code
  | 0, c => c
  | k + 1, c => match c with
    | .seq _ b => dropSeq k b
    | _ => .skip
section
variable {P : Program} {E : Env} {rec : FuncId → List AV → GS → RC} {dr : List Oper → ST → RR}
theorem mono_evPre (hr : MonoRec rec) (hd : ∀ ops, MonoK (dr ops)) (n : Nat) : ∀ (k : Nat) (c : Code), MonoK (evPre E rec dr n k c)
  | 0, c => fun l s h => h
  | k + 1, c => fun l s h => by
    cases c with
    | seq a b => exact mono_thenR (mono_evCode hr hd n a l s h) (mono_evPre hr hd n k b)
    | _ => trivial
theorem JN.many (htt : TTok P E.tt) (hx : XOK E P) (hm : MonoRec rec) (hr : ∀ B, RecOK E P B rec) (hdm : ∀ ops, MonoK (dr ops)) (hd : ∀ B, DrOK E P B dr) (n : Nat) {s1 s2 : ST} {e : EX} (hp : PCs s1.g.pcs) : ∀ (k : Nat) (c : Code) (s : ST),
    evPre E rec dr n k c s = .ok .normal s1 → JN P E (dropSeq k c) s1 e s2 → JN P E c s e s2
  | 0, c, s, h, h2 => by cases h; exact h2
  | k + 1, c, s, h, h2 => by
    cases c with
    | seq a b =>
      replace h : thenR (evCode E rec dr n a s) (evPre E rec dr n k b) = .ok .normal s1 := h
      cases hc : evCode E rec dr n a s with
      | fail y => rw [hc] at h; cases h
      | ok e1 sa =>
        rw [hc] at h
        cases e1 with
        | normal =>
          replace h : evPre E rec dr n k b sa = .ok .normal s1 := h
          have hmono := mono_evPre (E := E) hm hdm n k b _ sa (List.suffix_refl _)
          rw [h] at hmono
          exact JN.seq (JN.eval htt hx hm hr hdm hd n hc (hp.of_suffix hmono)) (JN.many htt hx hm hr hdm hd n hp k b sa h h2)
        | exit i => cases h
        | ret => cases h
        | pan v => cases h
    | _ => cases h
theorem JN.chunk (htt : TTok P E.tt) (hx : XOK E P) (hm : MonoRec rec) (hr : ∀ B, RecOK E P B rec) (hdm : ∀ ops, MonoK (dr ops)) (hd : ∀ B, DrOK E P B dr) (n k : Nat) {c : Code} {s s1 s2 : ST} {e : EX} {p : KP} {pcs : List PC}
    (h : gcR p (evPre E rec dr n k c s) = some (.normal, s1, pcs)) (hp : PCs pcs) (h2 : JN P E (dropSeq k c) s1 e s2) : JN P E c s e s2 := by
  unfold gcR at h
  split at h
  · rename_i e1 sa hev
    split at h
    · rename_i hk
      cases h
      exact JN.many htt hx hm hr hdm hd n hp k c s hev (JW.pre h2 (gcS_sub hk))
    · cases h
  · cases h
theorem JN.last (htt : TTok P E.tt) (hx : XOK E P) (hm : MonoRec rec) (hr : ∀ B, RecOK E P B rec) (hdm : ∀ ops, MonoK (dr ops)) (hd : ∀ B, DrOK E P B dr) (n : Nat) {c : Code} {s s1 : ST} {e : EX} {p : KP} {pcs : List PC}
    (h : gcR p (evCode E rec dr n c s) = some (e, s1, pcs)) (hp : PCs pcs) : JN P E c s e s1 := by
  unfold gcR at h
  split at h
  · rename_i e1 sa hev
    split at h
    · rename_i hk
      cases h
      exact JW.sub (JN.eval htt hx hm hr hdm hd n hev hp) (gcS_sub hk)
    · cases h
  · cases h
end

/- THE WHOLE CALL. -/
theorem JN.leave {P : Program} {E : Env} {rec : FuncId → List AV → GS → RC} (htt : TTok P E.tt) (hm : MonoRec rec) (hr : ∀ B, RecOK E P B rec) {f : FuncId} {fn : Func} {c : Code} {args : List AV} {g : GS} {e : EX} {s1 : ST} (hf : P.funcs[f]? = some fn) (hb : fn.body = some c)
    (hn : (fn.name == "runtime.NumGoroutine") = false) (hl : Nat.ble args.length fn.ntmps = true) (hl2 : Nat.blt fn.ntmps 1000000 = true) (h : JN P E c ⟨argsT args, fn.ntmps, [], g⟩ e s1) {B : Base} {ρ : Ren} {w : World} {vs : Array Value} (hw : WR B ρ g w) (hg : GR E ρ) (hv : VRs ρ args vs.toList) :
    RCs P f vs B ρ (Own ρ g) w (Go.Eng.leave E rec fn (.ok e s1)) := by
  have hlen : args.length = vs.size := by simpa using hv.1
  refine leave_ok htt (hr B) hm hf hb hn fun e' s' he hp Q hQ => ?_
  cases he
  exact h B ρ _ w (SR.init hw hg hv (ble_le hl) (blt_lt hl2)) Q hQ
end Go.Eng

/- Tables out of lists of pairs; what a call comes to; the statement's last part. -/
namespace Go.Eng
open Go.RowKit
set_option linter.unusedVariables false
set_option linter.unusedSimpArgs false

noncomputable def T.pairs {α : Type} : List (Nat × α) → T α
  | [] => .nil
  | p :: l => T.set (some p.2) D (T.pairs l) p.1
theorem T.pairs_mem {α : Type} : ∀ {l : List (Nat × α)} {k : Nat} {v : α}, (T.pairs l).get k = some v → (k, v) ∈ l
  | [], k, v, h => by simp [T.pairs, T.get_nil] at h
  | p :: l, k, v, h => by
    simp only [T.pairs] at h
    by_cases hk : k = p.1
    · rcases T.get_set_eq (some p.2) D (T.pairs l) k with h1 | h1
      · rw [hk] at h1; rw [hk, h1] at h; cases h
        rw [hk]; exact List.mem_cons_self
      · rw [hk] at h1; rw [hk, h1] at h
        have := T.pairs_mem h
        rw [hk]; exact List.mem_cons_of_mem _ this
    · rw [T.get_set_ne _ _ _ _ _ hk] at h
      exact List.mem_cons_of_mem _ (T.pairs_mem h)
def AllX (P : Program) : List (Nat × XK) → Prop
  | [] => True
  | p :: l => XFn P p.1 p.2 ∧ AllX P l
theorem AllX.mem {P : Program} : ∀ {l : List (Nat × XK)}, AllX P l → ∀ p ∈ l, XFn P p.1 p.2
  | [], _, p, hp => by cases hp
  | q :: l, h, p, hp => by
    rcases List.mem_cons.1 hp with rfl | hp
    · exact h.1
    · exact AllX.mem h.2 p hp
theorem XOK.ofList {P : Program} {E : Env} {l : List (Nat × XK)} (he : T.pairs l = E.xt) (h : AllX P l) : XOK E P :=
  XOK.of fun f k hf => h.mem (f, k) (T.pairs_mem (by rw [he]; exact hf))

def AllT (P : Program) (eqs : List TypeId) : List (Nat × TI) → Prop
  | [] => True
  | p :: l => mkTI P eqs p.1 = some p.2 ∧ AllT P eqs l
theorem AllT.mem {P : Program} {eqs : List TypeId} : ∀ {l : List (Nat × TI)}, AllT P eqs l → ∀ p ∈ l, mkTI P eqs p.1 = some p.2
  | [], _, p, hp => by cases hp
  | q :: l, h, p, hp => by
    rcases List.mem_cons.1 hp with rfl | hp
    · exact h.1
    · exact AllT.mem h.2 p hp
theorem AllT.append {P : Program} {eqs : List TypeId} : ∀ {l m : List (Nat × TI)}, AllT P eqs l → AllT P eqs m → AllT P eqs (l ++ m)
  | [], _, _, h => h
  | q :: l, m, h, h' => ⟨h.1, AllT.append h.2 h'⟩
theorem TTok.ofList {P : Program} {eqs : List TypeId} {tt : T TI} {l : List (Nat × TI)} (he : T.pairs l = tt) (h : AllT P eqs l) : TTok P tt :=
  fun t ti ht => mkTI_ok (h.mem (t, ti) (T.pairs_mem (by rw [he]; exact ht)))

/- No memory yet. -/
def G0 : GS := ⟨.nil, 0, 1099511627776, [], []⟩
theorem WR.none (w : World) : WR ⟨w.heap.size, fun _ => False⟩ (fun _ => Option.none) G0 w := by
  refine ⟨fun b k hb => ?_, fun b b' k k' r r' hb => ?_, fun b k hb => ?_, fun b _ => rfl, by simp [G0], by simp [G0], Nat.le_refl _, fun b hb => hb.elim⟩ <;>
    (simp [G0, T.get_nil] at hb)

/- What a call that was evaluated says. -/
theorem RCs.returns {P : Program} {f : FuncId} {vs : Array Value} {ρ : Ren} {w : World} {nd : Bool} {g g0 : GS} (hg0 : ∀ n, ¬ Own ρ g0 n) {no : Nat → Prop} (h : RCs P f vs ⟨w.heap.size, no⟩ ρ (Own ρ g0) w (.ret nd (.bool (.c true)) g)) (hp : PCs g.pcs) :
    Calls P f vs w fun e w' => e = .returned (.bool true) ∧ Below w.heap.size w w' := by
  refine (h hp).2.1.mono fun e w' hR => ?_
  cases e with
  | returned v' =>
    obtain ⟨ρ', hv, hle, hw', hst⟩ := hR
    have := bool_inv hv
    subst this
    exact ⟨rfl, hst.os, hst.tape, hst.output, hst.size, fun k hk => hst.kept k hk (hg0 k)⟩
  | panicked ch => exact hR.elim
  | outgrown => exact hR.elim

section
open Go.ChangeShapes
variable {H : Type} {enc : TypeId × Value → H} {P : Program}
theorem Below.trodAll (hl : laidOutB P = true) {W W' : World} (hb : Below W.heap.size W W') : ∀ {ts : List TypeId} {vs : List Value} {ds : List (DataW H)} {ps : List MemPlace},
    (ts.all fun t => P.readableRec t && decide (t < P.types.size)) = true → DataW.TrodAll enc P W 0 (fun _ => true) true ts vs ds ps → (∀ x ∈ ps, x.block < W.heap.size) → DataW.TrodAll enc P W' 0 (fun b => decide (b < W.heap.size)) true ts vs ds ps
  | [], vs, ds, ps, hr, h, hlt => by
    cases vs with
    | nil => cases ds with
      | nil => simpa [DataW.TrodAll] using h
      | cons d ds => simp [DataW.TrodAll] at h
    | cons v vs => simp [DataW.TrodAll] at h
  | t :: ts, vs, ds, ps, hr, h, hlt => by
    obtain ⟨v0, vs0, d0, ds0, p0, q0, rfl, rfl, rfl, h0, r0⟩ := trodAll_cons h
    simp only [List.all_cons, Bool.and_eq_true] at hr
    have ht : P.readableRec t = true ∧ t < P.types.size := by simpa using hr.1
    exact trodAll_cons_mk (Below.trod hl ht.1 ht.2 h0 hb fun x hx => hlt x (List.mem_append_left _ hx)) (Below.trodAll hl hb (by simpa using hr.2) r0 fun x hx => hlt x (List.mem_append_right _ hx))

/- A LAW's LAST PART: true, and all reads as it did. -/
theorem post_law {f : Func} {s : ChangeSpec} {apart : Bool} {W W' : World} {args : Array Value} {ds : List (DataW H)} {before : List MemPlace} {tb : TypeId} (hl : laidOutB P = true) (hv : s.vars = []) (hW : DataW.Whole enc P f.params.toList s.vars apart W args.toList ds [] before)
    (hps : (f.params.toList.all fun t => P.readableRec t && decide (t < P.types.size)) = true) (hb : Below W.heap.size W W') (hrt : f.resultTypes = #[tb]) (hbool : P.underlying tb = some .bool)
    (hs : s.fn H (ds ++ []) = { results := [.lit (.bool true)], args := ds }) : s.post enc P f apart true false false W args (.bool true) W' := by
  obtain ⟨p, q, hA, hV, hbe, hfz, hnd⟩ := id hW
  have hV' := hV
  rw [hv] at hV'
  obtain ⟨_, hq⟩ := trodVars_none hV'
  subst hq
  have hbe : before = p := by simpa using hbe
  subst hbe
  have hlt : ∀ x ∈ before, x.block < W.heap.size := fun x hx => by simpa using hW.lt x hx
  refine ⟨ds, [], before, [], before, [], hW, ?_, ?_, ?_, hb.frame _, fun h => by cases h⟩
  · rw [hs, hrt]
    exact trodAll_cons_mk (shut_bool hbool _) trodAll_mk0
  · rw [hs]
    exact Below.trodAll hl hb hps hA hlt
  · rw [hs, hv]; exact rfl
end
end Go.Eng
