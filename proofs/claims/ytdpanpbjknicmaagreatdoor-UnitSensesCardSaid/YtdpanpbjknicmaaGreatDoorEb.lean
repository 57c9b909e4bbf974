/- THE ENGINE, part 2 of 3: operations, code, calls; the evaluator of calls is sound. No condition. -/
import Derived.Test.YtdpanpbjknicmaaGreatDoorEa
import Derived.Lib.SlBytesConst
import Derived.Lib.ConvBytes
import Derived.Laws.BytesString
import Derived.Defers
import Derived.Scope
import Derived.Conc.AtomicLaws2
/- Operations: equality of structs and arrays, one-place operators, conversions, interfaces, parts of results. -/
namespace Go.Eng
open Go.RowKit
set_option linter.unusedVariables false
set_option linter.unusedSimpArgs false

section
variable {q : Bool} {P : Program} {E : Env} {B : Base} {ρ : Ren} {O : Nat → Prop} {w : World} {g : GS}

theorem partOf_run {l : List AV} {xs : Array Value} (hl : VRs ρ l xs.toList) {t : TypeId} {off size : Nat} {agg : Bool} (hag : (isAgg t).run P w = .ok agg w) (hsz : (sizeOf t).run P w = .ok size w) {a : AV} (h : partOf agg l off size = some a) :
    ∃ v, (part t xs off).run P w = .ok v w ∧ VR ρ a v := by
  unfold partOf at h
  split at h
  · split at h
    · cases h
      refine ⟨.agg (xs.extract off (off + size)), by simp [part, hag, hsz, Result.andThen], VRs.agg ?_⟩
      have : (xs.extract off (off + size)).toList = (xs.toList.drop off).take size := by simp [List.extract_eq_take_drop]
      rw [this]
      exact (hl.drop off).take size
    · cases h
  · obtain ⟨x, hx, hvr⟩ := hl.get h
    have : xs[off]? = some x := by simpa using hx
    exact ⟨x, by simp [part, hag, this, Result.andThen], hvr⟩

theorem eqItems_range (d : Nat) (e : TypeId) (c : Nat) (xs ys : Array Value) (k n : Nat) : Op.eqItems d e c xs ys (List.range' k (n + 1)) = (do
    let a ← part e xs (k * c)
    let b ← part e ys (k * c)
    let r ← Op.equalIn d e a b
    if (!r) = true then pure false else Op.eqItems d e c xs ys (List.range' (k + 1) n)) := by
  rw [List.range'_succ]; rfl

set_option maxHeartbeats 1000000 in
theorem eqAll (htt : TTok P E.tt) (hw : WR B ρ g w) : ∀ d : Nat,
    (∀ (D : Nat) (i : TI) (t : TypeId) (x y : AV) (v u : Value) (b : BB), d ≤ D → TIok P t i → VR ρ x v → VR ρ y u → eqT E g d i x y = some b → (Op.equalIn D t v u).run P w = .ok b.v w) ∧
    (∀ (D : Nat) (fs : List Field) (l m : List AV) (xs ys : Array Value) (b : BB), d ≤ D → (fs.all fun f => (P.info? f.type).isSome && (P.underlying f.type).isSome) = true → VRs ρ l xs.toList → VRs ρ m ys.toList →
      eqF E g d (fs.map (mkFI P)) l m = some b → (Op.eqFields D xs ys fs).run P w = .ok b.v w) ∧
    (∀ (D : Nat) (i : TI) (e : TypeId) (n k off : Nat) (l m : List AV) (xs ys : Array Value) (b : BB), d ≤ D → TIok P e i → off = k * i.size → VRs ρ l xs.toList → VRs ρ m ys.toList →
      eqR E g d i n off l m = some b → (Op.eqItems D e (P.cellsOf e) xs ys (List.range' k n)).run P w = .ok b.v w) := by
  intro d
  induction d with
  | zero =>
    refine ⟨fun D i t x y v u b _ _ _ _ h => ?_, fun D fs l m xs ys b _ _ _ _ h => ?_, fun D i e n k off l m xs ys b _ _ _ _ _ h => ?_⟩
    · simp [eqT] at h
    · simp [eqF] at h
    · simp [eqR] at h
  | succ d ih =>
    obtain ⟨ihT, ihF, ihR⟩ := ih
    refine ⟨fun D i t x y v u b hD hi hx hy h => ?_, fun D fs l m xs ys b hD hok hl hm h => ?_, fun D i e n k off l m xs ys b hD hi hoff hl hm h => ?_⟩
    · obtain ⟨D, rfl⟩ : ∃ D', D = D' + 1 := ⟨D - 1, by omega⟩
      obtain ⟨ds, hd, hdk, hdf⟩ := hi.und
      simp only [eqT] at h
      split at h
      · rename_i fs l m hk
        rw [hk] at hdk
        obtain ⟨f, rfl, rfl⟩ := mkTK_st hdk
        split at h
        · rename_i hc
          obtain ⟨c1, c2⟩ := andB_true hc
          obtain ⟨xs, rfl, hxs⟩ := hx.agg_inv
          obtain ⟨ys, rfl, hys⟩ := hy.agg_inv
          have hst : P.stoodInHeld t = false := by
            have := hi.eqok c1
            simp only [eqOk, Bool.and_eq_true, Bool.not_eq_true'] at this
            exact this.2
          have hff : P.fieldsOf t = f := by simp [Program.fieldsOf, hd]
          rw [run_equalIn_struct w D t xs ys (by rw [hff]; exact hd) hst, hff]
          rw [c2] at hdf
          exact ihF D f.toList l m xs ys b (by omega) hdf hxs hys h
        · cases h
      · rename_i n e l m hk
        rw [hk] at hdk
        have := mkTK_arr hdk; subst this
        obtain ⟨xs, rfl, hxs⟩ := hx.agg_inv
        obtain ⟨ys, rfl, hys⟩ := hy.agg_inv
        split at h
        · rename_i ei hei
          have hei' := htt _ _ hei
          obtain ⟨j, hj, _⟩ := hei'.info
          rw [run_equalIn_array w D xs ys hd hj, List.range_eq_range']
          exact ihR D ei e n 0 0 l m xs ys b (by omega) hei' (by simp) hxs hys h
        · cases h
      · rw [← hdk] at h
        exact eqS_sat htt hw hd hx hy h D
    · cases fs with
      | nil =>
        simp only [List.map_nil, eqF, Option.some.injEq] at h
        subst h
        simp [Op.eqFields, BB.v]
      | cons f fs =>
        simp only [List.all_cons, Bool.and_eq_true] at hok
        obtain ⟨⟨hok1, hok2⟩, hok3⟩ := hok
        have hrest := ihF D fs l m xs ys
        have hok3' : (fs.all fun f => (P.info? f.type).isSome && (P.underlying f.type).isSome) = true := hok3
        simp only [List.map_cons, eqF] at h
        split at h
        · rename_i hb
          simp only [mkFI] at hb
          have hn' : ¬ (f.name ≠ "_") := by simpa using hb
          rw [Op.eqFields, if_neg hn']
          exact hrest b (by omega) hok3' hl hm h
        · rename_i hb
          simp only [mkFI] at hb
          have hn' : f.name ≠ "_" := by simpa using hb
          split at h
          · rename_i fi a c hfi ha hc
            have hfi' := htt _ _ hfi
            obtain ⟨u, hu⟩ := Option.isSome_iff_exists.1 hok2
            obtain ⟨j, hj⟩ := Option.isSome_iff_exists.1 hok1
            have hagg : (isAgg f.type).run P w = .ok (aggOf P f.type) w := by
              simp only [isAgg, Sem.run_bind, run_underlying hu, Result.andThen, aggOf, hu]
              cases u <;> rfl
            obtain ⟨v1, r1, q1⟩ := partOf_run (P := P) hl hagg (run_sizeOf w hj) ha
            obtain ⟨v2, r2, q2⟩ := partOf_run (P := P) hm hagg (run_sizeOf w hj) hc
            replace r1 : (part f.type xs f.offset).run P w = .ok v1 w := r1
            replace r2 : (part f.type ys f.offset).run P w = .ok v2 w := r2
            split at h
            · rename_i heq
              cases h
              have := ihT D fi f.type a c v1 v2 _ (by omega) hfi' q1 q2 heq
              simp only [Op.eqFields, if_pos hn', Sem.run_bind, r1, r2, this, Result.andThen, BB.v]
              simp
            · rename_i r hnf heq
              split at h
              · rename_i s hs
                cases h
                have h1 := ihT D fi f.type a c v1 v2 _ (by omega) hfi' q1 q2 heq
                have h2 := hrest s (by omega) hok3' hl hm hs
                simp only [Op.eqFields, if_pos hn', Sem.run_bind, r1, r2, h1, Result.andThen, bbAnd_v]
                cases r.v
                · simp
                · simpa using h2
              · cases h
            · cases h
          · cases h
    · cases n with
      | zero =>
        simp only [eqR, Option.some.injEq] at h
        subst h
        simp [Op.eqItems, BB.v]
      | succ n =>
        simp only [eqR] at h
        split at h
        · rename_i a c ha hc
          have hcs : P.cellsOf e = i.size := hi.cellsOf
          obtain ⟨v1, r1, q1⟩ := partOf_run (P := P) hl (hi.run_agg w) (hi.run_size w) ha
          obtain ⟨v2, r2, q2⟩ := partOf_run (P := P) hm (hi.run_agg w) (hi.run_size w) hc
          rw [eqItems_range]
          rw [hcs, ← hoff]
          split at h
          · rename_i heq
            cases h
            have := ihT D i e a c v1 v2 _ (by omega) hi q1 q2 heq
            simp only [Sem.run_bind, r1, r2, this, Result.andThen, BB.v]
            simp
          · rename_i r hnf heq
            split at h
            · rename_i s hs
              cases h
              have h1 := ihT D i e a c v1 v2 _ (by omega) hi q1 q2 heq
              have h2 := ihR D i e n (k + 1) (Nat.add off i.size) l m xs ys s (by omega) hi (by show off + i.size = (k + 1) * i.size; rw [hoff, Nat.succ_mul]) hl hm hs
              rw [hcs] at h2
              simp only [Sem.run_bind, r1, r2, h1, Result.andThen, bbAnd_v]
              cases r.v
              · simp
              · simpa using h2
            · cases h
          · cases h
        · cases h

theorem run_eqGuard_none (op : BinOp) (t : TypeId) (x y : Operand) {v u : Value} (h : ¬ ((∃ a b, v = .agg a ∧ u = .agg b) ∨ (v = .nilIface ∧ u = .nilIface))) : (eqGuard op t x y v u).run P w = .ok () w := by
  have key : ∀ (op : BinOp), (eqGuard op t x y v u).run P w = .ok () w := by
    intro op
    cases v <;> cases u <;> first
      | exact absurd (.inr ⟨rfl, rfl⟩) h
      | exact absurd (.inl ⟨_, _, rfl, rfl⟩) h
      | (cases op <;> rfl)
  exact key op

theorem neg_v (neg : Bool) (b : BB) : (Bool.rec (motive := fun _ => BB) b (B1 notB b) neg).v = (neg ^^ b.v) := by
  cases neg
  · simp
  · simp [B1_v, notB_eq]
theorem binOp_eq (neg : Bool) (t : TypeId) {v u : Value} (h1 : ∀ k n k' m, ¬ (v = .int k n ∧ u = .int k' m)) (h2 : ∀ a b, ¬ (v = .string a ∧ u = .string b)) (h3 : ∀ k a k' b, ¬ (v = .float k a ∧ u = .float k' b)) (h4 : ∀ k a b k' c d, ¬ (v = .complex k a b ∧ u = .complex k' c d)) {b : Bool}
    (h : (Op.equalIn 10000 t v u).run P w = .ok b w) : (binOp (if neg then .neq else .eql) t v u).run P w = .ok (.bool (neg ^^ b)) w := by
  have he : (Op.equal t v u).run P w = .ok b w := h
  cases neg
  · simp only [Bool.false_eq_true, if_false, Bool.false_bne]
    unfold binOp
    split <;> first
      | exact absurd ⟨rfl, rfl⟩ (h1 _ _ _ _)
      | exact absurd ⟨rfl, rfl⟩ (h2 _ _)
      | exact absurd ⟨rfl, rfl⟩ (h3 _ _ _ _)
      | exact absurd ⟨rfl, rfl⟩ (h4 _ _ _ _ _ _)
      | (simp_all [Result.andThen]; done)
  · simp only [if_true]
    unfold binOp
    split <;> first
      | exact absurd ⟨rfl, rfl⟩ (h1 _ _ _ _)
      | exact absurd ⟨rfl, rfl⟩ (h2 _ _)
      | exact absurd ⟨rfl, rfl⟩ (h3 _ _ _ _)
      | exact absurd ⟨rfl, rfl⟩ (h4 _ _ _ _ _ _)
      | (simp_all [Result.andThen]; done)

theorem eqBin_mono (l : List PC) (E : Env) (g : GS) (neg : Bool) (t : TypeId) (c : Bool) (x y : AV) (h : l <:+ g.pcs) : Mono l (eqBin E g neg t c x y) := by
  unfold eqBin
  split
  · refine mono_tiK fun i => ?_
    split
    · exact h
    · trivial
  · exact mono_tiK fun i => mono_ck (mono_oK fun _ => h)
  · exact mono_tiK fun i => mono_oK fun _ => h
end
end Go.Eng

/- Operations with one or two operands, conversions, interfaces, parts of results. -/
namespace Go.Eng
open Go.RowKit
set_option linter.unusedVariables false
set_option linter.unusedSimpArgs false

section
variable {q : Bool} {P : Program} {E : Env} {B : Base} {ρ : Ren} {O : Nat → Prop} {w : World} {g : GS}

def binRun (P : Program) (w : World) (op : BinOp) (t : TypeId) (x y : Operand) (v u : Value) : Result Value := (do eqGuard op t x y v u; binOp op t v u : Sem Value).run P w
theorem binRun_of {op : BinOp} {t : TypeId} {x y : Operand} {v u : Value} (h : (eqGuard op t x y v u).run P w = .ok () w) : binRun P w op t x y v u = (binOp op t v u).run P w := by
  simp only [binRun, Sem.run_bind, h, Result.andThen]

theorem eqS_bad_l (k : TK) (y : AV) : eqS E g k .bad y = none := by cases k <;> cases y <;> rfl
theorem eqS_bad_r (k : TK) (x : AV) : eqS E g k x .bad = none := by cases k <;> cases x <;> rfl

theorem eqBin_sat (htt : TTok P E.tt) (hw : WR B ρ g w) (hO : O = Own ρ g) (neg : Bool) (t : TypeId) (xo yo : Operand) {x y : AV} {v u : Value} (hx : VR ρ x v) (hy : VR ρ y u)
    (h1 : ∀ k n k' m, ¬ (v = .int k n ∧ u = .int k' m)) (h2 : ∀ a b, ¬ (v = .string a ∧ u = .string b)) :
    Sat q P B ρ O w RV (binRun P w (if neg then .neq else .eql) t xo yo v u) (eqBin E g neg t (orB (isConstX xo) (isConstX yo)) x y) := by
  obtain ⟨op, hop⟩ : ∃ op : BinOp, op = (if neg then .neq else .eql) := ⟨_, rfl⟩
  rw [← hop]
  unfold eqBin
  split
  · have : v = .nilIface := by cases hx; rfl
    subst this
    have : u = .nilIface := by cases hy; rfl
    subst this
    refine sat_tiK htt fun i hi => ?_
    obtain ⟨d, hd, hdk, _⟩ := hi.und
    split
    · rename_i hk hc
      rw [hk] at hdk
      obtain ⟨ms, rfl⟩ := mkTK_ifc hdk
      rw [orB_eq] at hc
      have hg : (eqGuard op t xo yo .nilIface .nilIface).run P w = .ok () w := by
        have : (isConstX xo || isConstX yo) = true := hc
        subst hop
        cases neg <;> cases xo <;> cases yo <;> first
          | (simp [isConstX] at this; done)
          | rfl
      refine sat_val (a := .bool (notB neg)) ?_ (.bool (.c _)) hw hO
      rw [binRun_of hg]
      have he' : ∀ D, (Op.equalIn (D + 1) t .nilIface .nilIface).run P w = .ok true w := by
        intro D; simp only [Op.equalIn, Sem.run_bind, run_underlying hd, Result.andThen]; rfl
      have he := he' 9999
      have := binOp_eq (P := P) (w := w) neg t (v := .nilIface) (u := .nilIface) (by rintro _ _ _ _ ⟨h, _⟩; cases h) (by rintro _ _ ⟨h, _⟩; cases h) (by rintro _ _ _ _ ⟨h, _⟩; cases h) (by rintro _ _ _ _ _ _ ⟨h, _⟩; cases h) he
      rw [hop, this, notB_eq]
      cases neg <;> rfl
    · trivial
  · obtain ⟨xs, rfl, hxs⟩ := hx.agg_inv
    obtain ⟨ys, rfl, hys⟩ := hy.agg_inv
    refine sat_tiK htt fun i hi => sat_ck fun hc => sat_oK fun b hb => ?_
    have hok := hi.eqok hc
    simp only [eqOk, Bool.and_eq_true, Bool.not_eq_true'] at hok
    have he := (eqAll htt hw 200).1 10000 i t _ _ _ _ b (by omega) hi hx hy hb
    have := binOp_eq (P := P) (w := w) neg t (v := .agg xs) (u := .agg ys) (by rintro _ _ _ _ ⟨h, _⟩; cases h) (by rintro _ _ ⟨h, _⟩; cases h) (by rintro _ _ _ _ ⟨h, _⟩; cases h) (by rintro _ _ _ _ _ _ ⟨h, _⟩; cases h) he
    refine sat_val (a := .bool (neg ^^ b.v)) ?_ ?_ hw hO
    · rw [binRun_of (run_eqGuard_agg w _ t xo yo xs ys hok.1), hop]; exact this
    · rw [← neg_v]; exact .bool _
  · rename_i hn1 hn2
    refine sat_tiK htt fun i hi => sat_oK fun b hb => ?_
    obtain ⟨d, hd, hdk, _⟩ := hi.und
    rw [← hdk] at hb
    have he := eqS_sat htt hw hd hx hy hb 9999
    have hxb : x ≠ .bad := fun e => by subst e; rw [eqS_bad_l] at hb; cases hb
    have hyb : y ≠ .bad := fun e => by subst e; rw [eqS_bad_r] at hb; cases hb
    have hfl : ∀ k n k' m, ¬ (v = .float k n ∧ u = .float k' m) := by
      rintro k n k' m ⟨rfl, rfl⟩
      cases hx; exact hxb rfl
    have hcx : ∀ k a b k' c d, ¬ (v = .complex k a b ∧ u = .complex k' c d) := by
      rintro k a b' k' c d' ⟨rfl, rfl⟩
      cases hx; exact hxb rfl
    have := binOp_eq (P := P) (w := w) neg t h1 h2 hfl hcx he
    refine sat_val (a := .bool (neg ^^ b.v)) ?_ ?_ hw hO
    · rw [binRun_of, hop]; exact this
      refine run_eqGuard_none _ t xo yo ?_
      rintro (⟨a, c, rfl, rfl⟩ | ⟨rfl, rfl⟩)
      · cases hx with
        | agg l _ _ _ =>
          cases hy with
          | agg m _ _ _ => exact hn2 _ _ rfl rfl
          | any => exact hyb rfl
        | any => exact hxb rfl
      · cases hx with
        | nili =>
          cases hy with
          | nili => exact hn1 rfl rfl
          | any => exact hyb rfl
        | any => exact hxb rfl
    · rw [← neg_v]; exact .bool _

theorem oBin_mono (l : List PC) (E : Env) (g : GS) (op : BinOp) (t : TypeId) (c : Bool) (x y : AV) (h : l <:+ g.pcs) : Mono l (oBin E g op t c x y) := by
  unfold oBin
  split
  · split
    · exact oShift_mono _ _ _ _ _ _ h
    · exact oShift_mono _ _ _ _ _ _ h
    · exact mono_ck (intBin_mono _ _ _ _ _ _ h)
  · exact strBin_mono _ _ _ _ _ h
  · split
    · exact eqBin_mono _ _ _ _ _ _ _ _ h
    · exact eqBin_mono _ _ _ _ _ _ _ _ h
    · trivial
theorem oBin_sat (htt : TTok P E.tt) (hw : WR B ρ g w) (hO : O = Own ρ g) (op : BinOp) (t : TypeId) (xo yo : Operand) {x y : AV} {v u : Value} (hx : VR ρ x v) (hy : VR ρ y u) :
    Sat q P B ρ O w RV (binRun P w op t xo yo v u) (oBin E g op t (orB (isConstX xo) (isConstX yo)) x y) := by
  unfold oBin
  split
  · rename_i k a j b
    have := hx.int_inv; subst this
    have := hy.int_inv; subst this
    have hg : ∀ op, (eqGuard op t xo yo (.int k a.v) (.int j b.v)).run P w = .ok () w := fun op => run_eqGuard_none _ _ _ _ (by rintro (⟨_, _, h, _⟩ | ⟨h, _⟩) <;> cases h)
    rw [binRun_of (hg op)]
    split
    · have := oShift_sat (q := q) (P := P) hw hO true k j a b
      have e : (binOp .shl t (.int k a.v) (.int j b.v)).run P w = (Op.shift .shl k a.v j b.v).run P w := by simp [binOp]
      rw [e]; exact this
    · have := oShift_sat (q := q) (P := P) hw hO false k j a b
      have e : (binOp .shr t (.int k a.v) (.int j b.v)).run P w = (Op.shift .shr k a.v j b.v).run P w := by simp [binOp]
      rw [e]; exact this
    · rename_i h1 h2
      refine sat_ck fun hc => ?_
      have := kindNo_inj hc; subst this
      exact intBin_sat hw hO op t k a b ⟨h1, h2⟩
  · rename_i l m
    obtain ⟨s, rfl, hs⟩ := hx.str_inv
    obtain ⟨s', rfl, hs'⟩ := hy.str_inv
    rw [binRun_of (run_eqGuard_none _ _ _ _ (by rintro (⟨_, _, h, _⟩ | ⟨h, _⟩) <;> cases h))]
    exact strBin_sat hw hO op t hs hs'
  · rename_i hn1 hn2
    have h1 : ∀ k n k' m, x ≠ .bad → y ≠ .bad → ¬ (v = .int k n ∧ u = .int k' m) := by
      rintro k n k' m hxb hyb ⟨rfl, rfl⟩
      cases hx with
      | int _ a => cases hy with
        | int _ b => exact hn1 _ _ _ _ rfl rfl
        | any => exact hyb rfl
      | any => exact hxb rfl
    have h2 : ∀ a b, x ≠ .bad → y ≠ .bad → ¬ (v = .string a ∧ u = .string b) := by
      rintro a b hxb hyb ⟨rfl, rfl⟩
      cases hx with
      | str l _ _ => cases hy with
        | str m _ _ => exact hn2 _ _ rfl rfl
        | any => exact hyb rfl
      | any => exact hxb rfl
    have bad : ∀ neg, x = .bad ∨ y = .bad → ∀ s : Result Value, Sat q P B ρ O w RV s (eqBin E g neg t (orB (isConstX xo) (isConstX yo)) x y) := by
      intro neg hb s
      unfold eqBin
      rcases hb with rfl | rfl
      · split
        · exact absurd ‹AV.bad = AV.nili› (by simp)
        · exact absurd ‹AV.bad = AV.agg _› (by simp)
        · exact sat_tiK htt fun i hi => by rw [eqS_bad_l]; trivial
      · split
        · exact absurd ‹AV.bad = AV.nili› (by simp)
        · exact absurd ‹AV.bad = AV.agg _› (by simp)
        · exact sat_tiK htt fun i hi => by rw [eqS_bad_r]; trivial
    by_cases hxb : x = .bad
    · split
      · exact bad _ (.inl hxb) _
      · exact bad _ (.inl hxb) _
      · trivial
    by_cases hyb : y = .bad
    · split
      · exact bad _ (.inr hyb) _
      · exact bad _ (.inr hyb) _
      · trivial
    split
    · exact eqBin_sat htt hw hO false t xo yo hx hy (fun k n k' m => h1 k n k' m hxb hyb) (fun a b => h2 a b hxb hyb)
    · exact eqBin_sat htt hw hO true t xo yo hx hy (fun k n k' m => h1 k n k' m hxb hyb) (fun a b => h2 a b hxb hyb)
    · trivial

theorem oUn_mono (l : List PC) (g : GS) (op : UnOp) (x : AV) (h : l <:+ g.pcs) : Mono l (oUn g op x) := by
  unfold oUn; split <;> first | exact h | trivial
theorem oUn_sat (hw : WR B ρ g w) (hO : O = Own ρ g) (op : UnOp) {x : AV} {v : Value} (hx : VR ρ x v) : Sat q P B ρ O w RV ((Op.unary op v).run P w) (oUn g op x) := by
  unfold oUn
  split
  · rename_i k n
    have := hx.int_inv; subst this
    refine sat_val (a := .int k (N1 (fun x => wrapF k (subI 0 x)) n).v) ?_ (.int k _) hw hO
    rw [N1_v, wrapF_eq, subI_eq]
    simp [Op.unary, Op.intArith]
  · rename_i k n
    have := hx.int_inv; subst this
    refine sat_val (a := .int k (N1 (fun x => bitsF .xor k (if k.signed then -1 else k.max) x) n).v) ?_ (.int k _) hw hO
    rw [N1_v, bitsF_eq]
    simp [Op.unary, Op.intBits, bitsM]
  · rename_i b
    have := hx.bool_inv; subst this
    refine sat_val (a := .bool (B1 notB b).v) ?_ (.bool _) hw hO
    rw [B1_v, notB_eq]
    simp [Op.unary]
  · trivial

theorem oMakeIface_mono (l : List PC) (E : Env) (g : GS) (t : TypeId) (x : AV) (h : l <:+ g.pcs) : Mono l (oMakeIface E g t x) := by
  unfold oMakeIface; refine mono_tiK fun i => ?_; split
  · trivial
  · exact h
theorem oMakeIface_sat (htt : TTok P E.tt) (hw : WR B ρ g w) (hO : O = Own ρ g) (t : TypeId) {x : AV} {v : Value} (hx : VR ρ x v) :
    Sat q P B ρ O w RV ((Instr.makeInterface t v).run P w) (oMakeIface E g t x) := by
  unfold oMakeIface
  refine sat_tiK htt fun i hi => ?_
  obtain ⟨d, hd, hdk, _⟩ := hi.und
  split
  · trivial
  · rename_i hk
    refine sat_val (a := .iface t v) ?_ (.ifc t _ _ hx) hw hO
    simp only [Instr.makeInterface, Sem.run_bind, run_underlying hd, Result.andThen]
    split
    · exact absurd (by rw [← hdk]; rfl) hk
    · rfl

theorem oTypeAssert_mono (l : List PC) (E : Env) (g : GS) (x : AV) (t : TypeId) (ok : Bool) (h : l <:+ g.pcs) : Mono l (oTypeAssert E g x t ok) := by
  unfold oTypeAssert; split
  · refine mono_tiK fun i => ?_
    split
    · trivial
    · split
      · exact h
      · split
        · exact h
        · trivial
  · trivial
theorem oTypeAssert_sat (htt : TTok P E.tt) (hw : WR B ρ g w) (hO : O = Own ρ g) {x : AV} {v : Value} (hx : VR ρ x v) (xt t : TypeId) (ok : Bool) :
    Sat q P B ρ O w RV ((Instr.typeAssert v xt t ok).run P w) (oTypeAssert E g x t ok) := by
  unfold oTypeAssert
  split
  · rename_i u a
    obtain ⟨y, rfl, hy⟩ : ∃ y, v = .iface u y ∧ VR ρ a y := by
      cases hx with | ifc _ _ y h => exact ⟨y, rfl, h⟩
    refine sat_tiK htt fun i hi => ?_
    obtain ⟨d, hd, hdk, _⟩ := hi.und
    obtain ⟨z, hz, hzv⟩ := hi.run_zero w
    split
    · trivial
    · rename_i hk
      have hd' : ∀ ms, d ≠ .interface ms := fun ms e => hk (by rw [← hdk, e]; rfl)
      split
      · rename_i hut
        have := eqN_true hut; subst this
        cases ok
        · refine sat_val (a := y) ?_ hy hw hO
          simp only [Instr.typeAssert, Sem.run_bind, run_underlying hd, Result.andThen]
          cases d <;> first | exact absurd rfl (hd' _) | simp
        · refine sat_val (a := .tuple #[y, .bool true]) ?_ (VRs.tup (VRs.cons hy (VRs.cons (.bool (.c true)) (VRs.nil ρ)))) hw hO
          simp only [Instr.typeAssert, Sem.run_bind, run_underlying hd, Result.andThen]
          cases d <;> first | exact absurd rfl (hd' _) | simp
      · rename_i hut
        have hne := eqN_false hut
        split
        · refine sat_val (a := .tuple #[z, .bool false]) ?_ (VRs.tup (VRs.cons (hzv ρ) (VRs.cons (.bool (.c false)) (VRs.nil ρ)))) hw hO
          simp only [Instr.typeAssert, Sem.run_bind, run_underlying hd, Result.andThen]
          cases d <;> first | exact absurd rfl (hd' _) | simp [hne, hz, Result.andThen]
        · trivial
  · trivial

theorem oExtract_sat (hw : WR B ρ g w) (hO : O = Own ρ g) {x : AV} {v : Value} (hx : VR ρ x v) (i : Nat) : Sat q P B ρ O w RV ((Instr.extract v i).run P w) (oExtract g x i) := by
  unfold oExtract
  split
  · obtain ⟨xs, rfl, hxs⟩ := hx.tup_inv
    refine sat_oK fun a ha => ?_
    obtain ⟨y, hy, hvr⟩ := hxs.get ha
    refine sat_val (a := y) ?_ hvr hw hO
    have : xs[i]? = some y := by simpa using hy
    simp [Instr.extract, this]
  · trivial

end
end Go.Eng

/- Operations: conversions, append, copy. -/
namespace Go.Eng
open Go.RowKit
set_option linter.unusedVariables false
set_option linter.unusedSimpArgs false

section
variable {q : Bool} {P : Program} {E : Env} {B : Base} {ρ : Ren} {O : Nat → Prop} {w : World} {g : GS}

/- Bytes of cells. -/
def IsBytes (l : List AV) (m : List N) : Prop := l = m.map (fun n => .int .u8 n) ∧ ∀ n ∈ m, 0 ≤ n.v ∧ n.v < 256
theorem sat_bytesOf {α : Type} {R : Ren → AV → α → Prop} {s : Result α} : ∀ (l : List AV) (g : GS) (K : List N → GS → OR), WR B ρ g w → O = Own ρ g → (∀ m g' l, l <:+ g'.pcs → Mono l (K m g')) →
    (∀ m g', IsBytes l m → WR B ρ g' w → O = Own ρ g' → Sat q P B ρ O w R s (K m g')) → Sat q P B ρ O w R s (bytesOf g l K)
  | [], g, K, hw, hO, hm, h => h [] g ⟨rfl, fun n hn => by cases hn⟩ hw hO
  | c :: l, g, K, hw, hO, hm, h => by
    unfold bytesOf
    split
    · rename_i he; cases he
    · rename_i n l' he
      cases he
      cases n with
      | c z =>
        refine sat_ck fun hc => ?_
        obtain ⟨c1, c2⟩ := andB_true hc
        have h0 := leI_le c1
        have h1 := ltI_lt c2
        refine sat_bytesOf l g _ hw hO (fun m g' l hl => hm _ _ _ hl) fun m g' hb hw' hO' => h _ _ ⟨by rw [hb.1]; rfl, fun n hn => ?_⟩ hw' hO'
        cases hn with
        | head => exact ⟨h0, h1⟩
        | tail _ hn => exact hb.2 n hn
      | s t =>
        refine sat_bytesOf l g _ hw hO (fun m g' l hl => hm _ _ _ (List.IsSuffix.trans hl (List.suffix_cons _ _))) fun m g' hb hw' hO' => ?_
        refine sat_of_mono (l := .b (andB (leI 0 t) (ltI t 256)) true :: g'.pcs) (hm _ _ _ (List.suffix_refl _)) fun hp => ?_
        have hc : andB (leI 0 t) (ltI t 256) = true := hp (.b (andB (leI 0 t) (ltI t 256)) true) (List.mem_cons_self)
        obtain ⟨c1, c2⟩ := andB_true hc
        have h0 := leI_le c1
        have h1 := ltI_lt c2
        refine h _ _ ⟨by rw [hb.1]; rfl, fun n hn => ?_⟩ (hw'.of_gs rfl rfl rfl) (by rw [hO']; exact (Own.of_gs rfl).symm)
        cases hn with
        | head => exact ⟨h0, h1⟩
        | tail _ hn => exact hb.2 n hn
    · trivial

theorem foldl_push (m : List Int) : ∀ s : ByteArray, (m.foldl (fun r (n : Int) => r.push (UInt8.ofNat n.toNat)) s).data.toList = s.data.toList ++ m.map fun n => UInt8.ofNat n.toNat := by
  induction m with
  | nil => intro s; simp
  | cons n m ih =>
    intro s
    rw [List.foldl_cons, ih]
    have : (s.push (UInt8.ofNat n.toNat)).data.toList = s.data.toList ++ [UInt8.ofNat n.toNat] := by
      show (s.data.push _).toList = _
      simp
    rw [this]; simp
theorem bytes_str {l : List AV} {m : List N} (hb : IsBytes l m) {xs : List Value} (hv : VRs ρ l xs) : xs = (m.map N.v).map (Value.int .u8) ∧
    (((m.map N.v).foldl (fun r n => r.push (UInt8.ofNat n.toNat)) ByteArray.empty).data.toList.map fun c => (c.toNat : Int)) = m.map N.v := by
  constructor
  · obtain ⟨h1, h2⟩ := hb
    subst h1
    have hlen := hv.1
    apply List.ext_getElem?
    intro i
    by_cases hi : i < m.length
    · have ha : (m.map fun n => AV.int .u8 n)[i]? = some (.int .u8 m[i]) := by simp [hi]
      obtain ⟨x, hx, hvr⟩ := hv.get ha
      rw [hx, hvr.int_inv]
      simp [hi]
    · simp only [List.length_map] at hlen
      rw [List.getElem?_eq_none (by omega), List.getElem?_eq_none (by simp; omega)]
  · rw [foldl_push]
    simp only [ByteArray.empty, List.map_append, List.map_map]
    have : (ByteArray.emptyWithCapacity 0).data.toList = [] := rfl
    rw [this]
    simp only [List.map_nil, List.nil_append]
    apply List.map_congr_left
    intro n hn
    obtain ⟨h0, h1⟩ := hb.2 n hn
    simp only [Function.comp_apply, UInt8.toNat_ofNat']
    omega

theorem oConvert_mono (l : List PC) (E : Env) (g : GS) (s d : TypeId) (x : AV) (h : l <:+ g.pcs) : Mono l (oConvert E g s d x) := by
  unfold oConvert
  refine mono_tiK fun si => mono_tiK fun di => ?_
  split
  · exact h
  · exact h
  · refine mono_tiK fun ei => ?_
    split
    · exact mono_oNewK h fun _ _ h => h
    · trivial
  · split
    · refine mono_tiK fun ei => ?_
      split
      · exact h
      · trivial
    · trivial
  · split
    · refine mono_tiK fun ei => ?_
      split
      · exact mono_oK fun _ => mono_bytesOf _ _ _ h fun _ _ h => h
      · trivial
    · trivial
  · split
    · refine mono_tiK fun ei => ?_
      split
      · exact mono_oK fun _ => mono_bytesOf _ _ _ h fun _ _ h => h
      · trivial
    · trivial
  · split
    · refine mono_tiK fun ei => mono_ck ?_
      split
      · exact mono_ck h
      · trivial
    · trivial
  · refine mono_ck (mono_tiK fun ei => ?_)
    split
    · split
      · exact h
      · trivial
    · trivial
  · refine mono_ck (mono_tiK fun ei => ?_)
    split
    · split
      · exact h
      · trivial
    · trivial
  · trivial

theorem bytesWorld_eq (w : World) (e : TypeId) (s : ByteArray) : Lib.bytesWorld w e s = { w with heap := w.heap.push (.cells (Lib.bytesCells w e s) e ((Lib.bytesCells w e s).size, (Lib.bytesCells w e s).size + 1)), drawn := w.drawn + 1 } := by
  have h : (Lib.bytesWorld w e s).heap = w.heap.push (.cells (Lib.bytesCells w e s) e ((Lib.bytesCells w e s).size, (Lib.bytesCells w e s).size + 1)) := by
    apply Array.ext_getElem?
    intro i
    by_cases hi : i < w.heap.size
    · rw [Lib.bytesWorld_at_old w e s i hi, Array.getElem?_push, if_neg (by omega)]
    · by_cases hi' : i = w.heap.size
      · subst hi'; rw [Lib.bytesWorld_at_new]; simp
      · rw [Array.getElem?_eq_none (by rw [Lib.bytesWorld_size]; omega), Array.getElem?_eq_none (by simp; omega)]
  calc Lib.bytesWorld w e s = { w with heap := (Lib.bytesWorld w e s).heap, drawn := w.drawn + 1 } := by
        simp only [Lib.bytesWorld, World.freeze, World.alloc, World.drew]
        rfl
    _ = _ := by rw [h]
theorem grownCap_ge (w : World) (need old : Nat) (e : TypeId) : need ≤ grownCap w need old e := by simp [grownCap, Question.cut]

theorem mkTK_uptr {d : TypeDesc} (h : mkTK P d = .uptr) : d = .unsafePointer := by cases d <;> simp [mkTK] at h; rfl
theorem run_toUptr {st dt e : TypeId} (hs : P.underlying st = some (.pointer e)) (hd : P.underlying dt = some .unsafePointer) {a : Addr} {arr : Array Value} {t : TypeId} {fr : Nat × Nat}
    (h1 : w.heap[a.block]? = some (.cells arr t fr)) (h2 : a.off < arr.size) {n : Nat} (h3 : (sizeOf e).run P w = .ok n w) (h4 : n ≠ 0) :
    (convert st dt (.pointer (some a))).run P w = .ok (.pointer (some a)) w := by
  have hsh : (shape a.block).run P w = .ok (some (t, arr.size)) w := by simp [shape, Sem.run, World.shape?, h1]
  have hseen : (Conv.seenAt a).run P w = .ok a w := by
    simp [Conv.seenAt, viewAt, hsh, Result.andThen]
  simp only [convert, Sem.run_bind, run_underlying hs, run_underlying hd, Result.andThen]
  simp only [Conv.unsafePointer, Sem.run_bind, run_underlying hs, run_underlying hd, Result.andThen, hseen, cellsIn, hsh, h3, Sem.run_pure]
  have : ¬ (arr.size ≤ a.off) := by omega
  simp [h4, this]
theorem WR.markStr (hw : WR B ρ g w) {b : Nat} {plain : Bool} {size : Nat} {cs : T AV} (hb : g.bl.get b = some (.cells true plain size cs)) {r : BR} (hr : ρ b = some r) :
    ∃ w', (∀ o, (markStringish ⟨r.blk, o, none⟩).run P w = .ok () w') ∧ WR B ρ (g.put b (.cells true false size cs)) w' ∧ Stp (Own ρ g) w (Own ρ (g.put b (.cells true false size cs))) w' := by
  have hok := (hw.blk b _ hb).resolve_left (by simp)
  obtain ⟨r', hr', hok⟩ := hok
  rw [hr] at hr'; cases hr'
  obtain ⟨hB, arr, e, fr, h1, h2, h3, h4, h5, h6⟩ := hok
  have hlt : r.blk < w.heap.size := (Array.getElem?_eq_some_iff.1 h1).1
  let fr' : Nat × Nat := if fr.1 == fr.2 then (arr.size, arr.size + 1) else (min fr.1 arr.size, max fr.2 (arr.size + 1))
  have hfr' : FrOK fr' arr.size := by
    simp only [fr', FrOK] at *
    split
    · exact .inr (Nat.le_refl _)
    · rename_i hne
      have : fr.1 ≠ fr.2 := by simpa using hne
      right; simp only; omega
  refine ⟨{ w with heap := w.heap.setIfInBounds r.blk (.cells arr e fr') }, fun o => ?_, ?_⟩
  · have hsh : (shape r.blk).run P w = .ok (some (e, arr.size)) w := by simp [shape, Sem.run, World.shape?, h1]
    simp only [markStringish, Sem.run_bind, hsh, Result.andThen, freeze, Sem.run]
    congr 1
    simp only [World.freeze, if_neg (Nat.one_ne_zero)]
    congr 1
    apply Array.ext_getElem?
    intro k
    rw [Array.getElem?_modify, Array.getElem?_setIfInBounds]
    by_cases hk : r.blk = k
    · subst hk; rw [if_pos rfl, if_pos rfl, if_pos hlt, h1]
      obtain ⟨lo, hi⟩ := fr
      simp [fr']
    · rw [if_neg hk, if_neg hk]
  · exact hw.put hb (.cells plain size cs) hr (.cells arr e fr') (.cells true false size cs) (.cells _ _ _)
      ⟨hB, arr, e, fr', by simp [hlt], h2, h3, hfr', (fun h => by cases h), h6⟩
theorem oConvert_sat (htt : TTok P E.tt) (hw : WR B ρ g w) (hO : O = Own ρ g) (st dt : TypeId) {x : AV} {v : Value} (hx : VR ρ x v) (hq : q = true → ∀ i, TIok P dt i → ∀ e, i.k ≠ .sl e) :
    Sat q P B ρ O w RV ((convert st dt v).run P w) (oConvert E g st dt x) := by
  unfold oConvert
  refine sat_tiK htt fun si hsi => sat_tiK htt fun di hdi => ?_
  obtain ⟨sd, hsd, hsk, _⟩ := hsi.und
  obtain ⟨dd, hdd, hdk, _⟩ := hdi.und
  split
  · rename_i k j n hk
    rw [hk] at hdk; have := mkTK_int hdk; subst this
    have := hx.int_inv; subst this
    refine sat_val (a := .int k (N1 (wrapF k) n).v) ?_ (.int k _) hw hO
    rw [N1_v, wrapF_eq]
    simp [convert, run_underlying hsd, run_underlying hdd, Conv.intToInt]
  · rename_i l hk
    rw [hk] at hdk; have := mkTK_str hdk; subst this
    obtain ⟨s, rfl, hs⟩ := hx.str_inv
    refine sat_val (a := .string s) ?_ (.str l s hs) hw hO
    simp [convert, run_underlying hsd, run_underlying hdd]
  · rename_i e l hk
    have hq0 : q = false := by
      cases q
      · rfl
      · exact absurd hk (hq rfl di hdi e)
    subst hq0
    rw [hk] at hdk; have := mkTK_sl hdk; subst this
    obtain ⟨s, rfl, hs⟩ := hx.str_inv
    refine sat_tiK htt fun ei hei => ?_
    obtain ⟨ed, hed, hek, _⟩ := hei.und
    split
    · rename_i hk8
      rw [hk8] at hek; have := mkTK_int hek; subst this
      have hv : VRs ρ (l.map fun c => AV.int .u8 c) (s.data.toList.map fun b => Value.int .u8 b.toNat) := by
        have hlen := congrArg List.length hs
        simp only [List.length_map] at hlen
        refine ⟨by simp only [List.length_map]; exact hlen.symm, fun i a y ha hy => ?_⟩
        simp only [List.getElem?_map, Option.map_eq_some_iff] at ha hy
        obtain ⟨n, hn, rfl⟩ := ha
        obtain ⟨b, hb, rfl⟩ := hy
        have := congrArg (fun m : List Int => m[i]?) hs
        simp only [List.getElem?_map, hn, hb, Option.map_some, Option.some.injEq] at this
        rw [this]; exact .int _ _
      refine sat_oNewK hw hO hv (arr := Lib.bytesCells w e s) (ys := List.replicate (grownCap w s.size 0 e - s.size) (.int .u8 0)) (by simp [Lib.bytesCells]) e ((Lib.bytesCells w e s).size, (Lib.bytesCells w e s).size + 1) (w.drawn + 1) (.inr (Nat.le_refl _)) (fun h => by cases h) fun g' ρ' hle hρ hw' hst _ => ?_
      have hsz : s.size = l.length := str_len hs
      refine ⟨ρ', .slice (some ⟨w.heap.size, 0, none⟩) s.size (grownCap w s.size 0 e), _, ?_, ?_, hle, hw', hst, (fun h => by cases h)⟩
      · rw [Lib.run_convert_string_bytes w st dt e s hsd hdd hed, bytesWorld_eq]
      · rw [hsz]
        refine .slu g.nx 0 l.length 1 _ _ hρ (by rw [← hsz]; exact grownCap_ge _ _ _ _) ?_
        have := grownCap_ge w s.size 0 e
        rw [← hsz]
        simp [Lib.bytesCells]
        omega
    · trivial
  · rename_i hk
    rw [hk] at hdk; have := mkTK_str hdk; subst this
    split
    · rename_i e hk2
      rw [hk2] at hsk; have := mkTK_sl hsk; subst this
      refine sat_tiK htt fun ei hei => ?_
      obtain ⟨ed, hed, hek, _⟩ := hei.und
      split
      · rename_i hk8
        rw [hk8] at hek; have := mkTK_int hek; subst this
        have : v = .slice none 0 0 := by cases hx; rfl
        subst this
        refine sat_val (a := .string .empty) ?_ (.str [] _ rfl) hw hO
        simp [convert, run_underlying hsd, run_underlying hdd, run_underlying hed, Conv.bytesToString]
      · trivial
    · trivial
  · rename_i b o len cap hk
    rw [hk] at hdk; have := mkTK_str hdk; subst this
    split
    · rename_i e hk2
      rw [hk2] at hsk; have := mkTK_sl hsk; subst this
      refine sat_tiK htt fun ei hei => ?_
      obtain ⟨ed, hed, hek, _⟩ := hei.und
      split
      · rename_i hk8
        rw [hk8] at hek; have := mkTK_int hek; subst this
        obtain ⟨r, hr, rfl⟩ : ∃ r, ρ b = some r ∧ v = .slice (some ⟨r.blk, r.base + o, none⟩) len cap := by
          cases hx with | slx _ _ _ _ r h => exact ⟨r, h, rfl⟩
        refine sat_oK fun l hl => sat_bytesOf l g _ hw hO (fun _ _ _ h => h) fun m g' hb hw' hO' => ?_
        obtain ⟨xs, h1, h2, h3⟩ := hw.loadCells (P := P) hr hl
        obtain ⟨e1, e2⟩ := bytes_str hb h1
        rw [e1] at h3
        refine sat_val (a := .string ((m.map N.v).foldl (fun r n => r.push (UInt8.ofNat n.toNat)) ByteArray.empty)) ?_ (.str m _ e2) hw' hO'
        have hc := run_bytesToString (P := P) w ⟨r.blk, r.base + o, none⟩ len cap (m.map N.v) h3
        simp only [convert, Sem.run_bind, run_underlying hsd, run_underlying hdd, Result.andThen, run_underlying hed]
        exact hc
      · trivial
    · trivial
  · rename_i b o len esz hk
    rw [hk] at hdk; have := mkTK_str hdk; subst this
    split
    · rename_i e hk2
      rw [hk2] at hsk; have := mkTK_sl hsk; subst this
      refine sat_tiK htt fun ei hei => ?_
      obtain ⟨ed, hed, hek, _⟩ := hei.und
      split
      · rename_i hk8
        rw [hk8] at hek; have := mkTK_int hek; subst this
        obtain ⟨r, c, hr, rfl⟩ : ∃ r c, ρ b = some r ∧ v = .slice (some ⟨r.blk, r.base + o, none⟩) len c := by
          cases hx with | slu _ _ _ _ c r h => exact ⟨r, c, h, rfl⟩
        refine sat_oK fun l hl => sat_bytesOf l g _ hw hO (fun _ _ _ h => h) fun m g' hb hw' hO' => ?_
        obtain ⟨xs, h1, h2, h3⟩ := hw.loadCells (P := P) hr hl
        obtain ⟨e1, e2⟩ := bytes_str hb h1
        rw [e1] at h3
        refine sat_val (a := .string ((m.map N.v).foldl (fun r n => r.push (UInt8.ofNat n.toNat)) ByteArray.empty)) ?_ (.str m _ e2) hw' hO'
        have hc := run_bytesToString (P := P) w ⟨r.blk, r.base + o, none⟩ len c (m.map N.v) h3
        simp only [convert, Sem.run_bind, run_underlying hsd, run_underlying hdd, Result.andThen, run_underlying hed]
        exact hc
      · trivial
    · trivial
  · rename_i b o hk
    rw [hk] at hdk; have := mkTK_uptr hdk; subst this
    split
    · rename_i e hk2
      rw [hk2] at hsk; have := mkTK_ptr hsk; subst this
      refine sat_tiK htt fun ei hei => sat_ck fun hsz => ?_
      split
      · rename_i plain size cs hb
        refine sat_ck fun hlt => ?_
        obtain ⟨r, hr, rfl⟩ := hx.ptr_inv
        have hok := (hw.blk b _ hb).resolve_left (by simp)
        obtain ⟨r', hr', hok⟩ := hok
        rw [hr] at hr'; cases hr'
        obtain ⟨_, arr, e', fr, h1, h2, h3, _⟩ := hok
        have hlt' := blt_lt hlt
        have hne : ei.size ≠ 0 := eqN_false (by revert hsz; cases eqN ei.size 0 <;> simp [notB])
        refine sat_val (a := .pointer (some ⟨r.blk, r.base + o, none⟩)) ?_ hx hw hO
        exact run_toUptr hsd hdd (a := ⟨r.blk, r.base + o, none⟩) h1 (by simp only; omega) (hei.run_size w) hne
      · trivial
    · trivial
  · rename_i e b o len cap hk
    have hq0 : q = false := by
      cases q
      · rfl
      · exact absurd hk (hq rfl di hdi e)
    subst hq0
    rw [hk] at hdk; have := mkTK_sl hdk; subst this
    refine sat_ck fun hsd' => sat_tiK htt fun ei hei => ?_
    have hst := eqN_true hsd'; subst hst
    rw [hsd] at hdd; cases hdd
    obtain ⟨ed, hed, hek, _⟩ := hei.und
    split
    · rename_i hk8
      rw [hk8] at hek; have := mkTK_int hek; subst this
      split
      · rename_i plain size cs hb
        obtain ⟨r, hr, rfl⟩ : ∃ r, ρ b = some r ∧ v = .slice (some ⟨r.blk, r.base + o, none⟩) len cap := by
          cases hx with | slx _ _ _ _ r h => exact ⟨r, h, rfl⟩
        obtain ⟨w', h1, h2, h3⟩ := hw.markStr (P := P) hb hr
        refine fun _ => ⟨ρ, _, w', ?_, hx, ρ.le_refl, h2, by rw [hO]; exact h3, (fun h => by cases h)⟩
        simp only [convert, Sem.run_bind, run_underlying hsd, Result.andThen, run_underlying hed, beq_self_eq_true, h1 _, Sem.run_pure]
      · trivial
    · trivial
  · rename_i e b o len esz hk
    have hq0 : q = false := by
      cases q
      · rfl
      · exact absurd hk (hq rfl di hdi e)
    subst hq0
    rw [hk] at hdk; have := mkTK_sl hdk; subst this
    refine sat_ck fun hsd' => sat_tiK htt fun ei hei => ?_
    have hst := eqN_true hsd'; subst hst
    rw [hsd] at hdd; cases hdd
    obtain ⟨ed, hed, hek, _⟩ := hei.und
    split
    · rename_i hk8
      rw [hk8] at hek; have := mkTK_int hek; subst this
      split
      · rename_i plain size cs hb
        obtain ⟨r, c, hr, rfl⟩ : ∃ r c, ρ b = some r ∧ v = .slice (some ⟨r.blk, r.base + o, none⟩) len c := by
          cases hx with | slu _ _ _ _ c r h => exact ⟨r, c, h, rfl⟩
        obtain ⟨w', h1, h2, h3⟩ := hw.markStr (P := P) hb hr
        refine fun _ => ⟨ρ, _, w', ?_, hx, ρ.le_refl, h2, by rw [hO]; exact h3, (fun h => by cases h)⟩
        simp only [convert, Sem.run_bind, run_underlying hsd, Result.andThen, run_underlying hed, beq_self_eq_true, h1 _, Sem.run_pure]
      · trivial
    · trivial
  · trivial

/- What is appended, or copied. -/
structure Src (P : Program) (ρ : Ren) (w : World) (size : Nat) (xv : Value) (n : Nat) (new : List AV) (news : List Value) : Prop where
  len : ∀ w', (Builtin.lenOf xv).run P w' = .ok n w'
  vrs : VRs ρ new news
  cnt : new.length = n * size
  first : ∀ k, k ≤ n → ∀ d, (Builtin.firstCells size k xv).run P { w with drawn := d } = .ok (news.take (k * size)).toArray { w with drawn := d }
theorem cell_drawn (w : World) (d : Nat) (a : Addr) : World.cell? { w with drawn := d } a = w.cell? a := rfl
theorem sat_source {α : Type} {R : Ren → AV → α → Prop} {s : Result α} (hw : WR B ρ g w) {size : Nat} {x : AV} {v : Value} (hx : VR ρ x v) {K : Nat → List AV → OR}
    (h : ∀ n new news, Src P ρ w size v n new news → Sat q P B ρ O w R s (K n new)) : Sat q P B ρ O w R s (source g size x K) := by
  unfold source
  have slice : ∀ b o len c (r : BR), ρ b = some r → Sat q P B ρ O w R s (oK (cellsAt g b o (Nat.mul len size)) fun l => K len l) ∨ v ≠ .slice (some ⟨r.blk, r.base + o, none⟩) len c := by
    intro b o len c r hr
    by_cases hv : v = .slice (some ⟨r.blk, r.base + o, none⟩) len c
    · subst hv
      refine .inl (sat_oK fun l hl => ?_)
      obtain ⟨xs, h1, h2, h3⟩ := hw.cells hr hl
      refine h len l xs ⟨fun w' => by simp [Builtin.lenOf], h1, by rw [h1.1]; exact h2, fun k hk d => ?_⟩
      have hle : k * size ≤ len * size := Nat.mul_le_mul_right _ hk
      have hlen : (xs.take (k * size)).length = k * size := by rw [List.length_take, h2]; exact Nat.min_eq_left hle
      refine run_firstCells_some { w with drawn := d } size k _ len c _ hlen fun j y hy => ?_
      rw [cell_drawn, addr_add]
      rw [List.getElem?_take] at hy
      split at hy
      · exact h3 j y hy
      · cases hy
    · exact .inr hv
  split
  · have : v = .slice none 0 0 := by cases hx; rfl
    subst this
    exact h 0 [] [] ⟨fun w' => by simp [Builtin.lenOf], VRs.nil ρ, by simp, fun k hk d => by
      have : k = 0 := by omega
      subst this; simp [Builtin.firstCells]⟩
  · obtain ⟨a, c, rfl⟩ : ∃ a c, v = .slice (some a) 0 c := by cases hx with | sle a c => exact ⟨a, c, rfl⟩
    exact h 0 [] [] ⟨fun w' => by simp [Builtin.lenOf], VRs.nil ρ, by simp, fun k hk d => by
      have : k = 0 := by omega
      subst this; simp [Builtin.firstCells, loadCells, loadCellsFrom]⟩
  · rename_i b o len cap
    obtain ⟨r, hr, rfl⟩ : ∃ r, ρ b = some r ∧ v = .slice (some ⟨r.blk, r.base + o, none⟩) len cap := by
      cases hx with | slx _ _ _ _ r hh => exact ⟨r, hh, rfl⟩
    exact (slice b o len cap r hr).resolve_right (fun h => h rfl)
  · rename_i b o len esz
    obtain ⟨r, c, hr, rfl⟩ : ∃ r c, ρ b = some r ∧ v = .slice (some ⟨r.blk, r.base + o, none⟩) len c := by
      cases hx with | slu _ _ _ _ c r hh => exact ⟨r, c, hh, rfl⟩
    exact (slice b o len c r hr).resolve_right (fun h => h rfl)
  · rename_i l
    obtain ⟨s', rfl, hs⟩ := hx.str_inv
    refine sat_ck fun hc => ?_
    have := eqN_true hc; subst this
    have hsz := str_len hs
    have hv : VRs ρ (l.map fun c => AV.int .u8 c) (s'.data.toList.map fun b => Value.int .u8 b.toNat) := by
      have hlen := congrArg List.length hs
      simp only [List.length_map] at hlen
      refine ⟨by simp only [List.length_map]; exact hlen.symm, fun i a y ha hy => ?_⟩
      simp only [List.getElem?_map, Option.map_eq_some_iff] at ha hy
      obtain ⟨n, hn, rfl⟩ := ha
      obtain ⟨b, hb, rfl⟩ := hy
      have := congrArg (fun m : List Int => m[i]?) hs
      simp only [List.getElem?_map, hn, hb, Option.map_some, Option.some.injEq] at this
      rw [this]; exact .int _ _
    refine h l.length _ _ ⟨fun w' => by simp [Builtin.lenOf, hsz], hv, by simp, fun k hk d => ?_⟩
    simp only [Builtin.firstCells, Sem.run_pure]
    congr 1
    apply Array.ext'
    simp [ByteArray.data_extract, List.extract_eq_take_drop, List.map_take]
  · trivial
end
end Go.Eng

/- Operations: append and copy. -/
namespace Go.Eng
open Go.RowKit
set_option linter.unusedVariables false
set_option linter.unusedSimpArgs false

section
variable {q : Bool} {P : Program} {E : Env} {B : Base} {ρ : Ren} {O : Nat → Prop} {w : World} {g : GS}

theorem not_int (d : TypeDesc) : (∀ k, mkTK P d ≠ .int k) → Go.Builtin.append_.match_1 (motive := fun _ => Bool) d (fun _ => true) (fun _ => false) = false := by
  intro h
  cases d <;> first | rfl | exact absurd rfl (h _)

theorem run_append_fit {ts : Array TypeId} {args : Array Value} {ty st xt e : TypeId} {ei : TI} {xd : TypeDesc} (h0 : ts[0]? = some st) (h1 : ts[1]? = some xt) {base : Option Addr} {sLen sCap n : Nat} {xv : Value} (a0 : args[0]? = some (.slice base sLen sCap)) (a1 : args[1]? = some xv)
    (hst : P.underlying st = some (.slice e)) (hei : TIok P e ei) (hxt : P.underlying xt = some xd) (hxd : ∀ k, mkTK P xd ≠ .int k) {new : List AV} {news : List Value} (hs : Src P ρ w ei.size xv n new news) (hfit : sLen + n ≤ sCap) :
    (Builtin.append_ ts ty args).run P w = match base with
      | some a => ((storeCells (a.add (sLen * ei.size)) news).run P w).andThen fun _ w' => .ok (.slice base (sLen + n) sCap) w'
      | none => .ok (.slice none (sLen + n) sCap) w := by
  have hf := hs.first n (Nat.le_refl _) w.drawn
  have hw : ({ w with drawn := w.drawn } : World) = w := rfl
  rw [hw] at hf
  have hl : news.take (n * ei.size) = news := by
    apply List.take_of_length_le
    rw [← hs.vrs.1, hs.cnt]; exact Nat.le_refl _
  rw [hl] at hf
  have hni := not_int xd hxd
  simp only [Builtin.append_, h0, h1, a0, a1, Sem.run_bind, run_underlying hst, Result.andThen, hei.run_size, run_underlying hxt, Sem.run_pure]
  rw [hni]
  simp only [Bool.false_eq_true, if_false, hs.len, Result.andThen, if_pos hfit, Bool.not_false, if_true, Sem.run_bind, hf]
  cases base with
  | none => simp
  | some a => simp [Result.andThen]

theorem run_append_more {ts : Array TypeId} {args : Array Value} {ty st xt e : TypeId} {ei : TI} {xd : TypeDesc} (h0 : ts[0]? = some st) (h1 : ts[1]? = some xt) {base : Option Addr} {sLen sCap n : Nat} {xv : Value} (a0 : args[0]? = some (.slice base sLen sCap)) (a1 : args[1]? = some xv)
    (hst : P.underlying st = some (.slice e)) (hei : TIok P e ei) (hxt : P.underlying xt = some xd) (hxd : ∀ k, mkTK P xd ≠ .int k) {new : List AV} {news olds : List Value} (hs : Src P ρ w ei.size xv n new news)
    (ho : (Builtin.firstCells ei.size sLen (.slice base sLen sCap)).run P w.drew = .ok olds.toArray w.drew) (hmore : sCap < sLen + n) (hbig : sLen + n < 1073741824) (hby : ei.bytes ≤ 65536) {z : Value} (hz : (zeroValue e).run P w.drew = .ok z w.drew) :
    (Builtin.append_ ts ty args).run P w = .ok (.slice (some ⟨w.heap.size, 0, none⟩) (sLen + n) (grownCap w (sLen + n) sCap e))
      { w with heap := w.heap.push (.cells (olds.toArray ++ news.toArray ++ Builtin.zeroCells z.cells (grownCap w (sLen + n) sCap e - (sLen + n))) e), drawn := w.drawn + 1 } := by
  have hdr : w.drew = { w with drawn := w.drawn + 1 } := rfl
  have hf := hs.first n (Nat.le_refl _) (w.drawn + 1)
  rw [← hdr] at hf
  have hl : news.take (n * ei.size) = news := by
    apply List.take_of_length_le
    rw [← hs.vrs.1, hs.cnt]; exact Nat.le_refl _
  rw [hl] at hf
  have hni := not_int xd hxd
  obtain ⟨ii, hii, hi1, hi2⟩ := hei.run_info w
  obtain ⟨ii', hii', hi1', hi2'⟩ := hei.run_info w.drew
  have hno : ¬ (sLen + n ≤ sCap) := by omega
  have hfits : Builtin.nextslicecap (sLen + n) sCap * ei.bytes ≤ 281474976710656 := by
    refine growslice_fits hmore ?_
    have : (sLen + n) * ei.bytes ≤ 1073741824 * 65536 := Nat.mul_le_mul (by omega) hby
    omega
  have h48 : ¬ (281474976710656 < Builtin.nextslicecap (sLen + n) sCap * ei.bytes) := by omega
  have h63 : ¬ (((sLen + n : Nat) : Int) > IntKind.i64.max) := by simp [IntKind.max, IntKind.signed, IntKind.bits]; omega
  simp only [Builtin.append_, h0, h1, a0, a1, Sem.run_bind, run_underlying hst, Result.andThen, hei.run_size, run_underlying hxt, Sem.run_pure]
  rw [hni]
  simp only [Bool.false_eq_true, if_false, hs.len, Result.andThen, if_neg hno, Bool.not_false, if_true, Sem.run_bind, hii, hi2, Sem.run_pure]
  rw [if_neg (by rintro ⟨h, _⟩; exact h63 h)]
  simp only [Sem.run_bind, hii, hi2, Result.andThen]
  rw [if_neg (by simpa using h48)]
  simp only [Sem.run_bind, run_choose, Question.forced, Bool.false_eq_true, if_false, Result.andThen, run_askRoom]
  rw [← hdr]
  simp only [Sem.run_pure, Result.andThen, hii', run_askRoom, Sem.run_bind, ho, hf, hz, newRow, run_newObj]
  rfl

theorem zeroCells_size (z : Array Value) (n : Nat) : (Builtin.zeroCells z n).size = n * z.size := by simp [Builtin.zeroCells]

theorem oAppend_mono (l : List PC) (E : Env) (g : GS) (st : TypeId) (s : AV) (xt : Option TypeId) (x : AV) (h : l <:+ g.pcs) : Mono l (oAppend E g st s xt x) := by
  unfold oAppend
  refine mono_tiK fun i => ?_
  split
  · refine mono_tiK fun ei => mono_ck ?_
    split
    · trivial
    · refine mono_tiK fun xi => ?_
      split
      · trivial
      · refine mono_source fun n new => ?_
        split
        · split
          · exact h
          · exact mono_ck (mono_oNewK h fun _ _ h => h)
        · split
          · exact mono_ck h
          · split
            · exact mono_writeAt h fun _ h => h
            · exact mono_ck (mono_oK fun _ => mono_oNewK h fun _ _ h => h)
        · refine mono_ck ?_
          split
          · exact h
          · split
            · split
              · exact mono_writeAt h fun _ h => h
              · exact mono_ck (mono_oK fun _ => mono_oNewK (g := g.put _ .dead) h fun _ _ h => h)
            · trivial
        · trivial
  · trivial

theorem oAppend_sat (htt : TTok P E.tt) (hw : WR B ρ g w) (hO : O = Own ρ g) {ts : Array TypeId} {args : Array Value} {ty st : TypeId} {xt : Option TypeId} (h0 : ts[0]? = some st) (h1 : ts[1]? = xt) {s x : AV} {sv xv : Value} (a0 : args[0]? = some sv) (a1 : args[1]? = some xv) (hs : VR ρ s sv) (hx : VR ρ x xv) :
    Sat false P B ρ O w RV ((Builtin.append_ ts ty args).run P w) (oAppend E g st s xt x) := by
  unfold oAppend
  refine sat_tiK htt fun i hi => ?_
  obtain ⟨d, hd, hdk, _⟩ := hi.und
  split
  · rename_i e hk
    rw [hk] at hdk; have := mkTK_sl hdk; subst this
    refine sat_tiK htt fun ei hei => sat_ck fun hc => ?_
    obtain ⟨c1, c2⟩ := andB_true hc
    obtain ⟨c3, c4⟩ := andB_true c2
    have hpos : 1 ≤ ei.size := ble_le c3
    have hby : ei.bytes ≤ 65536 := ble_le c4
    have hzl := hei.zv_len c1
    split
    · trivial
    · rename_i xt'
      refine sat_tiK htt fun xi hxi => ?_
      obtain ⟨xd, hxd, hxdk, _⟩ := hxi.und
      split
      · trivial
      · rename_i hnk
        have hnint : ∀ k, mkTK P xd ≠ .int k := fun k e => hnk k (by rw [← hxdk, e])
        refine sat_source hw hx fun n new news hsrc => ?_
        obtain ⟨z, hz, hzv⟩ := hei.run_zero w.drew
        have hzc := (hzv ρ).cells hei.zv_ne
        have hzs : z.cells.size = ei.size := by have := hzc.1; rw [hzl] at this; simpa using this.symm
        split
        · have : sv = .slice none 0 0 := by cases hs; rfl
          subst this
          split
          · rename_i hn0
            have := eqN_true hn0; subst this
            refine sat_val (a := .slice none 0 0) ?_ .snil hw hO
            rw [run_append_fit h0 h1 a0 a1 hd hei hxd hnint hsrc (by omega)]
          · rename_i hn0
            have hn := eqN_false hn0
            refine sat_ck fun hlt => ?_
            have hlt' := blt_lt hlt
            have hrun := run_append_more (P := P) (w := w) (ty := ty) h0 h1 a0 a1 hd hei hxd hnint hsrc (olds := []) (by simp [Builtin.firstCells]) (by omega) (by omega) hby hz
            simp only [Nat.zero_add] at hrun
            refine sat_oNewK hw hO hsrc.vrs (arr := (([] : List Value).toArray ++ news.toArray ++ Builtin.zeroCells z.cells (grownCap w n 0 e - n))) (ys := (Builtin.zeroCells z.cells (grownCap w n 0 e - n)).toList) (by simp) e (0, 0) (w.drawn + 1) no_fr' (fun _ => rfl) fun g' ρ' hle hρ hw' hst _ => ?_
            refine ⟨ρ', _, _, hrun, .slu g.nx 0 n ei.size _ _ hρ (grownCap_ge _ _ _ _) ?_, hle, hw', hst, (fun h => by cases h)⟩
            have := grownCap_ge w n 0 e
            have hnl : news.length = n * ei.size := by rw [← hsrc.vrs.1, hsrc.cnt]
            simp only [Array.size_append, List.size_toArray, List.length_nil, zeroCells_size, hnl, hzs]
            rw [Nat.zero_add, Nat.zero_add, ← Nat.add_mul, Nat.add_sub_cancel' this]
        · rename_i b o len cap
          obtain ⟨r, hr, rfl⟩ : ∃ r, ρ b = some r ∧ sv = .slice (some ⟨r.blk, r.base + o, none⟩) len cap := by
            cases hs with | slx _ _ _ _ r hh => exact ⟨r, hh, rfl⟩
          split
          · rename_i hn0
            have := eqN_true hn0; subst this
            refine sat_ck fun hle => ?_
            have hle' := ble_le hle
            have hnl : news = [] := by
              have := hsrc.vrs.1; rw [hsrc.cnt] at this; simp at this
              exact List.eq_nil_of_length_eq_zero this.symm
            refine sat_val (a := .slice (some ⟨r.blk, r.base + o, none⟩) len cap) ?_ hs hw hO
            rw [run_append_fit h0 h1 a0 a1 hd hei hxd hnint hsrc (by omega), hnl]
            simp [storeCells, Result.andThen]
          · split
            · rename_i hfit
              have hfit' : len + n ≤ cap := ble_le hfit
              refine sat_writeAt hw hO hr (o := o + len * ei.size) hsrc.vrs fun g' w' hrun hw' hst _ => ?_
              refine ⟨ρ, .slice (some ⟨r.blk, r.base + o, none⟩) (len + n) cap, w', ?_, .slx b o _ _ r hr, ρ.le_refl, hw', hst, (fun h => by cases h)⟩
              rw [run_append_fit h0 h1 a0 a1 hd hei hxd hnint hsrc hfit']
              simp only [addr_add]
              rw [Nat.add_assoc, hrun]
              rfl
            · rename_i hfit
              have hfit' : cap < len + n := ble_gt hfit
              refine sat_ck fun hlt => ?_
              have hlt' : len + n < 1073741824 := blt_lt hlt
              refine sat_oK fun old hold => ?_
              obtain ⟨olds, o1, o2, o3⟩ := hw.cells hr hold
              have hlo : olds.length = len * ei.size := o2
              have hof := run_firstCells_some (P := P) w.drew ei.size len ⟨r.blk, r.base + o, none⟩ len cap olds hlo (fun j y hy => by rw [addr_add]; exact o3 j y hy)
              have hrun := run_append_more (P := P) (w := w) (ty := ty) h0 h1 a0 a1 hd hei hxd hnint hsrc hof hfit' hlt' hby hz
              refine sat_oNewK hw hO (o1.append hsrc.vrs) (arr := (olds.toArray ++ news.toArray ++ Builtin.zeroCells z.cells (grownCap w (len + n) cap e - (len + n)))) (ys := (Builtin.zeroCells z.cells (grownCap w (len + n) cap e - (len + n))).toList) (by simp) e (0, 0) (w.drawn + 1) no_fr' (fun _ => rfl) fun g' ρ' hle hρ hw' hst _ => ?_
              refine ⟨ρ', _, _, hrun, .slu g.nx 0 (len + n) ei.size _ _ hρ (grownCap_ge _ _ _ _) ?_, hle, hw', hst, (fun h => by cases h)⟩
              have := grownCap_ge w (len + n) cap e
              have hnl : news.length = n * ei.size := by rw [← hsrc.vrs.1, hsrc.cnt]
              simp only [Array.size_append, List.size_toArray, zeroCells_size, hnl, hlo, hzs]
              rw [Nat.zero_add, ← Nat.add_mul, ← Nat.add_mul, Nat.add_sub_cancel' this]
        · rename_i b o len esz
          obtain ⟨r, c, hr, hlc, hroom, rfl⟩ : ∃ r c, ρ b = some r ∧ len ≤ c ∧ o + c * esz = r.room ∧ sv = .slice (some ⟨r.blk, r.base + o, none⟩) len c := by
            cases hs with | slu _ _ _ _ c r h h1 h2 => exact ⟨r, c, h, h1, h2, rfl⟩
          refine sat_ck fun hez => ?_
          have := eqN_true hez; subst this
          split
          · rename_i hn0
            have := eqN_true hn0; subst this
            have hnl : news = [] := by
              have := hsrc.vrs.1; rw [hsrc.cnt] at this; simp at this
              exact List.eq_nil_of_length_eq_zero this.symm
            refine sat_val (a := .slice (some ⟨r.blk, r.base + o, none⟩) len c) ?_ hs hw hO
            rw [run_append_fit h0 h1 a0 a1 hd hei hxd hnint hsrc (by omega), hnl]
            simp [storeCells, Result.andThen]
          · split
            · rename_i plain size cs hb
              have hbok : size ≤ r.room := by
                rcases hw.blk b _ hb with e | ⟨r', hr', hok⟩
                · cases e
                rw [hr] at hr'; cases hr'
                obtain ⟨_, arr, e, fr, h2, h3, _⟩ := hok
                exact h3
              split
              · rename_i hin
                have hin' : o + (len + n) * ei.size ≤ size := ble_le hin
                have hfit' : len + n ≤ c := by
                  have : (len + n) * ei.size ≤ c * ei.size := by omega
                  exact Nat.le_of_mul_le_mul_right this (by omega)
                refine sat_writeAt hw hO hr (o := o + len * ei.size) hsrc.vrs fun g' w' hrun hw' hst _ => ?_
                refine ⟨ρ, .slice (some ⟨r.blk, r.base + o, none⟩) (len + n) c, w', ?_, .slu b o _ _ c r hr hfit' hroom, ρ.le_refl, hw', hst, (fun h => by cases h)⟩
                rw [run_append_fit h0 h1 a0 a1 hd hei hxd hnint hsrc hfit']
                simp only [addr_add]
                rw [Nat.add_assoc, hrun]
                rfl
              · refine sat_ck fun hck => ?_
                obtain ⟨hone, hlt⟩ := andB_true hck
                have hlt' : len + n < 1073741824 := blt_lt hlt
                refine sat_oK fun old hold => ?_
                obtain ⟨olds, o1, o2, o3⟩ := hw.cells hr hold
                have hlo : olds.length = len * ei.size := o2
                have hnl : news.length = n * ei.size := by rw [← hsrc.vrs.1, hsrc.cnt]
                have hnx : ∀ hc : andB (nxOk (g.put b .dead)) (Nat.blt (old ++ new).length 549755813888) = true, g.nx < 549755813888 ∧ (old ++ new).length < 549755813888 := fun hc => by
                  obtain ⟨k1, k2⟩ := andB_true hc
                  exact ⟨nxOk_lt k1, blt_lt k2⟩
                unfold oNewK
                refine sat_ck fun hc5 => ?_
                obtain ⟨hn1, hn2⟩ := hnx hc5
                by_cases hfit : len + n ≤ c
                · rcases hw.blk b _ hb with e0 | ⟨r0, hr0, hok⟩
                  · cases e0
                  rw [hr] at hr0; cases hr0
                  obtain ⟨hB, arr, e', fr, h2, h3, h4, h5, h6, h7⟩ := hok
                  have hlt5 : r.blk < w.heap.size := (Array.getElem?_eq_some_iff.1 h2).1
                  have hmul : (len + n) * ei.size ≤ c * ei.size := Nat.mul_le_mul_right _ hfit
                  rw [Nat.add_mul] at hmul
                  have honev : ∀ v ∈ news, v.oneCell' = true := by
                    intro v hv'
                    obtain ⟨i, hi, rfl⟩ := List.getElem_of_mem hv'
                    have hil : i < new.length := by rw [hsrc.vrs.1]; exact hi
                    exact (hsrc.vrs.2 i new[i] news[i] (List.getElem?_eq_getElem hil) (List.getElem?_eq_getElem hi)).one (onesL_spec hone _ (List.getElem_mem hil))
                  have hrun := run_storeCells_fr P r.blk (r.base + o + len * ei.size) e' fr news 0 arr w h2 h5.not (by rw [hnl]; omega) honev
                  simp only [Nat.add_zero] at hrun
                  have hspl : r.base + o + len * ei.size + news.length ≤ arr.size := by rw [hnl]; omega
                  have hall := o1.append hsrc.vrs
                  have hlen5 : (old ++ new).length = (len + n) * ei.size := by rw [hall.1, List.length_append, hlo, hnl, Nat.add_mul]
                  have hmv := hw.move hb (.cells plain size cs) hr (.cells (splice arr (r.base + o + len * ei.size) news) e' fr) ⟨r.blk, r.base + o, r.room - o⟩ rfl (.cells true false (old ++ new).length (T.ofFrom .nil 0 (old ++ new))) (.cells _ _ _) (by omega)
                    (fun ρ' hle => ⟨hB, splice arr (r.base + o + len * ei.size) news, e', fr, by simp [hlt5], by simp only; rw [hlen5, Nat.add_mul]; omega, by simp only; rw [splice_size hspl]; omega, by rw [splice_size hspl]; exact h5, (fun h => by cases h), fun j hj => by
                      obtain ⟨v, x', q1, q2, q3⟩ := Cells.of_list (hall.mono hle) (by omega) j hj
                      refine ⟨v, x', q1, ?_, q3⟩
                      replace q2 : (olds ++ news)[j]? = some x' := q2
                      simp only
                      rw [splice_get hspl]
                      rw [hlen5, Nat.add_mul] at hj
                      by_cases hjl : j < len * ei.size
                      · rw [if_neg (by omega)]
                        rw [List.getElem?_append_left (by omega)] at q2
                        have := o3 j x' q2
                        simpa [World.cell?, h2] using this
                      · rw [if_pos (by rw [hnl]; omega)]
                        rw [List.getElem?_append_right (by omega), hlo] at q2
                        rw [show r.base + o + j - (r.base + o + len * ei.size) = j - len * ei.size by omega]
                        exact q2⟩)
                  intro _
                  refine ⟨_, .slice (some ⟨r.blk, r.base + o, none⟩) (len + n) c, _, ?_, ?_, hmv.1, hmv.2.1, by rw [hO]; exact hmv.2.2, (fun h => by cases h)⟩
                  · rw [run_append_fit h0 h1 a0 a1 hd hei hxd hnint hsrc hfit]
                    simp only [addr_add]
                    rw [hrun]
                    rfl
                  · exact .slu g.nx 0 (len + n) ei.size c _ (Ren.upd_same _ _ _) hfit (by simp only; omega)
                · have hof := run_firstCells_some (P := P) w.drew ei.size len ⟨r.blk, r.base + o, none⟩ len c olds hlo (fun j y hy => by rw [addr_add]; exact o3 j y hy)
                  have hrun := run_append_more (P := P) (w := w) (ty := ty) h0 h1 a0 a1 hd hei hxd hnint hsrc hof (by omega) hlt' hby hz
                  obtain ⟨hwk, hsk⟩ := hw.kill hb
                  obtain ⟨k1, k2⟩ := andB_true hc5
                  obtain ⟨q1, q2, q3⟩ := hwk.newCells k1 (l := old ++ new) (by omega) (o1.append hsrc.vrs) (arr := (olds.toArray ++ news.toArray ++ Builtin.zeroCells z.cells (grownCap w (len + n) c e - (len + n)))) (ys := (Builtin.zeroCells z.cells (grownCap w (len + n) c e - (len + n))).toList) (by simp) e (0, 0) (w.drawn + 1) no_fr' false (fun h => by cases h)
                  intro _
                  refine ⟨_, _, _, hrun, ?_, q1, q2, by rw [hO]; exact hsk.trans q3, (fun h => by cases h)⟩
                  refine .slu g.nx 0 (len + n) ei.size _ _ (Ren.upd_same _ _ _) (grownCap_ge _ _ _ _) ?_
                  have := grownCap_ge w (len + n) c e
                  simp only [Array.size_append, List.size_toArray, zeroCells_size, hnl, hlo, hzs]
                  rw [Nat.zero_add, ← Nat.add_mul, ← Nat.add_mul, Nat.add_sub_cancel' this]
            · trivial
        · trivial
  · trivial

theorem oCopy_mono (l : List PC) (E : Env) (g : GS) (dt : TypeId) (d x : AV) (h : l <:+ g.pcs) : Mono l (oCopy E g dt d x) := by
  unfold oCopy
  refine mono_tiK fun i => ?_
  split
  · refine mono_tiK fun ei => mono_source fun n new => ?_
    split
    · exact h
    · exact h
    · exact mono_writeAt h fun _ h => h
    · exact mono_writeAt h fun _ h => h
    · trivial
  · trivial
theorem oCopy_sat (htt : TTok P E.tt) (hw : WR B ρ g w) (hO : O = Own ρ g) {ts : Array TypeId} {args : Array Value} {ty dt : TypeId} (h0 : ts[0]? = some dt) {d x : AV} {dv xv : Value} (a0 : args[0]? = some dv) (a1 : args[1]? = some xv) (hd : VR ρ d dv) (hx : VR ρ x xv) :
    Sat false P B ρ O w RV ((Builtin.copy_ ts ty args).run P w) (oCopy E g dt d x) := by
  unfold oCopy
  refine sat_tiK htt fun i hi => ?_
  obtain ⟨ds, hds, hdk, _⟩ := hi.und
  split
  · rename_i e hk
    rw [hk] at hdk; have := mkTK_sl hdk; subst this
    refine sat_tiK htt fun ei hei => sat_source hw hx fun n new news hsrc => ?_
    have hw0 : ({ w with drawn := w.drawn } : World) = w := rfl
    have run : ∀ (base : Option Addr) (len c : Nat), dv = .slice base len c → (Builtin.copy_ ts ty args).run P w = match base with
        | some a => ((storeCells a (news.take (Nat.min n len * ei.size))).run P w).andThen fun _ w' => .ok (goInt (Nat.min n len)) w'
        | none => .ok (goInt (Nat.min n len)) w := by
      intro base len c e
      subst e
      have hf := hsrc.first (Nat.min n len) (Nat.min_le_left _ _) w.drawn
      rw [hw0] at hf
      simp only [Builtin.copy_, h0, a0, a1, Sem.run_bind, run_underlying hds, Result.andThen, hsrc.len, hei.run_size, hf, Sem.run_pure]
      cases base <;> simp [Result.andThen]
    split
    · have : dv = .slice none 0 0 := by cases hd; rfl
      refine sat_val (a := goInt 0) ?_ (.int .i64 (.c 0)) hw hO
      rw [run none 0 0 this]
      simp
    · obtain ⟨a, c, rfl⟩ : ∃ a c, dv = .slice (some a) 0 c := by cases hd with | sle a c => exact ⟨a, c, rfl⟩
      refine sat_val (a := goInt 0) ?_ (.int .i64 (.c 0)) hw hO
      rw [run (some a) 0 c rfl]
      simp [storeCells, Result.andThen]
    · rename_i b o len cap
      obtain ⟨r, hr, rfl⟩ : ∃ r, ρ b = some r ∧ dv = .slice (some ⟨r.blk, r.base + o, none⟩) len cap := by
        cases hd with | slx _ _ _ _ r hh => exact ⟨r, hh, rfl⟩
      refine sat_writeAt hw hO hr (hsrc.vrs.take (Nat.min n len * ei.size)) fun g' w' hrun hw' hst _ => ?_
      refine ⟨ρ, goInt (Nat.min n len), w', ?_, .int .i64 (.c _), ρ.le_refl, hw', hst, (fun h => by cases h)⟩
      rw [run _ len cap rfl]
      simp only [hrun]
      rfl
    · rename_i b o len esz
      obtain ⟨r, c, hr, rfl⟩ : ∃ r c, ρ b = some r ∧ dv = .slice (some ⟨r.blk, r.base + o, none⟩) len c := by
        cases hd with | slu _ _ _ _ c r hh => exact ⟨r, c, hh, rfl⟩
      refine sat_writeAt hw hO hr (hsrc.vrs.take (Nat.min n len * ei.size)) fun g' w' hrun hw' hst _ => ?_
      refine ⟨ρ, goInt (Nat.min n len), w', ?_, .int .i64 (.c _), ρ.le_refl, hw', hst, (fun h => by cases h)⟩
      rw [run _ len c rfl]
      simp only [hrun]
      rfl
    · trivial
  · trivial
end
end Go.Eng

/- Operations: maps, len, cap, min, max, choices. -/
namespace Go.Eng
open Go.RowKit
set_option linter.unusedVariables false
set_option linter.unusedSimpArgs false

section
variable {q : Bool} {P : Program} {E : Env} {B : Base} {ρ : Ren} {O : Nat → Prop} {w : World} {g : GS}

/- A key's kind, as the type tells it. -/
def KeyD (P : Program) (d : TypeDesc) (k : TK) : Prop := mkTK P d = k

theorem keyEq_spec {d : TypeDesc} {x y : AV} {v u : Value} (hx : VR ρ x v) (hy : VR ρ y u) {b : Bool} (h : keyEq (mkTK P d) x y = some b) : Instr.sameNow d v u = some b := by
  generalize hk : mkTK P d = k at h
  unfold keyEq at h
  split at h
  · have := mkTK_int hk; subst this
    have := hx.int_inv; subst this
    have := hy.int_inv; subst this
    split at h
    · rename_i hkk
      have := kindNo_inj hkk; subst this
      cases h
      simp [Instr.sameNow, N.v, eqI_eq, int_beq]
    · cases h
  · rename_i l m
    have := mkTK_str hk; subst this
    obtain ⟨s, rfl, hs⟩ := hx.str_inv
    obtain ⟨s', rfl, hs'⟩ := hy.str_inv
    split at h
    · rename_i c hc
      cases h
      have := str_eq hs hs'
      rw [hc] at this
      simp only [Instr.sameNow, beq_toListBytes, this]
      rfl
    · cases h
  · cases h

theorem findE_spec {d : TypeDesc} {x : AV} {v : Value} (hx : VR ρ x v) : ∀ (es : List (AV × AV × Nat)) (es' : List MapEntry) (i : Nat) (r : Option (Nat × AV)), Ents ρ es es' → findE (mkTK P d) x es i = some r →
    match r with
    | none => Instr.findNow d v es' i = some none
    | some (j, a) => ∃ y, Instr.findNow d v es' i = some (some (j, y)) ∧ VR ρ a y ∧ i ≤ j ∧ ∃ e e', es[j - i]? = some e ∧ es'[j - i]? = some e' ∧ Instr.sameNow d v e'.key = some true
  | [], es', i, r, he, h => by
    have : es' = [] := by cases es' <;> simp_all [Ents]
    subst this
    simp only [findE, Option.some.injEq] at h
    subst h
    rfl
  | e :: es, es', i, r, he, h => by
    cases es' with
    | nil => simp [Ents] at he
    | cons e' es' =>
      obtain ⟨k1, k2, k3⟩ := he.2 0 e e' rfl rfl
      have he' : Ents ρ es es' := ⟨by simpa using he.1, fun n a b ha hb => he.2 (n + 1) a b (by simpa using ha) (by simpa using hb)⟩
      simp only [findE] at h
      split at h
      · rename_i hk
        cases h
        have := keyEq_spec (P := P) hx k1 hk
        exact ⟨e'.val, by simp [Instr.findNow, this], k2, Nat.le_refl _, e, e', by simp, by simp, this⟩
      · rename_i hk
        have hs := keyEq_spec (P := P) hx k1 hk
        have ih := findE_spec hx es es' (i + 1) r he' h
        cases r with
        | none =>
          simp only at ih ⊢
          simp [Instr.findNow, hs, ih]
        | some p =>
          obtain ⟨j, a⟩ := p
          obtain ⟨y, h1, h2, h3, e1, e1', h4, h5, h6⟩ := ih
          refine ⟨y, by simp [Instr.findNow, hs, h1], h2, by omega, e1, e1', ?_, ?_, h6⟩
          · rw [show j - i = (j - (i + 1)) + 1 by omega]; simpa using h4
          · rw [show j - i = (j - (i + 1)) + 1 by omega]; simpa using h5
      · cases h

theorem run_checkKey {t : TypeId} {d : TypeDesc} (hd : P.underlying t = some d) {x : AV} {v : Value} (hx : VR ρ x v) (hk : keyOk (mkTK P d) x = true) (b : Bool) (n : Nat) : (Instr.checkKey b (n + 1) t v).run P w = .ok () w := by
  unfold keyOk at hk
  split at hk
  · rename_i he
    have := mkTK_int he; subst this
    have := hx.int_inv; subst this
    simp [Instr.checkKey, run_underlying hd]
  · rename_i he
    have := mkTK_str he; subst this
    obtain ⟨s, rfl, hs⟩ := hx.str_inv
    simp [Instr.checkKey, run_underlying hd]
  · cases hk

theorem WR.mapAt {b : Nat} {es : List (AV × AV × Nat)} {clock : Nat} {r : BR} (hw : WR B ρ g w) (hb : g.bl.get b = some (.map es clock)) (hr : ρ b = some r) :
    ∃ es', w.heap[r.blk]? = some (.map es' clock) ∧ Ents ρ es es'.toList := by
  rcases hw.blk b _ hb with e | ⟨r', hr', hok⟩
  · cases e
  rw [hr] at hr'; cases hr'
  exact hok.2
theorem VR.map_inv {b : Nat} {v : Value} (h : VR ρ (.map b) v) : ∃ r, ρ b = some r ∧ v = .map (some r.blk) := by
  cases h with | map _ r h => exact ⟨r, h, rfl⟩
theorem VR.mapn_inv {v : Value} (h : VR ρ .mapn v) : v = .map none := by cases h; rfl

theorem run_findKey {kt : TypeId} {d : TypeDesc} (hd : P.underlying kt = some d) {v : Value} {es : List MapEntry} {r : Option (Nat × Value)} (h : Instr.findNow d v es 0 = some r) : (Instr.findKey kt v es).run P w = .ok r w := by
  simp only [Instr.findKey, Sem.run_bind, run_underlying hd, Result.andThen, h, Sem.run_pure]

theorem okPair {a : AV} {v : Value} (h : VR ρ a v) (b ok : Bool) : VR ρ (match ok with | true => .tup [a, .bool (.c b)] | false => a) (if ok then .tuple #[v, .bool b] else v) := by
  cases ok
  · exact h
  · exact VRs.tup (VRs.cons h (VRs.cons (.bool (.c b)) (VRs.nil ρ)))

theorem oLookup_mono (l : List PC) (E : Env) (g : GS) (t : TypeId) (m k : AV) (ok : Bool) (h : l <:+ g.pcs) : Mono l (oLookup E g t m k ok) := by
  unfold oLookup
  refine mono_tiK fun i => ?_
  split
  · refine mono_tiK fun ki => mono_tiK fun ei => mono_ck ?_
    split
    · exact h
    · split
      · refine mono_oK fun r => ?_
        split <;> exact h
      · trivial
    · trivial
  · trivial
theorem oLookup_sat (htt : TTok P E.tt) (hw : WR B ρ g w) (hO : O = Own ρ g) (t : TypeId) {m k : AV} {mv kv : Value} (hm : VR ρ m mv) (hk : VR ρ k kv) (ok : Bool) :
    Sat q P B ρ O w RV ((Instr.lookup t mv kv ok).run P w) (oLookup E g t m k ok) := by
  unfold oLookup
  refine sat_tiK htt fun i hi => ?_
  obtain ⟨d, hd, hdk, _⟩ := hi.und
  split
  · rename_i kt et hke
    rw [hke] at hdk; have := mkTK_map hdk; subst this
    refine sat_tiK htt fun ki hki => sat_tiK htt fun ei hei => sat_ck fun hc => ?_
    obtain ⟨kd, hkd, hkk, _⟩ := hki.und
    rw [← hkk] at hc
    obtain ⟨z, hz, hzv⟩ := hei.run_zero w
    split
    · have := hm.mapn_inv; subst this
      refine sat_val (a := if ok then .tuple #[z, .bool false] else z) ?_ (okPair (hzv ρ) false ok) hw hO
      simp only [Instr.lookup, Sem.run_bind, run_underlying hd, Result.andThen, Sem.run_pure, run_checkKey hkd hk hc]
      rw [run_findKey hkd (r := none) rfl]
      simp only [Sem.run_bind, hz, Result.andThen, Sem.run_pure]
    · rename_i b
      obtain ⟨r, hr, rfl⟩ := hm.map_inv
      split
      · rename_i es clock hb
        obtain ⟨es', he1, he2⟩ := hw.mapAt hb hr
        refine sat_oK fun q hq => ?_
        rw [← hkk] at hq
        have hf := findE_spec (P := P) hk es es'.toList 0 q he2 hq
        have hget : (getObj r.blk).run P w = .ok (.map es' clock) w := by simp [getObj, Sem.run, he1]
        split
        · rename_i j a
          obtain ⟨y, h1, h2, _⟩ := hf
          refine sat_val (a := if ok then .tuple #[y, .bool true] else y) ?_ (okPair h2 true ok) hw hO
          simp only [Instr.lookup, Sem.run_bind, run_underlying hd, Result.andThen, Sem.run_pure, hget, run_checkKey hkd hk hc]
          rw [run_findKey hkd h1]
          simp only [Sem.run_bind, Sem.run_pure, Result.andThen]
        · refine sat_val (a := if ok then .tuple #[z, .bool false] else z) ?_ (okPair (hzv ρ) false ok) hw hO
          simp only [Instr.lookup, Sem.run_bind, run_underlying hd, Result.andThen, Sem.run_pure, hget, run_checkKey hkd hk hc]
          rw [run_findKey hkd hf]
          simp only [Sem.run_bind, hz, Result.andThen, Sem.run_pure]
      · trivial
    · trivial
  · trivial

theorem keyOk_sameBits {d : TypeDesc} {x : AV} {v u : Value} (hx : VR ρ x v) (hk : keyOk (mkTK P d) x = true) (h : Instr.sameNow d v u = some true) : Instr.sameBits 10000 u v = true := by
  unfold keyOk at hk
  split at hk
  · rename_i he
    have := mkTK_int he; subst this
    have := hx.int_inv; subst this
    cases u <;> simp [Instr.sameNow] at h
    obtain ⟨h1, h2⟩ := h
    subst h1
    simp [Instr.sameBits, h2]
  · rename_i he
    have := mkTK_str he; subst this
    obtain ⟨s, rfl, hs⟩ := hx.str_inv
    cases u <;> simp [Instr.sameNow] at h
    rw [beq_toListBytes] at h
    simp only [Instr.sameBits, beq_toListBytes]
    simp only [beq_iff_eq] at h ⊢
    exact h.symm
  · cases hk
theorem Ents.modify {es : List (AV × AV × Nat)} {es' : Array MapEntry} (h : Ents ρ es es'.toList) (j : Nat) {k x : AV} {kv xv : Value} (hk : VR ρ k kv) (hx : VR ρ x xv) :
    Ents ρ (es.modify j fun e => (k, x, e.2.2)) (es'.modify j fun e => { e with key := kv, val := xv }).toList := by
  refine ⟨by simpa using h.1, fun i e e' he he' => ?_⟩
  rw [Array.toList_modify] at he'
  rw [List.getElem?_modify] at he he'
  simp only [Option.map_eq_map, Option.map_eq_some_iff] at he he'
  obtain ⟨a, ha, rfl⟩ := he
  obtain ⟨a', ha', rfl⟩ := he'
  obtain ⟨q1, q2, q3⟩ := h.2 i a a' ha ha'
  by_cases hij : j = i
  · simp only [hij, if_true]; exact ⟨hk, hx, q3⟩
  · simp only [hij, if_false, id]; exact ⟨q1, q2, q3⟩
theorem Ents.push {es : List (AV × AV × Nat)} {es' : Array MapEntry} (h : Ents ρ es es'.toList) {k x : AV} {kv xv : Value} (hk : VR ρ k kv) (hx : VR ρ x xv) (c : Nat) :
    Ents ρ (es ++ [(k, x, c)]) (es'.push { key := kv, val := xv, born := c }).toList := by
  refine ⟨by simp [h.1], fun i e e' he he' => ?_⟩
  rw [Array.toList_push] at he'
  by_cases hi : i < es.length
  · rw [List.getElem?_append_left hi] at he
    rw [List.getElem?_append_left (by rw [← h.1]; exact hi)] at he'
    exact h.2 i e e' he he'
  · rw [List.getElem?_append_right (by omega)] at he
    rw [List.getElem?_append_right (by rw [← h.1]; omega), ← h.1] at he'
    have h0 : i - es.length = 0 := by
      rcases Nat.eq_zero_or_pos (i - es.length) with h | h
      · exact h
      · rw [List.getElem?_eq_none (by simp; omega)] at he; cases he
    rw [h0] at he he'
    simp at he he'
    subst he; subst he'
    exact ⟨hk, hx, rfl⟩
theorem Ents.erase {es : List (AV × AV × Nat)} {es' : Array MapEntry} (h : Ents ρ es es'.toList) (j : Nat) : Ents ρ (es.eraseIdx j) (es'.eraseIdxIfInBounds j).toList := by
  have e : (es'.eraseIdxIfInBounds j).toList = es'.toList.eraseIdx j := by
    unfold Array.eraseIdxIfInBounds
    split
    · simp
    · rename_i hj; rw [List.eraseIdx_of_length_le (by simpa using hj)]
  rw [e]
  refine ⟨by simp [List.length_eraseIdx, h.1], fun i a a' ha ha' => ?_⟩
  rw [List.getElem?_eraseIdx] at ha ha'
  split at ha
  · rename_i hi; rw [if_pos hi] at ha'; exact h.2 i a a' ha ha'
  · rename_i hi; rw [if_neg hi] at ha'; exact h.2 _ a a' ha ha'

theorem sat_putMap {b : Nat} {es : List (AV × AV × Nat)} {clock : Nat} {r : BR} (hw : WR B ρ g w) (hO : O = Own ρ g) (hb : g.bl.get b = some (.map es clock)) (hr : ρ b = some r) {es2 : List (AV × AV × Nat)} {c2 : Nat} {es2' : Array MapEntry} (he : Ents ρ es2 es2'.toList)
    {α : Type} {R : Ren → AV → α → Prop} {s : Result α} {v : AV} {a : α} (hs : s = .ok a { w with heap := w.heap.setIfInBounds r.blk (.map es2' c2) }) (hv : R ρ v a) : Sat false P B ρ O w R s (.val v (g.put b (.map es2 c2))) := by
  obtain ⟨es', he1, he2⟩ := hw.mapAt hb hr
  have hB : B.n ≤ r.blk := hw.own_ge ⟨b, _, r, hb, .map _ _, hr, rfl⟩
  have hlt : r.blk < w.heap.size := (Array.getElem?_eq_some_iff.1 he1).1
  have hp := hw.put hb (.map _ _) hr (.map es2' c2) (.map es2 c2) (.map _ _) ⟨hB, es2', by simp [hlt], he⟩
  exact fun _ => ⟨ρ, a, _, hs, hv, ρ.le_refl, hp.1, by rw [hO]; exact hp.2, (fun h => by cases h)⟩

theorem run_setObj {r : Nat} {es : Array MapEntry} {c : Nat} (h : w.heap[r]? = some (.map es c)) (o : Obj) : (setObj r o).run P w = .ok () { w with heap := w.heap.setIfInBounds r o } := by
  simp [setObj, Sem.run, h]

theorem oMapUpdate_mono (l : List PC) (E : Env) (g : GS) (t : TypeId) (m k x : AV) (h : l <:+ g.pcs) : Mono l (oMapUpdate E g t m k x) := by
  unfold oMapUpdate
  refine mono_tiK fun i => ?_
  split
  · refine mono_tiK fun ki => mono_ck ?_
    split
    · refine mono_oK fun r => ?_
      split <;> exact h
    · trivial
  · trivial
theorem oMapUpdate_sat (htt : TTok P E.tt) (hw : WR B ρ g w) (hO : O = Own ρ g) (t : TypeId) {m k x : AV} {mv kv xv : Value} (hm : VR ρ m mv) (hk : VR ρ k kv) (hx : VR ρ x xv) :
    Sat false P B ρ O w RU ((Instr.mapUpdate t mv kv xv).run P w) (oMapUpdate E g t m k x) := by
  unfold oMapUpdate
  refine sat_tiK htt fun i hi => ?_
  obtain ⟨d, hd, hdk, _⟩ := hi.und
  split
  · rename_i kt et b hke
    rw [hke] at hdk; have := mkTK_map hdk; subst this
    obtain ⟨r, hr, rfl⟩ := hm.map_inv
    refine sat_tiK htt fun ki hki => sat_ck fun hc => ?_
    obtain ⟨kd, hkd, hkk, _⟩ := hki.und
    rw [← hkk] at hc
    split
    · rename_i es clock hb
      obtain ⟨es', he1, he2⟩ := hw.mapAt hb hr
      refine sat_oK fun q hq => ?_
      rw [← hkk] at hq
      have hf := findE_spec (P := P) hk es es'.toList 0 q he2 hq
      have hget : (getObj r.blk).run P w = .ok (.map es' clock) w := by simp [getObj, Sem.run, he1]
      split
      · rename_i j a
        obtain ⟨y, h1, h2, h3, e, e', h4, h5, h6⟩ := hf
        refine sat_putMap hw hO hb hr (es2' := es'.modify j fun e => { e with key := kv, val := xv }) (c2 := clock) (he2.modify j hk hx) (a := ()) ?_ rfl
        have hje : es'[j]? = some e' := by simpa using h5
        have hsb := keyOk_sameBits (P := P) hk hc h6
        simp only [Instr.mapUpdate, Sem.run_bind, run_underlying hd, Result.andThen, hget, run_checkKey hkd hk hc]
        rw [run_findKey hkd h1]
        simp only [Sem.run_bind, Instr.keyThatStays, hje, Option.map_some, Option.getD_some, hsb, if_true, Sem.run_pure, Result.andThen]
        exact run_setObj he1 _
      · refine sat_putMap hw hO hb hr (es2' := es'.push { key := kv, val := xv, born := clock }) (c2 := clock + 1) (he2.push hk hx clock) (a := ()) ?_ rfl
        simp only [Instr.mapUpdate, Sem.run_bind, run_underlying hd, Result.andThen, hget, run_checkKey hkd hk hc]
        rw [run_findKey hkd hf]
        exact run_setObj he1 _
    · trivial
  · trivial

theorem oDelete_mono (l : List PC) (E : Env) (g : GS) (t : TypeId) (m k : AV) (h : l <:+ g.pcs) : Mono l (oDelete E g t m k) := by
  unfold oDelete
  refine mono_tiK fun i => ?_
  split
  · refine mono_tiK fun ki => mono_ck ?_
    split
    · exact h
    · split
      · refine mono_oK fun r => ?_
        split <;> exact h
      · trivial
    · trivial
  · trivial
theorem oDelete_sat (htt : TTok P E.tt) (hw : WR B ρ g w) (hO : O = Own ρ g) {ts : Array TypeId} {args : Array Value} {ty t : TypeId} (h0 : ts[0]? = some t) {m k : AV} {mv kv : Value} (a0 : args[0]? = some mv) (a1 : args[1]? = some kv) (hm : VR ρ m mv) (hk : VR ρ k kv) :
    Sat false P B ρ O w RV ((Builtin.delete_ ts ty args).run P w) (oDelete E g t m k) := by
  unfold oDelete
  refine sat_tiK htt fun i hi => ?_
  obtain ⟨d, hd, hdk, _⟩ := hi.und
  have hnil : VR ρ (.tup []) (.tuple #[]) := VRs.tup (VRs.nil ρ)
  split
  · rename_i kt et hke
    rw [hke] at hdk; have := mkTK_map hdk; subst this
    refine sat_tiK htt fun ki hki => sat_ck fun hc => ?_
    obtain ⟨kd, hkd, hkk, _⟩ := hki.und
    rw [← hkk] at hc
    split
    · have := hm.mapn_inv; subst this
      refine sat_val (a := .tuple #[]) ?_ hnil hw hO
      simp only [Builtin.delete_, h0, a0, a1, Sem.run_bind, run_underlying hd, Result.andThen, run_checkKey hkd hk hc, Sem.run_pure]
    · rename_i b
      obtain ⟨r, hr, rfl⟩ := hm.map_inv
      split
      · rename_i es clock hb
        obtain ⟨es', he1, he2⟩ := hw.mapAt hb hr
        refine sat_oK fun q hq => ?_
        rw [← hkk] at hq
        have hf := findE_spec (P := P) hk es es'.toList 0 q he2 hq
        have hget : (getObj r.blk).run P w = .ok (.map es' clock) w := by simp [getObj, Sem.run, he1]
        split
        · rename_i j a
          obtain ⟨y, h1, h2, h3, e, e', h4, h5, h6⟩ := hf
          refine sat_putMap hw hO hb hr (es2' := es'.eraseIdxIfInBounds j) (c2 := clock) (he2.erase j) (a := .tuple #[]) ?_ hnil
          simp only [Builtin.delete_, h0, a0, a1, Sem.run_bind, run_underlying hd, Result.andThen, hget, run_checkKey hkd hk hc, Sem.run_pure]
          rw [run_findKey hkd h1]
          simp only [Sem.run_bind, run_setObj he1, Result.andThen, Sem.run_pure]
        · refine sat_putMap hw hO hb hr (es2' := es') (c2 := clock) he2 (a := .tuple #[]) ?_ hnil
          simp only [Builtin.delete_, h0, a0, a1, Sem.run_bind, run_underlying hd, Result.andThen, hget, run_checkKey hkd hk hc, Sem.run_pure]
          rw [run_findKey hkd hf]
          simp only [Sem.run_bind, run_setObj he1, Result.andThen, Sem.run_pure]
      · trivial
    · trivial
  · trivial

theorem oMakeMap_mono (l : List PC) (E : Env) (g : GS) (t : TypeId) (r : Option AV) (h : l <:+ g.pcs) : Mono l (oMakeMap E g t r) := by
  unfold oMakeMap
  split
  · exact mono_ck h
  · refine mono_tiK fun i => ?_
    split
    · exact mono_ck h
    · trivial
  · trivial
theorem oMakeMap_sat (htt : TTok P E.tt) (hw : WR B ρ g w) (hO : O = Own ρ g) (t : TypeId) {r : Option AV} {rv : Option Value} (hr : OVR ρ r rv) :
    Sat false P B ρ O w RV ((Instr.makeMap t rv).run P w) (oMakeMap E g t r) := by
  have key : ∀ (hc : nxOk g = true) (hrun : (Instr.makeMap t rv).run P w = .ok (.map (some w.heap.size)) { w with heap := w.heap.push (.map #[] 0) }), Sat false P B ρ O w RV ((Instr.makeMap t rv).run P w) (.val (.map g.nx) (g.new (.map [] 0))) := by
    intro hc hrun
    have hlt := nxOk_lt hc
    obtain ⟨a1, a2, a3⟩ := hw.new (.map [] 0) (.map _ _) (.map #[] 0) w.drawn 0 (by omega) (fun ρ' hle => ⟨hw.size, #[], by simp, rfl, fun i e e' he _ => by simp at he⟩)
    exact fun _ => ⟨_, _, _, hrun, .map g.nx ⟨w.heap.size, 0, 0⟩ (Ren.upd_same _ _ _), a1, a2, by rw [hO]; exact a3, (fun h => by cases h)⟩
  unfold oMakeMap
  split
  · have : rv = none := by cases rv with
      | none => rfl
      | some _ => exact hr.elim
    subst this
    exact sat_ck fun hc => key hc (by simp [Instr.makeMap, Result.andThen])
  · obtain ⟨v, rfl⟩ : ∃ v, rv = some v := by cases rv with
      | none => exact hr.elim
      | some v => exact ⟨v, rfl⟩
    have := VR.int_inv hr; subst this
    refine sat_tiK htt fun i hi => ?_
    obtain ⟨d, hd, hdk, _⟩ := hi.und
    split
    · rename_i hke
      rw [hke] at hdk; have := mkTK_map hdk; subst this
      exact sat_ck fun hc => key hc (by simp [Instr.makeMap, run_underlying hd, asInt, asIntOf, Result.andThen])
    · trivial
  · trivial

theorem oRange_mono (l : List PC) (E : Env) (g : GS) (t : TypeId) (x : AV) (h : l <:+ g.pcs) : Mono l (oRange E g t x) := by
  unfold oRange
  refine mono_tiK fun i => ?_
  split
  · exact mono_ck h
  · trivial
theorem oRange_sat (htt : TTok P E.tt) (hw : WR B ρ g w) (hO : O = Own ρ g) (t : TypeId) {x : AV} {v : Value} (hx : VR ρ x v) :
    Sat false P B ρ O w RV ((Instr.range t v).run P w) (oRange E g t x) := by
  unfold oRange
  refine sat_tiK htt fun i hi => ?_
  obtain ⟨d, hd, hdk, _⟩ := hi.und
  split
  · rename_i l hk
    rw [hk] at hdk; have := mkTK_str hdk; subst this
    obtain ⟨s, rfl, hs⟩ := hx.str_inv
    refine sat_ck fun hc => ?_
    have hlt := nxOk_lt hc
    obtain ⟨a1, a2, a3⟩ := hw.new (.siter l 0) (.siter _ _) (.stringIter s 0) w.drawn 0 (by omega) (fun ρ' hle => ⟨hw.size, rfl, s, by simp, hs⟩)
    refine fun _ => ⟨_, .pointer (some ⟨w.heap.size, 0, none⟩), _, ?_, .ptr g.nx 0 ⟨w.heap.size, 0, 0⟩ (Ren.upd_same _ _ _), a1, a2, by rw [hO]; exact a3, (fun h => by cases h)⟩
    simp [Instr.range, run_underlying hd, Result.andThen]
  · trivial
theorem oNext_mono (l : List PC) (g : GS) (x : AV) (s : Bool) (h : l <:+ g.pcs) : Mono l (oNext g x s) := by
  unfold oNext
  split
  · split
    · refine mono_ck ?_
      split
      · exact h
      · exact mono_ck h
      · trivial
    · trivial
  · trivial
theorem utf8_ascii {s : ByteArray} {i : Nat} {n : Nat} (h : (s.get! i).toNat = n) (hn : n < 128) : Utf8.decode s i = (n, 1) := by
  simp only [Utf8.decode, Nat.add_zero, h]
  rw [if_pos hn]
theorem oNext_sat (hw : WR B ρ g w) (hO : O = Own ρ g) {x : AV} {v : Value} (hx : VR ρ x v) (b : Bool) (t : TypeId) :
    Sat false P B ρ O w RV ((Instr.next v b t).run P w) (oNext g x b) := by
  unfold oNext
  split
  · rename_i k o
    obtain ⟨r, hr, rfl⟩ := hx.ptr_inv
    split
    · rename_i l pos hb
      refine sat_ck fun hc => ?_
      have := eqN_true hc; subst this
      rcases hw.blk k _ hb with e | ⟨r', hr', hok⟩
      · cases e
      rw [hr] at hr'; cases hr'
      obtain ⟨hB, hb0, s, h1, h2⟩ := hok
      have hget : (getObj r.blk).run P w = .ok (.stringIter s pos) w := by simp [getObj, Sem.run, h1]
      have hsz := str_len h2
      split
      · rename_i hl
        have hge : ¬ pos < s.size := by
          intro h
          rw [List.getElem?_eq_getElem (by omega)] at hl; cases hl
        refine sat_val (a := .tuple #[.bool false]) ?_ (VRs.tup (VRs.cons (.bool (.c false)) (VRs.nil ρ))) hw hO
        simp only [hb0, Nat.add_zero, Instr.next, Sem.run_bind, hget, Result.andThen]
        rw [if_neg hge]
        rfl
      · rename_i z hl
        refine sat_ck fun hc2 => ?_
        obtain ⟨c1, c2⟩ := andB_true hc2
        have h0 := leI_le c1
        have h128 := ltI_lt c2
        have hpl : pos < l.length := by
          rcases Nat.lt_or_ge pos l.length with h | h
          · exact h
          · rw [List.getElem?_eq_none h] at hl; cases hl
        have hlt : pos < s.size := by omega
        have hval : ((s.get! pos).toNat : Int) = z := by
          have := congrArg (fun m : List Int => m[pos]?) h2
          simp only [List.getElem?_map, hl, Option.map_some] at this
          rw [List.getElem?_eq_getElem (by simpa using hlt)] at this
          simp only [Option.map_some, Option.some.injEq] at this
          have e : s.get! pos = s.data.toList[pos]'(by simpa using hlt) := by
            show s.data[pos]! = _
            rw [getElem!_pos s.data pos hlt]
            simp
          rw [e]; exact this
        have hdec := utf8_ascii (s := s) (i := pos) rfl (by omega)
        have hlt5 : r.blk < w.heap.size := (Array.getElem?_eq_some_iff.1 h1).1
        have hp := hw.put hb (.siter _ _) hr (.stringIter s (pos + 1)) (.siter l (Nat.add pos 1)) (.siter _ _) ⟨hB, hb0, s, by simp [hlt5], h2⟩
        refine fun _ => ⟨ρ, .tuple #[.bool true, goInt pos, .int .i32 z], _, ?_, VRs.tup (VRs.cons (.bool (.c true)) (VRs.cons (.int .i64 (.c _)) (VRs.cons (.int .i32 (.c z)) (VRs.nil ρ)))), ρ.le_refl, hp.1, by rw [hO]; exact hp.2, (fun h => by cases h)⟩
        have hset : (setObj r.blk (.stringIter s (pos + 1))).run P w = .ok () { w with heap := w.heap.setIfInBounds r.blk (.stringIter s (pos + 1)) } := by simp [setObj, Sem.run, h1]
        simp only [hb0, Nat.add_zero, Instr.next, Sem.run_bind, hget, Result.andThen]
        rw [if_pos hlt, hdec]
        simp only [Sem.run_bind, hset, Result.andThen, Sem.run_pure, hval]
      · trivial
    · trivial
  · trivial
theorem oLen_mono (l : List PC) (E : Env) (g : GS) (t : TypeId) (x : AV) (h : l <:+ g.pcs) : Mono l (oLen E g t x) := by
  unfold oLen
  refine mono_tiK fun i => ?_
  split <;> first
    | exact h
    | trivial
    | (split <;> first | exact h | trivial)
    | (refine mono_tiK fun ai => ?_; split <;> first | exact h | trivial)
theorem oLen_sat (htt : TTok P E.tt) (hw : WR B ρ g w) (hO : O = Own ρ g) {ts : Array TypeId} {args : Array Value} {ty t : TypeId} (h0 : ts[0]? = some t) {x : AV} {v : Value} (a0 : args[0]? = some v) (hx : VR ρ x v) :
    Sat q P B ρ O w RV ((Builtin.len_ ts ty args).run P w) (oLen E g t x) := by
  unfold oLen
  refine sat_tiK htt fun i hi => ?_
  obtain ⟨d, hd, hdk, _⟩ := hi.und
  have fin : ∀ n : Nat, (Builtin.len_ ts ty args).run P w = .ok (goInt n) w → Sat q P B ρ O w RV ((Builtin.len_ ts ty args).run P w) (.val (.int .i64 (.c (.ofNat n))) g) :=
    fun n h => sat_val h (.int .i64 (.c _)) hw hO
  split
  · rename_i l hk
    rw [hk] at hdk; have := mkTK_str hdk; subst this
    obtain ⟨s, rfl, hs⟩ := hx.str_inv
    refine fin _ ?_
    simp [Builtin.len_, h0, a0, run_underlying hd, str_len hs]
  · rename_i hk
    rw [hk] at hdk; have := mkTK_arr hdk; subst this
    refine fin _ ?_
    simp [Builtin.len_, h0, a0, run_underlying hd]
  · rename_i hk
    rw [hk] at hdk; have := mkTK_sl hdk; subst this
    have : v = .slice none 0 0 := by cases hx; rfl
    subst this
    refine fin 0 ?_
    simp [Builtin.len_, h0, a0, run_underlying hd]
  · rename_i hk
    rw [hk] at hdk; have := mkTK_sl hdk; subst this
    obtain ⟨a, c, rfl⟩ : ∃ a c, v = .slice (some a) 0 c := by cases hx with | sle a c => exact ⟨a, c, rfl⟩
    refine fin 0 ?_
    simp [Builtin.len_, h0, a0, run_underlying hd]
  · rename_i len cap hk
    rw [hk] at hdk; have := mkTK_sl hdk; subst this
    cases hx
    refine fin _ ?_
    simp [Builtin.len_, h0, a0, run_underlying hd]
  · rename_i len esz hk
    rw [hk] at hdk; have := mkTK_sl hdk; subst this
    cases hx
    refine fin _ ?_
    simp [Builtin.len_, h0, a0, run_underlying hd]
  · rename_i hk
    rw [hk] at hdk; have := mkTK_map hdk; subst this
    have := hx.mapn_inv; subst this
    refine fin 0 ?_
    simp [Builtin.len_, h0, a0, run_underlying hd]
  · rename_i b hk
    rw [hk] at hdk; have := mkTK_map hdk; subst this
    obtain ⟨r, hr, rfl⟩ := hx.map_inv
    split
    · rename_i es clock hb
      obtain ⟨es', he1, he2⟩ := hw.mapAt hb hr
      have hget : (getObj r.blk).run P w = .ok (.map es' clock) w := by simp [getObj, Sem.run, he1]
      refine fin _ ?_
      have : es'.size = es.length := by have := he2.1; simpa using this.symm
      simp [Builtin.len_, h0, a0, run_underlying hd, hget, Result.andThen, this]
    · trivial
  · rename_i a hk
    rw [hk] at hdk; have := mkTK_ptr hdk; subst this
    refine sat_tiK htt fun ai hai => ?_
    obtain ⟨ad, had, hak, _⟩ := hai.und
    split
    · rename_i hk2
      rw [hk2] at hak; have := mkTK_arr hak; subst this
      refine fin _ ?_
      simp [Builtin.len_, h0, a0, run_underlying hd, run_underlying had]
    · trivial
  · trivial
theorem oCap_mono (l : List PC) (E : Env) (g : GS) (t : TypeId) (x : AV) (h : l <:+ g.pcs) : Mono l (oCap E g t x) := by
  unfold oCap
  refine mono_tiK fun i => ?_
  split <;> first | exact h | trivial
theorem oCap_sat (htt : TTok P E.tt) (hw : WR B ρ g w) (hO : O = Own ρ g) {ts : Array TypeId} {args : Array Value} {ty t : TypeId} (h0 : ts[0]? = some t) {x : AV} {v : Value} (a0 : args[0]? = some v) (hx : VR ρ x v) :
    Sat q P B ρ O w RV ((Builtin.cap_ ts ty args).run P w) (oCap E g t x) := by
  unfold oCap
  refine sat_tiK htt fun i hi => ?_
  obtain ⟨d, hd, hdk, _⟩ := hi.und
  split
  · rename_i hk
    rw [hk] at hdk; have := mkTK_sl hdk; subst this
    have : v = .slice none 0 0 := by cases hx; rfl
    subst this
    refine sat_val (a := goInt 0) ?_ (.int .i64 (.c 0)) hw hO
    simp [Builtin.cap_, h0, a0, run_underlying hd]
  · rename_i len cap hk
    rw [hk] at hdk; have := mkTK_sl hdk; subst this
    cases hx
    refine sat_val (a := goInt cap) ?_ (.int .i64 (.c _)) hw hO
    simp [Builtin.cap_, h0, a0, run_underlying hd]
  · trivial

theorem minA_mono (l : List PC) (mx : Bool) (g : GS) (h : l <:+ g.pcs) : ∀ (ys : List AV) (x : AV), Mono l (minA mx g x ys)
  | [], x => h
  | y :: ys, x => by
    unfold minA
    split
    · exact minA_mono l mx g h ys _
    · trivial
theorem minA_sat (hw : WR B ρ g w) (hO : O = Own ρ g) (mx : Bool) (op : Value → Value → Sem Value) (hop : op = if mx then Builtin.max2 else Builtin.min2) : ∀ (ys : List AV) (yv : List Value) (x : AV) (v : Value), VR ρ x v → VRs ρ ys yv →
    Sat q P B ρ O w RV ((yv.foldlM op v : Sem Value).run P w) (minA mx g x ys)
  | [], yv, x, v, hx, hy => by
    have := hy.nil_inv; subst this
    exact sat_val (by simp) hx hw hO
  | y :: ys, yv, x, v, hx, hy => by
    obtain ⟨u, yv', rfl, h1, h2⟩ := hy.cons_inv
    unfold minA
    split
    · rename_i k a j b
      have := hx.int_inv; subst this
      have := h1.int_inv; subst this
      have ih := minA_sat hw hO mx op hop ys yv' (.int k (N2 (mmF mx) a b)) _ (.int k _) h2
      have hrun : (op (.int k a.v) (.int j b.v)).run P w = .ok (.int k (N2 (mmF mx) a b).v) w := by
        rw [N2_v, hop]
        unfold mmF
        cases mx
        · simp only [Bool.false_eq_true, if_false, Builtin.min2, Sem.run_pure]
          by_cases h : b.v < a.v
          · rw [if_pos h, ltI_eq, decide_eq_true h]
          · rw [if_neg h, ltI_eq, decide_eq_false h]
        · simp only [if_true, Builtin.max2, Sem.run_pure]
          by_cases h : a.v < b.v
          · rw [if_pos h, ltI_eq, decide_eq_true h]
          · rw [if_neg h, ltI_eq, decide_eq_false h]
      rw [List.foldlM_cons, Sem.run_bind, hrun]
      exact ih
    · trivial
end
end Go.Eng

/- One operation, of whatever kind: the evaluator's answer and the model's. -/
namespace Go.Eng
open Go.RowKit
set_option linter.unusedVariables false
set_option linter.unusedSimpArgs false

def SatN (q : Bool) (P : Program) (B : Base) (ρ : Ren) (O : Nat → Prop) (w : World) (g : GS) (r : Result Next) : OR → Prop
  | .fail => True
  | .val v g' => PCs g'.pcs → ∃ ρ' v' w', (r = .ok (.value v') w' ∨ (v' = undef ∧ r = .ok .skip w')) ∧ VR ρ' v v' ∧ ρ.le ρ' ∧ WR B ρ' g' w' ∧ Stp O w (Own ρ' g') w' ∧ (q = true → ρ' = ρ ∧ w' = w)
  | .call f args g' => PCs g'.pcs → g' = g ∧ ∃ vs : Array Value, r = (callFunc f vs).run P w ∧ VRs ρ args vs.toList
  | .dfr f args g' => PCs g'.pcs → g' = g ∧ ∃ (cap dargs : Array Value), r = .ok (.defer { target := .fn (.func f) cap, args := dargs }) w ∧ VRs ρ args (dargs ++ cap).toList
  | .pan v g' => PCs g'.pcs → g' = g ∧ ∃ v', r = .halt (.panic v') w ∧ VR ρ v v'

section
variable {q : Bool} {P : Program} {E : Env} {B : Base} {ρ : Ren} {O : Nat → Prop} {w : World} {g : GS}

theorem satN_v {s : Sem Value} {r : OR} (h : Sat q P B ρ O w RV (s.run P w) r) : SatN q P B ρ O w g ((do pure (.value (← s)) : Sem Next).run P w) r := by
  cases r with
  | fail => trivial
  | val v g' =>
    intro hp
    obtain ⟨ρ', v', w', h1, h2, h3, h4, h5, h6⟩ := h hp
    refine ⟨ρ', v', w', .inl ?_, h2, h3, h4, h5, h6⟩
    simp only [Sem.run_bind, h1, Result.andThen, Sem.run_pure]
  | call f a g' => exact fun hp => (h hp).elim
  | dfr f a g' => exact fun hp => (h hp).elim
  | pan v g' => exact fun hp => (h hp).elim
theorem satN_u {s : Sem Unit} {r : OR} (h : Sat q P B ρ O w RU (s.run P w) r) : SatN q P B ρ O w g ((do s; pure .skip : Sem Next).run P w) r := by
  cases r with
  | fail => trivial
  | val v g' =>
    intro hp
    obtain ⟨ρ', v', w', h1, h2, h3, h4, h5, h6⟩ := h hp
    refine ⟨ρ', undef, w', .inr ⟨rfl, ?_⟩, ?_, h3, h4, h5, h6⟩
    · simp only [Sem.run_bind, h1, Result.andThen, Sem.run_pure]
    · have : v = .undef := h2
      subst this; exact .undef
  | call f a g' => exact fun hp => (h hp).elim
  | dfr f a g' => exact fun hp => (h hp).elim
  | pan v g' => exact fun hp => (h hp).elim
theorem satN_val {r : Result Next} {v : AV} {v' : Value} (h : r = .ok (.value v') w) (hv : VR ρ v v') (hw : WR B ρ g w) (hO : O = Own ρ g) : SatN q P B ρ O w g r (.val v g) :=
  fun _ => ⟨ρ, v', w, .inl h, hv, ρ.le_refl, hw, by rw [hO]; exact Stp.refl _ _, fun _ => ⟨rfl, rfl⟩⟩

theorem VRs.map {α : Type} {X : α → AV} {V : α → Value} (h : ∀ x, VR ρ (X x) (V x)) (l : List α) : VRs ρ (l.map X) (l.map V) := by
  induction l with
  | nil => exact VRs.nil ρ
  | cons a l ih => exact VRs.cons (h a) ih
theorem VRs.get' {l : List AV} {xs : Array Value} (h : VRs ρ l xs.toList) {i : Nat} {a : AV} (ha : l[i]? = some a) : ∃ x, xs[i]? = some x ∧ VR ρ a x := by
  obtain ⟨x, hx, hv⟩ := h.get ha
  exact ⟨x, by simpa using hx, hv⟩

/- Operations that look at memory at most. -/
noncomputable def isLight (E : Env) : Op → Bool
  | .move _ | .assign _ | .pick .. | .build .. | .load .. | .nilCheck _ | .binOp .. | .unOp .. | .makeInterface .. | .makeFunc .. | .slice .. | .fieldAddr .. | .field .. | .indexAddr .. | .index .. | .lookup .. | .typeAssert .. | .extract .. => true
  | .convert _ d _ => match E.tt.get d with
    | some i => match i.k with
      | .sl _ => false
      | _ => true
    | none => false
  | .call { callee := .builtin b, .. } => match b with
    | .len | .cap | .min | .max => true
    | _ => false
  | _ => false

variable {X : Operand → AV} {V : Operand → Value}

theorem parts_rel (hX : ∀ x, VR ρ (X x) (V x)) (parts : Array (Nat × Operand)) :
    (parts.toList.map fun p => (p.1, X p.2)).length = (parts.map fun (i, x) => (i, V x)).toList.length ∧
    ∀ (i : Nat) p r, (parts.toList.map fun p => (p.1, X p.2))[i]? = some p → (parts.map fun (i, x) => (i, V x)).toList[i]? = some r → p.1 = r.1 ∧ VR ρ p.2 r.2 := by
  refine ⟨by simp, fun i p r hp hr => ?_⟩
  simp only [Array.toList_map, List.getElem?_map, Option.map_eq_some_iff] at hp hr
  obtain ⟨a, ha, rfl⟩ := hp
  obtain ⟨b, hb, rfl⟩ := hr
  rw [ha] at hb; cases hb
  exact ⟨rfl, hX _⟩

theorem oPick_mono (l : List PC) (g : GS) (c a b : AV) (h : l <:+ g.pcs) : Mono l (oPick g c a b) := by
  unfold oPick
  split
  · exact h
  · split
    · exact h
    · exact mono_ck h
    · trivial
  · trivial

theorem oBuiltin_mono (l : List PC) (E : Env) (g : GS) (b : Builtin) (ts : List TypeId) (args : List AV) (h : l <:+ g.pcs) : Mono l (oBuiltin E g b ts args) := by
  unfold oBuiltin
  split
  · split
    · exact oLen_mono _ _ _ _ _ h
    · trivial
  · split
    · exact oAppend_mono _ _ _ _ _ _ _ h
    · trivial
  · split
    · exact oCopy_mono _ _ _ _ _ _ h
    · trivial
  · split
    · exact oCap_mono _ _ _ _ _ h
    · trivial
  · split
    · exact minA_mono _ _ _ h _ _
    · trivial
  · split
    · exact minA_mono _ _ _ h _ _
    · trivial
  · split
    · exact oDelete_mono _ _ _ _ _ _ h
    · trivial
  · split
    · exact h
    · trivial
  · trivial

theorem evO_mono (l : List PC) (E : Env) (g : GS) (X : Operand → AV) (o : Op) (h : l <:+ g.pcs) : Mono l (evO E g X o) := by
  cases o <;> simp only [evO] <;> first
    | exact h
    | trivial
    | exact oPick_mono _ _ _ _ _ h
    | exact mono_tiK fun _ => mono_oNewK h fun _ _ h => h
    | exact mono_ck (mono_oNewK h fun _ _ h => h)
    | exact oBin_mono _ _ _ _ _ _ _ _ h
    | exact oUn_mono _ _ _ _ h
    | exact oConvert_mono _ _ _ _ _ _ h
    | exact oMakeIface_mono _ _ _ _ _ h
    | exact oMakeMap_mono _ _ _ _ _ h
    | exact oMakeSlice_mono _ _ _ _ _ _ h
    | exact oSlice_mono _ _ _ _ _ _ _ _ h
    | exact oLookup_mono _ _ _ _ _ _ _ h
    | exact oMapUpdate_mono _ _ _ _ _ _ _ h
    | exact oTypeAssert_mono _ _ _ _ _ _ h
    | exact oRange_mono _ _ _ _ _ h
    | exact oNext_mono _ _ _ _ h
    | skip
  case build t parts =>
    unfold oBuild
    refine mono_tiK fun i => ?_
    split
    · exact mono_ck (mono_oK fun _ => h)
    · exact mono_tiK fun _ => mono_oK fun _ => h
    · trivial
  case buildSlice t n parts =>
    unfold oBuildSlice
    refine mono_tiK fun i => ?_
    split
    · exact mono_tiK fun _ => mono_ck (mono_oK fun _ => mono_oNewK h fun _ _ h => h)
    · trivial
  case load t a =>
    unfold oLoad
    split
    · refine mono_tiK fun i => ?_
      split
      · exact mono_oK fun _ => h
      · refine mono_oK fun l => ?_
        split
        · exact h
        · trivial
    · trivial
  case store t a x =>
    unfold oStore
    split
    · exact mono_tiK fun _ => mono_ck (mono_writeAt h fun _ h => h)
    · trivial
  case nilCheck x =>
    unfold oNilCheck
    split <;> first | exact h | trivial
  case fieldAddr t x f =>
    unfold oFieldAddr
    split
    · refine mono_tiK fun i => ?_
      split
      · exact mono_oK fun _ => mono_ck h
      · trivial
    · trivial
  case field t x f =>
    unfold oField
    split
    · refine mono_tiK fun i => ?_
      split
      · refine mono_oK fun _ => mono_ck ?_
        unfold partA
        split
        · exact mono_ck h
        · exact mono_oK fun _ => h
      · trivial
    · trivial
  case indexAddr t x i =>
    unfold oIndexAddr
    split
    · refine mono_tiK fun i => ?_
      split <;> first
        | exact mono_tiK fun _ => mono_decN h fun _ _ h => mono_ck h
        | trivial
    · trivial
  case index t x i =>
    unfold oIndex
    split
    · refine mono_tiK fun i => ?_
      split
      · refine mono_tiK fun _ => mono_decN h fun _ _ h => mono_ck ?_
        unfold partA
        split
        · exact mono_ck h
        · exact mono_oK fun _ => h
      · exact mono_decN h fun _ _ h => mono_ck (mono_oK fun _ => h)
      · trivial
    · trivial
  case extract x i =>
    unfold oExtract
    split
    · exact mono_oK fun _ => h
    · trivial
  case call c =>
    unfold oCall
    split
    · split
      · exact h
      · trivial
    · exact oBuiltin_mono _ _ _ _ _ _ h
    · trivial
  case defer c =>
    unfold oDefer
    split
    · split
      · exact h
      · trivial
    · trivial
  case panic x =>
    unfold oPanic
    split
    · exact h
    · trivial

theorem oPick_sat (hw : WR B ρ g w) (hO : O = Own ρ g) {c a b : AV} {cv av bv : Value} (hc : VR ρ c cv) (ha : VR ρ a av) (hb : VR ρ b bv) :
    SatN q P B ρ O w g ((do pure (.value (if ← asBool cv then av else bv)) : Sem Next).run P w) (oPick g c a b) := by
  unfold oPick
  split
  · rename_i t
    have := hc.bool_inv; subst this
    cases t
    · exact satN_val (v' := bv) (by simp [asBool, BB.v]) hb hw hO
    · exact satN_val (v' := av) (by simp [asBool, BB.v]) ha hw hO
  · rename_i t
    have := hc.bool_inv; subst this
    split
    · rename_i x y
      have := ha.bool_inv; subst this
      have := hb.bool_inv; subst this
      refine satN_val (v' := .bool (BB.s (Bool.rec (motive := fun _ => Bool) y.v x.v t)).v) ?_ (.bool _) hw hO
      cases t <;> simp [asBool, BB.v]
    · rename_i k x j y
      have := ha.int_inv; subst this
      have := hb.int_inv; subst this
      unfold ck
      cases hk : eqN (kindNo k) (kindNo j) with
      | false => trivial
      | true =>
        have := kindNo_inj hk; subst this
        refine satN_val (v' := .int k (N.s (Bool.rec (motive := fun _ => Int) y.v x.v t)).v) ?_ (.int k _) hw hO
        cases t <;> simp [asBool, BB.v, N.v]
    · trivial
  · trivial

theorem oBuiltin_sat (htt : TTok P E.tt) (hw : WR B ρ g w) (hO : O = Own ρ g) (b : Builtin) (ts : Array TypeId) (ty : TypeId) (cs : Array Bool) {args : List AV} {vs : Array Value} (ha : VRs ρ args vs.toList)
    (hq : q = true → b = .len ∨ b = .cap ∨ b = .min ∨ b = .max) :
    SatN q P B ρ O w g ((builtin b ts ty cs vs).run P w) (oBuiltin E g b ts.toList args) := by
  have tsAt : ∀ (i : Nat) t, ts.toList[i]? = some t → ts[i]? = some t := fun i t h => by simpa using h
  unfold oBuiltin
  split
  · split
    · rename_i t ts' x args' e1
      obtain ⟨v, hv, hvr⟩ := ha.get' (i := 0) rfl
      exact satN_v (oLen_sat htt hw hO (tsAt 0 t (by rw [e1]; rfl)) hv hvr)
    · trivial
  · have hq0 : q = false := by
      cases q
      · rfl
      · rcases hq rfl with h | h | h | h <;> cases h
    subst hq0
    split
    · rename_i t ts' s x args' e1
      obtain ⟨v, hv, hvr⟩ := ha.get' (i := 0) rfl
      obtain ⟨u, hu, hur⟩ := ha.get' (i := 1) rfl
      exact satN_v (oAppend_sat htt hw hO (tsAt 0 t (by rw [e1]; rfl)) (by
        have : ts[1]? = ts.toList[1]? := by simp
        rw [this, e1]; rfl) hv hu hvr hur)
    · trivial
  · have hq0 : q = false := by
      cases q
      · rfl
      · rcases hq rfl with h | h | h | h <;> cases h
    subst hq0
    split
    · rename_i t ts' d x args' e1
      obtain ⟨v, hv, hvr⟩ := ha.get' (i := 0) rfl
      obtain ⟨u, hu, hur⟩ := ha.get' (i := 1) rfl
      exact satN_v (oCopy_sat htt hw hO (tsAt 0 t (by rw [e1]; rfl)) hv hu hvr hur)
    · trivial
  · split
    · rename_i t ts' x args' e1
      obtain ⟨v, hv, hvr⟩ := ha.get' (i := 0) rfl
      exact satN_v (oCap_sat htt hw hO (tsAt 0 t (by rw [e1]; rfl)) hv hvr)
    · trivial
  · split
    · rename_i x l
      obtain ⟨v, us, h1, h2, h3⟩ := ha.cons_inv
      have := minA_sat (q := q) (P := P) hw hO false Builtin.min2 rfl l us x v h2 h3
      refine satN_v ?_
      simp only [Builtin.min_, h1]
      exact this
    · trivial
  · split
    · rename_i x l
      obtain ⟨v, us, h1, h2, h3⟩ := ha.cons_inv
      have := minA_sat (q := q) (P := P) hw hO true Builtin.max2 rfl l us x v h2 h3
      refine satN_v ?_
      simp only [Builtin.max_, h1]
      exact this
    · trivial
  · have hq0 : q = false := by
      cases q
      · rfl
      · rcases hq rfl with h | h | h | h <;> cases h
    subst hq0
    split
    · rename_i t ts' m k args' e1
      obtain ⟨v, hv, hvr⟩ := ha.get' (i := 0) rfl
      obtain ⟨u, hu, hur⟩ := ha.get' (i := 1) rfl
      exact satN_v (oDelete_sat htt hw hO (tsAt 0 t (by rw [e1]; rfl)) hv hu hvr hur)
    · trivial
  · split
    · rename_i t x l
      obtain ⟨v, us, h1, h2, h3⟩ := ha.cons_inv
      obtain ⟨y, rfl, hy⟩ : ∃ y, v = .iface t y ∧ VR ρ x y := by
        cases h2 with | ifc _ _ y h => exact ⟨y, rfl, h⟩
      refine fun _ => ⟨rfl, .iface t y, ?_, h2⟩
      have hv0 : vs.getD 0 .nilIface = .iface t y := by
        have : vs[0]? = some (.iface t y) := by
          have : vs[0]? = vs.toList[0]? := by simp
          rw [this, h1]; rfl
        simp [this]
      simp [builtin, hv0, Instr.panic, Result.andThen]
    · trivial
  · trivial

theorem evO_sat (htt : TTok P E.tt) (hw : WR B ρ g w) (hO : O = Own ρ g) (hX : ∀ x, VR ρ (X x) (V x)) (o : Oper) (hq : q = true → isLight E o.op = true) :
    SatN q P B ρ O w g ((execOp V o).run P w) (evO E g X o.op) := by
  obtain ⟨dst, op, type, pos, after, guard⟩ := o
  have nq : isLight E op = false → q = false := fun h => by
    cases q
    · rfl
    · rw [hq rfl] at h; cases h
  cases op
  case move x => exact satN_val rfl (hX x) hw hO
  case assign x => exact satN_val rfl (hX x) hw hO
  case pick c a b => exact oPick_sat hw hO (hX c) (hX a) (hX b)
  case alloc t =>
    have := nq rfl; subst this
    exact satN_v (oAlloc_sat htt hw hO)
  case box t x =>
    have := nq rfl; subst this
    exact satN_v (oBox_sat hw hO (hX x))
  case build t parts => exact satN_v (oBuild_sat htt hw hO (parts_rel hX parts))
  case buildSlice t n parts =>
    have := nq rfl; subst this
    exact satN_v (oBuildSlice_sat htt hw hO (parts_rel hX parts))
  case insert t m k x =>
    have := nq rfl; subst this
    exact satN_u (oMapUpdate_sat htt hw hO t (hX m) (hX k) (hX x))
  case load t a => exact satN_v (oLoad_sat htt hw hO (hX a))
  case store t a x =>
    have := nq rfl; subst this
    exact satN_u (oStore_sat htt hw hO (hX a) (hX x))
  case nilCheck x =>
    have hx := hX x
    simp only [evO, oNilCheck]
    split
    · rename_i b o' he
      rw [he] at hx
      obtain ⟨r, hr, hv⟩ := hx.ptr_inv
      refine satN_val (v' := V x) ?_ hx hw hO
      simp [execOp, hv]
    · rename_i f a b he
      rw [he] at hx
      obtain ⟨xs, ys, hv, _, _⟩ := hx.fn_inv
      refine satN_val (v' := V x) ?_ hx hw hO
      simp [execOp, hv]
    · rename_i t v he
      rw [he] at hx
      refine satN_val (v' := V x) ?_ hx hw hO
      cases hv : V x <;> rw [hv] at hx <;> first | (cases hx; done) | (simp [execOp, hv])
    · trivial
  case binOp op t x y yt => exact satN_v (oBin_sat htt hw hO op t x y (hX x) (hX y))
  case unOp op t x => exact satN_v (oUn_sat hw hO op (hX x))
  case convert s d x =>
    refine satN_v (oConvert_sat htt hw hO s d (hX x) fun e i hi el hk => ?_)
    have := hq e
    simp only [isLight] at this
    cases ht : E.tt.get d with
    | none => rw [ht] at this; cases this
    | some j =>
      have hj := htt d j ht
      rw [ht] at this
      obtain ⟨d1, h1, h2, _⟩ := hi.und
      obtain ⟨d2, h3, h4, _⟩ := hj.und
      rw [h1] at h3; cases h3
      rw [h2] at h4
      simp only [← h4, hk] at this
      cases this
  case makeInterface t x => exact satN_v (oMakeIface_sat htt hw hO t (hX x))
  case makeFunc f a b =>
    refine satN_val (v' := .func f (a.map V) (b.map V)) (by simp [execOp, Instr.makeFunc]) ?_ hw hO
    have h1 := VRs.map hX a.toList
    have h2 := VRs.map hX b.toList
    refine .fn f _ _ _ _ (by simp) (by simp) (fun i x y hx hy => h1.2 i x y hx (by simpa using hy)) (fun i x y hx hy => h2.2 i x y hx (by simpa using hy))
  case makeMap t r =>
    have := nq rfl; subst this
    refine satN_v (oMakeMap_sat htt hw hO t ?_)
    cases r with
    | none => trivial
    | some x => exact hX x
  case makeSlice t l c =>
    have := nq rfl; subst this
    exact satN_v (oMakeSlice_sat htt hw hO (hX l) (hX c))
  case slice t x lo hi mx =>
    refine satN_v (oSlice_sat htt hw hO (hX x) ?_ ?_ ?_)
    · cases lo with | none => trivial | some x => exact hX x
    · cases hi with | none => trivial | some x => exact hX x
    · cases mx with | none => trivial | some x => exact hX x
  case fieldAddr t x f => exact satN_v (oFieldAddr_sat htt hw hO (hX x))
  case field t x f => exact satN_v (oField_sat htt hw hO (hX x))
  case indexAddr t x i => exact satN_v (oIndexAddr_sat htt hw hO (hX x) (hX i))
  case index t x i => exact satN_v (oIndex_sat htt hw hO (hX x) (hX i))
  case lookup t x i ok => exact satN_v (oLookup_sat htt hw hO t (hX x) (hX i) ok)
  case mapUpdate t m k x =>
    have := nq rfl; subst this
    exact satN_u (oMapUpdate_sat htt hw hO t (hX m) (hX k) (hX x))
  case typeAssert x xt t ok => exact satN_v (oTypeAssert_sat htt hw hO (hX x) xt t ok)
  case extract x i => exact satN_v (oExtract_sat hw hO (hX x) i)
  case range t x =>
    have := nq rfl; subst this
    exact satN_v (oRange_sat htt hw hO t (hX x))
  case next x s =>
    have := nq rfl; subst this
    exact satN_v (oNext_sat hw hO (hX x) s type)
  case call c =>
    obtain ⟨callee, args, argTypes⟩ := c
    have hargs : VRs ρ (args.toList.map X) (args.map V).toList := by
      have := VRs.map hX args.toList
      simpa using this
    cases callee with
    | value f =>
      simp only [evO, oCall]
      split
      · rename_i id first cap he
        have hf := hX f
        rw [he] at hf
        obtain ⟨xs, ys, hv, h1, h2⟩ := hf.fn_inv
        refine fun _ => ⟨rfl, (xs ++ args.map V) ++ ys, ?_, ?_⟩
        · simp [execOp, resolve, hv, Deferred.ofValue, invoke, Result.andThen]
        · have := (h1.append hargs).append h2
          simpa using this
      · trivial
    | builtin b =>
      simp only [evO, oCall]
      have hb := fun cs => oBuiltin_sat (q := q) htt hw hO b argTypes type cs hargs (fun e => by
        have := hq e
        simp only [isLight] at this
        cases b <;> first | (cases this; done) | simp)
      simp only [execOp, resolve, invoke, Sem.run_bind, Sem.run_pure, Result.andThen]
      exact hb _
    | invoke r m => trivial
  case defer c =>
    obtain ⟨callee, args, argTypes⟩ := c
    have hargs : VRs ρ (args.toList.map X) (args.map V).toList := by
      have := VRs.map hX args.toList
      simpa using this
    cases callee with
    | value f =>
      simp only [evO, oDefer]
      split
      · rename_i id first cap he
        have hf := hX f
        rw [he] at hf
        obtain ⟨xs, ys, hv, h1, h2⟩ := hf.fn_inv
        refine fun _ => ⟨rfl, ys, xs ++ args.map V, ?_, ?_⟩
        · simp [execOp, resolve, hv, Deferred.ofValue, Result.andThen]
        · have := (h1.append hargs).append h2
          simpa using this
      · trivial
    | builtin b => trivial
    | invoke r m => trivial
  case panic x =>
    have hx := hX x
    simp only [evO, oPanic]
    split
    · rename_i t v he
      rw [he] at hx
      obtain ⟨y, hv, hy⟩ : ∃ y, V x = .iface t y ∧ VR ρ v y := by
        cases hvx : V x <;> rw [hvx] at hx <;> first | (cases hx; done) | skip
        cases hx with | ifc _ _ _ h => exact ⟨_, rfl, h⟩
      refine fun _ => ⟨rfl, .iface t y, ?_, .ifc t v y hy⟩
      simp [execOp, hv, Instr.panic, Result.andThen]
    · trivial
  all_goals trivial
end
end Go.Eng

/- The evaluator of code: regions, tests, loops, calls. -/
namespace Go.Eng
open Go.RowKit
set_option linter.unusedVariables false
set_option linter.unusedSimpArgs false

structure ST where
  tm : T AV
  n : Nat
  df : List (FuncId × List AV)
  g : GS
inductive EX where
  | normal
  | exit (id : Nat)
  | ret
  | pan (v : AV)
inductive RR where
  | fail (why : String)
  | ok (e : EX) (s : ST)
/- What a call comes to; 'nd': it has deferred nothing. -/
inductive RC where
  | fail (why : String)
  | ret (nd : Bool) (v : AV) (g : GS)
  | pan (nd : Bool) (v : AV) (g : GS)

noncomputable section
def ST.put (s : ST) (d : Option Tmp) (v : AV) (g : GS) (K : ST → RR) : RR :=
  Option.rec (motive := fun _ => RR) (K ⟨s.tm, s.n, s.df, g⟩) (fun d => Bool.rec (motive := fun _ => RR) (.fail "slot") (K ⟨T.set (some v) D s.tm d, s.n, s.df, g⟩) (Nat.blt d s.n)) d
/- A library function without a Go body. -/
def indexOfB (c : Int) : List N → Nat → Option Int
  | [], _ => some (-1)
  | .c z :: l, i => match eqI z c with
    | true => some (.ofNat i)
    | false => indexOfB c l (i + 1)
  | .s _ :: _, _ => none
def cellA (g : GS) (b o : Nat) : Option AV :=
  match cellsAt g b o 1 with
  | some (v :: _) => some v
  | _ => none
def rwCell (g : GS) (b o : Nat) : Option AV :=
  match g.bl.get b with
  | some (.cells true _ size cs) => match Nat.blt o size with
    | true => cs.get o
    | false => none
  | _ => none
def oXK (g : GS) (k : XK) (args : List AV) : OR :=
  match k, args with
  | .nop, [] => .val .undef g
  | .nopA, [.ptr _ _] => .val .undef g
  | .load k, [.ptr b o] => oK (cellA g b o) fun v => match v with
    | .int j n => ck (eqN (kindNo k) (kindNo j)) (.val (.int j n) g)
    | _ => .fail
  | .store, [.ptr b o, .int j n] => oK (rwCell g b o) fun _ => writeAt g b o [.int j n] fun g => .val .undef g
  | .cas k, [.ptr b o, .int j old, .int i new] => ck (andB (eqN (kindNo k) (kindNo j)) (eqN (kindNo k) (kindNo i))) (oK (rwCell g b o) fun v => match v with
    | .int h n => ck (eqN (kindNo k) (kindNo h)) (decN n g fun n g => decN old g fun old g => match eqI n old with
      | true => writeAt g b o [.int i new] fun g => .val (.bool (.c true)) g
      | false => .val (.bool (.c false)) g)
    | _ => .fail)
  | .add k, [.ptr b o, .int j y] => ck (eqN (kindNo k) (kindNo j)) (oK (rwCell g b o) fun v => match v with
    | .int i n => ck (eqN (kindNo k) (kindNo i)) (writeAt g b o [.int k (N2 (fun x y => wrapF k (addI x y)) n y)] fun g => .val (.int k (N2 (fun x y => wrapF k (addI x y)) n y)) g)
    | _ => .fail)
  | .mclone, [.ifc t (.map b)] => match g.bl.get b with
    | some (.map es clock) => ck (nxOk g) (.val (.ifc t (.map g.nx)) (g.new (.map es clock)))
    | _ => .fail
  | .indexByte, [.str l, .int .u8 (.c c)] => ck (andB (leI 0 c) (ltI c 256)) (oK (indexOfB c l 0) fun z => .val (.int .i64 (.c z)) g)
  | _, _ => .fail

def callK (E : Env) (rec : FuncId → List AV → GS → RC) (f : FuncId) (args : List AV) (g : GS) (kv : AV → GS → RR) (kp : AV → GS → RR) : RR :=
  Option.rec (motive := fun _ => RR)
    (RC.rec (motive := fun _ => RR) (fun y => .fail y) (fun _ v g => kv v g) (fun _ v g => kp v g) (rec f args g))
    (fun k => OR.rec (motive := fun _ => RR) (.fail "extern") (fun v g => kv v g) (fun _ _ _ => .fail "extern") (fun _ _ _ => .fail "extern") (fun _ _ => .fail "extern") (oXK g k args)) (E.xt.get f)
def evOp (E : Env) (rec : FuncId → List AV → GS → RC) (o : Oper) (s : ST) (K : ST → RR) : RR :=
  OR.rec (motive := fun _ => RR) (.fail o.pos) (fun v g => s.put o.dst v g K)
    (fun f args g => callK E rec f args g (fun v g => s.put o.dst v g K) (fun v g => .ok (.pan v) ⟨s.tm, s.n, s.df, g⟩))
    (fun f args g => ST.put ⟨s.tm, s.n, (f, args) :: s.df, g⟩ o.dst .undef g K)
    (fun v g => .ok (.pan v) ⟨s.tm, s.n, s.df, g⟩) (evO E s.g (evX E s.tm) o.op)
/- Is a guarded operation wanted? -/
def guardK (ops : List Oper) (s : ST) (o : Oper) (yes no : ST → RR) : RR :=
  Option.rec (motive := fun _ => RR) (yes s) (fun p => match (ops[p.1]?).bind (·.dst) with
    | none => no s
    | some d => match (s.tm.get d).getD .undef with
      | .bool (.c b) => Bool.rec (motive := fun _ => RR) (no s) (yes s) (b == p.2)
      | .undef => no s
      | .bool (.s t) => List.rec (motive := fun _ => RR) (.fail "oracle") (fun z r _ => match (!(eqI z 0)) == p.2 with
          | true => yes ⟨s.tm, s.n, s.df, { s.g with orc := r, pcs := .b t (!(eqI z 0)) :: s.g.pcs }⟩
          | false => no ⟨s.tm, s.n, s.df, { s.g with orc := r, pcs := .b t (!(eqI z 0)) :: s.g.pcs }⟩) s.g.orc
      | _ => .fail "guard") o.guard
def evOps (E : Env) (rec : FuncId → List AV → GS → RC) (ops l : List Oper) : ST → RR :=
  List.rec (motive := fun _ => ST → RR) (fun s => .ok .normal s) (fun o _ ih s => guardK ops s o (fun s => evOp E rec o s ih) (fun s => s.put o.dst .undef s.g ih)) l

def condK (v : AV) (s : ST) (K : Bool → ST → RR) : RR :=
  match v with
  | .bool (.c b) => K b s
  | .bool (.s t) => List.rec (motive := fun _ => RR) (.fail "oracle") (fun z r _ => K (!(eqI z 0)) ⟨s.tm, s.n, s.df, { s.g with orc := r, pcs := .b t (!(eqI z 0)) :: s.g.pcs }⟩) s.g.orc
  | _ => .fail "test"
def thenR (r : RR) (K : ST → RR) : RR :=
  RR.rec (motive := fun _ => RR) (fun y => .fail y) (fun e s => EX.rec (motive := fun _ => RR) (K s) (fun i => .ok (.exit i) s) (.ok .ret s) (fun v => .ok (.pan v) s) e) r
def blockR (i : Nat) (r : RR) : RR :=
  RR.rec (motive := fun _ => RR) (fun y => .fail y) (fun e s => EX.rec (motive := fun _ => RR) (.ok .normal s) (fun j => Bool.rec (motive := fun _ => RR) (.ok (.exit j) s) (.ok .normal s) (Nat.beq j i)) (.ok .ret s) (fun v => .ok (.pan v) s) e) r
/- 'dr': what a region whose order is open comes to. -/
def evCode (E : Env) (rec : FuncId → List AV → GS → RC) (dr : List Oper → ST → RR) (n : Nat) : Code → ST → RR :=
  Nat.rec (motive := fun _ => Code → ST → RR) (fun _ _ => .fail "fuel") (fun _ ih c s =>
    match c with
    | .skip => .ok .normal s
    | .region _ ops d => Bool.rec (motive := fun _ => RR) (evOps E rec ops.toList ops.toList s) (dr ops.toList s) d
    | .seq a b => thenR (ih a s) (ih b)
    | .cond x a b => condK (evX E s.tm x) s fun t s => ih (Bool.rec (motive := fun _ => Code) b a t) s
    | .block i a => blockR i (ih a s)
    | .loop a => thenR (ih a s) (ih (.loop a))
    | .exit i => .ok (.exit i) s
    | .scope a => ih a s
    | .label _ => .ok .normal s
    | .ret => .ok .ret s
    | _ => .fail "code") n

def resA (E : Env) (s : ST) : List ResultVar → Option (List AV)
  | [] => some []
  | .tmp t :: l => match resA E s l with
    | none => none
    | some m => some ((s.tm.get t).getD .undef :: m)
  | .cell a t :: l => match oLoad E s.g t ((s.tm.get a).getD .undef) with
    | .val v _ => match resA E s l with
      | none => none
      | some m => some (v :: m)
    | _ => none
def one1 : List AV → AV
  | [v] => v
  | l => .tup l
/- The deferred calls, and then the results. -/
def runDf (rec : FuncId → List AV → GS → RC) : List (FuncId × List AV) → GS → Option GS
  | [], g => some g
  | (f, args) :: l, g => match rec f args g with
    | .ret true _ g => runDf rec l g
    | _ => none
def isNil {α : Type} : List α → Bool
  | [] => true
  | _ => false
def leave (E : Env) (rec : FuncId → List AV → GS → RC) (fn : Func) (r : RR) : RC :=
  match r with
  | .ok .normal s | .ok .ret s => match runDf rec s.df s.g with
    | none => .fail "deferred"
    | some g => match resA E { s with g := g } fn.results.toList with
      | none => .fail "results"
      | some l => .ret (isNil s.df) (one1 l) g
  | .ok (.pan v) s => match s.df with
    | [] => .pan true v s.g
    | _ => .fail "panic past a defer"
  | .fail y => .fail (fn.name ++ " " ++ y)
  | _ => .fail "exit"
def argsT (args : List AV) : T AV := T.ofFrom .nil 0 args
/- 'sp': functions whose contract is known otherwise. -/
def evCall (E : Env) (L : Nat) (dr : (FuncId → List AV → GS → RC) → List Oper → ST → RR) (sp : (FuncId → List AV → GS → RC) → FuncId → List AV → GS → Option RC) (n : Nat) : FuncId → List AV → GS → RC :=
  Nat.rec (motive := fun _ => FuncId → List AV → GS → RC) (fun _ _ _ => .fail "depth") (fun _ ih f args g =>
    match sp ih f args g with
    | some r => r
    | none => match E.ft.get f with
      | none => .fail "no function"
      | some fn => match fn.body with
        | none => .fail "no body"
        | some c => match andB (Nat.ble args.length fn.ntmps) (andB (Nat.blt fn.ntmps 1000000) (!(fn.name == "runtime.NumGoroutine"))) with
          | false => .fail "args"
          | true => leave E ih fn (evCode E ih (dr ih) L c ⟨argsT args, fn.ntmps, [], g⟩)) n
end
end Go.Eng

/- The evaluator of code: conditions only grow. -/
namespace Go.Eng
open Go.RowKit
set_option linter.unusedVariables false
set_option linter.unusedSimpArgs false

def MonoRR (l : List PC) : RR → Prop
  | .fail _ => True
  | .ok _ s => l <:+ s.g.pcs
def MonoRC (l : List PC) : RC → Prop
  | .fail _ => True
  | .ret _ _ g => l <:+ g.pcs
  | .pan _ _ g => l <:+ g.pcs
def MonoK (K : ST → RR) : Prop := ∀ (l : List PC) s, l <:+ s.g.pcs → MonoRR l (K s)
def MonoRec (rec : FuncId → List AV → GS → RC) : Prop := ∀ (l : List PC) f args g, l <:+ g.pcs → MonoRC l (rec f args g)

section
variable {l : List PC} {E : Env} {rec : FuncId → List AV → GS → RC} {K : ST → RR}
theorem mono_put {s : ST} {d : Option Tmp} {v : AV} {g : GS} (hK : MonoK K) (h : l <:+ g.pcs) : MonoRR l (s.put d v g K) := by
  unfold ST.put
  cases d with
  | none => exact hK _ _ h
  | some d =>
    show MonoRR l (Bool.rec (motive := fun _ => RR) _ _ (Nat.blt d s.n))
    cases Nat.blt d s.n
    · trivial
    · exact hK _ _ h
theorem mono_writeAtX {g : GS} {b o : Nat} {m : List AV} {K : GS → OR} (hg : l <:+ g.pcs) (h : ∀ g', l <:+ g'.pcs → Mono l (K g')) : Mono l (writeAt g b o m K) := mono_writeAt hg h
theorem mono_oXK {g : GS} {k : XK} {args : List AV} (h : l <:+ g.pcs) : Mono l (oXK g k args) := by
  unfold oXK
  split
  · exact h
  · exact h
  · refine mono_oK fun v => ?_
    split
    · exact mono_ck h
    · trivial
  · exact mono_oK fun _ => mono_writeAt h fun _ h => h
  · refine mono_ck (mono_oK fun v => ?_)
    split
    · refine mono_ck (mono_decN h fun z g' h' => mono_decN h' fun z g' h' => ?_)
      split
      · exact mono_writeAt h' fun _ h => h
      · exact h'
    · trivial
  · refine mono_ck (mono_oK fun v => ?_)
    split
    · exact mono_ck (mono_writeAt h fun _ h => h)
    · trivial
  · split
    · exact mono_ck h
    · trivial
  · exact mono_ck (mono_oK fun z => h)
  · trivial
theorem mono_callK {f : FuncId} {args : List AV} {g : GS} {kv kp : AV → GS → RR} (hr : MonoRec rec) (h : l <:+ g.pcs) (hv : ∀ v g', l <:+ g'.pcs → MonoRR l (kv v g'))
    (hp : ∀ v g', l <:+ g'.pcs → MonoRR l (kp v g')) : MonoRR l (callK E rec f args g kv kp) := by
  unfold callK
  cases E.xt.get f with
  | none =>
    have := hr l f args g h
    show MonoRR l (RC.rec (motive := fun _ => RR) _ _ _ (rec f args g))
    cases hr : rec f args g with
    | fail y => trivial
    | ret nd v g' => rw [hr] at this; exact hv _ _ this
    | pan nd v g' => rw [hr] at this; exact hp _ _ this
  | some k =>
    have := mono_oXK (l := l) (g := g) (k := k) (args := args) h
    show MonoRR l (OR.rec (motive := fun _ => RR) _ _ _ _ _ (oXK g k args))
    cases hr : oXK g k args with
    | fail => trivial
    | val v g' => rw [hr] at this; exact hv _ _ this
    | call _ _ _ => trivial
    | dfr _ _ _ => trivial
    | pan _ _ => trivial
theorem mono_evOp {o : Oper} {s : ST} (hr : MonoRec rec) (hK : MonoK K) (h : l <:+ s.g.pcs) : MonoRR l (evOp E rec o s K) := by
  unfold evOp
  have := evO_mono l E s.g (evX E s.tm) o.op h
  cases hr' : evO E s.g (evX E s.tm) o.op with
  | fail => trivial
  | val v g' => rw [hr'] at this; exact mono_put hK this
  | call f args g' => rw [hr'] at this; exact mono_callK hr this (fun v g' h => mono_put hK h) (fun v g' h => h)
  | dfr f args g' => rw [hr'] at this; exact mono_put hK this
  | pan v g' => rw [hr'] at this; exact this
theorem mono_guardK {ops : List Oper} {s : ST} {o : Oper} {yes no : ST → RR} (hy : MonoK yes) (hn : MonoK no) (h : l <:+ s.g.pcs) : MonoRR l (guardK ops s o yes no) := by
  unfold guardK
  cases o.guard with
  | none => exact hy _ _ h
  | some p =>
    show MonoRR l (match (ops[p.1]?).bind (·.dst) with | none => _ | some d => _)
    split
    · exact hn _ _ h
    · split
      · rename_i b _
        cases (b == p.2)
        · exact hn _ _ h
        · exact hy _ _ h
      · exact hn _ _ h
      · rename_i t _
        cases s.g.orc with
        | nil => trivial
        | cons z r =>
          show MonoRR l (match (!(eqI z 0)) == p.2 with | true => _ | false => _)
          split
          · exact hy _ _ (h.trans (List.suffix_cons _ _))
          · exact hn _ _ (h.trans (List.suffix_cons _ _))
      · trivial
theorem mono_evOps (hr : MonoRec rec) (ops : List Oper) : ∀ m : List Oper, MonoK (evOps E rec ops m)
  | [] => fun l s h => h
  | o :: m => fun l s h => mono_guardK (fun l s h => mono_evOp hr (mono_evOps hr ops m) h) (fun l s h => mono_put (mono_evOps hr ops m) h) h
theorem mono_condK {v : AV} {s : ST} {K : Bool → ST → RR} (hK : ∀ b, MonoK (K b)) (h : l <:+ s.g.pcs) : MonoRR l (condK v s K) := by
  unfold condK
  split
  · exact hK _ _ _ h
  · cases s.g.orc with
    | nil => trivial
    | cons z r => exact hK _ _ _ (h.trans (List.suffix_cons _ _))
  · trivial
theorem mono_thenR {r : RR} (hr : MonoRR l r) (hK : MonoK K) : MonoRR l (thenR r K) := by
  cases r with
  | fail y => trivial
  | ok e s => cases e with
    | normal => exact hK _ _ hr
    | exit i => exact hr
    | ret => exact hr
    | pan v => exact hr
theorem mono_blockR {i : Nat} {r : RR} (hr : MonoRR l r) : MonoRR l (blockR i r) := by
  cases r with
  | fail y => trivial
  | ok e s => cases e with
    | normal => exact hr
    | exit j =>
      show MonoRR l (Bool.rec (motive := fun _ => RR) _ _ (Nat.beq j i))
      cases Nat.beq j i <;> exact hr
    | ret => exact hr
    | pan v => exact hr
theorem mono_evCode {dr : List Oper → ST → RR} (hr : MonoRec rec) (hd : ∀ ops, MonoK (dr ops)) : ∀ (n : Nat) (c : Code), MonoK (evCode E rec dr n c)
  | 0, c => fun l s h => trivial
  | n + 1, c => fun l s h => by
    have ih := mono_evCode hr hd n
    cases c with
    | skip => exact h
    | region id ops d => cases d; exact mono_evOps hr _ _ _ _ h; exact hd _ _ _ h
    | seq a b => exact mono_thenR (ih a l s h) (ih b)
    | cond x a b => exact mono_condK (fun t => by cases t; exact ih b; exact ih a) h
    | block i a => exact mono_blockR (ih a l s h)
    | loop a => exact mono_thenR (ih a l s h) (ih (.loop a))
    | exit i => exact h
    | scope a => exact ih a l s h
    | label i => exact h
    | ret => exact h
    | _ => trivial
theorem mono_runDf (hr : MonoRec rec) : ∀ (d : List (FuncId × List AV)) (g g' : GS), l <:+ g.pcs → runDf rec d g = some g' → l <:+ g'.pcs
  | [], g, g', h, e => by cases e; exact h
  | (f, args) :: d, g, g', h, e => by
    unfold runDf at e
    have := hr l f args g h
    cases hc : rec f args g with
    | fail y => rw [hc] at e; cases e
    | pan nd v g2 => rw [hc] at e; cases e
    | ret nd v g2 =>
      rw [hc] at e this
      cases nd
      · cases e
      · exact mono_runDf hr d g2 g' this e
theorem mono_leave {fn : Func} {r : RR} (hr : MonoRec rec) (h : MonoRR l r) : MonoRC l (leave E rec fn r) := by
  have fin : ∀ s : ST, l <:+ s.g.pcs → MonoRC l (match runDf rec s.df s.g with
    | none => .fail "deferred"
    | some g => match resA E { s with g := g } fn.results.toList with
      | none => .fail "results"
      | some l => .ret (isNil s.df) (one1 l) g) := fun s h => by
    cases hd : runDf rec s.df s.g with
    | none => trivial
    | some g =>
      simp only
      split
      · trivial
      · exact mono_runDf hr _ _ _ h hd
  cases r with
  | fail y => trivial
  | ok e s => cases e with
    | normal => exact fin s h
    | ret => exact fin s h
    | exit i => trivial
    | pan v =>
      simp only [leave]
      split
      · exact h
      · trivial
theorem mono_evCall {L : Nat} {dr : (FuncId → List AV → GS → RC) → List Oper → ST → RR} {sp : (FuncId → List AV → GS → RC) → FuncId → List AV → GS → Option RC}
    (hd : ∀ rec, MonoRec rec → ∀ ops, MonoK (dr rec ops)) (hs : ∀ rec, MonoRec rec → ∀ l f args g r, l <:+ g.pcs → sp rec f args g = some r → MonoRC l r) : ∀ n, MonoRec (evCall E L dr sp n)
  | 0 => fun l f args g h => trivial
  | n + 1 => fun l f args g h => by
    have ih := mono_evCall (L := L) hd hs n
    show MonoRC l (match sp (evCall E L dr sp n) f args g with | some r => r | none => _)
    split
    · rename_i r hr
      exact hs _ ih _ _ _ _ _ h hr
    · split
      · trivial
      · split
        · trivial
        · split
          · trivial
          · exact mono_leave ih (mono_evCode ih (hd _ ih) L _ _ _ h)
end
end Go.Eng

/- The evaluator of code: what its answers say of the model. -/
namespace Go.Eng
open Go.RowKit
set_option linter.unusedVariables false
set_option linter.unusedSimpArgs false

def GR (E : Env) (ρ : Ren) : Prop := ∀ g b, E.gl.get g = some b → ∃ r, ρ b = some r ∧ r.blk = g ∧ r.base = 0
theorem GR.mono {E : Env} {ρ ρ' : Ren} (hle : ρ.le ρ') (h : GR E ρ) : GR E ρ' := fun g b hb => let ⟨r, h1, h2⟩ := h g b hb; ⟨r, hle _ _ h1, h2⟩

def DR (ρ : Ren) : List (FuncId × List AV) → List Deferred → Prop
  | [], [] => True
  | (f, args) :: l, d :: ds => (∃ (cap dargs : Array Value), d = { target := .fn (.func f) cap, args := dargs } ∧ VRs ρ args (dargs ++ cap).toList) ∧ DR ρ l ds
  | _, _ => False
theorem DR.mono {ρ ρ' : Ren} (hle : ρ.le ρ') : ∀ {l : List (FuncId × List AV)} {ds : List Deferred}, DR ρ l ds → DR ρ' l ds
  | [], [], _ => trivial
  | (f, args) :: l, d :: ds, h => ⟨let ⟨c, a, h1, h2⟩ := h.1; ⟨c, a, h1, h2.mono hle⟩, DR.mono hle h.2⟩
  | [], _ :: _, h => h.elim
  | _ :: _, [], h => h.elim

structure SR (E : Env) (B : Base) (ρ : Ren) (s : ST) (a : Act) (w : World) : Prop where
  tm : ∀ t, VR ρ ((s.tm.get t).getD .undef) (a.tmps.getD t undef)
  n : s.n = a.tmps.size
  nl : s.n < 1000000
  df : DR ρ s.df a.defers
  gl : GR E ρ
  wr : WR B ρ s.g w

def ER (ρ : Ren) : EX → Exit → Prop
  | .normal, e => e = .normal
  | .exit i, e => e = .exit i
  | .ret, e => e = .ret
  | .pan v, e => ∃ v', e = .panic [{ v := v', recovered := false }] ∧ VR ρ v v'

def Wp (E : Env) (B : Base) (X : (Exit → Act → World → Prop) → Prop) (ρ : Ren) (O : Nat → Prop) (w : World) (r : RR) : Prop :=
  ∀ e s', r = .ok e s' → PCs s'.g.pcs → ∀ Q : Exit → Act → World → Prop,
    (∀ ρ' a' w' ex, ρ.le ρ' → SR E B ρ' s' a' w' → Stp O w (Own ρ' s'.g) w' → ER ρ' e ex → Q ex a' w') → X Q

def Ret (B : Base) (ρ : Ren) (O : Nat → Prop) (w : World) (v : AV) (g : GS) : Ending → World → Prop
  | .returned v', w' => ∃ ρ', VR ρ' v v' ∧ ρ.le ρ' ∧ WR B ρ' g w' ∧ Stp O w (Own ρ' g) w'
  | _, _ => False
def Pan (B : Base) (ρ : Ren) (O : Nat → Prop) (w : World) (v : AV) (g : GS) : Ending → World → Prop
  | .panicked ch, w' => ∃ ρ' v', ch = [{ v := v', recovered := false }] ∧ VR ρ' v v' ∧ ρ.le ρ' ∧ WR B ρ' g w' ∧ Stp O w (Own ρ' g) w'
  | _, _ => False
def RCs (P : Program) (f : FuncId) (vs : Array Value) (B : Base) (ρ : Ren) (O : Nat → Prop) (w : World) : RC → Prop
  | .fail _ => True
  | .ret nd v g => PCs g.pcs → (callFunc f vs).run P w = .ok (.enter f vs) w ∧ Calls P f vs w (Ret B ρ O w v g) ∧
      (nd = true → ∀ u, CallsD P f vs u w fun e u' w' => u' = u ∧ Ret B ρ O w v g e w')
  | .pan nd v g => PCs g.pcs → (callFunc f vs).run P w = .ok (.enter f vs) w ∧ Calls P f vs w (Pan B ρ O w v g) ∧
      (nd = true → ∀ u, CallsD P f vs u w fun e u' w' => u' = u ∧ Pan B ρ O w v g e w')
def RecOK (E : Env) (P : Program) (B : Base) (rec : FuncId → List AV → GS → RC) : Prop :=
  ∀ f args g ρ w (vs : Array Value), WR B ρ g w → GR E ρ → VRs ρ args vs.toList → RCs P f vs B ρ (Own ρ g) w (rec f args g)
def XOK (E : Env) (P : Program) : Prop := ∀ f k, E.xt.get f = some k → ∀ B ρ w g args (vs : Array Value), WR B ρ g w → VRs ρ args vs.toList →
  SatN false P B ρ (Own ρ g) w g ((callFunc f vs).run P w) (oXK g k args)

section
variable {P : Program} {E : Env} {B : Base} {ρ : Ren} {s : ST} {a : Act} {w : World} {rec : FuncId → List AV → GS → RC}
theorem SR.eval (h : SR E B ρ s a w) (x : Operand) : VR ρ (evX E s.tm x) (a.eval x) := by
  cases x with
  | tmp t =>
    have := h.tm t
    show VR ρ (Option.rec (motive := fun _ => AV) .undef (fun v => v) (s.tm.get t)) (a.tmps.getD t undef)
    cases hg : s.tm.get t with
    | none => rw [hg] at this; exact this
    | some v => rw [hg] at this; exact this
  | const v =>
    show VR ρ (Option.rec (motive := fun _ => AV) .bad (fun v => v) (constAV v)) v
    cases hc : constAV v with
    | none => exact .any v
    | some x => exact constAV_VR hc ρ
  | global g =>
    show VR ρ (Option.rec (motive := fun _ => AV) .bad (fun b => .ptr b 0) (E.gl.get g)) (.pointer (some ⟨g, 0, none⟩))
    cases hc : E.gl.get g with
    | none => exact .any _
    | some b =>
      obtain ⟨r, h1, h2, h3⟩ := h.gl g b hc
      have := VR.ptr b 0 r h1
      rw [h2, h3] at this
      exact this
  | func f => exact .fn _ [] [] #[] #[] rfl rfl (fun i x y hx => by simp at hx) (fun i x y hx => by simp at hx)

theorem SR.of_gs (h : SR E B ρ s a w) {g : GS} (e : g.bl = s.g.bl) (e' : g.nx = s.g.nx) (e'' : g.fx = s.g.fx) : SR E B ρ ⟨s.tm, s.n, s.df, g⟩ a w :=
  ⟨h.tm, h.n, h.nl, h.df, h.gl, h.wr.of_gs e e' e''⟩

theorem Wp.base {X : (Exit → Act → World → Prop) → Prop} {ρ ρ1 : Ren} {O O1 : Nat → Prop} {w w1 : World} {r : RR} (h : Wp E B X ρ1 O1 w1 r) (hle : ρ.le ρ1) (hst : Stp O w O1 w1) : Wp E B X ρ O w r :=
  fun e s' he hp Q hQ => h e s' he hp Q fun ρ' a' w' ex h1 h2 h3 h4 => hQ ρ' a' w' ex (Ren.le_trans hle h1) h2 (hst.trans h3) h4

theorem SR.put (h : SR E B ρ s a w) {ρ' : Ren} (hle : ρ.le ρ') {v : AV} {v' : Value} (hv : VR ρ' v v') {g : GS} {w' : World} (hw : WR B ρ' g w') {d : Nat} (hd : d < s.n) :
    SR E B ρ' ⟨T.set (some v) D s.tm d, s.n, s.df, g⟩ (a.put (some d) v') w' := by
  refine ⟨fun t => ?_, ?_, h.nl, h.df.mono hle, h.gl.mono hle, hw⟩
  · have hnl := h.nl
    have hn := h.n
    by_cases ht : t = d
    · subst ht
      show VR ρ' (((T.set (some v) D s.tm t).get t).getD .undef) _
      rw [T.get_set_same _ _ _ _ (by simp only [D]; omega)]
      simp only [Option.getD_some, Act.put, Array.getD_eq_getD_getElem?]
      rw [Array.getElem?_setIfInBounds_self_of_lt (by omega)]
      exact hv
    · show VR ρ' (((T.set (some v) D s.tm d).get t).getD .undef) _
      rw [T.get_set_ne _ _ _ _ _ ht]
      have := (h.tm t).mono hle
      simp only [Act.put, Array.getD_eq_getD_getElem?] at this ⊢
      rw [Array.getElem?_setIfInBounds_ne (fun e => ht e.symm)]
      exact this
  · simp only [Act.put, Array.size_setIfInBounds]; exact h.n

/- What follows an operation. -/
def KWp (E : Env) (B : Base) (next : (Exit → Act → World → Prop) → Act → World → Prop) (ρ : Ren) (O : Nat → Prop) (w : World) (K : ST → RR) : Prop :=
  ∀ s1 ρ1 a1 w1, ρ.le ρ1 → SR E B ρ1 s1 a1 w1 → Stp O w (Own ρ1 s1.g) w1 → Wp E B (fun Q => next Q a1 w1) ρ1 (Own ρ1 s1.g) w1 (K s1)

theorem wp_put {next : (Exit → Act → World → Prop) → Act → World → Prop} {O : Nat → Prop} {K : ST → RR} (HK : KWp E B next ρ O w K) (hs : SR E B ρ s a w) {ρ' : Ren} (hle : ρ.le ρ') {v : AV} {v' : Value} (hv : VR ρ' v v')
    {g : GS} {w' : World} (hw : WR B ρ' g w') (hst : Stp O w (Own ρ' g) w') (d : Option Tmp) : Wp E B (fun Q => next Q (a.put d v') w') ρ O w (s.put d v g K) := by
  cases d with
  | none => exact (HK ⟨s.tm, s.n, s.df, g⟩ ρ' a w' hle ⟨fun t => (hs.tm t).mono hle, hs.n, hs.nl, hs.df.mono hle, hs.gl.mono hle, hw⟩ hst).base hle hst
  | some d =>
    show Wp E B _ ρ O w (Bool.rec (motive := fun _ => RR) (.fail "slot") (K ⟨T.set (some v) D s.tm d, s.n, s.df, g⟩) (Nat.blt d s.n))
    cases hd : Nat.blt d s.n
    · intro e s' he; cases he
    · exact (HK _ ρ' _ w' hle (hs.put hle hv hw (by rw [ofNat_blt] at hd; exact of_decide_eq_true hd)) hst).base hle hst

theorem Calls.ok {f : FuncId} {vs : Array Value} {R R' : Ending → World → Prop} (h : Calls P f vs w R) (hr : ∀ e w', R e w' → R' e w') : Calls P f vs w R' := h.mono hr

theorem evOp_wp {next : (Exit → Act → World → Prop) → Act → World → Prop} (htt : TTok P E.tt) (hx : XOK E P) (hr : RecOK E P B rec) (hm : MonoRec rec) {K : ST → RR} (hKm : MonoK K) (hs : SR E B ρ s a w) (o : Oper)
    (HK : KWp E B next ρ (Own ρ s.g) w K) : Wp E B (fun Q => o.wp P a w (next Q) Q) ρ (Own ρ s.g) w (evOp E rec o s K) := by
  intro e s' he hp Q hQ
  have hsat := evO_sat (q := false) (w := w) (V := a.eval) htt hs.wr rfl hs.eval o (by simp)
  unfold evOp at he
  unfold Oper.wp
  cases h : evO E s.g (evX E s.tm) o.op with
  | fail => rw [h] at he; cases he
  | val v g' =>
    rw [h] at he hsat
    have hm1 := mono_put (l := g'.pcs) (s := s) (d := o.dst) (v := v) hKm (List.suffix_refl _)
    replace he : s.put o.dst v g' K = .ok e s' := he
    rw [he] at hm1
    obtain ⟨ρ', v', w', hrun, hv, hle, hw', hst, _⟩ := hsat (hp.of_suffix hm1)
    rcases hrun with hrun | ⟨rfl, hrun⟩
    · rw [hrun, Oper.upon_value]
      exact wp_put HK hs hle hv hw' hst o.dst e s' he hp Q hQ
    · rw [hrun, Oper.upon_skip]
      exact wp_put HK hs hle hv hw' hst o.dst e s' he hp Q hQ
  | call f args g' =>
    rw [h] at he hsat
    replace he : callK E rec f args g' (fun v g => s.put o.dst v g K) (fun v g => .ok (.pan v) ⟨s.tm, s.n, s.df, g⟩) = .ok e s' := he
    have hm1 := mono_callK (l := g'.pcs) (E := E) (rec := rec) (f := f) (args := args) (kv := fun v g => s.put o.dst v g K) (kp := fun v g => .ok (.pan v) ⟨s.tm, s.n, s.df, g⟩) hm (List.suffix_refl _)
      (fun v g' h => mono_put hKm h) (fun v g' h => h)
    rw [he] at hm1
    obtain ⟨rfl, vs, hrun, hargs⟩ := hsat (hp.of_suffix hm1)
    rw [hrun]
    unfold callK at he
    cases hxt : E.xt.get f with
    | some k =>
      rw [hxt] at he
      replace he : (OR.rec (motive := fun _ => RR) (.fail "extern") (fun v g => s.put o.dst v g K) (fun _ _ _ => .fail "extern") (fun _ _ _ => .fail "extern") (fun _ _ => .fail "extern") (oXK s.g k args) : RR) = .ok e s' := he
      have hk := hx f k hxt B ρ w s.g args vs hs.wr hargs
      cases hres : oXK s.g k args with
      | val v g' =>
        rw [hres] at he hk
        replace he : s.put o.dst v g' K = .ok e s' := he
        have hm1 := mono_put (l := g'.pcs) (s := s) (d := o.dst) (v := v) hKm (List.suffix_refl _)
        rw [he] at hm1
        obtain ⟨ρ', v', w', hrun, hv, hle, hw', hst, _⟩ := hk (hp.of_suffix hm1)
        rcases hrun with hrun | ⟨rfl, hrun⟩
        · rw [hrun, Oper.upon_value]
          exact wp_put HK hs hle hv hw' hst o.dst e s' he hp Q hQ
        · rw [hrun, Oper.upon_skip]
          exact wp_put HK hs hle hv hw' hst o.dst e s' he hp Q hQ
      | fail => rw [hres] at he; cases he
      | call _ _ _ => rw [hres] at he; cases he
      | dfr _ _ _ => rw [hres] at he; cases he
      | pan _ _ => rw [hres] at he; cases he
    | none =>
      rw [hxt] at he
      replace he : (RC.rec (motive := fun _ => RR) (fun y => .fail y) (fun _ v g => s.put o.dst v g K) (fun _ v g => .ok (.pan v) ⟨s.tm, s.n, s.df, g⟩) (rec f args s.g) : RR) = .ok e s' := he
      have hc := hr f args s.g ρ w vs hs.wr hs.gl hargs
      cases hres : rec f args s.g with
      | fail y => rw [hres] at he; cases he
      | ret nd v g2 =>
        rw [hres] at he hc
        replace he : s.put o.dst v g2 K = .ok e s' := he
        have hm1 := mono_put (l := g2.pcs) (s := s) (d := o.dst) (v := v) hKm (List.suffix_refl _)
        rw [he] at hm1
        obtain ⟨c1, c2, _⟩ := hc (hp.of_suffix hm1)
        rw [c1, Oper.upon_enter]
        refine c2.mono fun en w' hR => ?_
        cases en with
        | returned v' =>
          obtain ⟨ρ', hv, hle, hw', hst⟩ := hR
          exact wp_put HK hs hle hv hw' hst o.dst e s' he hp Q hQ
        | panicked ch => exact hR.elim
        | outgrown => exact hR.elim
      | pan nd v g2 =>
        rw [hres] at he hc
        cases he
        obtain ⟨c1, c2, _⟩ := hc hp
        rw [c1, Oper.upon_enter]
        refine c2.mono fun en w' hR => ?_
        cases en with
        | returned v' => exact hR.elim
        | outgrown => exact hR.elim
        | panicked ch =>
          obtain ⟨ρ', v', rfl, hv, hle, hw', hst⟩ := hR
          exact hQ ρ' a w' _ hle ⟨fun t => (hs.tm t).mono hle, hs.n, hs.nl, hs.df.mono hle, hs.gl.mono hle, hw'⟩ hst ⟨v', rfl, hv⟩
  | dfr f args g' =>
    rw [h] at he hsat
    replace he : ST.put ⟨s.tm, s.n, (f, args) :: s.df, g'⟩ o.dst .undef g' K = .ok e s' := he
    have hm1 := mono_put (l := g'.pcs) (s := ⟨s.tm, s.n, (f, args) :: s.df, g'⟩) (d := o.dst) (v := .undef) hKm (List.suffix_refl _)
    rw [he] at hm1
    obtain ⟨rfl, cap, dargs, hrun, hargs⟩ := hsat (hp.of_suffix hm1)
    rw [hrun, Oper.upon_defer]
    have hs' : SR E B ρ ⟨s.tm, s.n, (f, args) :: s.df, s.g⟩ { a with defers := { target := .fn (.func f) cap, args := dargs } :: a.defers } w :=
      ⟨hs.tm, hs.n, hs.nl, ⟨⟨cap, dargs, rfl, hargs⟩, hs.df⟩, hs.gl, hs.wr⟩
    exact wp_put (s := ⟨s.tm, s.n, (f, args) :: s.df, s.g⟩) HK hs' ρ.le_refl .undef hs.wr (Stp.refl _ _) o.dst e s' he hp Q hQ
  | pan v g' =>
    rw [h] at he hsat
    cases he
    obtain ⟨rfl, v', hrun, hv⟩ := hsat hp
    rw [hrun, Oper.upon_panic]
    exact hQ ρ a w _ ρ.le_refl ⟨hs.tm, hs.n, hs.nl, hs.df, hs.gl, hs.wr⟩ (Stp.refl _ _) ⟨v', rfl, hv⟩

theorem bool_inv {b : BB} {v : Value} (h : VR ρ (.bool b) v) : v = .bool b.v := by cases h; rfl

theorem guardK_wp {X : (Exit → Act → World → Prop) → Prop} {ops : Array Oper} {o : Oper} {yes no : ST → RR} (hs : SR E B ρ s a w) (hym : MonoK yes) (hnm : MonoK no)
    (HY : Region.wanted o (yielded ops a.tmps) = true → ∀ s1, SR E B ρ s1 a w → Own ρ s1.g = Own ρ s.g → Wp E B X ρ (Own ρ s.g) w (yes s1))
    (HN : Region.wanted o (yielded ops a.tmps) = false → ∀ s1, SR E B ρ s1 a w → Own ρ s1.g = Own ρ s.g → Wp E B X ρ (Own ρ s.g) w (no s1)) :
    Wp E B X ρ (Own ρ s.g) w (guardK ops.toList s o yes no) := by
  unfold guardK
  unfold Region.wanted at HY HN
  cases hg : o.guard with
  | none => rw [hg] at HY; exact HY rfl s hs rfl
  | some p =>
    obtain ⟨j, want⟩ := p
    rw [hg] at HY HN
    simp only at HY HN
    show Wp E B X ρ (Own ρ s.g) w (match (ops.toList[j]?).bind (·.dst) with | none => no s | some d => _)
    rw [Array.getElem?_toList]
    unfold yielded at HY HN
    cases hd : (ops[j]?).bind (·.dst) with
    | none =>
      rw [hd] at HN
      exact HN (by simp) s hs rfl
    | some d =>
      rw [hd] at HY HN
      simp only [Option.bind_some] at HY HN
      have hv := hs.tm d
      rw [Array.getD_eq_getD_getElem?] at hv
      simp only
      split
      · rename_i b heq
        rw [heq] at hv
        have hb := bool_inv hv
        have hget : a.tmps[d]? = some (.bool b) := by
          cases hq : a.tmps[d]? with
          | none => rw [hq] at hb; simp [undef] at hb
          | some y => rw [hq] at hb; simp only [Option.getD_some] at hb; rw [hb]; rfl
        rw [hget] at HY HN
        cases hbw : b == want
        · exact HN (by simpa using hbw) s hs rfl
        · exact HY (by simpa using hbw) s hs rfl
      · rename_i heq
        rw [heq] at hv
        have hu : (a.tmps[d]?).getD undef = undef := by
          generalize (a.tmps[d]?).getD undef = y at hv
          cases hv; rfl
        cases hq : a.tmps[d]? with
        | none => rw [hq] at HN; exact HN (by simp) s hs rfl
        | some y =>
          rw [hq] at hu HN
          simp only [Option.getD_some] at hu
          subst hu
          exact HN (by simp [undef]) s hs rfl
      · rename_i t heq
        rw [heq] at hv
        have hb := bool_inv hv
        have hget : a.tmps[d]? = some (.bool t) := by
          cases hq : a.tmps[d]? with
          | none => rw [hq] at hb; simp [undef] at hb
          | some y => rw [hq] at hb; simp only [Option.getD_some] at hb; rw [hb]; rfl
        rw [hget] at HY HN
        cases ho : s.g.orc with
        | nil => intro e s' he; cases he
        | cons z r =>
          show Wp E B X ρ (Own ρ s.g) w (match (!(eqI z 0)) == want with | true => _ | false => _)
          have hs1 : SR E B ρ ⟨s.tm, s.n, s.df, { s.g with orc := r, pcs := .b t (!(eqI z 0)) :: s.g.pcs }⟩ a w := hs.of_gs rfl rfl rfl
          intro e s' he hp Q hQ
          have hpc : ∀ m : RR, m = .ok e s' → MonoRR (.b t (!(eqI z 0)) :: s.g.pcs) m → t = !(eqI z 0) := fun m hm hmono => by
            rw [hm] at hmono
            exact hp.of_suffix hmono (.b t (!(eqI z 0))) (List.mem_cons_self)
          cases hbw : (!(eqI z 0)) == want
          · rw [hbw] at he
            have ht := hpc _ he (hnm _ _ (List.suffix_refl _))
            exact HN (by rw [ht]; simpa using hbw) _ hs1 (Own.of_gs rfl) e s' he hp Q hQ
          · rw [hbw] at he
            have ht := hpc _ he (hym _ _ (List.suffix_refl _))
            exact HY (by rw [ht]; simpa using hbw) _ hs1 (Own.of_gs rfl) e s' he hp Q hQ
      · intro e s' he; cases he
end
end Go.Eng

/- The evaluator of code: regions, tests, loops. -/
namespace Go.Eng
open Go.RowKit
set_option linter.unusedVariables false
set_option linter.unusedSimpArgs false

section
variable {P : Program} {E : Env} {B : Base} {ρ : Ren} {s : ST} {a : Act} {w : World} {rec : FuncId → List AV → GS → RC}

theorem evOps_wp (htt : TTok P E.tt) (hx : XOK E P) (hr : RecOK E P B rec) (hm : MonoRec rec) {ops : Array Oper} : ∀ (m : List Oper) (k : Nat), ops.toList.drop k = m →
    ∀ (s : ST) (ρ : Ren) (a : Act) (w : World), SR E B ρ s a w → Wp E B (fun Q => wpOps P ops Q (List.range' k m.length) a w) ρ (Own ρ s.g) w (evOps E rec ops.toList m s)
  | [], k, hk, s, ρ, a, w, hs => fun e s' he hp Q hQ => by
    cases he
    exact hQ ρ a w _ ρ.le_refl hs (Stp.refl _ _) rfl
  | o :: m, k, hk, s, ρ, a, w, hs => by
    have hok : ops[k]? = some o := by
      have : ops.toList[k]? = some o := by
        have h1 : (ops.toList.drop k)[0]? = some o := by rw [hk]; rfl
        rw [List.getElem?_drop] at h1; simpa using h1
      simpa using this
    have hk' : ops.toList.drop (k + 1) = m := by
      have : (ops.toList.drop k).drop 1 = m := by rw [hk]; rfl
      rw [List.drop_drop] at this; exact this
    have ih := fun s ρ a w hs => evOps_wp htt hx hr hm m (k + 1) hk' s ρ a w hs
    have hX : ∀ Q, wpOps P ops Q (List.range' k (o :: m).length) a w = (if Region.wanted o (yielded ops a.tmps) then o.wp P a w (wpOps P ops Q (List.range' (k + 1) m.length)) Q ∨ (o.asks P a w ∧ LetsOut Q)
        else wpOps P ops Q (List.range' (k + 1) m.length) (a.put o.dst undef) w) := fun Q => by
      rw [List.length_cons, List.range'_succ]
      simp only [wpOps, hok]
    simp only [hX]
    have hKm := mono_evOps (E := E) hm ops.toList m
    have HK : ∀ ρ O w, KWp E B (fun Q => wpOps P ops Q (List.range' (k + 1) m.length)) ρ O w (evOps E rec ops.toList m) := fun ρ O w s1 ρ1 a1 w1 _ hs1 _ => ih s1 ρ1 a1 w1 hs1
    show Wp E B _ ρ (Own ρ s.g) w (guardK ops.toList s o (fun s => evOp E rec o s (evOps E rec ops.toList m)) (fun s => s.put o.dst .undef s.g (evOps E rec ops.toList m)))
    refine guardK_wp hs (fun l s h => mono_evOp hm hKm h) (fun l s h => mono_put hKm h) (fun hw s1 hs1 hO => ?_) (fun hw s1 hs1 hO => ?_)
    · rw [← hO]
      intro e s' he hp Q hQ
      rw [if_pos hw]
      exact .inl (evOp_wp htt hx hr hm hKm hs1 o (HK _ _ _) e s' he hp Q hQ)
    · rw [← hO]
      intro e s' he hp Q hQ
      rw [if_neg (by rw [hw]; simp)]
      exact wp_put (HK _ _ _) hs1 ρ.le_refl .undef hs1.wr (Stp.refl _ _) o.dst e s' he hp Q hQ

theorem condK_wp {X : (Exit → Act → World → Prop) → Prop} {x : Operand} {K : Bool → ST → RR} (hs : SR E B ρ s a w) (hm : ∀ b, MonoK (K b))
    (HK : ∀ t, a.eval x = .bool t → ∀ s1, SR E B ρ s1 a w → Own ρ s1.g = Own ρ s.g → Wp E B X ρ (Own ρ s.g) w (K t s1)) : Wp E B X ρ (Own ρ s.g) w (condK (evX E s.tm x) s K) := by
  have hv := hs.eval x
  unfold condK
  split
  · rename_i b heq
    rw [heq] at hv
    exact HK b (bool_inv hv) s hs rfl
  · rename_i t heq
    rw [heq] at hv
    have hb := bool_inv hv
    cases ho : s.g.orc with
    | nil => intro e s' he; cases he
    | cons z r =>
      intro e s' he hp Q hQ
      have hmono := hm (!(eqI z 0)) (.b t (!(eqI z 0)) :: s.g.pcs) ⟨s.tm, s.n, s.df, { s.g with orc := r, pcs := .b t (!(eqI z 0)) :: s.g.pcs }⟩ (List.suffix_refl _)
      replace he : K (!(eqI z 0)) ⟨s.tm, s.n, s.df, { s.g with orc := r, pcs := .b t (!(eqI z 0)) :: s.g.pcs }⟩ = .ok e s' := he
      rw [he] at hmono
      have ht : t = !(eqI z 0) := hp.of_suffix hmono (.b t (!(eqI z 0))) (List.mem_cons_self)
      exact HK (!(eqI z 0)) (by rw [hb]; exact congrArg Value.bool ht) ⟨s.tm, s.n, s.df, { s.g with orc := r, pcs := .b t (!(eqI z 0)) :: s.g.pcs }⟩ (hs.of_gs rfl rfl rfl) (Own.of_gs rfl) e s' he hp Q hQ
  · intro e s' he; cases he

/- In a loop, behind a round. -/
def wpIn (P : Program) (c : Code) (Q : Exit → Act → World → Prop) (a : Act) (w : World) : Prop :=
  ∀ (b : Frame) (k : List Item) (cs : List Frame), ∃ e a' w', Q e a' w' ∧ Arrives P (lone (b.at a (.inLoop c :: k)) cs w) b k cs e a' w'
theorem wpIn_round {c : Code} {Q : Exit → Act → World → Prop} (h : c.wp P (Exit.then (wpIn P c Q) Q) a w) (b : Frame) (k : List Item) (cs : List Frame) :
    ∃ e a' w', Q e a' w' ∧ Arrives P (lone (b.at a (.code c :: .inLoop c :: k)) cs w) b k cs e a' w' := by
  obtain ⟨e, a₁, w₁, hq, harr⟩ := h b (.inLoop c :: k) cs
  cases e with
  | normal =>
    obtain ⟨e₂, a₂, w₂, hq₂, harr₂⟩ := hq b k cs
    exact ⟨e₂, a₂, w₂, hq₂, .of_steps harr harr₂⟩
  | exit id => exact ⟨_, a₁, w₁, hq, .pass (x := .inLoop c) rfl (fun _ _ => .inl (by simp)) harr⟩
  | goto l => exact ⟨_, a₁, w₁, hq, .pass (x := .inLoop c) rfl (fun _ _ => .inl (by simp)) harr⟩
  | ret => exact ⟨_, a₁, w₁, hq, .pass (x := .inLoop c) rfl (fun _ _ => .inl (by simp)) harr⟩
  | panic ch => exact ⟨_, a₁, w₁, hq, .pass (x := .inLoop c) rfl (fun _ _ => .inl (by simp)) harr⟩
  | outgrown => exact ⟨_, a₁, w₁, hq, .pass (x := .inLoop c) rfl (fun _ _ => .inl (by simp)) harr⟩
theorem wp_loop_in {c : Code} {Q : Exit → Act → World → Prop} (h : c.wp P (Exit.then (wpIn P c Q) Q) a w) : (Code.loop c).wp P Q a w := fun b k cs =>
  let ⟨e, a', w', q, r⟩ := wpIn_round h b k cs; ⟨e, a', w', q, .of_steps (.one step_loop) r⟩
theorem wpIn_in {c : Code} {Q : Exit → Act → World → Prop} (h : c.wp P (Exit.then (wpIn P c Q) Q) a w) : wpIn P c Q a w := fun b k cs =>
  let ⟨e, a', w', q, r⟩ := wpIn_round h b k cs; ⟨e, a', w', q, .of_steps (.one step_inLoop) r⟩

theorem then_wp {X : (Exit → Act → World → Prop) → Prop} {Y : (Exit → Act → World → Prop) → Act → World → Prop} {O : Nat → Prop} {r : RR} {K : ST → RR} (h1 : Wp E B X ρ O w r) (hKm : MonoK K)
    (h2 : ∀ s1 ρ1 a1 w1, SR E B ρ1 s1 a1 w1 → Wp E B (fun Q => Y Q a1 w1) ρ1 (Own ρ1 s1.g) w1 (K s1)) : Wp E B (fun Q => X (Exit.then (Y Q) Q)) ρ O w (thenR r K) := by
  intro e s' he hp Q hQ
  cases r with
  | fail y => cases he
  | ok e1 s1 =>
    cases e1 with
    | normal =>
      replace he : K s1 = .ok e s' := he
      have hmono := hKm _ s1 (List.suffix_refl _)
      rw [he] at hmono
      refine h1 _ s1 rfl (hp.of_suffix hmono) _ fun ρ1 a1 w1 ex hle hs1 hst hex => ?_
      have : ex = .normal := hex
      subst this
      exact h2 s1 ρ1 a1 w1 hs1 e s' he hp Q fun ρ' a' w' ex h1 h2 h3 h4 => hQ ρ' a' w' ex (Ren.le_trans hle h1) h2 (hst.trans h3) h4
    | exit i =>
      cases he
      refine h1 _ _ rfl hp _ fun ρ1 a1 w1 ex hle hs1 hst hex => ?_
      have := hQ ρ1 a1 w1 ex hle hs1 hst hex
      have he : ex = .exit i := hex
      subst he; exact this
    | ret =>
      cases he
      refine h1 _ _ rfl hp _ fun ρ1 a1 w1 ex hle hs1 hst hex => ?_
      have := hQ ρ1 a1 w1 ex hle hs1 hst hex
      have he : ex = .ret := hex
      subst he; exact this
    | pan v =>
      cases he
      refine h1 _ _ rfl hp _ fun ρ1 a1 w1 ex hle hs1 hst hex => ?_
      have := hQ ρ1 a1 w1 ex hle hs1 hst hex
      obtain ⟨v', he, hv⟩ := hex
      subst he; exact this

def DrOK (E : Env) (P : Program) (B : Base) (dr : List Oper → ST → RR) : Prop :=
  ∀ (id : Nat) (ops : Array Oper) (s : ST) (ρ : Ren) (a : Act) (w : World), SR E B ρ s a w → Wp E B (fun Q => (Code.region id ops true).wp P Q a w) ρ (Own ρ s.g) w (dr ops.toList s)

theorem evCode_wp (htt : TTok P E.tt) (hx : XOK E P) (hr : RecOK E P B rec) (hm : MonoRec rec) {dr : List Oper → ST → RR} (hdm : ∀ ops, MonoK (dr ops)) (hd : DrOK E P B dr) : ∀ (n : Nat) (c : Code) (s : ST) (ρ : Ren) (a : Act) (w : World), SR E B ρ s a w →
    Wp E B (fun Q => c.wp P Q a w) ρ (Own ρ s.g) w (evCode E rec dr n c s) ∧ ∀ c', c = .loop c' → Wp E B (fun Q => wpIn P c' Q a w) ρ (Own ρ s.g) w (evCode E rec dr n c s)
  | 0, c, s, ρ, a, w, hs => ⟨fun e s' he => (by cases he), fun c' _ e s' he => (by cases he)⟩
  | n + 1, c, s, ρ, a, w, hs => by
    have ih := evCode_wp htt hx hr hm hdm hd n
    have ihm := mono_evCode (E := E) hm hdm n
    cases c with
    | skip =>
      refine ⟨fun e s' he hp Q hQ => ?_, fun c' h => by cases h⟩
      cases he
      exact wp_skip (hQ ρ a w _ ρ.le_refl hs (Stp.refl _ _) rfl)
    | label i =>
      refine ⟨fun e s' he hp Q hQ => ?_, fun c' h => by cases h⟩
      cases he
      exact wp_label (hQ ρ a w _ ρ.le_refl hs (Stp.refl _ _) rfl)
    | exit i =>
      refine ⟨fun e s' he hp Q hQ => ?_, fun c' h => by cases h⟩
      cases he
      exact wp_exit (hQ ρ a w _ ρ.le_refl hs (Stp.refl _ _) rfl)
    | ret =>
      refine ⟨fun e s' he hp Q hQ => ?_, fun c' h => by cases h⟩
      cases he
      exact wp_ret (hQ ρ a w _ ρ.le_refl hs (Stp.refl _ _) rfl)
    | region id ops d =>
      refine ⟨?_, fun c' h => by cases h⟩
      cases d with
      | true => exact hd id ops s ρ a w hs
      | false =>
        intro e s' he hp Q hQ
        refine wp_region ?_
        have := evOps_wp htt hx hr hm ops.toList 0 rfl s ρ a w hs e s' he hp Q hQ
        rw [← List.range_eq_range'] at this
        simpa using this
    | seq x y =>
      refine ⟨fun e s' he hp Q hQ => ?_, fun c' h => by cases h⟩
      exact wp_seq (then_wp (Y := fun Q => y.wp P Q) (ih x s ρ a w hs).1 (ihm y) (fun s1 ρ1 a1 w1 hs1 => (ih y s1 ρ1 a1 w1 hs1).1) e s' he hp Q hQ)
    | cond x y z =>
      refine ⟨?_, fun c' h => by cases h⟩
      refine condK_wp hs (fun t => by cases t; exact ihm z; exact ihm y) fun t ht s1 hs1 hO => ?_
      rw [← hO]
      intro e s' he hp Q hQ
      refine wp_cond ht ?_
      cases t
      · exact (ih z s1 ρ a w hs1).1 e s' he hp Q hQ
      · exact (ih y s1 ρ a w hs1).1 e s' he hp Q hQ
    | block i x =>
      refine ⟨fun e s' he hp Q hQ => wp_block ?_, fun c' h => by cases h⟩
      have h1 := (ih x s ρ a w hs).1
      replace he : blockR i (evCode E rec dr n x s) = .ok e s' := he
      cases hrr : evCode E rec dr n x s with
      | fail y => rw [hrr] at he; cases he
      | ok e1 s1 =>
        rw [hrr] at he h1
        cases e1 with
        | normal =>
          cases he
          refine h1 _ _ rfl hp _ fun ρ1 a1 w1 ex hle hs1 hst hex => ?_
          have := hQ ρ1 a1 w1 ex hle hs1 hst hex
          have he : ex = .normal := hex
          subst he; exact this
        | ret =>
          cases he
          refine h1 _ _ rfl hp _ fun ρ1 a1 w1 ex hle hs1 hst hex => ?_
          have := hQ ρ1 a1 w1 ex hle hs1 hst hex
          have he : ex = .ret := hex
          subst he; exact this
        | pan v =>
          cases he
          refine h1 _ _ rfl hp _ fun ρ1 a1 w1 ex hle hs1 hst hex => ?_
          have := hQ ρ1 a1 w1 ex hle hs1 hst hex
          obtain ⟨v', he, hv⟩ := hex
          subst he; exact this
        | exit j =>
          replace he : (Bool.rec (motive := fun _ => RR) (.ok (.exit j) s1) (.ok .normal s1) (Nat.beq j i) : RR) = .ok e s' := he
          cases hji : Nat.beq j i
          · rw [hji] at he
            cases he
            refine h1 _ _ rfl hp _ fun ρ1 a1 w1 ex hle hs1 hst hex => ?_
            have := hQ ρ1 a1 w1 ex hle hs1 hst hex
            have he : ex = .exit j := hex
            subst he
            have hne : j ≠ i := fun e => by subst e; rw [Nat.beq_refl] at hji; cases hji
            simp only [Exit.inBlock, if_neg hne]; exact this
          · rw [hji] at he
            cases he
            refine h1 _ _ rfl hp _ fun ρ1 a1 w1 ex hle hs1 hst hex => ?_
            have he : ex = .exit j := hex
            subst he
            have hne : j = i := Nat.eq_of_beq_eq_true hji
            simp only [Exit.inBlock, if_pos hne]
            exact hQ ρ1 a1 w1 .normal hle hs1 hst rfl
    | loop x =>
      have key := then_wp (Y := fun Q => wpIn P x Q) (ih x s ρ a w hs).1 (ihm (.loop x)) (fun s1 ρ1 a1 w1 hs1 => (ih (.loop x) s1 ρ1 a1 w1 hs1).2 x rfl)
      refine ⟨fun e s' he hp Q hQ => wp_loop_in (key e s' he hp Q hQ), fun c' h e s' he hp Q hQ => ?_⟩
      cases h
      exact wpIn_in (key e s' he hp Q hQ)
    | scope x =>
      refine ⟨fun e s' he hp Q hQ => wp_scope_straight ?_, fun c' h => by cases h⟩
      refine (ih x s ρ a w hs).1 e s' he hp _ fun ρ1 a1 w1 ex hle hs1 hst hex => ?_
      have := hQ ρ1 a1 w1 ex hle hs1 hst hex
      cases e with
      | normal => have he : ex = .normal := hex; subst he; exact this
      | exit i => have he : ex = .exit i := hex; subst he; exact this
      | ret => have he : ex = .ret := hex; subst he; exact this
      | pan v => obtain ⟨v', he, _⟩ := hex; subst he; exact this
    | _ => exact ⟨fun e s' he => (by cases he), fun c' h => (by cases h)⟩
end
end Go.Eng

/- The evaluator of code: calls. -/
namespace Go.Eng
open Go.RowKit
set_option linter.unusedVariables false
set_option linter.unusedSimpArgs false

section
variable {P : Program} {E : Env} {B : Base} {ρ : Ren} {s : ST} {a : Act} {w : World} {rec : FuncId → List AV → GS → RC}

def AtG (g : GS) : OR → Prop
  | .val _ g' => g' = g
  | _ => True
theorem oLoad_at (g : GS) (t : TypeId) (x : AV) : AtG g (oLoad E g t x) := by
  unfold oLoad
  split
  · unfold tiK
    cases E.tt.get t with
    | none => trivial
    | some i =>
      show AtG g (match i.k.agg with | true => _ | false => _)
      split
      · unfold oK
        cases cellsAt g _ _ i.size with
        | none => trivial
        | some l => rfl
      · unfold oK
        cases cellsAt g _ _ 1 with
        | none => trivial
        | some l => cases l with
          | nil => trivial
          | cons y l => rfl
  · trivial
theorem oLoad_g {g g' : GS} {t : TypeId} {x v : AV} (h : oLoad E g t x = .val v g') : g' = g := by
  have := oLoad_at (E := E) g t x
  rw [h] at this; exact this

def resOf (tmps : Array Value) : ResultVar → Sem Value
  | .tmp t => pure (tmps.getD t undef)
  | .cell a t => do loadVar t (← asAddr (tmps.getD a undef))

theorem resA_run (htt : TTok P E.tt) (hs : SR E B ρ s a w) (hp : PCs s.g.pcs) : ∀ (rs : List ResultVar) (l : List AV), resA E s rs = some l →
    ∃ vs, (rs.mapM (resOf a.tmps)).run P w = .ok vs w ∧ VRs ρ l vs
  | [], l, h => by
    cases h
    exact ⟨[], by simp [List.mapM_nil], VRs.nil ρ⟩
  | .tmp t :: rs, l, h => by
    unfold resA at h
    cases hr : resA E s rs with
    | none => rw [hr] at h; cases h
    | some m =>
      rw [hr] at h; cases h
      obtain ⟨vs, h1, h2⟩ := resA_run htt hs hp rs m hr
      refine ⟨a.tmps.getD t undef :: vs, ?_, VRs.cons (hs.tm t) h2⟩
      rw [List.mapM_cons]
      simp only [resOf, Sem.run_bind, Sem.run_pure, Result.andThen, h1]
  | .cell x t :: rs, l, h => by
    unfold resA at h
    cases ho : oLoad E s.g t ((s.tm.get x).getD .undef) with
    | fail => rw [ho] at h; cases h
    | call _ _ _ => rw [ho] at h; cases h
    | dfr _ _ _ => rw [ho] at h; cases h
    | pan _ _ => rw [ho] at h; cases h
    | val v g' =>
      rw [ho] at h
      cases hr : resA E s rs with
      | none => rw [hr] at h; cases h
      | some m =>
        rw [hr] at h; cases h
        obtain ⟨vs, h1, h2⟩ := resA_run htt hs hp rs m hr
        have hg := oLoad_g ho
        subst hg
        have hsat := oLoad_sat (q := true) htt hs.wr rfl (t := t) (hs.tm x)
        rw [ho] at hsat
        obtain ⟨ρ', v', w', hrun, hv, _, _, _, he⟩ := hsat hp
        obtain ⟨e1, e2⟩ := he rfl
        subst e1; rw [e2] at hrun
        have haddr : ∃ ad, a.tmps.getD x undef = .pointer (some ad) := by
          have := hs.tm x
          cases hx : (s.tm.get x).getD .undef with
          | ptr b o => rw [hx] at this; obtain ⟨r, _, h⟩ := this.ptr_inv; exact ⟨_, h⟩
          | _ => rw [hx] at ho; cases ho
        obtain ⟨ad, had⟩ := haddr
        refine ⟨v' :: vs, ?_, VRs.cons hv h2⟩
        rw [had] at hrun
        have hrun' : (loadVar t ad).run P w = .ok v' w := by
          simpa [Instr.loadAt, Instr.sureAddr, Result.andThen] using hrun
        rw [List.mapM_cons]
        simp only [resOf, had, asAddr, Sem.run_bind, Sem.run_pure, Result.andThen, hrun', h1]

theorem results_run (htt : TTok P E.tt) (hs : SR E B ρ s a w) (hp : PCs s.g.pcs) {fn : Func} {l : List AV} (h : resA E s fn.results.toList = some l) :
    ∃ v, (results fn a.tmps).run P w = .ok v w ∧ VR ρ (one1 l) v := by
  obtain ⟨vs, h1, h2⟩ := resA_run htt hs hp _ _ h
  have hm : (fn.results.mapM (resOf a.tmps)).run P w = .ok vs.toArray w := by
    rw [Array.mapM_eq_mapM_toList]
    simp only [Sem.run_bind, map_eq_pure_bind, h1, Result.andThen, Sem.run_pure]
  have hres : (results fn a.tmps).run P w = .ok (if h : vs.toArray.size = 1 then vs.toArray[0] else .tuple vs.toArray) w := by
    have : results fn a.tmps = (do let vs ← fn.results.mapM (resOf a.tmps); pure (if h : vs.size = 1 then vs[0] else .tuple vs)) := by
      unfold results
      congr 1
    rw [this]
    simp only [Sem.run_bind, hm, Result.andThen, Sem.run_pure]
  refine ⟨_, hres, ?_⟩
  unfold one1
  split
  · rename_i v
    obtain ⟨x, xs, rfl, hx, hxs⟩ := h2.cons_inv
    have := hxs.nil_inv; subst this
    simpa using hx
  · rename_i hne
    have hl := h2.1
    have : vs.length ≠ 1 := fun e => by
      rw [e] at hl
      cases l with
      | nil => cases hl
      | cons v m =>
        cases m with
        | nil => exact hne v rfl
        | cons u m => simp at hl
    simp only [List.size_toArray, this, dite_false]
    exact VRs.tup (by simpa using h2)

theorem runDf_leaves (hr : RecOK E P B rec) (hm : MonoRec rec) {fn : Func} {tmps : Array Value} {R : Ending → World → Prop} : ∀ (df : List (FuncId × List AV)) (ds : List Deferred) (g g2 : GS) (ρ : Ren) (w : World),
    runDf rec df g = some g2 → PCs g2.pcs → DR ρ df ds → WR B ρ g w → GR E ρ →
    (∀ ρ2 w2, ρ.le ρ2 → WR B ρ2 g2 w2 → Stp (Own ρ g) w (Own ρ2 g2) w2 → ∃ v, (results fn tmps).run P w2 = .ok v w2 ∧ R (.returned v) w2) → Leaves P fn tmps R ds .returning w
  | [], [], g, g2, ρ, w, h, hp, hd, hw, hg, hK => by
    cases h
    exact hK ρ w ρ.le_refl hw (Stp.refl _ _)
  | (f, args) :: df, [], g, g2, ρ, w, h, hp, hd, hw, hg, hK => hd.elim
  | [], d :: ds, g, g2, ρ, w, h, hp, hd, hw, hg, hK => hd.elim
  | (f, args) :: df, d :: ds, g, g2, ρ, w, h, hp, hd, hw, hg, hK => by
    obtain ⟨⟨cap, dargs, rfl, hargs⟩, hd2⟩ := hd
    unfold runDf at h
    have hc := hr f args g ρ w (dargs ++ cap) hw hg hargs
    cases hres : rec f args g with
    | fail y => rw [hres] at h; cases h
    | pan nd v g' => rw [hres] at h; cases h
    | ret nd v g' =>
      rw [hres] at h hc
      cases nd with
      | false => cases h
      | true =>
        replace h : runDf rec df g' = some g2 := h
        have hmono := mono_runDf (l := g'.pcs) hm df g' g2 (List.suffix_refl _) h
        obtain ⟨c1, _, c3⟩ := hc (hp.of_suffix hmono)
        refine leaves_cons (by simp) (by simp only [invoke]; exact c1) ((c3 rfl .returning).mono fun e u' w' hR => ?_)
        obtain ⟨rfl, hR⟩ := hR
        cases e with
        | returned v' =>
          obtain ⟨ρ', hv, hle, hw', hst⟩ := hR
          exact runDf_leaves hr hm df ds g' g2 ρ' w' h hp (hd2.mono hle) hw' (hg.mono hle) fun ρ2 w2 h1 h2 h3 => hK ρ2 w2 (Ren.le_trans hle h1) h2 (hst.trans h3)
        | panicked ch => exact hR.elim
        | outgrown => exact hR.elim

def SpOK (E : Env) (P : Program) (B : Base) (sp : (FuncId → List AV → GS → RC) → FuncId → List AV → GS → Option RC) : Prop :=
  ∀ rec, MonoRec rec → (∀ B, RecOK E P B rec) → ∀ f args g r, sp rec f args g = some r → ∀ ρ w (vs : Array Value), WR B ρ g w → GR E ρ → VRs ρ args vs.toList → RCs P f vs B ρ (Own ρ g) w r

theorem callFunc_enter {f : FuncId} {fn : Func} {c : Code} {vs : Array Value} (hf : P.funcs[f]? = some fn) (hb : fn.body = some c) (hn : (fn.name == "runtime.NumGoroutine") = false) :
    (callFunc f vs).run P w = .ok (.enter f vs) w := by
  have hn' : ¬ fn.name = "runtime.NumGoroutine" := by simpa using hn
  simp [callFunc, program, Sem.run, hf, hb, hn', Result.andThen]

theorem SR.init {args : List AV} {vs : Array Value} {n : Nat} {g : GS} (hw : WR B ρ g w) (hg : GR E ρ) (hv : VRs ρ args vs.toList) (hn : args.length ≤ n) (hn' : n < 1000000) :
    SR E B ρ ⟨argsT args, n, [], g⟩ { tmps := vs ++ Array.replicate (n - vs.size) undef, defers := [] } w := by
  have hl : args.length = vs.size := by simpa using hv.1
  refine ⟨fun t => ?_, ?_, hn', trivial, hg, hw⟩
  · show VR ρ (((T.ofFrom .nil 0 args).get t).getD .undef) _
    rcases Nat.lt_or_ge t args.length with ht | ht
    · have h1 := T.ofFrom_ge args .nil 0 t (by omega) ht
      rw [Nat.zero_add] at h1
      rw [h1, List.getElem?_eq_getElem ht]
      obtain ⟨x, hx, hvr⟩ := hv.get (List.getElem?_eq_getElem ht)
      have hx' : vs[t]? = some x := by simpa using hx
      rw [Array.getD_eq_getD_getElem?, Array.getElem?_append_left (by omega), hx']
      exact hvr
    · have h1 := T.ofFrom_beyond args .nil 0 t (by omega)
      rw [h1, T.get_nil]
      rw [Array.getD_eq_getD_getElem?, Array.getElem?_append_right (by omega), Array.getElem?_replicate]
      split <;> exact .undef
  · simp; omega

theorem leave_ok (htt : TTok P E.tt) (hr : RecOK E P B rec) (hm : MonoRec rec) {f : FuncId} {fn : Func} {c : Code} {vs : Array Value} {O : Nat → Prop} {r : RR} (hf : P.funcs[f]? = some fn) (hb : fn.body = some c)
    (hn : (fn.name == "runtime.NumGoroutine") = false)
    (h : Wp E B (fun Q => c.wp P Q { tmps := vs ++ Array.replicate (fn.ntmps - vs.size) undef, defers := [] } w) ρ O w r) : RCs P f vs B ρ O w (leave E rec fn r) := by
  have fin : ∀ e s1, r = .ok e s1 → (e = .normal ∨ e = .ret) → RCs P f vs B ρ O w (match runDf rec s1.df s1.g with
      | none => .fail "deferred"
      | some g => match resA E { s1 with g := g } fn.results.toList with
        | none => .fail "results"
        | some l => .ret (isNil s1.df) (one1 l) g) := fun e s1 he hee => by
    cases hd : runDf rec s1.df s1.g with
    | none => trivial
    | some g2 =>
      simp only
      cases hres : resA E { s1 with g := g2 } fn.results.toList with
      | none => trivial
      | some l =>
        simp only
        intro hp
        have hmono := mono_runDf (l := s1.g.pcs) hm s1.df s1.g g2 (List.suffix_refl _) hd
        have hp1 := hp.of_suffix hmono
        have key : ∀ ρ1 a1 w1, ρ.le ρ1 → SR E B ρ1 s1 a1 w1 → Stp O w (Own ρ1 s1.g) w1 → Leaves P fn a1.tmps (Ret B ρ O w (one1 l) g2) a1.defers .returning w1 := fun ρ1 a1 w1 hle hs1 hst =>
          runDf_leaves hr hm s1.df a1.defers s1.g g2 ρ1 w1 hd hp hs1.df hs1.wr hs1.gl fun ρ2 w2 h1 h2 h3 => by
            have hs2 : SR E B ρ2 { s1 with g := g2 } a1 w2 := ⟨fun t => (hs1.tm t).mono h1, hs1.n, hs1.nl, hs1.df.mono h1, hs1.gl.mono h1, h2⟩
            obtain ⟨v, hv1, hv2⟩ := results_run htt hs2 hp hres
            exact ⟨v, hv1, ρ2, hv2, Ren.le_trans hle h1, h2, hst.trans h3⟩
        refine ⟨callFunc_enter hf hb hn, calls_of_wp_defers hf hb (h e s1 he hp1 _ fun ρ1 a1 w1 ex hle hs1 hst hex => ?_), fun hnd u => callsD_of_wp hf hb (h e s1 he hp1 _ fun ρ1 a1 w1 ex hle hs1 hst hex => ?_)⟩
        · have hk := key ρ1 a1 w1 hle hs1 hst
          rcases hee with rfl | rfl
          · have he : ex = .normal := hex
            subst he; exact hk
          · have he : ex = .ret := hex
            subst he; exact hk
        · have hk := key ρ1 a1 w1 hle hs1 hst
          have hnil : s1.df = [] := by
            cases hdf : s1.df with
            | nil => rfl
            | cons x y => rw [hdf] at hnd; cases hnd
          have hdr := hs1.df
          rw [hnil] at hdr
          have hdn : a1.defers = [] := by
            cases hdf : a1.defers with
            | nil => rfl
            | cons x y => rw [hdf] at hdr; exact hdr.elim
          rw [hdn] at hk
          rcases hee with rfl | rfl
          · have he : ex = .normal := hex
            subst he; exact ⟨hdn, hk⟩
          · have he : ex = .ret := hex
            subst he; exact ⟨hdn, hk⟩
  cases hrr : r with
  | fail y => trivial
  | ok e s1 =>
    cases e with
    | normal => exact fin _ s1 hrr (.inl rfl)
    | ret => exact fin _ s1 hrr (.inr rfl)
    | exit i => trivial
    | pan v =>
      simp only [leave]
      split
      · rename_i hdf
        intro hp
        have key : ∀ ρ1 a1 w1, SR E B ρ1 s1 a1 w1 → a1.defers = [] := fun ρ1 a1 w1 hs1 => by
          have hdr := hs1.df
          rw [hdf] at hdr
          cases hd : a1.defers with
          | nil => rfl
          | cons x y => rw [hd] at hdr; exact hdr.elim
        refine ⟨callFunc_enter hf hb hn, calls_of_wp hf hb (h _ s1 hrr hp _ fun ρ1 a1 w1 ex hle hs1 hst hex => ?_), fun hnd u => callsD_of_wp hf hb (h _ s1 hrr hp _ fun ρ1 a1 w1 ex hle hs1 hst hex => ?_)⟩
        · obtain ⟨v', rfl, hv⟩ := hex
          exact ⟨key ρ1 a1 w1 hs1, ρ1, v', rfl, hv, hle, hs1.wr, hst⟩
        · obtain ⟨v', rfl, hv⟩ := hex
          exact ⟨key ρ1 a1 w1 hs1, ρ1, v', rfl, hv, hle, hs1.wr, hst⟩
      · trivial

theorem evCall_ok {L : Nat} {dr : (FuncId → List AV → GS → RC) → List Oper → ST → RR} {sp : (FuncId → List AV → GS → RC) → FuncId → List AV → GS → Option RC} (htt : TTok P E.tt) (hft : FTok P E.ft) (hx : XOK E P)
    (hdm : ∀ rec, MonoRec rec → ∀ ops, MonoK (dr rec ops)) (hsm : ∀ rec, MonoRec rec → ∀ l f args g r, l <:+ g.pcs → sp rec f args g = some r → MonoRC l r)
    (hd : ∀ rec, MonoRec rec → (∀ B, RecOK E P B rec) → ∀ B, DrOK E P B (dr rec)) (hsp : ∀ B, SpOK E P B sp) : ∀ n B, RecOK E P B (evCall E L dr sp n)
  | 0, B => fun f args g ρ w vs hw hg hv => trivial
  | n + 1, B => fun f args g ρ w vs hw hg hv => by
    have ihB := evCall_ok (L := L) htt hft hx hdm hsm hd hsp n
    have ih := ihB B
    have ihm : MonoRec (evCall E L dr sp n) := mono_evCall hdm hsm n
    show RCs P f vs B ρ (Own ρ g) w (match sp (evCall E L dr sp n) f args g with | some r => r | none => _)
    split
    · rename_i r hr
      exact hsp B _ ihm ihB f args g r hr ρ w vs hw hg hv
    · split
      · trivial
      · rename_i fn hfn
        split
        · trivial
        · rename_i c hb
          split
          · trivial
          · rename_i hc
            obtain ⟨c1, c2⟩ := andB_true hc
            obtain ⟨c2, c3⟩ := andB_true c2
            have hn : (fn.name == "runtime.NumGoroutine") = false := by
              revert c3; cases (fn.name == "runtime.NumGoroutine") <;> simp
            have hl : args.length = vs.size := by simpa using hv.1
            refine leave_ok htt ih ihm (hft f fn hfn) hb hn ?_
            exact (evCode_wp htt hx ih ihm (hdm _ ihm) (hd _ ihm ihB B) L c _ ρ _ w (SR.init hw hg hv (ble_le c1) (blt_lt c2))).1
end
end Go.Eng

/- Library functions without a Go body. -/
namespace Go.Eng
open Go.RowKit
set_option linter.unusedVariables false
set_option linter.unusedSimpArgs false

def XRow : XK → (Array Value → Sem Value) → Prop
  | .load k, r => r = Extern.Atomic.loadT (.int k)
  | .store, r => r = Extern.Atomic.storeT
  | .cas k, r => r = Extern.Atomic.casT (.int k)
  | .add k, r => r = Extern.Atomic.update (Op.intArith .add) k true
  | .nop, r => ∃ m, r = fun _ => do mark m; pure (.tuple #[])
  | .nopA, r => ∃ m : Addr → Mark, r = Extern.Race.marked m
  | .mclone, r => r = Extern.MapsClone.clone
  | .indexByte, r => r = Extern.BytealgIndexByte.indexByte

structure XFn (P : Program) (f : FuncId) (k : XK) : Prop where
  ok : ∃ fn row, P.funcs[f]? = some fn ∧ fn.body = none ∧ ¬ fn.name = "runtime.NumGoroutine" ∧ Extern.findNext fn = none ∧ Extern.find fn = some row ∧ XRow k row

section
variable {q : Bool} {P : Program} {E : Env} {B : Base} {ρ : Ren} {O : Nat → Prop} {w : World} {g : GS}

theorem WR.rw {b o : Nat} {v : AV} {r : BR} (hw : WR B ρ g w) (hr : ρ b = some r) (h : rwCell g b o = some v) :
    ∃ x, w.cell? ⟨r.blk, r.base + o, none⟩ = some x ∧ VR ρ v x ∧ w.frozen? ⟨r.blk, r.base + o, none⟩ = false := by
  unfold rwCell at h
  split at h
  · rename_i plain size cs hb
    split at h
    · rename_i hlt
      have hlt := blt_lt hlt
      obtain ⟨v', x, h1, h2, h3⟩ := hw.cell hb hr hlt
      rw [h1] at h; cases h
      refine ⟨x, h2, h3, ?_⟩
      obtain ⟨r', hr', hok⟩ := (hw.blk b _ hb).resolve_left (by simp)
      rw [hr] at hr'; cases hr'
      obtain ⟨_, arr, e, fr, k1, k2, k3, k4, _⟩ := hok
      have := k4.not (r.base + o) (by omega)
      obtain ⟨lo, hi⟩ := fr
      simp only [World.frozen?, k1, Bool.and_eq_false_iff, decide_eq_false_iff_not]
      simp only at this
      omega
    · cases h
  · cases h

theorem store1 {a : Addr} {x u : Value} {w' : World} (h1 : x.oneCell' = true) (hc : w.cell? a = some u) (hz : w.frozen? a = false) (h : (storeCells a [x]).run P w = .ok () w') : (store a x .atomic).run P w = .ok () w' := by
  have ha : a.add 0 = a := by obtain ⟨b, o, s⟩ := a; simp [Addr.add]
  rw [run_store P w a x .atomic h1, hc]
  simp only [storeCells, Sem.run_bind, ha, run_store P w a x _ h1, hc, hz, Result.andThen, Sem.run_pure] at h ⊢
  simpa using h

theorem cellA_some {b o : Nat} {v : AV} {r : BR} (hw : WR B ρ g w) (hr : ρ b = some r) (h : cellA g b o = some v) : ∃ x, w.cell? ⟨r.blk, r.base + o, none⟩ = some x ∧ VR ρ v x := by
  unfold cellA at h
  split at h
  · rename_i v' l hl
    cases h
    obtain ⟨xs, h1, h2, h3⟩ := hw.cells hr hl
    obtain ⟨x, hx, hv⟩ := h1.get (i := 0) rfl
    exact ⟨x, h3 0 x hx, hv⟩
  · cases h

theorem kind_eq {i j : IntKind} (h : eqN (kindNo i) (kindNo j) = true) : i = j := by cases i <;> cases j <;> first | rfl | cases h

theorem VRs.args1 {a : AV} {vs : Array Value} (h : VRs ρ [a] vs.toList) : ∃ x, vs = #[x] ∧ VR ρ a x := by
  obtain ⟨x, xs, h1, h2, h3⟩ := h.cons_inv
  have := h3.nil_inv; subst this
  exact ⟨x, by cases vs; simp_all, h2⟩
theorem VRs.args2 {a b : AV} {vs : Array Value} (h : VRs ρ [a, b] vs.toList) : ∃ x y, vs = #[x, y] ∧ VR ρ a x ∧ VR ρ b y := by
  obtain ⟨x, xs, h1, h2, h3⟩ := h.cons_inv
  obtain ⟨y, ys, h4, h5, h6⟩ := h3.cons_inv
  have := h6.nil_inv; subst this; subst h4
  exact ⟨x, y, by cases vs; simp_all, h2, h5⟩
theorem VRs.args3 {a b c : AV} {vs : Array Value} (h : VRs ρ [a, b, c] vs.toList) : ∃ x y z, vs = #[x, y, z] ∧ VR ρ a x ∧ VR ρ b y ∧ VR ρ c z := by
  obtain ⟨x, xs, h1, h2, h3⟩ := h.cons_inv
  obtain ⟨y, ys, h4, h5, h6⟩ := h3.cons_inv
  obtain ⟨z, zs, h7, h8, h9⟩ := h6.cons_inv
  have := h9.nil_inv; subst this; subst h7; subst h4
  exact ⟨x, y, z, by cases vs; simp_all, h2, h5, h8⟩
theorem VR.int_eq {k : IntKind} {n : N} {x : Value} (h : VR ρ (.int k n) x) : x = .int k n.v := h.int_inv

theorem getBang {s : ByteArray} {j : Nat} (h : j < s.data.size) : s[j]! = s.data[j] := by
  have h' : j < s.size := h
  rw [getElem!_pos s j h']
  rfl
theorem indexOfB_spec {c : Int} : ∀ (l : List N) (i : Nat) (z : Int) (p : Nat → Bool), indexOfB c l i = some z → (∀ j (hj : j < l.length), p (i + j) = decide (l[j].v = c)) →
    (match (List.range' i l.length).find? p with | some k => (k : Int) | none => -1) = z
  | [], i, z, p, h, _ => by simp [indexOfB] at h; simp [← h]
  | .s t :: l, i, z, p, h, _ => by simp [indexOfB] at h
  | .c x :: l, i, z, p, h, hp => by
    have h0 : p i = decide (x = c) := hp 0 (by simp)
    have hs : ∀ j (hj : j < l.length), p (i + 1 + j) = decide (l[j].v = c) := fun j hj => by
      have := hp (j + 1) (by simp; omega)
      rw [show i + (j + 1) = i + 1 + j by omega] at this
      simpa using this
    simp only [List.length_cons, List.range'_succ, List.find?_cons]
    unfold indexOfB at h
    rw [eqI_eq] at h
    by_cases he : x = c
    · rw [decide_eq_true he] at h
      cases h
      rw [h0, decide_eq_true he]
      rfl
    · rw [decide_eq_false he] at h
      rw [h0, decide_eq_false he]
      exact indexOfB_spec l (i + 1) z p h hs

theorem row_sat {k : XK} {row : Array Value → Sem Value} (hrow : XRow k row) (hw : WR B ρ g w) (hO : O = Own ρ g) {args : List AV} {vs : Array Value} (hv : VRs ρ args vs.toList) :
    Sat false P B ρ O w RV ((row vs).run P w) (oXK g k args) := by
  unfold oXK
  split
  · -- nop, no argument
    have : vs = #[] := by have := hv.nil_inv; cases vs; simp_all
    subst this
    obtain ⟨m, rfl⟩ := hrow
    exact sat_val (a := .tuple #[]) (by simp [mark, Sem.run, Result.andThen]) .undef hw hO
  · rename_i b o
    obtain ⟨x, rfl, hx⟩ := hv.args1
    obtain ⟨r, hr, rfl⟩ := hx.ptr_inv
    obtain ⟨m, rfl⟩ := hrow
    exact sat_val (a := .tuple #[]) (by simp [Extern.Race.marked, Extern.Race.none_, mark, Sem.run, Result.andThen, Extern.Race.at_]) .undef hw hO
  · rename_i k b o
    have hrow : row = Extern.Atomic.loadT (.int k) := hrow
    subst hrow
    obtain ⟨x, rfl, hx⟩ := hv.args1
    obtain ⟨r, hr, rfl⟩ := hx.ptr_inv
    refine sat_oK fun v hvc => ?_
    obtain ⟨x, hc, hxv⟩ := cellA_some hw hr hvc
    split
    · rename_i j n
      refine sat_ck fun hk => ?_
      have := kind_eq hk; subst this
      have := hxv.int_eq; subst this
      refine sat_val (a := .int k n.v) ?_ (.int k n) hw hO
      change Sem.run P (do Extern.Atomic.read (.int k) (← asAddr (.pointer (some ⟨r.blk, r.base + o, none⟩)))) w = _
      simp [Extern.Atomic.read, asAddr, hc, Result.andThen]
    · trivial
  · rename_i b o j n
    have hrow : row = Extern.Atomic.storeT := hrow
    subst hrow
    obtain ⟨x, y, rfl, hx, hy⟩ := hv.args2
    obtain ⟨r, hr, rfl⟩ := hx.ptr_inv
    have := hy.int_eq; subst this
    refine sat_oK fun v hvc => ?_
    obtain ⟨x, hc, hxv, hz⟩ := hw.rw hr hvc
    refine sat_writeAt hw hO hr (xs := [.int j n.v]) (VRs.cons (.int j n) (VRs.nil ρ)) fun g' w' h1 h2 h3 => ?_
    refine fun _ => ⟨ρ, .tuple #[], w', ?_, .undef, ρ.le_refl, h2, h3, (fun h => by cases h)⟩
    have h4 := store1 rfl hc hz h1
    change Sem.run P (do
      store (← asAddr (.pointer (some ⟨r.blk, r.base + o, none⟩))) (.int j n.v) .atomic
      pure Extern.Atomic.none_) w = _
    simp [asAddr, h4, Result.andThen, Extern.Atomic.none_]
  · rename_i k b o j old i new
    have hrow : row = Extern.Atomic.casT (.int k) := hrow
    subst hrow
    obtain ⟨x, y, z, rfl, hx, hy, hz'⟩ := hv.args3
    obtain ⟨r, hr, rfl⟩ := hx.ptr_inv
    have := hy.int_eq; subst this
    have := hz'.int_eq; subst this
    refine sat_ck fun hk => ?_
    obtain ⟨hk1, hk2⟩ := andB_true hk
    have := kind_eq hk1; subst this
    have := kind_eq hk2; subst this
    refine sat_oK fun v hvc => ?_
    split
    · rename_i h n
      refine sat_ck fun hk => ?_
      have := kind_eq hk; subst this
      refine sat_decN hw hO (fun z g' l h => mono_decN h fun z g' h' => ?_) fun z g1 hw1 hO1 hbl1 hz1 => sat_decN hw1 hO1 (fun z g' l h => ?_) fun z2 g2 hw2 hO2 hbl2 hz2 => ?_
      · split
        · exact mono_writeAt h' fun _ h => h
        · exact h'
      · split
        · exact mono_writeAt h fun _ h => h
        · exact h
      · have hvc2 : rwCell g2 b o = some (.int k n) := by
          unfold rwCell at hvc ⊢; rw [hbl2, hbl1]; exact hvc
        obtain ⟨x, hc, hxv, hz⟩ := hw2.rw hr hvc2
        have := hxv.int_eq; subst this
        split
        · rename_i heq
          have he : z = z2 := by rw [eqI_eq] at heq; simpa using heq
          refine sat_writeAt hw2 hO2 hr (xs := [.int k new.v]) (VRs.cons (.int k new) (VRs.nil ρ)) fun g' w' h1 h2 h3 => ?_
          refine fun _ => ⟨ρ, .bool true, w', ?_, .bool (.c true), ρ.le_refl, h2, h3, (fun h => by cases h)⟩
          have h4 := store1 rfl hc hz h1
          have e1 : n.v = old.v := by rw [hz1, hz2, he]
          change (Go.Conc.casBody k ⟨r.blk, r.base + o, none⟩ old.v new.v).run P w = _
          rw [e1] at hc
          simp [Go.Conc.casBody, Extern.Atomic.touchesFrozen, Extern.Atomic.read, asAddr, viewAt, World.shape?_isSome_of_cell? hc, hc, hz, h4, Result.andThen]
        · rename_i heq
          have he : ¬ z = z2 := by rw [eqI_eq] at heq; simpa using heq
          refine fun _ => ⟨ρ, .bool false, w, ?_, .bool (.c false), ρ.le_refl, hw2, by rw [hO2]; exact Stp.refl _ _, (fun h => by cases h)⟩
          have e1 : ¬ n.v = old.v := by rw [hz1, hz2]; exact he
          change (Go.Conc.casBody k ⟨r.blk, r.base + o, none⟩ old.v new.v).run P w = _
          simp [Go.Conc.casBody, Extern.Atomic.touchesFrozen, Extern.Atomic.read, asAddr, viewAt, World.shape?_isSome_of_cell? hc, hc, hz, e1, Result.andThen]
    · trivial
  · rename_i k b o j y
    have hrow : row = Extern.Atomic.update (Op.intArith .add) k true := hrow
    subst hrow
    obtain ⟨x, y', rfl, hx, hy⟩ := hv.args2
    obtain ⟨r, hr, rfl⟩ := hx.ptr_inv
    have := hy.int_eq; subst this
    refine sat_ck fun hk => ?_
    have := kind_eq hk; subst this
    refine sat_oK fun v hvc => ?_
    obtain ⟨x, hc, hxv, hz⟩ := hw.rw hr hvc
    split
    · rename_i i n
      refine sat_ck fun hk => ?_
      have := kind_eq hk; subst this
      have := hxv.int_eq; subst this
      have hn : (N2 (fun x y => wrapF k (addI x y)) n y).v = k.wrap (n.v + y.v) := by
        rw [N2_v, wrapF_eq, addI_eq]
      refine sat_writeAt hw hO hr (xs := [.int k (k.wrap (n.v + y.v))]) (by rw [← hn]; exact VRs.cons (.int k _) (VRs.nil ρ)) fun g' w' h1 h2 h3 => ?_
      refine fun _ => ⟨ρ, .int k (k.wrap (n.v + y.v)), w', ?_, by rw [← hn]; exact .int k _, ρ.le_refl, h2, h3, (fun h => by cases h)⟩
      have h4 := store1 rfl hc hz h1
      change Sem.run P (do
        let a' ← asAddr (.pointer (some ⟨r.blk, r.base + o, none⟩))
        let old ← Extern.Atomic.read (.int k) a'
        let new ← Op.intArith .add k (← asInt old) (← asInt (.int k y.v))
        store a' new .atomic
        pure (if true then new else old)) w = _
      simp [Extern.Atomic.read, asAddr, asInt, asIntOf, hc, Op.intArith, h4, Result.andThen]
    · trivial
  · rename_i t b
    have hrow : row = Extern.MapsClone.clone := hrow
    subst hrow
    obtain ⟨x, rfl, hx⟩ := hv.args1
    obtain ⟨r, hr, rfl⟩ : ∃ r, ρ b = some r ∧ x = .iface t (.map (some r.blk)) := by
      cases hx with | ifc _ _ y h => cases h with | map _ r h => exact ⟨r, h, rfl⟩
    split
    · rename_i es clock hb
      refine sat_ck fun hc => ?_
      have hlt := nxOk_lt hc
      obtain ⟨r', hr', hok⟩ := (hw.blk b _ hb).resolve_left (by simp)
      rw [hr] at hr'; cases hr'
      obtain ⟨hB, es', h1, h2⟩ := hok
      obtain ⟨a1, a2, a3⟩ := hw.new (.map es clock) (.map _ _) (.map es' clock) w.drawn 0 (by omega) (fun ρ' hle => ⟨hw.size, es', by simp, h2.mono hle⟩)
      refine fun _ => ⟨_, .iface t (.map (some w.heap.size)), _, ?_, .ifc _ _ _ (.map g.nx ⟨w.heap.size, 0, 0⟩ (Ren.upd_same _ _ _)), a1, a2, by rw [hO]; exact a3, (fun h => by cases h)⟩
      change Sem.run P (do
        match ← getObj r.blk with
        | .map entries clock => pure (Value.iface t (.map (some (← newObj (.map entries clock)))))
        | _ => stuck "maps.clone: a map expected") w = _
      simp [getObj, Sem.run, h1, Result.andThen, newObj]
    · trivial
  · rename_i l c
    have hrow : row = Extern.BytealgIndexByte.indexByte := hrow
    subst hrow
    obtain ⟨x, y, rfl, hx, hy⟩ := hv.args2
    have := hy.int_eq; subst this
    obtain ⟨s, rfl, hs⟩ := hx.str_inv
    refine sat_ck fun hc => sat_oK fun z hz => ?_
    obtain ⟨hc1, hc2⟩ := andB_true hc
    rw [leI_eq] at hc1; rw [ltI_eq] at hc2
    have hc1 : 0 ≤ c := by simpa using hc1
    have hc2 : c < 256 := by simpa using hc2
    have hlen : s.size = l.length := str_len hs
    have key := indexOfB_spec l 0 z (fun i => s[i]! == c.toNat.toUInt8) hz fun j hj => by
      have h0 := congrArg (fun m : List Int => m[j]?) hs
      simp only [List.getElem?_map, List.getElem?_eq_getElem hj] at h0
      have hjs : j < s.data.size := by have : s.size = s.data.size := rfl; omega
      have hb : s.data.toList[j]? = some s.data[j] := by simp [hjs]
      rw [hb] at h0
      simp only [Option.map_some, Option.some.injEq] at h0
      have hg : s[0 + j]! = s.data[j] := by
        rw [Nat.zero_add]
        exact getBang hjs
      rw [hg, ← h0]
      have hc' : (c.toNat : Int) = c := Int.toNat_of_nonneg hc1
      have h1 : s.data[j].toNat < 256 := s.data[j].toNat_lt
      have h2 : c.toNat < 256 := by omega
      by_cases he : s.data[j].toNat = c.toNat
      · rw [decide_eq_true (by omega)]
        simp only [beq_iff_eq]
        apply UInt8.toNat_inj.1
        rw [he]; simp [Nat.toUInt8, Nat.mod_eq_of_lt h2]
      · rw [decide_eq_false (by omega)]
        simp only [beq_eq_false_iff_ne, ne_eq]
        intro e
        apply he
        rw [e]; simp [Nat.toUInt8, Nat.mod_eq_of_lt h2]
    refine sat_val (a := .int .i64 z) ?_ (.int .i64 (.c z)) hw hO
    change Sem.run P (do
      let b ← Extern.Bytes.bytesOf (.string s)
      let c ← Extern.Bytes.asByte (.int .u8 c)
      match (List.range b.size).find? fun i => b[i]! == c with
      | some i => pure (goInt i)
      | none => pure (goInt (-1))) w = _
    rw [← hlen, ← List.range_eq_range'] at key
    simp only [Extern.Bytes.bytesOf, Extern.Bytes.asByte, Sem.run_bind, Sem.run_pure, Result.andThen]
    cases hf : (List.range s.size).find? (fun i => s[i]! == c.toNat.toUInt8) with
    | none => rw [hf] at key; simp only at key; rw [← key]; rfl
    | some i => rw [hf] at key; simp only at key; rw [← key]; rfl
  · trivial

theorem XOK.of (h : ∀ f k, E.xt.get f = some k → XFn P f k) : XOK E P := fun f k hk B ρ w g args vs hw hv => by
  obtain ⟨fn, row, h1, h2, h3, h4, h5, h6⟩ := (h f k hk).ok
  have hs := row_sat (P := P) h6 hw rfl hv
  have hrun : (callFunc f vs).run P w = (do pure (.value (← row vs)) : Sem Next).run P w := by
    simp [callFunc, program, Sem.run, h1, h2, h3, h4, h5, mark, Result.andThen]
  rw [hrun]
  exact satN_v hs
end
end Go.Eng
