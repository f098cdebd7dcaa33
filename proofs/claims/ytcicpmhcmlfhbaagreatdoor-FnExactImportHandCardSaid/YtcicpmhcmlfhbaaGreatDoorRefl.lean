/- A pure interpreter of the code, and that the machine does what it tells (a text of this session). -/
import Derived.Test.YtcicpmhcmlfhbaaGreatDoorReflE
set_option autoImplicit false
set_option linter.unusedVariables false
set_option linter.unusedSimpArgs false
namespace Go.Refl
open Go.RowKit

section
variable {P : Program} {Γ : Ctx}

def isBox (st : St Γ) (t : Nat) : Bool :=
 match tmGet st.tm t with
 | .p (.box s 0) => s.beq t
 | _ => false

def preK {R : Type} (t2 t4 t7 Ta Tb : Nat) (La Lb : List LC) (G : PT Γ La → PT Γ La × PT Γ Lb → Option R) : Kont Γ R := fun _ e st => match e with
 | .normal => bif (isBox st t2).and ((isBox st t4).and (isBox st t7)) then bxDec st.bx t2 Ta La fun x2 => bxDec st.bx t4 Ta La fun x4 => bxDec st.bx t7 Tb Lb fun x7 => G x2 (x4, x7) else none
 | _ => none

def bodyK (k4 k7 Ta Tb : Nat) (La Lb : List LC) : Kont Γ (PT Γ La × PT Γ Lb) := fun _ e st => match e with
 | .normal => bxDec st.bx k4 Ta La fun a => bxDec st.bx k7 Tb Lb fun b => some (a, b)
 | _ => none

def postK (rs : List ResultVar) (rc : RC) (L : List LC) : Kont Γ (PT Γ L) := fun _ e st => match e with
 | .normal => resAVs st rs fun avs => match argCells rc.vcs avs with
  | some cs => decLeaves L cs
  | none => none
 | _ => none

theorem isBox_get {st : St Γ} {t : Nat} (h : isBox st t = true) : tmGet st.tm t = .p (.box t 0) := by
 unfold isBox at h
 split at h
 ·rename_i s hs
  obtain rfl := Nat.eq_of_beq_eq_true h
  exact hs
 ·cases h

theorem tmGet3 {a b c : Nat × AV Γ} (t : Nat) : tmGet [a, b, c] t = if a.1 = t then a.2 else if b.1 = t then b.2 else if c.1 = t then c.2 else .u := by
 have hb : ∀ x : Nat, Nat.beq x t = decide (x = t) := fun x => by
  by_cases e : x = t
  ·subst e; simp
  ·rw [decide_eq_false e]; exact Bool.eq_false_iff.2 fun h => e (Nat.eq_of_beq_eq_true h)
 obtain ⟨a1, a2⟩ := a
 obtain ⟨b1, b2⟩ := b
 obtain ⟨c1, c2⟩ := c
 simp only [tmGet, hb]
 by_cases e1 : a1 = t <;> by_cases e2 : b1 = t <;> by_cases e3 : c1 = t <;> simp [e1, e2, e3]

theorem av_box {base : Nat} {S : Nat → Nat → Prop} {μ : Mp} {w : World} {s g : Nat} {v : Value} (h : μ.ρ s = some g) (hv : v = ptr g) : AVRep (Γ := Γ) base S μ w (.p (.box s 0)) v := ⟨g, h, hv⟩

theorem resAV_at {R : Type} {base : Nat} {S : Nat → Nat → Prop} (C : CtxOK P Γ) {st : St Γ} {rv : ResultVar} {K : AV Γ → Option R} {r : R} (h : resAV st rv K = some r) {a : Act} {w : World} {μ : Mp} (htm : ∀ t, AVRep base S μ w (tmGet st.tm t) (a.eval (.tmp t))) (hbx : ∀ s T cs, bxGet st.bx s = some (T, cs) → BoxRep base S μ w s T cs) :
  ∃ v y, K v = some r ∧ AVRep base S μ w v y ∧ (rvRun a.tmps rv).run P w = .ok y w := by
 cases rv with
 | tmp t => exact ⟨_, _, h, htm t, rfl⟩
 | cell x t =>
  simp only [resAV] at h
  split at h
  ·rename_i s off hx
   split at h
   ·rename_i T cs hb
    obtain ⟨v, hv, hh⟩ := loadAV_inv C h
    have hp := htm x
    rw [hx] at hp
    obtain ⟨g, e1, e2⟩ := hp
    obtain ⟨g', e3, e4⟩ := (hbx s T cs hb).cells off
    obtain rfl : g = g' := by rw [e1] at e3; injection e3
    obtain ⟨y, e5, e6⟩ := hh base S μ w g off e4
    refine ⟨v, y, hv, e6, ?_⟩
    have e2' : a.tmps.getD x undef = .pointer (some ⟨g, off, none⟩) := e2
    simp only [rvRun, e2', asAddr, Sem.run_bind, Sem.run_pure, Result.andThen_ok, e5]
   ·cases h
  ·cases h

theorem resAVs_at {R : Type} {base : Nat} {S : Nat → Nat → Prop} (C : CtxOK P Γ) {st : St Γ} {a : Act} {w : World} {μ : Mp} (htm : ∀ t, AVRep base S μ w (tmGet st.tm t) (a.eval (.tmp t))) (hbx : ∀ s T cs, bxGet st.bx s = some (T, cs) → BoxRep base S μ w s T cs) : ∀ {rs : List ResultVar} {K : List (AV Γ) → Option R} {r : R}, resAVs st rs K = some r →
  ∃ vs ys, K vs = some r ∧ AVsRep base S μ w vs ys ∧ (rs.mapM (rvRun a.tmps)).run P w = .ok ys w ∧ ys.length = rs.length
 | [], K, r, h => ⟨[], [], h, trivial, rfl, rfl⟩
 | rv :: rs, K, r, h => by
  obtain ⟨v, y, h1, h2, h3⟩ := resAV_at (P := P) C (K := fun v => resAVs st rs fun vs => K (v :: vs)) h htm hbx
  obtain ⟨vs, ys, g1, g2, g3, g4⟩ := resAVs_at C htm hbx h1
  refine ⟨v :: vs, y :: ys, g1, ⟨h2, g2⟩, ?_, by simp [g4]⟩
  simp only [List.mapM_cons, Sem.run_bind, h3, g3, Result.andThen_ok, Sem.run_pure]

theorem calls_split (C : CtxOK P Γ) {E : Nat → List (Ent Γ)} {k : Nat} (hE : ∀ k, ∀ e ∈ E k, EntOK P e) {f : FuncId} {fn : Func} (hf : P.funcs[f]? = some fn)
  {r0 r1 r2 r29 bd : Code} {i3 i4 bid : Nat} {ops3 ops4 : Array Oper} {o1 o2 o4 : Oper} {gT pT vT d1 t2 t4 t7 k2 k4 k7 : Nat}
  (hcode : fn.body = some (.seq r0 (.seq r1 (.seq r2 (.seq (.seq (.region i3 ops3 false) (.block bid (.rangeFunc (.tmp gT) #[pT] (.region i4 ops4 false) bd))) (.seq r29 .ret))))))
  (hbd : plainC bd = true) {f3 gf : FuncId} {sep : Value} {ts : Array TypeId} (z3 : ops3.size = 2) (p0 : ops3[0]? = some o1) (p1 : ops3[1]? = some o2) (q0 : o1.guard = none) (q1 : o2.guard = none) (m0 : o1.op = .move (.tmp 0))
  (m1 : o2.op = .call { callee := .value (.func f3), args := #[.tmp d1, .const sep], argTypes := ts }) (n0 : o1.dst = some d1) (n1 : o2.dst = some gT) (eg3 : ∀ args w, (callFunc f3 args).run P w = .ok (.enter f3 args) w) (eg : ∀ args w, (callFunc gf args).run P w = .ok (.enter gf args) w)
  (z4 : ops4.size = 1) (p4 : ops4[0]? = some o4) (q4 : o4.guard = none) (m4 : o4.op = .assign (.tmp pT)) (n4 : o4.dst = some vT) {st it : Nat}
  (hS : ∀ s w, Calls P f3 #[.string s, sep] w fun e w' => ∃ Bs Bp Bv, e = .returned (.func (.func gf) #[] #[ptr Bp, ptr Bs, ptr Bv]) ∧ Below w.heap.size w w' ∧ w.heap.size ≤ Bs ∧ Bs < w'.heap.size ∧ w.heap.size ≤ Bp ∧ Bp < w'.heap.size ∧ w.heap.size ≤ Bv ∧ Bv < w'.heap.size ∧ SpT st it sep Bs Bp Bv s w')
  {pieces : ByteArray → List ByteArray} {small : ByteArray → Prop}
  (hI : ∀ (m l Bs Bp Bv : Nat) (s : ByteArray), small s → ∀ (J : List ByteArray → World → Prop) (W : World), (∀ pre W v, J pre W → J pre (W.setCell ⟨Bs, 0, none⟩ v)) → (∀ pre W W', J pre W → Below W.heap.size W W' → J pre W') →
   (∀ pre x ys W1 r, pre ++ x :: ys = pieces s → J pre W1 → SpT st it sep Bs Bp Bv r W1 → YieldAt Fence.wide m P l #[.string x] W1 fun e W' => e = .returned (.bool true) ∧ J (pre ++ [x]) W' ∧ SpT st it sep Bs Bp Bv r W') → J [] W → SpT st it sep Bs Bp Bv s W →
   CallsIn Fence.wide (m + 1) P gf (#[.func (.yield l) #[] #[]] ++ #[ptr Bp, ptr Bs, ptr Bv]) W fun e W' => (∃ v, e = .returned v) ∧ J (pieces s) W')
  {La Lb L : List LC} {Ta Tb : Nat} {rc : RC}
  (fa : ∀ x : PT Γ La, (encLeaves (Γ := Γ) (fun _ => .ro) 0 La x).all flatCell = true ∧ (encLeaves (Γ := Γ) (fun _ => .ro) 0 La x).length = La.length) (fb : ∀ x : PT Γ Lb, (encLeaves (Γ := Γ) (fun _ => .ro) 0 Lb x).all flatCell = true ∧ (encLeaves (Γ := Γ) (fun _ => .ro) 0 Lb x).length = Lb.length)
  {F : ByteArray → Option (PT Γ L)} {B : PT Γ La × PT Γ Lb → ByteArray → Option (PT Γ La × PT Γ Lb)} {Fp : PT Γ La → PT Γ La × PT Γ Lb → Option (PT Γ L)}
  (hF : ∀ s, F s = exec ⟨fn.ntmps, [0], []⟩ E [] (.seq r0 (.seq r1 r2)) k 0 ⟨[(0, .f (.c (.v (.string s))))], []⟩ (preK t2 t4 t7 Ta Tb La Lb fun x2 z => (foldB B (pieces s) z).bind (Fp x2)))
  (hB : ∀ z x, B z x = exec ⟨fn.ntmps, [], []⟩ E [] bd k 0 ⟨[(vT, .f (.c (.v (.string x)))), (t4, .p (.box k4 0)), (t7, .p (.box k7 0))], [(k4, Ta, encLeaves (fun _ => .ro) 0 La z.1), (k7, Tb, encLeaves (fun _ => .ro) 0 Lb z.2)]⟩ (bodyK k4 k7 Ta Tb La Lb))
  (hP : ∀ df x2 z, Fp x2 z = exec ⟨fn.ntmps, [], df⟩ E [] r29 k 0 ⟨[(t2, .p (.box t2 0)), (t4, .p (.box t4 0)), (t7, .p (.box t7 0))], [(t2, Ta, encLeaves (fun _ => .ro) 0 La x2), (t4, Ta, encLeaves (fun _ => .ro) 0 La z.1), (t7, Tb, encLeaves (fun _ => .ro) 0 Lb z.2)]⟩ (postK fn.results.toList rc L))
  (hres : resForm rc fn.results.size = true) (fr : ∀ y : PT Γ L, (vcAVs rc.vcs L y).all flatAV = true)
  (hnum : 1 ≤ fn.ntmps ∧ d1 < fn.ntmps ∧ gT < fn.ntmps ∧ pT < fn.ntmps ∧ vT < fn.ntmps ∧ (t2 ≠ t4 ∧ t2 ≠ t7 ∧ t4 ≠ t7) ∧ (t2 ≠ d1 ∧ t4 ≠ d1 ∧ t7 ≠ d1) ∧ (t2 ≠ gT ∧ t4 ≠ gT ∧ t7 ≠ gT) ∧ (t4 ≠ pT ∧ t7 ≠ pT) ∧ (t4 ≠ vT ∧ t7 ≠ vT) ∧ (t2 < fn.ntmps ∧ t4 < fn.ntmps ∧ t7 < fn.ntmps) ∧ fn.ntmps ≤ k2 ∧ fn.ntmps ≤ k4 ∧ fn.ntmps ≤ k7 ∧ (k2 ≠ k4 ∧ k2 ≠ k7 ∧ k4 ≠ k7)) :
  ∀ s y, small s → F s = some y → ∀ w, Γ.lw w → Calls P f #[.string s] w fun en w' => en = .returned (resVal rc (vcVals rc.vcs L y)) ∧ Below w.heap.size w w' := by
 obtain ⟨u1, u2, u3, u4, u5, ⟨v1, v2, v3⟩, ⟨x1, x2, x3⟩, ⟨y1, y2, y3⟩, ⟨j2', j3'⟩, ⟨l2, l3⟩, ⟨L2, L4, L7⟩, K2, K4, K7, K24, K27, K47⟩ := hnum
 intro s y hsm hy w hlw
 refine (callsIn_wide (n := 2)).1 (callsIn_of_wp_marks hf hcode trivial ?_)
 obtain ⟨a0, ha0⟩ : ∃ a0 : Act, a0 = { tmps := #[Value.string s] ++ Array.replicate (fn.ntmps - (#[Value.string s] : Array Value).size) undef, defers := [] } := ⟨_, rfl⟩
 rw [← ha0]
 have hz0 : a0.tmps.size = fn.ntmps := by rw [ha0]; simp; omega
 have he0 : a0.eval (.tmp 0) = .string s := by
  rw [ha0]
  show (#[Value.string s] ++ Array.replicate _ undef).getD 0 undef = _
  rw [Array.getD_eq_getD_getElem?, Array.getElem?_append_left (by simp)]
  rfl
 have inv0 : Inv (Γ := Γ) w.heap.size (fun _ _ => True) ⟨w, fun _ => none, fun _ => False, fun t => if t = 0 then some (.string s) else none⟩ ⟨fn.ntmps, [0], []⟩ ⟨[(0, .f (.c (.v (.string s))))], []⟩ a0 w ⟨fun _ => none, fun _ _ => none⟩ := by
  refine ⟨⟨fun _ _ _ e => (by cases e), fun _ _ e => (by cases e), fun _ _ _ _ e => (by cases e), fun _ _ _ _ _ _ _ e => (by cases e)⟩, ⟨rfl, rfl, rfl, Nat.le_refl _, fun _ _ _ _ => rfl⟩, fun _ _ e => (by cases e), fun _ _ e => (by cases e), Nat.le_refl _, fun t => ?_, fun _ _ _ e => (by cases e), fun _ _ => rfl, by rw [ha0], hz0, fun _ _ _ _ e => (by cases e), fun t v e => ?_, ?_⟩
  ·simp only [tmGet]
   cases hb : Nat.beq 0 t with
   | true => obtain rfl := Nat.eq_of_beq_eq_true hb; exact he0
   | false => trivial
  ·by_cases e0 : t = 0
   ·subst e0
    simp only [if_true] at e
    cases e
    exact ⟨rfl, he0⟩
   ·simp only [if_neg e0] at e; cases e
  ·have hn := Γ.lwS w hlw
   refine ⟨fun w' h => ?_, hn, fun _ _ e => (by cases e), fun _ h => h.elim⟩
   exact Γ.lwK w w' hlw (fun k hk => h.block k (Nat.lt_of_lt_of_le hk hn) (fun _ e => by cases e) (fun h => h)) h.size
 rw [hF] at hy
 simp only [exec] at hy
 have hno : ∀ (c : Code) (cur : Nat) (K : Kont Γ (PT Γ L)), StepsOK 0 (steps ⟨fn.ntmps, [0], []⟩ E [] c cur K) := fun c cur K => by rw [steps_nil]; intro _ h; cases h
 refine wpIn_seq (wpIn_wide.2 (exec_sound C hE (Ps := []) (fun _ _ h => by cases h) r0 0 _ (hno _ _ _) k _ (fun k' _ e st1 a1 w1 μ1 hk1 hi1 => ?_) _ _ _ _ hy inv0))
 cases e with
 | exit _ => cases hk1
 | ret => cases hk1
 | normal =>
 simp only [seqK, exec] at hk1
 refine wpIn_seq (wpIn_wide.2 (exec_sound C hE (Ps := []) (fun _ _ h => by cases h) r1 0 _ (hno _ _ _) k' _ (fun k'' _ e st2 a2 w2 μ2 hk2 hi2 => ?_) _ _ _ _ hk1 hi1))
 cases e with
 | exit _ => cases hk2
 | ret => cases hk2
 | normal =>
 simp only [seqK] at hk2
 refine wpIn_seq (wpIn_wide.2 (exec_sound C hE (Ps := []) (fun _ _ h => by cases h) r2 0 _ (hno _ _ _) k'' _ (fun k3 _ e st3 a w2 μ hk hi => ?_) _ _ _ _ hk2 hi2))
 cases e with
 | exit _ => cases hk
 | ret => cases hk
 | normal =>
 simp only [preK] at hk
 cases hbx : (isBox st3 t2).and ((isBox st3 t4).and (isBox st3 t7)) with
 | false => rw [hbx] at hk; cases hk
 | true =>
 rw [hbx, cond_true] at hk
 rw [Bool.and_eq_true, Bool.and_eq_true] at hbx
 obtain ⟨b2, b4, b7⟩ := hbx
 obtain ⟨cs2, v2', e2, c2, d2, hk⟩ := bxDec_inv hk
 obtain ⟨cs4, v4', e4, c4, d4, hk⟩ := bxDec_inv hk
 obtain ⟨cs7, v7', e7, c7, d7, hk⟩ := bxDec_inv hk
 obtain ⟨zf, hz, hfp⟩ := Option.bind_eq_some_iff.1 hk
 obtain ⟨g2, r2', hg2, hh2, hr2⟩ := hi.bx _ _ _ e2
 obtain ⟨g4, r4', hg4, hh4, hr4⟩ := hi.bx _ _ _ e4
 obtain ⟨g7, r7', hg7, hh7, hr7⟩ := hi.bx _ _ _ e7
 have a2v := box_vals (fa v2').1 c2 d2 hr2 (fa v2').2
 have a4v := box_vals (fa v4').1 c4 d4 hr4 (fa v4').2
 have a7v := box_vals (fb v7').1 c7 d7 hr7 (fb v7').2
 have E2 : r2' = (lvV La v2').toArray := by rw [← a2v]
 have E4 : r4' = (lvV La v4').toArray := by rw [← a4v]
 have E7 : r7' = (lvV Lb v7').toArray := by rw [← a7v]
 rw [E2] at hh2
 rw [E4] at hh4
 rw [E7] at hh7
 have G : ∀ {t g : Nat}, isBox st3 t = true → μ.ρ t = some g → a.eval (.tmp t) = ptr g ∧ w.heap.size ≤ g ∧ g < w2.heap.size := fun {t g} hb hg => by
  have := hi.tm t
  rw [isBox_get hb] at this
  obtain ⟨g', e1, e2⟩ := this
  rw [hg] at e1
  injection e1 with e1
  subst e1
  refine ⟨e2, ?_, hi.maps.ρnew t _ hg⟩
  rcases hi.own t _ hg with ⟨_, h⟩ | h | ⟨_, _, h⟩
  ·exact h
  ·cases h
  ·cases h
 obtain ⟨ev2, lo2, up2⟩ := G b2 hg2
 obtain ⟨ev4, lo4, up4⟩ := G b4 hg4
 obtain ⟨ev7, lo7, up7⟩ := G b7 hg7
 have n24 : g2 ≠ g4 := fun e => v1 (hi.maps.ρinj _ _ _ hg2 (e ▸ hg4))
 have n27 : g2 ≠ g7 := fun e => v2 (hi.maps.ρinj _ _ _ hg2 (e ▸ hg7))
 have n47 : g4 ≠ g7 := fun e => v3 (hi.maps.ρinj _ _ _ hg4 (e ▸ hg7))
 have bel2 : Below w.heap.size w w2 := ⟨hi.below.os, hi.below.tape, hi.below.output, hi.below.size, fun k hk => hi.below.block k hk (fun _ e => by cases e) (fun h => h)⟩
 have evs : a.eval (.tmp 0) = .string s := (hi.fix 0 (.string s) rfl).2
 have haz : a.tmps.size = fn.ntmps := hi.size
 have had : a.defers = [] := hi.defers
 clear hi hk1 hk2 hi1 hi2 hy inv0 hk
 -- the iterator is made
 have hd1 : d1 < a.tmps.size := by omega
 have hs1 : (a.put (some d1) (.string s)).tmps.size = fn.ntmps := by simp [Act.put, haz]
 have q1' : (a.put o1.dst (a.eval (.tmp 0))) = a.put (some d1) (.string s) := by rw [n0, evs]
 refine wpIn_seq (wpIn_seq (wpIn_wide.2 (wp_move_call z3 p0 p1 q0 q1 m0 m1 eg3 ?_)))
 rw [q1', n1]
 have hargs : (#[Operand.tmp d1, Operand.const sep] : Array Operand).map (a.put (some d1) (.string s)).eval = #[.string s, sep] := by
  have : (a.put (some d1) (.string s)).eval (.tmp d1) = .string s := by rw [put_eval hd1, if_pos rfl]
  simp only [List.map_toArray, List.map_cons, List.map_nil, this]
  rfl
 rw [hargs]
 refine Calls.mono (hS s w2) ?_
 rintro e w3 ⟨Bs, Bp, Bv, rfl, hb3, s1, s2, s3, s4, s5, s6, hT⟩
 refine ⟨_, rfl, ?_⟩
 obtain ⟨a3, ha3⟩ : ∃ a3 : Act, a3 = (a.put (some d1) (.string s)).put (some gT) (.func (.func gf) #[] #[ptr Bp, ptr Bs, ptr Bv]) := ⟨_, rfl⟩
 rw [← ha3]
 have hz3 : a3.tmps.size = fn.ntmps := by rw [ha3]; simp [Act.put, haz]
 have hd3 : a3.defers = [] := by rw [ha3]; exact had
 have ev3 : ∀ t, t ≠ d1 → t ≠ gT → a3.eval (.tmp t) = a.eval (.tmp t) := fun t h1 h2 => by
  rw [ha3, put_eval (by rw [hs1]; omega), if_neg h2, put_eval hd1, if_neg h1]
 have evg : a3.eval (.tmp gT) = .func (.func gf) #[] #[ptr Bp, ptr Bs, ptr Bv] := by
  rw [ha3, put_eval (by rw [hs1]; omega), if_pos rfl]
 have f2 := ev3 t2 x1 y1
 have f4 := ev3 t4 x2 y2
 have f7 := ev3 t7 x3 y3
 rw [ev2] at f2
 rw [ev4] at f4
 rw [ev7] at f7
 clear ha3 ev3 hargs q1' hs1
 have bel3 : Below w.heap.size w w3 := bel2.trans (hb3.mono bel2.size)
 have hsz23 := hb3.size
 have hsz2 := bel2.size
 obtain ⟨I, hId⟩ : ∃ I : List ByteArray → World → Prop, I = fun pre W => ∃ z, foldB B pre (v4', v7') = some z ∧ W.heap[g2]? = some (.cells (lvV La v2').toArray Ta (0, 0)) ∧ W.heap[g4]? = some (.cells (lvV La z.1).toArray Ta (0, 0)) ∧ W.heap[g7]? = some (.cells (lvV Lb z.2).toArray Tb (0, 0)) ∧ Below w.heap.size w W ∧ w3.heap.size ≤ W.heap.size := ⟨_, rfl⟩
 have hI1 : ∀ pre W v, I pre W → I pre (W.setCell ⟨Bs, 0, none⟩ v) := by
  rw [hId]
  rintro pre W v ⟨z, i1, i2, i3, i4, i5, i6⟩
  have hk : ∀ g, g < w2.heap.size → (W.setCell ⟨Bs, 0, none⟩ v).heap[g]? = W.heap[g]? := fun g hg => Below.heap_setCell W ⟨Bs, 0, none⟩ v g (by show g ≠ Bs; omega)
  refine ⟨z, i1, (hk _ up2).trans i2, (hk _ up4).trans i3, (hk _ up7).trans i4, i5.setCell (p := ⟨Bs, 0, none⟩) (by show w.heap.size ≤ Bs; omega) v, ?_⟩
  simpa [World.setCell] using i6
 have hI2 : ∀ pre W W', I pre W → Below W.heap.size W W' → I pre W' := by
  rw [hId]
  rintro pre W W' ⟨z, i1, i2, i3, i4, i5, i6⟩ hb
  exact ⟨z, i1, (hb.block _ (by omega)).trans i2, (hb.block _ (by omega)).trans i3, (hb.block _ (by omega)).trans i4, i5.trans (hb.mono i5.size), Nat.le_trans i6 hb.size⟩
 have hI3 : ∀ pre W k o, w3.heap.size ≤ k → I pre W → I pre (W.putObj k o) := by
  rw [hId]
  rintro pre W k o hk ⟨z, i1, i2, i3, i4, i5, i6⟩
  exact ⟨z, i1, (World.putObj_heap_other (by omega)).trans i2, (World.putObj_heap_other (by omega)).trans i3, (World.putObj_heap_other (by omega)).trans i4, below_putObj i5 (by omega) o, by simpa [World.putObj] using i6⟩
 have hT2 : ∀ r W W', (SpT st it sep Bs Bp Bv r W ∧ w3.heap.size ≤ W.heap.size) → Below W.heap.size W W' → SpT st it sep Bs Bp Bv r W' ∧ w3.heap.size ≤ W'.heap.size := fun r W W' h hb =>
  ⟨⟨h.1.np, h.1.nv, (hb.block _ (by omega)).trans h.1.s, (hb.block _ (by omega)).trans h.1.p, (hb.block _ (by omega)).trans h.1.v⟩, Nat.le_trans h.2 hb.size⟩
 have hT3 : ∀ r W k o, w3.heap.size ≤ k → (SpT st it sep Bs Bp Bv r W ∧ w3.heap.size ≤ W.heap.size) → SpT st it sep Bs Bp Bv r (W.putObj k o) ∧ w3.heap.size ≤ (W.putObj k o).heap.size := fun r W k o hk h =>
  ⟨⟨h.1.np, h.1.nv, (World.putObj_heap_other (by omega)).trans h.1.s, (World.putObj_heap_other (by omega)).trans h.1.p, (World.putObj_heap_other (by omega)).trans h.1.v⟩, by simpa [World.putObj] using h.2⟩
 have hI0 : I [] w3 := by
  rw [hId]
  exact ⟨(v4', v7'), rfl, (hb3.block _ up2).trans hh2, (hb3.block _ up4).trans hh4, (hb3.block _ up7).trans hh7, bel3, Nat.le_refl _⟩
 refine wpIn_block (range_split (m := 0) (T := fun r W => SpT st it sep Bs Bp Bv r W ∧ w3.heap.size ≤ W.heap.size) (s0 := s) (Bs := Bs) (xs := pieces s) evg eg s2 ?_ I hI1 hI2 hI3 hT2 hT3 hI0 ⟨hT, Nat.le_refl _⟩ rfl (fun x => { tmps := a3.tmps.setIfInBounds pT (.string x), defers := [] : Act }.put (some vT) (.string x)) ?_ ?_ ?_)
 ·-- the iterator
  intro l J W h1 h2 h3 h4 h5
  refine (hI 0 l Bs Bp Bv s hsm (fun pre W => J pre W ∧ w3.heap.size ≤ W.heap.size) W (fun pre W v h => ⟨h1 _ _ _ h.1, by simpa [World.setCell] using h.2⟩) (fun pre W W' h hb => ⟨h2 _ _ _ h.1 hb, Nat.le_trans h.2 hb.size⟩) (fun pre x ys W1 r e h hT => ?_) ⟨h4, h5.2⟩ h5.1).mono fun e W' h => ⟨h.1, h.2.1⟩
  exact (h3 pre x ys W1 r e h.1 ⟨hT, h.2⟩).mono fun e w h => ⟨h.1, ⟨h.2.1, h.2.2.2⟩, h.2.2.1⟩
 ·-- a piece is put into its variable
  intro l x W K hK
  refine wpIn_assign z4 p4 q4 m4 ?_
  rw [n4]
  have : ({ tmps := a3.tmps.setIfInBounds pT (.string x), defers := [] } : Act).eval (.tmp pT) = .string x := by
   show (a3.tmps.setIfInBounds pT (.string x)).getD pT undef = _
   rw [Array.getD_eq_getD_getElem?, Array.getElem?_setIfInBounds_self_of_lt (by omega)]
   rfl
  have e : ∀ (b : Array Value), ({ tmps := (Array.zip #[pT] #[Value.string x]).foldl (fun t (p, v) => t.setIfInBounds p v) b, defers := [] } : Act) = { tmps := b.setIfInBounds pT (.string x), defers := [] } := fun b => by simp
  show K _ W
  rw [e, this]
  exact hK
 ·-- one round
  intro l pre x ys W r hxs hi hT hle
  rw [hId] at hi
  obtain ⟨z, i1, i2, i3, i4, i5, i6⟩ := hi
  obtain ⟨z', j1, j2⟩ : ∃ z', B z x = some z' ∧ foldB B ys z' = some zf := by
   rw [← hxs] at hz
   obtain ⟨y', e1, e2⟩ := foldB_split hz
   rw [i1] at e1
   injection e1 with e1
   subst e1
   simp only [foldB] at e2
   exact Option.bind_eq_some_iff.1 e2
  have hz1 : ({ tmps := a3.tmps.setIfInBounds pT (.string x), defers := [] } : Act).tmps.size = fn.ntmps := by simp [hz3]
  have hev : ∀ t, t ≠ pT → t ≠ vT → (({ tmps := a3.tmps.setIfInBounds pT (.string x), defers := [] } : Act).put (some vT) (.string x)).eval (.tmp t) = a3.eval (.tmp t) := fun t h1 h2 => by
   rw [put_eval (by rw [hz1]; omega), if_neg h2]
   show (a3.tmps.setIfInBounds pT (.string x)).getD t undef = a3.tmps.getD t undef
   rw [Array.getD_eq_getD_getElem?, Array.getD_eq_getD_getElem?, Array.getElem?_setIfInBounds_ne (Ne.symm h1)]
  have hevv : (({ tmps := a3.tmps.setIfInBounds pT (.string x), defers := [] } : Act).put (some vT) (.string x)).eval (.tmp vT) = .string x := by
   rw [put_eval (by rw [hz1]; omega), if_pos rfl]
  have e4 := (hev t4 j2' l2).trans f4
  have e7 := (hev t7 j3' l3).trans f7
  obtain ⟨a1, ha1⟩ : ∃ a1 : Act, a1 = ({ tmps := a3.tmps.setIfInBounds pT (.string x), defers := [] } : Act).put (some vT) (.string x) := ⟨_, rfl⟩
  have hz1' : a1.tmps.size = fn.ntmps := by rw [ha1]; simp [Act.put, hz3]
  have hd1' : a1.defers = [] := by rw [ha1]; rfl
  show bd.wpIn (Fence.wide.inRound l) 0 P _ (({ tmps := a3.tmps.setIfInBounds pT (.string x), defers := [] } : Act).put (some vT) (.string x)) W
  rw [← ha1] at e4 e7 hevv ⊢
  clear ha1 hev hz1
  obtain ⟨ρ, hρd⟩ : ∃ ρ : Nat → Option Nat, ρ = fun q => if q = k4 then some g4 else if q = k7 then some g7 else none := ⟨_, rfl⟩
  have r4 : ρ k4 = some g4 := by rw [hρd]; simp
  have r7 : ρ k7 = some g7 := by rw [hρd]; simp [Ne.symm K47]
  have rc' : ∀ q g, ρ q = some g → (q = k4 ∧ g = g4) ∨ (q = k7 ∧ g = g7) := fun q g h => by
   rw [hρd] at h
   simp only at h
   split at h
   ·injection h with h; exact .inl ⟨by assumption, h.symm⟩
   ·split at h
    ·injection h with h; exact .inr ⟨by assumption, h.symm⟩
    ·cases h
  have hinv : Inv (Γ := Γ) W.heap.size (fun _ _ => True) ⟨W, ρ, fun _ => False, fun _ => none⟩ ⟨fn.ntmps, [], []⟩ ⟨[(vT, .f (.c (.v (.string x)))), (t4, .p (.box k4 0)), (t7, .p (.box k7 0))], [(k4, Ta, encLeaves (fun _ => .ro) 0 La z.1), (k7, Tb, encLeaves (fun _ => .ro) 0 Lb z.2)]⟩ a1 W ⟨ρ, fun _ _ => none⟩ := by
   refine inv_at (fun q q' g h h' => ?_) (fun q g h => ?_) (fun q g h => ?_) (fun t => ?_) (fun q T cs h => ?_) (fun q h => ?_) hd1' hz1' (good_at hlw i5 fun q g h => ?_)
   ·rcases rc' _ _ h with ⟨rfl, rfl⟩ | ⟨rfl, rfl⟩ <;> rcases rc' _ _ h' with ⟨rfl, e⟩ | ⟨rfl, e⟩ <;> first | rfl | exact absurd e n47 | exact absurd e.symm n47
   ·rcases rc' _ _ h with ⟨rfl, rfl⟩ | ⟨rfl, rfl⟩ <;> omega
   ·rcases rc' _ _ h with ⟨rfl, rfl⟩ | ⟨rfl, rfl⟩ <;> assumption
   ·rw [tmGet3]
    split
    ·rename_i e; subst e; exact hevv
    ·split
     ·rename_i e; subst e; exact av_box r4 e4
     ·split
      ·rename_i e; subst e; exact av_box r7 e7
      ·trivial
   ·simp only [bxGet] at h
    cases hb : Nat.beq k4 q with
    | true =>
     obtain rfl := Nat.eq_of_beq_eq_true hb
     rw [hb, cond_true] at h
     cases h
     exact ⟨g4, _, r4, i3, by simpa [lvV] using flat_cells (fa z.1).1⟩
    | false =>
     rw [hb, cond_false] at h
     cases hb2 : Nat.beq k7 q with
     | true =>
      obtain rfl := Nat.eq_of_beq_eq_true hb2
      rw [hb2, cond_true] at h
      cases h
      exact ⟨g7, _, r7, i4, by simpa [lvV] using flat_cells (fb z.2).1⟩
     | false => rw [hb2, cond_false] at h; cases h
   ·cases hq : ρ q with
    | none => rfl
    | some g =>
     rcases rc' _ _ hq with ⟨rfl, _⟩ | ⟨rfl, _⟩
     ·simp [bxGet] at h
     ·simp only [bxGet] at h
      cases hb : Nat.beq k4 q with
      | true => rw [hb] at h; cases h
      | false => rw [hb, cond_false, Nat.beq_refl] at h; cases h
   ·rcases rc' _ _ h with ⟨rfl, rfl⟩ | ⟨rfl, rfl⟩ <;> assumption
  have hex := (hB z x).symm.trans j1
  refine exec_in C (E := E) (k := k) (hE k) bd 0 _ _ hbd (by rintro ⟨_, _, h, _⟩; cases h) (fun e st' a' W' μ' hk' hi' => ?_) _ a1 W _ hex hinv
  cases e with
  | exit _ => cases hk'
  | ret => cases hk'
  | normal =>
  simp only [bodyK] at hk'
  obtain ⟨cs4', w4', e4', c4', d4', hk'⟩ := bxDec_inv hk'
  obtain ⟨cs7', w7', e7', c7', d7', hk'⟩ := bxDec_inv hk'
  cases hk'
  obtain ⟨h4, q4', hg4', hh4', hr4'⟩ := hi'.bx _ _ _ e4'
  obtain ⟨h7, q7', hg7', hh7', hr7'⟩ := hi'.bx _ _ _ e7'
  have own : ∀ q g g', ρ q = some g → μ'.ρ q = some g' → g' = g := fun q g g' h1 h2 => by
   rcases hi'.own q g' h2 with ⟨h, _⟩ | h | ⟨h, _⟩
   ·have h : ρ q = none := h
    rw [h1] at h; cases h
   rotate_left
   ·have h : ρ q = none := h
    rw [h1] at h; cases h
   ·have h : ρ q = some g' := h
    rw [h1] at h
    exact (Option.some.inj h).symm
  obtain rfl := own _ _ _ r4 hg4'
  obtain rfl := own _ _ _ r7 hg7'
  have b4v := box_vals (fa w4').1 c4' d4' hr4' (fa w4').2
  have b7v := box_vals (fb w7').1 c7' d7' hr7' (fb w7').2
  have E4' : q4' = (lvV La w4').toArray := by rw [← b4v]
  have E7' : q7' = (lvV Lb w7').toArray := by rw [← b7v]
  rw [E4'] at hh4'
  rw [E7'] at hh7'
  have keep : ∀ q, q < W.heap.size → q ≠ h4 → q ≠ h7 → W'.heap[q]? = W.heap[q]? := fun q hq n4 n7 => hi'.below.block q hq (fun t e => by
   have e : ρ t = some q := e
   rcases rc' _ _ e with ⟨_, h⟩ | ⟨_, h⟩
   ·exact n4 h
   ·exact n7 h) (fun h => h)
  refine ⟨rfl, fun q h1 h2 => keep q h2 (by omega) (by omega), ?_, ⟨hT.1.np, hT.1.nv, (keep _ (by omega) (by omega) (by omega)).trans hT.1.s, (keep _ (by omega) (by omega) (by omega)).trans hT.1.p, (keep _ (by omega) (by omega) (by omega)).trans hT.1.v⟩, Nat.le_trans hT.2 hi'.below.size⟩
  rw [hId]
  refine ⟨(w4', w7'), ?_, (keep _ (by omega) n24 n27).trans i2, hh4', hh7', ⟨hi'.below.os.trans i5.os, hi'.below.tape.trans i5.tape, hi'.below.output.trans i5.output, Nat.le_trans i5.size hi'.below.size, fun q hq => (keep q (by omega) (by omega) (by omega)).trans (i5.block q hq)⟩, Nat.le_trans i6 hi'.below.size⟩
  rw [foldB_snoc, i1, Option.bind_some, j1]
 ·-- behind the loop
  intro D W hD hi hdef
  rw [hId] at hi
  obtain ⟨z, i1, i2, i3, i4, i5, i6⟩ := hi
  rw [hz] at i1
  injection i1 with i1
  subst i1
  rw [hd3]
  have hDlt := (Array.getElem?_eq_some_iff.1 hdef).1
  show (Code.seq r29 .ret).wpIn Fence.wide 2 P _ _ W
  obtain ⟨ρ, hρd⟩ : ∃ ρ : Nat → Option Nat, ρ = fun q => if q = k2 then some g2 else if q = k4 then some g4 else if q = k7 then some g7 else none := ⟨_, rfl⟩
  have r2 : ρ k2 = some g2 := by rw [hρd]; simp
  have r4 : ρ k4 = some g4 := by rw [hρd]; simp [Ne.symm K24]
  have r7 : ρ k7 = some g7 := by rw [hρd]; simp [Ne.symm K27, Ne.symm K47]
  have rc' : ∀ q g, ρ q = some g → (q = k2 ∧ g = g2) ∨ (q = k4 ∧ g = g4) ∨ (q = k7 ∧ g = g7) := fun q g h => by
   rw [hρd] at h
   simp only at h
   split at h
   ·injection h with h; exact .inl ⟨by assumption, h.symm⟩
   ·split at h
    ·injection h with h; exact .inr (.inl ⟨by assumption, h.symm⟩)
    ·split at h
     ·injection h with h; exact .inr (.inr ⟨by assumption, h.symm⟩)
     ·cases h
  obtain ⟨σ, hσd⟩ : ∃ σ : Nat → Option Nat, σ = fun q => if q = t2 then some g2 else if q = t4 then some g4 else if q = t7 then some g7 else none := ⟨_, rfl⟩
  have s2_ : σ t2 = some g2 := by rw [hσd]; simp
  have s4_ : σ t4 = some g4 := by rw [hσd]; simp [Ne.symm v1]
  have s7_ : σ t7 = some g7 := by rw [hσd]; simp [Ne.symm v2, Ne.symm v3]
  have sc' : ∀ q g, σ q = some g → (q = t2 ∧ g = g2) ∨ (q = t4 ∧ g = g4) ∨ (q = t7 ∧ g = g7) := fun q g h => by
   rw [hσd] at h
   simp only at h
   split at h
   ·injection h with h; exact .inl ⟨by assumption, h.symm⟩
   ·split at h
    ·injection h with h; exact .inr (.inl ⟨by assumption, h.symm⟩)
    ·split at h
     ·injection h with h; exact .inr (.inr ⟨by assumption, h.symm⟩)
     ·cases h
  have ρn : ∀ q, q < fn.ntmps → ρ q = none := fun q hq => by
   cases hr : ρ q with
   | none => rfl
   | some g => rcases rc' _ _ hr with ⟨rfl, _⟩ | ⟨rfl, _⟩ | ⟨rfl, _⟩ <;> omega
  have hinv : Inv (Γ := Γ) W.heap.size (fun _ _ => True) ⟨W, ρ, fun _ => False, fun _ => none⟩ ⟨fn.ntmps, [], [{ target := .collected D, args := #[] }]⟩ ⟨[(t2, .p (.box t2 0)), (t4, .p (.box t4 0)), (t7, .p (.box t7 0))], [(t2, Ta, encLeaves (fun _ => .ro) 0 La v2'), (t4, Ta, encLeaves (fun _ => .ro) 0 La zf.1), (t7, Tb, encLeaves (fun _ => .ro) 0 Lb zf.2)]⟩ { a3 with defers := [{ target := .collected D, args := #[] }] } W ⟨σ, fun _ _ => none⟩ := by
   refine ⟨⟨fun q q' g h h' => ?_, fun q g h => ?_, fun _ _ _ _ e => (by cases e), fun _ _ _ _ _ _ _ e => (by cases e)⟩, ⟨rfl, rfl, rfl, Nat.le_refl _, fun _ _ _ _ => rfl⟩, fun q g h => ?_, fun q g h => ?_, Nat.le_refl _, fun t => ?_, fun q T cs h => ?_, fun q h => ?_, rfl, hz3, fun _ _ _ _ e => (by cases e), fun _ _ e => (by cases e), good_at hlw i5 fun q g h => ?_⟩
   ·have h : σ q = some g := h
    have h' : σ q' = some g := h'
    rcases sc' _ _ h with ⟨rfl, rfl⟩ | ⟨rfl, rfl⟩ | ⟨rfl, rfl⟩ <;> rcases sc' _ _ h' with ⟨rfl, e⟩ | ⟨rfl, e⟩ | ⟨rfl, e⟩ <;> first | rfl | exact absurd e n47 | exact absurd e.symm n47 | exact absurd e n24 | exact absurd e.symm n24 | exact absurd e n27 | exact absurd e.symm n27
   ·have h : σ q = some g := h
    rcases sc' _ _ h with ⟨rfl, rfl⟩ | ⟨rfl, rfl⟩ | ⟨rfl, rfl⟩ <;> omega
   ·have h : σ q = some g := h
    rcases sc' _ _ h with ⟨rfl, rfl⟩ | ⟨rfl, rfl⟩ | ⟨rfl, rfl⟩
    ·exact .inr (.inr ⟨ρn _ L2, k2, r2⟩)
    ·exact .inr (.inr ⟨ρn _ L4, k4, r4⟩)
    ·exact .inr (.inr ⟨ρn _ L7, k7, r7⟩)
   ·have h : ρ q = some g := h
    rcases rc' _ _ h with ⟨rfl, rfl⟩ | ⟨rfl, rfl⟩ | ⟨rfl, rfl⟩ <;> assumption
   ·rw [tmGet3]
    split
    ·rename_i e; subst e; exact av_box s2_ f2
    ·split
     ·rename_i e; subst e; exact av_box s4_ f4
     ·split
      ·rename_i e; subst e; exact av_box s7_ f7
      ·trivial
   ·simp only [bxGet] at h
    cases hb0 : Nat.beq t2 q with
    | true =>
     obtain rfl := Nat.eq_of_beq_eq_true hb0
     rw [hb0, cond_true] at h
     cases h
     exact ⟨g2, _, s2_, i2, by simpa [lvV] using flat_cells (fa v2').1⟩
    | false =>
    rw [hb0, cond_false] at h
    cases hb : Nat.beq t4 q with
    | true =>
     obtain rfl := Nat.eq_of_beq_eq_true hb
     rw [hb, cond_true] at h
     cases h
     exact ⟨g4, _, s4_, i3, by simpa [lvV] using flat_cells (fa zf.1).1⟩
    | false =>
     rw [hb, cond_false] at h
     cases hb2 : Nat.beq t7 q with
     | true =>
      obtain rfl := Nat.eq_of_beq_eq_true hb2
      rw [hb2, cond_true] at h
      cases h
      exact ⟨g7, _, s7_, i4, by simpa [lvV] using flat_cells (fb zf.2).1⟩
     | false => rw [hb2, cond_false] at h; cases h
   ·show σ q = none
    cases hq : σ q with
    | none => rfl
    | some g =>
     have hne : ∀ x y : Nat, x ≠ y → Nat.beq x y = false := fun x y e => Bool.eq_false_iff.2 fun h => e (Nat.eq_of_beq_eq_true h)
     rcases sc' _ _ hq with ⟨rfl, _⟩ | ⟨rfl, _⟩ | ⟨rfl, _⟩
     ·simp [bxGet] at h
     ·simp [bxGet, hne _ _ v1] at h
     ·simp [bxGet, hne _ _ v2, hne _ _ v3] at h
   ·rcases rc' _ _ h with ⟨rfl, rfl⟩ | ⟨rfl, rfl⟩ | ⟨rfl, rfl⟩ <;> assumption
  have hex := (hP [{ target := .collected D, args := #[] }] v2' zf).symm.trans hfp
  refine wpIn_seq (wpIn_wide.2 (exec_sound (m := 0) C hE (Ps := []) (fun _ _ h => by cases h) r29 0 _ (by rw [steps_nil]; intro _ h; cases h) k _ (fun k' _ e st4 a4 W4 μ4 hk4 hi4 => ?_) _ _ _ _ hex hinv))
  cases e with
  | exit _ => cases hk4
  | ret => cases hk4
  | normal =>
  refine wpIn_ret ?_
  show LeavesInM Fence.wide 2 P fn a4.tmps _ a4.defers .returning W4
  rw [hi4.defers]
  have notD : ∀ q g, μ4.ρ q = some g → g ≠ D := fun q g h => by
   rcases hi4.own q g h with ⟨_, h⟩ | h | ⟨_, q, h⟩
   ·omega
   rotate_left
   ·have h : ρ q = some g := h
    rcases rc' _ _ h with ⟨_, rfl⟩ | ⟨_, rfl⟩ | ⟨_, rfl⟩ <;> omega
   ·have h : ρ q = some g := h
    rcases rc' _ _ h with ⟨_, rfl⟩ | ⟨_, rfl⟩ | ⟨_, rfl⟩ <;> omega
  have hD4 : W4.heap[D]? = some (.deferred (some [])) := (hi4.below.block D hDlt (fun q e => by
   have e : ρ q = some D := e
   rcases rc' _ _ e with ⟨_, e⟩ | ⟨_, e⟩ | ⟨_, e⟩ <;> omega) (fun h => h)).trans hdef
  have hD4lt := (Array.getElem?_eq_some_iff.1 hD4).1
  refine ⟨by simp, .inl ⟨D, _, rfl, run_takeDeferred hD4, ?_⟩⟩
  have hx : Ext W.heap.size no2 no1 no1 μ4 W4 μ4 (W4.putObj D (.deferred none)) := by
   refine ⟨by simp [World.putObj], fun b o _ _ => ?_, fun _ _ _ h => h, fun _ _ _ h => h, fun q g _ _ h => World.putObj_heap_other (notD q g h), fun _ _ _ _ h => h, fun d j g u _ h => World.putObj_heap_other ?_⟩
   ·by_cases e : b = D
    ·subst e
     have h5 : (W4.putObj b (.deferred none)).heap[b]? = some (.deferred none) := World.putObj_heap_same hD4lt
     simp [World.cell?, h5, hD4]
    ·simp only [World.cell?, World.putObj_heap_other (w := W4) (r := D) (o := .deferred none) e]
   ·rcases hi4.town d j g u h with h | h
    ·omega
    ·exact h.elim
  have htm5 : ∀ t, AVRep W.heap.size (fun _ _ => True) μ4 (W4.putObj D (.deferred none)) (tmGet st4.tm t) (a4.eval (.tmp t)) := fun t => by
   have := AVRep.ext hx (fun s h => by cases h) (hi4.tm t)
   rwa [noPt_no, roAV_no] at this
  have hbx5 : ∀ q T cs, bxGet st4.bx q = some (T, cs) → BoxRep W.heap.size (fun _ _ => True) μ4 (W4.putObj D (.deferred none)) q T cs := fun q T cs h => by
   have := (hi4.bx q T cs h).ext hx rfl rfl
   rwa [roCells_no] at this
  simp only [postK] at hk4
  obtain ⟨vs, ys, w1, w2', w3', w4'⟩ := resAVs_at (P := P) C htm5 hbx5 hk4
  split at w1
  ·rename_i cs hcs
   have hys := vals_of (fr y) hcs w1 w2'
   have hlen : ys.toArray.size = fn.results.size := by simp [w4']
   refine ⟨resVal rc ys, ?_, by rw [hys], below_putObj ⟨hi4.below.os.trans i5.os, hi4.below.tape.trans i5.tape, hi4.below.output.trans i5.output, Nat.le_trans i5.size hi4.below.size, fun q hq => (hi4.below.block q (by omega) (fun t e => by
    have e : ρ t = some q := e
    rcases rc' _ _ e with ⟨_, e⟩ | ⟨_, e⟩ | ⟨_, e⟩ <;> omega) (fun h => h)).trans (i5.block q hq)⟩ (by omega) _⟩
   rw [results_rv]
   simp only [Sem.run_bind]
   rw [Array.mapM_eq_mapM_toList]
   simp only [Sem.run_map, w3', Result.andThen_ok, Sem.run_pure]
   congr 1
   cases hrc : rc with
   | one v =>
    rw [hrc] at hres
    have h1 : fn.results.size = 1 := Nat.eq_of_beq_eq_true hres
    cases ys with
    | nil => simp [h1] at hlen
    | cons y ys =>
     cases ys with
     | nil => simp [resVal]
     | cons _ _ => simp [h1] at hlen
   | tup v =>
    rw [hrc] at hres
    have h1 : fn.results.size ≠ 1 := fun e => by simp [resForm, e] at hres
    have : ¬ (ys.toArray.size = 1) := by rw [hlen]; exact h1
    simp [resVal, this]
    intro h
    exact absurd (by simpa using h) this
  ·cases w1
end

end Go.Refl
