/- A pure interpreter of the code, and that the machine does what it tells (a text of this session). -/
import Derived.Test.YtojfncpjgpklhaaGreatDoorReflC
set_option autoImplicit false
set_option linter.unusedVariables false
set_option linter.unusedSimpArgs false
namespace Go.Refl
open Go.RowKit

def tdGet : List (Nat × TD) → Nat → TD
 | [], _ => .ot
 | (i, d) :: r, t => bif Nat.beq i t then d else tdGet r t

def kdGet (d : KD) : List (Nat × KD) → Nat → KD
 | [], _ => d
 | (i, k) :: r, t => bif Nat.beq i t then k else kdGet d r t

section
variable {Γ : Ctx} {P : Program}

def TDsOK (P : Program) (Γ : Ctx) : List (Nat × TD) → Prop
 | [] => True
 | x :: r => TDOK P Γ x.1 x.2 ∧ TDsOK P Γ r

theorem tds_ok : ∀ {l : List (Nat × TD)}, TDsOK P Γ l → ∀ t, TDOK P Γ t (tdGet l t)
 | [], _, _ => trivial
 | (i, d) :: r, h, t => by
  simp only [tdGet]
  cases hb : Nat.beq i t with
  | true => obtain rfl := Nat.eq_of_beq_eq_true hb; exact h.1
  | false => exact tds_ok h.2 t

def fdB (P : Program) (f : Fd) (g : Field) : Bool :=
 (((Nat.beq g.offset f.off).and (Nat.beq g.type f.ty)).and ((match P.info? g.type with | some i => Nat.beq i.size f.sz | none => false).and (Nat.blt 0 f.sz))).and
  ((match P.underlying g.type with | some d => !((aggD d).xor f.agg) | none => false).and (!(g.name == "_")))

def fdsB (P : Program) : List Fd → List Field → Bool
 | [], [] => true
 | f :: fs, g :: gs => (fdB P f g).and (fdsB P fs gs)
 | _, _ => false

theorem fdB_ok {f : Fd} {g : Field} (h : fdB P f g = true) : FdOK P f g := by
 simp only [fdB, Bool.and_eq_true] at h
 obtain ⟨⟨⟨h1, h2⟩, h3, h4⟩, h5, h6⟩ := h
 refine ⟨Nat.eq_of_beq_eq_true h1, Nat.eq_of_beq_eq_true h2, ?_, ?_, ?_, ?_⟩
 ·cases hi : P.info? g.type with
  | none => rw [hi] at h3; cases h3
  | some i => rw [hi] at h3; simp [Nat.eq_of_beq_eq_true h3]
 ·exact Nat.le_of_ble_eq_true h4
 ·cases hu : P.underlying g.type with
  | none => rw [hu] at h5; cases h5
  | some d => rw [hu] at h5; simpa using h5
 ·simpa using h6

theorem fdsB_ok : ∀ {fs : List Fd} {gs : List Field}, fdsB P fs gs = true → FdsOK P fs gs
 | [], [], _ => trivial
 | f :: fs, g :: gs, h => by
  simp only [fdsB, Bool.and_eq_true] at h
  exact ⟨fdB_ok h.1, fdsB_ok h.2⟩
 | [], _ :: _, h => by cases h
 | _ :: _, [], h => by cases h

theorem info_of {α : Type} {t : Nat} {f : TypeInfo → α} {x : α} (h : (P.info? t).map f = some x) : ∃ i, P.info? t = some i ∧ f i = x := by
 cases hi : P.info? t with
 | none => rw [hi] at h; cases h
 | some i => rw [hi] at h; exact ⟨i, rfl, by simpa using h⟩

theorem tdOk_st {t sz : Nat} {zs : List Zc} {fs : List Fd} {fields : Array Field} (h1 : P.underlying t = some (.struct fields)) (h2 : (P.info? t).map (fun i => (i.size, i.zero)) = some (sz, some (.agg (zs.map zcVal).toArray))) (h3 : zs.length = sz) (h4 : fdsB P fs fields.toList = true)
  (h5 : P.stoodInHeld t = false) (h6 : P.eqGuardType P.depth t = false) : TDOK P Γ t (.st sz zs fs) := by
 obtain ⟨i, hi, e⟩ := info_of h2
 injection e with e1 e2
 exact ⟨fields, i, h1, hi, e1, e2, h3, fdsB_ok h4, h5, h6⟩

theorem tdOk_ar {t n e esz : Nat} {zs : List Zc} (h1 : P.underlying t = some (.array n e)) (h2 : (P.info? t).map (fun i => (i.size, i.zero)) = some (n * esz, some (.agg (zs.map zcVal).toArray))) (h3 : zs.length = n * esz)
  (h4 : (P.info? e).map (fun i => i.size) = some esz) (h5 : esz = (Γ.kd e).K.sz) : TDOK P Γ t (.ar n e esz zs) := by
 obtain ⟨i, hi, e1⟩ := info_of h2
 injection e1 with e1 e2
 obtain ⟨ie, hie, e3⟩ := info_of h4
 exact ⟨i, ie, h1, hi, e1, e2, h3, hie, e3, h5⟩

theorem tdOk_sl {t e bytes : Nat} {z : Value} (h1 : P.underlying t = some (.slice e)) (h2 : (P.info? t).map (fun i => (i.size, i.zero)) = some (1, some (.slice none 0 0)))
  (h3 : (P.info? e).map (fun i => (i.size, i.zero, i.bytes)) = some ((Γ.kd e).K.sz, some z, bytes)) (h4 : z.cells.toList = (Γ.kd e).K.enc (Γ.kd e).K.d) (h5 : Nat.blt 0 bytes = true) : TDOK P Γ t (.sl e bytes) := by
 have h4' : z.cells.size = (Γ.kd e).K.sz := by rw [← Array.length_toList, h4, (Γ.kd e).K.len]
 obtain ⟨i, hi, e1⟩ := info_of h2
 injection e1 with e1 e2
 obtain ⟨ie, hie, e3⟩ := info_of h3
 injection e3 with e3 e4
 injection e4 with e4 e5
 exact ⟨i, ie, z, h1, hi, e1, e2, hie, e4, e3, e5, h4'.trans e3.symm, Nat.le_of_ble_eq_true h5, h4⟩

theorem tdOk_int {t : Nat} {k : IntKind} (h1 : P.underlying t = some (.int k)) (h2 : (P.info? t).map (fun i => (i.size, i.zero)) = some (1, some (.int k 0))) : TDOK P Γ t (.int k) := by
 obtain ⟨i, hi, e1⟩ := info_of h2
 injection e1 with e1 e2
 exact ⟨h1, i, hi, e1, e2⟩

theorem tdOk_str {t : Nat} (h1 : P.underlying t = some .string) (h2 : (P.info? t).map (fun i => (i.size, i.zero)) = some (1, some (.string ⟨#[]⟩))) : TDOK P Γ t .str := by
 obtain ⟨i, hi, e1⟩ := info_of h2
 injection e1 with e1 e2
 exact ⟨h1, i, hi, e1, e2⟩

theorem tdOk_fn {t : Nat} {d : TypeDesc} (h1 : P.underlying t = some d) (h3 : aggD d = false) (h2 : (P.info? t).map (fun i => i.size) = some 1) : TDOK P Γ t .fn := by
 obtain ⟨i, hi, e1⟩ := info_of h2
 exact ⟨i, d, h1, h3, hi, e1⟩

theorem tdOk_bool {t : Nat} (h1 : P.underlying t = some .bool) (h2 : (P.info? t).map (fun i => (i.size, i.zero)) = some (1, some (.bool false))) : TDOK P Γ t .bool := by
 obtain ⟨i, hi, e1⟩ := info_of h2
 injection e1 with e1 e2
 exact ⟨h1, i, hi, e1, e2⟩


def EsOK (P : Program) : List (Ent Γ) → Prop
 | [] => True
 | e :: r => EntOK P e ∧ EsOK P r

theorem EsOK.all : ∀ {l : List (Ent Γ)}, EsOK P l → ∀ e ∈ l, EntOK P e
 | [], _, _, h => by cases h
 | e :: r, h, x, hx => by
  rcases List.mem_cons.1 hx with rfl | hx
  ·exact h.1
  ·exact EsOK.all h.2 x hx

section
variable {R : Type}

def goAt (l : List (Step Γ R)) (i k : Nat) (st : St Γ) : Option R :=
 match nth l i with
 | some s => s.go k st
 | none => none

def PnsOK (m : Nat) (l : List (Step Γ R)) : List (Pn Γ R) → Nat → Prop
 | [], _ => True
 | p :: ps, i => ((∀ x, p.g 0 x = none) ∧ ∀ k x, p.g (k + 1) x = goAt l i k (encSt m p.sh x)) ∧ PnsOK m l ps (i + 1)

theorem nth_of_getElem? {α : Type 1} : ∀ {l : List α} {i : Nat} {x : α}, l[i]? = some x → nth l i = some x
 | [], _, _, h => by simp at h
 | y :: l, 0, x, h => by simpa [nth] using h
 | y :: l, i + 1, x, h => by simp only [nth]; exact nth_of_getElem? (by simpa using h)

theorem PnsOK.get {m : Nat} {l : List (Step Γ R)} : ∀ {ps : List (Pn Γ R)} {i j : Nat} {p : Pn Γ R}, PnsOK m l ps i → ps[j]? = some p → (∀ x, p.g 0 x = none) ∧ ∀ k x, p.g (k + 1) x = goAt l (i + j) k (encSt m p.sh x)
 | [], _, _, _, _, h => by simp at h
 | q :: ps, i, 0, p, h, hj => by
  simp at hj
  subst hj
  exact h.1
 | q :: ps, i, j + 1, p, h, hj => by
  have := PnsOK.get h.2 (j := j) (p := p) (by simpa using hj)
  rwa [show i + 1 + j = i + (j + 1) by omega] at this

theorem steps_of {m : Nat} {l : List (Step Γ R)} {ps : List (Pn Γ R)} (h : l.map (fun s => s.p) = ps) (h2 : PnsOK m l ps 0) : StepsOK m l := by
 intro s hs
 obtain ⟨i, hi⟩ := List.mem_iff_getElem?.1 hs
 have hp : ps[i]? = some s.p := by rw [← h, List.getElem?_map, hi]; rfl
 obtain ⟨h3, h4⟩ := h2.get hp
 refine ⟨h3, fun k x => ?_⟩
 rw [h4 k x]
 simp only [goAt, Nat.zero_add, nth_of_getElem? hi]

end

def stepsOf (fn : Func) (E : Nat → List (Ent Γ)) (vs : List VC) (rc : RC) (Ps : List (Pn Γ (PT Γ (rc.ls ++ outLs vs)))) : List (Step Γ (PT Γ (rc.ls ++ outLs vs))) :=
 match fn.body with
 | some c => steps fn.ntmps E Ps c 0 (finK fn.results.toList rc vs)
 | none => []

def sideB (e : Ent Γ) (fn : Func) : Bool :=
 (fn.body.isSome.and (!(fn.name == "runtime.NumGoroutine"))).and ((e.res.ok.and (resForm e.res fn.results.size)).and ((Nat.ble e.args.length fn.ntmps).and ((nodupB ((mutsOf e.args).map fun x => x.1)).and ((mutsOf e.args).all fun x => fn.ntmps.ble x.1))))

theorem ent_ok (m k : Nat) (C : CtxOK P Γ) (E : Nat → List (Ent Γ)) (hE : ∀ k, EsOK P (E k)) {e : Ent Γ} {fn : Func} (hf : P.funcs[e.f]? = some fn) (hc : sideB e fn = true) (Ps : List (Pn Γ (PT Γ e.ol))) {ps : List (Pn Γ (PT Γ e.ol))}
  (hp : (stepsOf fn E e.args e.res Ps).map (fun s => s.p) = ps) (hS : PnsOK m (stepsOf fn E e.args e.res Ps) ps 0) (hfn : ∀ x, e.fn x = run fn E e.args e.res Ps k x) : EntOK P e := by
 simp only [sideB, Bool.and_eq_true] at hc
 obtain ⟨⟨hb, hn⟩, ⟨h1, h2⟩, h3, h4, h5⟩ := hc
 obtain ⟨c, hbc⟩ := Option.isSome_iff_exists.1 hb
 refine entOK (m := m) (k := k) C (fun k => (hE k).all) hf hbc (by simpa using hn) h1 h2 (Nat.le_of_ble_eq_true h3) h4 (fun x hx => Nat.le_of_ble_eq_true (List.all_eq_true.1 h5 x hx)) (Ps := Ps) ?_ ?_
 ·have := steps_of hp hS
  simpa only [stepsOf, hbc] using this
 ·intro x
  rw [hfn x]
  simp only [run, hbc]

theorem EntOK.weaken {e : Ent Γ} (h : EntOK P e) (fn' : PT Γ (e.args.flatMap VC.ls) → Option (PT Γ e.ol)) (hw : ∀ x y, fn' x = some y → e.fn x = some y) : EntOK P ⟨e.f, e.args, e.res, fn'⟩ :=
 ⟨h.res, h.fn, fun S w μ bx avs vals cs x y h0 hb h1 h2 h3 h4 => h.calls S w μ bx avs vals cs x y h0 hb h1 h2 (hw x y h3) h4⟩

theorem entOK_none {e : Ent Γ} {fn : Func} (hf : P.funcs[e.f]? = some fn) (hc : sideB e fn = true) (h : ∀ x, e.fn x = none) : EntOK P e := by
 simp only [sideB, Bool.and_eq_true] at hc
 obtain ⟨⟨hb, hn⟩, ⟨h1, h2⟩, h3, h4, h5⟩ := hc
 exact ⟨h1, ⟨fn, hf, by simpa using hn, by cases hx : fn.body with | none => rw [hx] at hb; cases hb | some c => rfl⟩, fun S w μ bx avs vals cs x y _ _ g1 g2 g3 g4 => by rw [h x] at g3; cases g3⟩


def cellV : Cell Γ → Value
 | .v x => x
 | _ => undef

def flatCell : Cell Γ → Bool
 | .v _ => true
 | _ => false

def avVal : AV Γ → Value
 | .f (.c x) => cellV x
 | .f (.agg cs) => .agg (cs.map cellV).toArray
 | _ => undef

def flatAV : AV Γ → Bool
 | .f (.c x) => flatCell x
 | .f (.agg cs) => cs.all flatCell
 | _ => false

def vcAVs (vcs : List VC) (ls : List LC) (x : PT Γ ls) : List (AV Γ) := argAVs vcs (encLeaves (fun _ => .ro) 0 ls x)
def vcVals (vcs : List VC) (ls : List LC) (x : PT Γ ls) : List Value := (vcAVs vcs ls x).map avVal

theorem cells_flat {base : Nat} {S : Nat → Nat → Prop} {μ : Mp} {w : World} : ∀ {cs : List (Cell Γ)} {vs : List Value}, cs.all flatCell = true → CellsRep base S μ w cs vs → vs = cs.map cellV
 | [], [], _, _ => rfl
 | c :: cs, v :: vs, h, hr => by
  simp only [List.all_cons, Bool.and_eq_true] at h
  cases c with
  | v x => rw [cells_flat h.2 hr.2, show v = x from hr.1]; rfl
  | _ => cases h.1
 | [], _ :: _, _, h => h.elim
 | _ :: _, [], _, h => h.elim

theorem flat_cells {base : Nat} {S : Nat → Nat → Prop} {μ : Mp} {w : World} : ∀ {cs : List (Cell Γ)}, cs.all flatCell = true → CellsRep base S μ w cs (cs.map cellV)
 | [], _ => trivial
 | c :: cs, h => by
  simp only [List.all_cons, Bool.and_eq_true] at h
  cases c with
  | v x => exact ⟨rfl, flat_cells h.2⟩
  | _ => cases h.1

theorem avs_flat {base : Nat} {S : Nat → Nat → Prop} {μ : Mp} {w : World} : ∀ {avs : List (AV Γ)} {ys : List Value}, avs.all flatAV = true → AVsRep base S μ w avs ys → ys = avs.map avVal
 | [], [], _, _ => rfl
 | a :: as, y :: ys, h, hr => by
  simp only [List.all_cons, Bool.and_eq_true] at h
  rw [avs_flat h.2 hr.2]
  cases a with
  | f x =>
   cases x with
   | c x =>
    cases x with
    | v x => rw [show y = x from hr.1]; rfl
    | _ => cases h.1
   | agg cs =>
    obtain ⟨vs, rfl, hc⟩ := hr.1
    rw [cells_flat h.1 hc]; rfl
  | _ => cases h.1
 | [], _ :: _, _, h => h.elim
 | _ :: _, [], _, h => h.elim

theorem flat_avs {base : Nat} {S : Nat → Nat → Prop} {μ : Mp} {w : World} : ∀ {avs : List (AV Γ)}, avs.all flatAV = true → AVsRep base S μ w avs (avs.map avVal)
 | [], _ => trivial
 | a :: as, h => by
  simp only [List.all_cons, Bool.and_eq_true] at h
  refine ⟨?_, flat_avs h.2⟩
  cases a with
  | f x =>
   cases x with
   | c x =>
    cases x with
    | v x => rfl
    | _ => cases h.1
   | agg cs => exact ⟨_, rfl, flat_cells h.1⟩
  | _ => cases h.1

theorem vals_of {base : Nat} {S : Nat → Nat → Prop} {μ : Mp} {w : World} {vcs : List VC} {ls : List LC} {avs : List (AV Γ)} {ys : List Value} {cs : List (Cell Γ)} {x : PT Γ ls} (hf : (vcAVs vcs ls x).all flatAV = true) (h1 : argCells vcs avs = some cs) (h2 : decLeaves ls cs = some x) (h4 : AVsRep base S μ w avs ys) : ys = vcVals vcs ls x := by
 have hst : ∀ b oo, Stable base μ0 b oo := fun b oo => ⟨fun s e => (by cases e), fun d j u e => (by cases e)⟩
 obtain ⟨vs, g1, g2, g3, g4⟩ := args_reenc (base := base) (S := fun _ _ => True) (μ := μ0) (fun b oo _ => hst b oo) vcs avs ys cs h1 h4
 have hnew : CellsRep base (fun _ _ => True) μ0 w (encLeaves (fun _ => Own.ro) 0 ls x) vs :=
  leaves_rep (fun b oo hs _ => ⟨hst b oo, fun _ => trivial⟩) _ _ _ x 0 h2 g1 (fun _ _ _ _ _ _ _ _ _ _ _ => trivial) (fun _ _ => trivial) (fun j e xs a b _ g hg => ⟨fun _ _ _ off => ⟨hst g off, fun _ => trivial⟩, fun _ _ d jj e => (by cases e)⟩)
 exact avs_flat hf (g4 _ hnew)

theorem noMuts_args {bx : Bx Γ} : ∀ {vs : List VC} {as : List (AV Γ)}, mutsOf vs = [] → argsIn bx vs as = argCells vs as ∧ inKeys vs as = []
 | [], as, _ => by cases as <;> exact ⟨rfl, rfl⟩
 | v :: vs, [], h => by cases v <;> exact ⟨rfl, rfl⟩
 | v :: vs, a :: as, h => by
  cases v with
  | wr k T ls => cases h
  | c l => obtain ⟨h1, h2⟩ := noMuts_args (bx := bx) (vs := vs) (as := as) h; exact ⟨by simp only [argsIn, argCells, argIn, h1], h2⟩
  | agg l => obtain ⟨h1, h2⟩ := noMuts_args (bx := bx) (vs := vs) (as := as) h; exact ⟨by simp only [argsIn, argCells, argIn, h1], h2⟩
  | clo f l => obtain ⟨h1, h2⟩ := noMuts_args (bx := bx) (vs := vs) (as := as) h; exact ⟨by simp only [argsIn, argCells, argIn, h1], h2⟩
  | ref l => obtain ⟨h1, h2⟩ := noMuts_args (bx := bx) (vs := vs) (as := as) h; exact ⟨by simp only [argsIn, argCells, argIn, h1], h2⟩

theorem Bel.to {w w' : World} (h : Bel w.heap.size ⟨w, μ0.ρ⟩ w') : Below w.heap.size w w' := ⟨h.os, h.tape, h.output, h.size, fun k hk => h.block k hk fun s e => by cases e⟩

theorem in_μ0 {w : World} {μ : Mp} (h : InOK w μ []) : μ = μ0 := by
 cases μ with
 | mk ρ τ =>
  have e1 : ρ = fun _ => none := by
   funext s
   cases hs : ρ s with
   | none => rfl
   | some g => exact absurd (h.ρin s g hs) (by simp)
  have e2 : τ = fun _ _ => none := by funext d j; exact h.τ d j
  rw [e1, e2]; rfl

theorem EntOK.flat {e : Ent Γ} (h : EntOK P e) (x : PT Γ (e.args.flatMap VC.ls)) (y : PT Γ e.ol) (hfn : e.fn x = some y) (ha : (vcAVs e.args _ x).all flatAV = true) (hc : argCells e.args (vcAVs e.args _ x) = some (encLeaves (fun _ => .ro) 0 _ x)) (hd : decLeaves _ (encLeaves (Γ := Γ) (fun _ => .ro) 0 _ x) = some x)
  (hr : (vcAVs e.res.vcs _ y).all flatAV = true) (w : World) (hno : mutsOf e.args = [] := by rfl) : Calls P e.f (vcVals e.args _ x).toArray w fun en w' => en = .returned (resVal e.res (vcVals e.res.vcs _ y)) ∧ Below w.heap.size w w' := by
 obtain ⟨n1, n2⟩ := noMuts_args (bx := []) (as := vcAVs e.args _ x) hno
 refine (h.calls (fun _ _ => True) w μ0 [] _ _ _ x y (by rw [n2]; exact ⟨rfl, fun s s' g e => (by cases e), fun s g e => (by cases e), fun s g e => (by cases e), fun _ _ => rfl⟩) (fun s T cs e => (by cases e)) (by rw [n1]; exact hc) hd hfn (flat_avs ha)).mono fun en w' hh => ?_
 obtain ⟨v, rfl, hb, μ, avs, ys, cs, os, _, r2, r3, ro, _, r5, rfl⟩ := hh
 rw [hno, n2] at ro
 obtain rfl : os = [] := ro
 rw [List.append_nil] at r5
 rw [vals_of hr r3 r5 r2]
 exact ⟨rfl, hb.to⟩

theorem flat_av {base : Nat} {S : Nat → Nat → Prop} {μ : Mp} {w : World} {a : AV Γ} (h : flatAV a = true) : AVRep base S μ w a (avVal a) :=
 (flat_avs (avs := [a]) (by simp [h])).1

theorem EntOK.use {e : Ent Γ} (h : EntOK P e) (x : PT Γ (e.args.flatMap VC.ls)) (y : PT Γ e.ol) (hfn : e.fn x = some y) {vals : List Value} {w : World} (hc : argCells e.args (vcAVs e.args _ x) = some (encLeaves (fun _ => .ro) 0 _ x)) (hd : decLeaves _ (encLeaves (Γ := Γ) (fun _ => .ro) 0 _ x) = some x)
  (ha : AVsRep w.heap.size (fun _ _ => True) μ0 w (vcAVs e.args _ x) vals) (hr : (vcAVs e.res.vcs _ y).all flatAV = true) (hno : mutsOf e.args = [] := by rfl) : Calls P e.f vals.toArray w fun en w' => en = .returned (resVal e.res (vcVals e.res.vcs _ y)) ∧ Below w.heap.size w w' := by
 obtain ⟨n1, n2⟩ := noMuts_args (bx := []) (as := vcAVs e.args _ x) hno
 refine (h.calls (fun _ _ => True) w μ0 [] _ _ _ x y (by rw [n2]; exact ⟨rfl, fun s s' g e => (by cases e), fun s g e => (by cases e), fun s g e => (by cases e), fun _ _ => rfl⟩) (fun s T cs e => (by cases e)) (by rw [n1]; exact hc) hd hfn ha).mono fun en w' hh => ?_
 obtain ⟨v, rfl, hb, μ, avs, ys, cs, os, _, r2, r3, ro, _, r5, rfl⟩ := hh
 rw [hno, n2] at ro
 obtain rfl : os = [] := ro
 rw [List.append_nil] at r5
 rw [vals_of hr r3 r5 r2]
 exact ⟨rfl, hb.to⟩

theorem entOK_rep {e : Ent Γ} {fn : Func} (hf : P.funcs[e.f]? = some fn) (hc : sideB e fn = true)
  (hr : ∀ y : PT Γ e.ol, (vcAVs e.res.vcs _ y).all flatAV = true ∧ argCells e.res.vcs (vcAVs e.res.vcs _ y) = some (encLeaves (fun _ => .ro) 0 _ y) ∧ toksOK e.ol (encLeaves (Γ := Γ) (fun _ => .ro) 0 _ y) [] = true ∧ decLeaves _ (encLeaves (Γ := Γ) (fun _ => .ro) 0 _ y) = some y)
  (h : ∀ (x : PT Γ (e.args.flatMap VC.ls)) (y : PT Γ e.ol), e.fn x = some y → ∀ (S : Nat → Nat → Prop) (w : World) (vals : List Value), AVsRep w.heap.size S μ0 w (vcAVs e.args _ x) vals →
   Calls P e.f vals.toArray w fun en w' => en = .returned (resVal e.res (vcVals e.res.vcs _ y)) ∧ Below w.heap.size w w') (hno : mutsOf e.args = [] := by rfl) : EntOK P e := by
 simp only [sideB, Bool.and_eq_true] at hc
 obtain ⟨⟨hb, hn⟩, ⟨h1, h2⟩, h3, _⟩ := hc
 refine ⟨h1, ⟨fn, hf, by simpa using hn, by cases hx : fn.body with | none => rw [hx] at hb; cases hb | some c => rfl⟩, fun S w μ bx avs vals cs x y hin hbx g1 g2 g3 g4 => ?_⟩
 obtain ⟨n1, n2⟩ := noMuts_args (bx := bx) (as := avs) hno
 rw [n1] at g1
 rw [n2] at hin ⊢
 obtain rfl := in_μ0 hin
 obtain ⟨vs, e1, e2, e3, e4⟩ := args_reenc (base := w.heap.size) (S := S) (μ := μ0) (fun b oo h => h) e.args avs vals cs g1 g4
 have hnew : CellsRep w.heap.size S μ0 w (encLeaves (fun _ => Own.ro) 0 (e.args.flatMap VC.ls) x) vs :=
  leaves_rep (fun b oo hs hst => ⟨hst, hs⟩) _ _ _ x 0 g2 e1 (fun _ _ _ _ _ _ _ _ _ _ _ => trivial) (fun _ _ => trivial) (fun j e xs a b _ g hg => by cases hg)
 refine (h x y g3 S w vals (e4 _ hnew)).mono fun en w' hh => ?_
 obtain ⟨rfl, hb⟩ := hh
 obtain ⟨r1, r2, r3, r4⟩ := hr y
 refine ⟨_, rfl, ⟨hb.os, hb.tape, hb.output, hb.size, fun k hk _ => hb.block k hk⟩, μ0, _, _, _, [], { ρinj := fun s s' g h => by simp [μ0] at h, ρnew := fun s g h => by simp [μ0] at h, τnew := fun d j g u h => by simp [μ0] at h, τinj := fun d j d' j' g u u' h => by simp [μ0] at h }, flat_avs r1, r2, by rw [hno]; rfl, by rw [List.append_nil]; exact r3, by rw [List.append_nil]; exact r4, rfl⟩

theorem entOK_hand {e : Ent Γ} {fn : Func} (hf : P.funcs[e.f]? = some fn) (hc : sideB e fn = true) (ha : ∀ x : PT Γ (e.args.flatMap VC.ls), (vcAVs e.args _ x).all flatAV = true)
  (hr : ∀ y : PT Γ e.ol, (vcAVs e.res.vcs _ y).all flatAV = true ∧ argCells e.res.vcs (vcAVs e.res.vcs _ y) = some (encLeaves (fun _ => .ro) 0 _ y) ∧ toksOK e.ol (encLeaves (Γ := Γ) (fun _ => .ro) 0 _ y) [] = true ∧ decLeaves _ (encLeaves (Γ := Γ) (fun _ => .ro) 0 _ y) = some y)
  (h : ∀ x y, e.fn x = some y → ∀ w, Calls P e.f (vcVals e.args _ x).toArray w fun en w' => en = .returned (resVal e.res (vcVals e.res.vcs _ y)) ∧ Below w.heap.size w w') (hno : mutsOf e.args = [] := by rfl) : EntOK P e :=
 entOK_rep hf hc hr (fun x y hx S w vals hv => by rw [avs_flat (ha x) hv]; exact h x y hx w) hno

theorem dec_own0 (e : Nat) (y : List (Γ.kd e).α) : decOwn (Γ := Γ) e (Cell.own e y 0 0) = some y := by
 unfold decOwn
 exact dif_pos rfl
theorem dec_own1 (e : Nat) (y : List (Γ.kd e).α) : decLeaves (Γ := Γ) [LC.own e] [Cell.own e y 0 0] = some y := dec_own0 e y

theorem entOK_own {f e : Nat} {F : List (Γ.kd e).α → Option (List (Γ.kd e).α)} {fn : Func} (hf : P.funcs[f]? = some fn) (hc : sideB (Γ := Γ) ⟨f, [.c (.row e false)], .one (.c (.own e)), F⟩ fn = true)
  (h : ∀ xs ys, F xs = some ys → ∀ (S : Nat → Nat → Prop) (w : World) (y : Value), RowRep w.heap.size S μ0 w (Γ.kd e).K e xs .ro y →
   Calls P f #[y] w fun en w' => ∃ (g : Nat) (cur : Array Value) (c : Nat) (rest : List Value), w.heap.size ≤ g ∧ w'.heap[g]? = some (.cells cur e (0, 0)) ∧ cur.toList = ys.flatMap (Γ.kd e).K.enc ++ rest ∧ ys.length ≤ maxLen ∧ ys.length ≤ c ∧ en = .returned (.slice (some ⟨g, 0, none⟩) ys.length c) ∧ Below w.heap.size w w') :
  EntOK P (Γ := Γ) ⟨f, [.c (.row e false)], .one (.c (.own e)), F⟩ := by
 simp only [sideB, Bool.and_eq_true] at hc
 obtain ⟨⟨hb, hn⟩, ⟨h1, h2⟩, h3, _⟩ := hc
 refine ⟨h1, ⟨fn, hf, by simpa using hn, by cases hx : fn.body with | none => rw [hx] at hb; cases hb | some c => rfl⟩, fun S w μ bx avs vals cs x y hin hbx g1 g2 g3 g4 => ?_⟩
 obtain ⟨n1, n2⟩ := noMuts_args (Γ := Γ) (bx := bx) (as := avs) (vs := [.c (.row e false)]) rfl
 rw [n1] at g1
 rw [n2] at hin ⊢
 obtain rfl := in_μ0 hin
 obtain ⟨vs, e1, e2, e3, e4⟩ := args_reenc (base := w.heap.size) (S := S) (μ := μ0) (fun b oo h => h) [.c (.row e false)] avs vals cs g1 g4
 have hnew : CellsRep w.heap.size S μ0 w (encLeaves (fun _ => Own.ro) 0 ([VC.c (.row e false)].flatMap VC.ls) x) vs :=
  leaves_rep (fun b oo hs hst => ⟨hst, hs⟩) _ _ _ x 0 g2 e1 (fun _ _ _ _ _ _ _ _ _ _ _ => trivial) (fun _ _ => trivial) (fun j e xs a b _ g hg => by cases hg)
 have hv := e4 _ hnew
 have hv1 : ∃ y0, vals = [y0] ∧ RowRep w.heap.size S μ0 w (Γ.kd e).K e x .ro y0 := by
  cases vals with
  | nil => exact hv.elim
  | cons y0 vals =>
   cases vals with
   | cons _ _ => exact hv.2.elim
   | nil => exact ⟨y0, rfl, hv.1⟩
 obtain ⟨y0, rfl, hrow⟩ := hv1
 refine (h x y g3 S w y0 hrow).mono fun en w' hh => ?_
 obtain ⟨g, cur, c, rest, q1, q2, q3, q4, q5, rfl, hbel⟩ := hh
 have hlt : g < w'.heap.size := by
  rcases Nat.lt_or_ge g w'.heap.size with h | h
  ·exact h
  ·rw [Array.getElem?_eq_none h] at q2; cases q2
 refine ⟨_, rfl, ⟨hbel.os, hbel.tape, hbel.output, hbel.size, fun k hk _ => hbel.block k hk⟩, ⟨fun _ => none, fun d j => if d = 0 ∧ j = 0 then some (g, 0) else none⟩, [.f (.c (.own e y 0 0))], [.slice (some ⟨g, 0, none⟩) y.length c], [.own e y 0 0], [],
  { ρinj := fun s s' g h => (by cases h), ρnew := fun s g h => (by cases h), τnew := fun d j g' u h => ?_, τinj := fun d j d' j' g' u u' h h' => ?_ }, ⟨⟨g, cur, by simp, q2, ⟨rest, q3⟩, q4, c, q5, rfl⟩, trivial⟩, rfl, rfl, rfl, ?_, rfl⟩
 ·simp only at h
  split at h
  ·cases h; exact ⟨q1, hlt, fun s hs => by cases hs⟩
  ·cases h
 ·simp only at h h'
  split at h
  ·rename_i a
   split at h'
   ·rename_i b; exact ⟨a.1.trans b.1.symm, a.2.trans b.2.symm⟩
   ·cases h'
  ·cases h
 ·exact dec_own1 e y

end

end Go.Refl
