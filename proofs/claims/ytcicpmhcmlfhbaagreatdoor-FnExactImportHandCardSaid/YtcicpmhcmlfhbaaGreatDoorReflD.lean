/- A pure interpreter of the code, and that the machine does what it tells (a text of this session). -/
import Derived.Test.YtcicpmhcmlfhbaaGreatDoorReflC
set_option autoImplicit false
set_option linter.unusedVariables false
set_option linter.unusedSimpArgs false
namespace Go.Refl
open Go.RowKit

section
variable {Γ : Ctx} {P : Program} {base : Nat} {S : Nat → Nat → Prop} {w0 : W0} {n : Nt}

structure HRec (Γ : Ctx) where
 run : Bool
 utm : Tm Γ
 tm : Tm Γ
 v : AV Γ
 eff : Eff Γ
 nb : Bx Γ

def Imp (x y : AV Γ) : Prop := ∀ q base S μ w val, AVRep base S μ w (roAV q x) val → AVRep base S μ w (roAV q y) val

theorem Imp.at {x y : AV Γ} (h : Imp x y) {base : Nat} {S : Nat → Nat → Prop} {μ : Mp} {w : World} {val : Value} (hx : AVRep base S μ w x val) : AVRep base S μ w y val := by
 have := h no2 base S μ w val (by rwa [roAV_no])
 rwa [roAV_no] at this

def quietEff (M : List Nat) (tm0 : Tm Γ) (o : Oper) (nb : Bx Γ) : Eff Γ → Prop
 | .none => True
 | .fresh => True
 | .app _ => True
 | .new _ _ => ∃ d, o.dst = some d
 | .set s _ _ => storeTo o.op = some s ∧ ∃ T old, bxGet nb s = some (T, old) ∧ (Γ.td T).isArr = false ∧ (hasKey M s = false ∨ s ∈ callKeys tm0 o)
 | .muts _ l => storeTo o.op = none ∧ ∀ x ∈ l, x.1 ∈ callKeys tm0 o ∧ ∃ T old, bxGet nb x.1 = some (T, old) ∧ (Γ.td T).isArr = false
 | _ => False

structure RecOK (P : Program) (n : Nt) (all : List Oper) (eat M : List Nat) (tm0 : Tm Γ) (bx0 : Bx Γ) (o : Oper) (r : HRec Γ) : Prop where
 dst : aops.dstIn n o.dst = true
 imp : ∀ t, Imp (tmGet r.utm t) (tmGet r.tm t)
 guard : match o.guard with
  | none => r.run = true
  | some (j, want) => ∃ t yv, dstOf all j = some t ∧ (∀ base S μ w y, AVRep base S μ w (tmGet r.utm t) y → yb y = yv) ∧ r.run = (yv == some want)
 yes : r.run = true → OpSem P o r.tm (nbOf M tm0 o r.nb ++ bx0) r.v r.eff ∧ quietEff M tm0 o r.nb r.eff
 no : r.run = false → r.v = skipAV ∧ r.eff = .none
 eat : r.run = true → eatOK eat o r.v r.eff = true

def nbPut (dst : Option Nat) (eff : Eff Γ) (nb : Bx Γ) : Bx Γ :=
 match eff with
 | .new T cs => (match dst with
  | some d => (d, T, cs) :: nb
  | none => nb)
 | .set s off cs => (match bxGet nb s with
  | some (T, old) => (s, T, setCells old off cs) :: nb
  | none => nb)
 | .muts _ l => mutNb l nb
 | _ => nb

def Chain (P : Program) (n : Nt) (all : List Oper) (eat M : List Nat) (tm0 : Tm Γ) (bx0 : Bx Γ) : List Oper → Tm Γ → Bx Γ → List (HRec Γ) → Tm Γ → Bx Γ → Prop
 | [], utm, nb, [], utm', nb' => utm' = utm ∧ nb' = nb
 | o :: l, utm, nb, r :: rs, utm', nb' => r.utm = utm ∧ r.nb = nb ∧ RecOK P n all eat M tm0 bx0 o r ∧ Chain P n all eat M tm0 bx0 l (putTm utm o.dst r.v) (nbPut o.dst r.eff nb) rs utm' nb'
 | _, _, _, _, _, _ => False

theorem imp_putB {utm tm : Tm Γ} {nb : Bx Γ} {t : Nat} {b : Bool} (hi : ∀ t, Imp (tmGet utm t) (tmGet tm t)) (hb : ∀ q base S μ w y, AVRep (Γ := Γ) base S μ w (roAV q (tmGet utm t)) y → y = .bool b) : ∀ t', Imp (tmGet utm t') (tmGet (putB ⟨tm, nb⟩ t b).tm t') := by
 intro t' q base S μ w val h
 simp only [putB, tmGet]
 cases he : Nat.beq t t' with
 | true => obtain rfl := Nat.eq_of_beq_eq_true he; exact hb _ _ _ _ _ _ h
 | false => exact hi t' _ _ _ _ _ _ h

theorem imp_put {utm tm : Tm Γ} {d : Option Nat} {v : AV Γ} (hi : ∀ t, Imp (tmGet utm t) (tmGet tm t)) : ∀ t, Imp (tmGet (putTm utm d v) t) (tmGet (putTm tm d v) t) := by
 intro t
 cases d with
 | none => exact hi t
 | some d =>
  simp only [putTm, tmGet]
  cases Nat.beq d t with
  | true => exact fun _ _ _ _ _ _ h => h
  | false => exact hi t

theorem condG_ro {R : Type} {want : Bool} {t : Nat} {st : St Γ} {yes no : St Γ → Option R} {r : R} (h : condG want t st yes no = some r) (q : Nat → Nat → Bool) : roAV q (tmGet st.tm t) = tmGet st.tm t := by
 have key : ∀ {A B : St Γ → Option R}, condT t st A B = some r → roAV q (tmGet st.tm t) = tmGet st.tm t := by
  intro A B h
  unfold condT at h
  split at h
  ·rename_i hx; rw [hx]; rfl
  ·rename_i hx; rw [hx]; rfl
  ·rename_i hx; rw [hx]; rfl
  ·cases h
 unfold condG at h
 split at h
 ·rename_i hx; rw [hx]; rfl
 ·split at h
  ·exact key h
  ·exact key h

theorem ahead_inv {R : Type} (C : CtxOK P Γ) {E : List (Ent Γ)} (hE : ∀ e ∈ E, EntOK P e) {all : List Oper} {eat M : List Nat} {tm0 : Tm Γ} {bx0 : Bx Γ} : ∀ (l : List Oper) (utm tm : Tm Γ) (nb : Bx Γ) (K : St Γ → Option R) (r : R), (∀ t, Imp (tmGet utm t) (tmGet tm t)) → ahead n E all eat M tm0 bx0 l tm nb K = some r →
  ∃ (rs : List (HRec Γ)) (utm' tm' : Tm Γ) (nb' : Bx Γ), Chain P n all eat M tm0 bx0 l utm nb rs utm' nb' ∧ (∀ t, Imp (tmGet utm' t) (tmGet tm' t)) ∧ K ⟨tm', nb' ++ bx0⟩ = some r
 | [], utm, tm, nb, K, r, hi, h => ⟨[], utm, tm, nb, ⟨rfl, rfl⟩, hi, h⟩
 | o :: l, utm, tm, nb, K, r, hi, h => by
  rw [ahead] at h
  cases hdn : aops.dstIn n o.dst with
  | false => simp [hdn] at h
  | true =>
   simp only [hdn, cond_true] at h
   have go : ∀ (run : Bool) (tm1 : Tm Γ) (v : AV Γ) (eff : Eff Γ), (∀ t, Imp (tmGet utm t) (tmGet tm1 t)) →
     (match o.guard with | none => run = true | some (j, want) => ∃ t yv, dstOf all j = some t ∧ (∀ base S μ w y, AVRep (Γ := Γ) base S μ w (tmGet utm t) y → yb y = yv) ∧ run = (yv == some want)) →
     (run = true → OpSem P o tm1 (nbOf M tm0 o nb ++ bx0) v eff ∧ quietEff M tm0 o nb eff) → (run = false → v = skipAV ∧ eff = .none) → (run = true → eatOK eat o v eff = true) → ahead n E all eat M tm0 bx0 l (putTm tm1 o.dst v) (nbPut o.dst eff nb) K = some r →
     ∃ (rs : List (HRec Γ)) (utm' tm' : Tm Γ) (nb' : Bx Γ), Chain P n all eat M tm0 bx0 (o :: l) utm nb rs utm' nb' ∧ (∀ t, Imp (tmGet utm' t) (tmGet tm' t)) ∧ K ⟨tm', nb' ++ bx0⟩ = some r := by
    intro run tm1 v eff h1 h2 h3 h4 h6 h5
    obtain ⟨rs, utm', tm', nb', g1, g2, g3⟩ := ahead_inv C hE l (putTm utm o.dst v) _ _ K r (imp_put h1) h5
    exact ⟨⟨run, utm, tm1, v, eff, nb⟩ :: rs, utm', tm', nb', ⟨rfl, rfl, ⟨hdn, h1, h2, h3, h4, h6⟩, g1⟩, g2, g3⟩
   have yes : ∀ tm1 : Tm Γ, (∀ t, Imp (tmGet utm t) (tmGet tm1 t)) → (match o.guard with | none => True | some (j, want) => ∃ t, dstOf all j = some t ∧ (∀ base S μ w y, AVRep (Γ := Γ) base S μ w (tmGet utm t) y → yb y = some want)) →
     (evalOp E tm1 (nbOf M tm0 o nb ++ bx0) o fun v eff => bif eatOK eat o v eff then (match eff with
      | .none => ahead n E all eat M tm0 bx0 l (putTm tm1 o.dst v) nb K
      | .fresh => ahead n E all eat M tm0 bx0 l (putTm tm1 o.dst v) nb K
      | .app _ => ahead n E all eat M tm0 bx0 l (putTm tm1 o.dst v) nb K
      | .new T cs => match o.dst with
       | some d => ahead n E all eat M tm0 bx0 l ((d, v) :: tm1) ((d, T, cs) :: nb) K
       | none => none
      | .set s off cs => match storeTo o.op, bxGet nb s with
       | some p, some (T, old) => bif ((p.beq s).and (effOK (nbOf M tm0 o nb ++ bx0) (.set s off cs))).and ((!(Γ.td T).isArr).and ((!(hasKey M s)).or (hasKey (callKeys tm0 o) s))) then ahead n E all eat M tm0 bx0 l (putTm tm1 o.dst v) ((s, T, setCells old off cs) :: nb) K else none
       | _, _ => none
      | .muts fr l1 => bif ((effOK (nbOf M tm0 o nb ++ bx0) (.muts fr l1)).and (storeTo o.op).isNone).and (l1.all fun x => (hasKey (callKeys tm0 o) x.1).and (match bxGet nb x.1 with
       | some (T, _) => !(Γ.td T).isArr
       | none => false)) then ahead n E all eat M tm0 bx0 l (putTm tm1 o.dst v) (mutNb l1 nb) K else none
      | _ => none) else none) = some r →
     ∃ (rs : List (HRec Γ)) (utm' tm' : Tm Γ) (nb' : Bx Γ), Chain P n all eat M tm0 bx0 (o :: l) utm nb rs utm' nb' ∧ (∀ t, Imp (tmGet utm' t) (tmGet tm' t)) ∧ K ⟨tm', nb' ++ bx0⟩ = some r := by
    intro tm1 h1 h2 h3
    obtain ⟨v, eff, hk, hs⟩ := evalOp_sound (P := P) C hE h3
    have hguard : (match o.guard with | none => true = true | some (j, want) => ∃ t yv, dstOf all j = some t ∧ (∀ base S μ w y, AVRep (Γ := Γ) base S μ w (tmGet utm t) y → yb y = yv) ∧ true = (yv == some want)) := by
     split
     ·rfl
     ·rename_i j want hg
      rw [hg] at h2
      obtain ⟨t, e1, e2⟩ := h2
      exact ⟨t, some want, e1, e2, by simp⟩
    cases hea : eatOK eat o v eff with
    | false => rw [hea] at hk; cases hk
    | true =>
    rw [hea] at hk
    simp only [cond_true] at hk
    cases eff with
    | none => exact go true tm1 v .none h1 hguard (fun _ => ⟨hs rfl, trivial⟩) (fun e => by cases e) (fun _ => hea) hk
    | fresh => exact go true tm1 v .fresh h1 hguard (fun _ => ⟨hs rfl, trivial⟩) (fun e => by cases e) (fun _ => hea) hk
    | app o' => exact go true tm1 v (.app o') h1 hguard (fun _ => ⟨hs rfl, trivial⟩) (fun e => by cases e) (fun _ => hea) hk
    | new T cs =>
     simp only at hk
     split at hk
     ·rename_i d hd
      refine go true tm1 v (.new T cs) h1 hguard (fun _ => ⟨hs rfl, d, hd⟩) (fun e => by cases e) (fun _ => hea) ?_
      simp only [nbPut, hd]
      exact hk
     ·cases hk
    | set s off cs =>
     simp only at hk
     split at hk
     ·rename_i p T old hp hb
      cases hc : ((p.beq s).and (effOK (nbOf M tm0 o nb ++ bx0) (.set s off cs))).and ((!(Γ.td T).isArr).and ((!(hasKey M s)).or (hasKey (callKeys tm0 o) s))) with
      | false => rw [hc] at hk; cases hk
      | true =>
       rw [hc] at hk
       simp only [cond_true] at hk
       simp only [Bool.and_eq_true, Bool.not_eq_true'] at hc
       obtain ⟨⟨c1, c2⟩, c3, c4⟩ := hc
       obtain rfl := Nat.eq_of_beq_eq_true c1
       have c4 : hasKey M p = false ∨ p ∈ callKeys tm0 o := by
        rw [Bool.or_eq_true] at c4
        rcases c4 with c4 | c4
        ·exact .inl (by simpa using c4)
        ·exact .inr (hasKey_mem.1 c4)
       refine go true tm1 v (.set p off cs) h1 hguard (fun _ => ⟨hs c2, hp, T, old, hb, c3, c4⟩) (fun e => by cases e) (fun _ => hea) ?_
       simp only [nbPut, hb]
       exact hk
     ·cases hk
    | muts fr l1 =>
     simp only at hk
     cases hc : ((effOK (nbOf M tm0 o nb ++ bx0) (.muts fr l1)).and (storeTo o.op).isNone).and (l1.all fun x => (hasKey (callKeys tm0 o) x.1).and (match bxGet nb x.1 with
       | some (T, _) => !(Γ.td T).isArr
       | none => false)) with
     | false => rw [hc] at hk; cases hk
     | true =>
      rw [hc] at hk
      simp only [cond_true] at hk
      rw [Bool.and_eq_true, Bool.and_eq_true] at hc
      obtain ⟨⟨c1, c0⟩, c2⟩ := hc
      refine go true tm1 v (.muts fr l1) h1 hguard (fun _ => ⟨hs c1, by simpa using c0, fun x hx => ?_⟩) (fun e => by cases e) (fun _ => hea) hk
      have := List.all_eq_true.1 c2 x hx
      rw [Bool.and_eq_true] at this
      obtain ⟨d1, d2⟩ := this
      refine ⟨hasKey_mem.1 d1, ?_⟩
      split at d2
      ·rename_i T old hb
       exact ⟨T, old, hb, by simpa using d2⟩
      ·cases d2
    | put d j e i x => cases hk
    | rows fr l => cases hk
   cases hg : o.guard with
   | none =>
    rw [hg] at h
    exact yes tm hi (by rw [hg]; trivial) h
   | some gw =>
    obtain ⟨j, want⟩ := gw
    rw [hg] at h
    simp only at h
    split at h
    ·rename_i t ht
     obtain ⟨yv, st', g1, g2, g3⟩ := condG_inv h
     have g0 := condG_ro h
     have g1q : ∀ q base S μ w y, AVRep (Γ := Γ) base S μ w (roAV q (tmGet utm t)) y → yb y = yv := fun q _ _ _ _ y hy => g1 _ _ _ _ y (by have := hi t q _ _ _ _ _ hy; rwa [g0 q] at this)
     have g1' : ∀ base S μ w y, AVRep (Γ := Γ) base S μ w (tmGet utm t) y → yb y = yv := fun _ _ _ _ y hy => g1 _ _ _ _ y ((hi t).at hy)
     have hi' : ∀ t, Imp (tmGet utm t) (tmGet st'.tm t) := by
      rcases g2 with rfl | ⟨b, rfl, rfl⟩
      ·exact hi
      ·exact imp_putB hi (fun q _ _ _ _ y hy => yb_some (g1q q _ _ _ _ y hy))
     cases hq : (yv == some want) with
     | true =>
      rw [hq] at g3
      simp only [if_true] at g3
      obtain rfl : yv = some want := by simpa using hq
      exact yes _ hi' (by rw [hg]; exact ⟨t, ht, g1'⟩) g3
     | false =>
      rw [hq] at g3
      simp only [Bool.false_eq_true, if_false] at g3
      exact go false st'.tm skipAV .none hi' (by rw [hg]; exact ⟨t, yv, ht, g1', hq.symm⟩) (fun e => by cases e) (fun _ => ⟨rfl, rfl⟩) (fun e => by cases e) g3
    ·cases h

end

section
variable {Γ : Ctx} {P : Program} {base : Nat} {S : Nat → Nat → Prop} {w0 : W0} {n : Nt}

def utmAt : List Oper → List (HRec Γ) → Tm Γ → Nat → Tm Γ
 | o :: l, r :: rs, utm, k + 1 => utmAt l rs (putTm utm o.dst r.v) k
 | _, _, utm, _ => utm

theorem chain_len {all : List Oper} {eat M : List Nat} {tm0 : Tm Γ} {bx0 : Bx Γ} : ∀ {l : List Oper} {utm : Tm Γ} {nb : Bx Γ} {rs : List (HRec Γ)} {utm' : Tm Γ} {nb' : Bx Γ}, Chain P n all eat M tm0 bx0 l utm nb rs utm' nb' → rs.length = l.length
 | [], _, _, [], _, _, _ => rfl
 | _ :: _, _, _, _ :: _, _, _, h => congrArg (· + 1) (chain_len h.2.2.2)
 | [], _, _, _ :: _, _, _, h => h.elim
 | _ :: _, _, _, [], _, _, h => h.elim

theorem chain_get {all : List Oper} {eat M : List Nat} {tm0 : Tm Γ} {bx0 : Bx Γ} : ∀ {l : List Oper} {utm : Tm Γ} {nb : Bx Γ} {rs : List (HRec Γ)} {utm' : Tm Γ} {nb' : Bx Γ}, Chain P n all eat M tm0 bx0 l utm nb rs utm' nb' → ∀ (k : Nat) (o : Oper), l[k]? = some o → ∃ r, rs[k]? = some r ∧ RecOK P n all eat M tm0 bx0 o r ∧ r.utm = utmAt l rs utm k
 | o :: l, utm, nb, r :: rs, utm', nb', h, 0, o', hk => by
  simp at hk; subst hk
  exact ⟨r, rfl, h.2.2.1, h.1⟩
 | o :: l, utm, nb, r :: rs, utm', nb', h, k + 1, o', hk => by
  obtain ⟨r', h1, h2, h3⟩ := chain_get h.2.2.2 k o' (by simpa using hk)
  exact ⟨r', by simpa using h1, h2, h3⟩
 | [], _, _, _, _, _, _, k, o, hk => by simp at hk
 | _ :: _, _, _, [], _, _, h, _, _, _ => h.elim

theorem chain_end {all : List Oper} {eat M : List Nat} {tm0 : Tm Γ} {bx0 : Bx Γ} : ∀ {l : List Oper} {utm : Tm Γ} {nb : Bx Γ} {rs : List (HRec Γ)} {utm' : Tm Γ} {nb' : Bx Γ}, Chain P n all eat M tm0 bx0 l utm nb rs utm' nb' → utm' = utmAt l rs utm l.length
 | [], _, _, [], _, _, h => h.1
 | o :: l, utm, nb, r :: rs, utm', nb', h => by
  have h2 := chain_end h.2.2.2
  exact h2
 | [], _, _, _ :: _, _, _, h => h.elim
 | _ :: _, _, _, [], _, _, h => h.elim


def mutGet : List (Nat × List (Cell Γ)) → Nat → List (Cell Γ) → List (Cell Γ)
 | [], _, cs => cs
 | (s, x) :: l, d, cs => mutGet l d (bif s.beq d then x else cs)

def setBy (r : HRec Γ) (d : Nat) (cs : List (Cell Γ)) : List (Cell Γ) := match r.eff with
 | .set s off x => if s = d then setCells cs off x else cs
 | .muts _ l => mutGet l d cs
 | _ => cs

def hits (r : HRec Γ) (d : Nat) : Prop := match r.eff with
 | .set s _ _ => s = d
 | .muts _ l => ∃ x ∈ l, x.1 = d
 | _ => False

def curA : List (HRec Γ) → Nat → List (Cell Γ) → List (Cell Γ)
 | [], _, cs => cs
 | r :: rs, d, cs => curA rs d (setBy r d cs)

def curC (L : Nat → Bool) : List (HRec Γ) → Nat → Nat → List (Cell Γ) → List (Cell Γ)
 | [], _, _, cs => cs
 | r :: rs, j, d, cs => curC L rs (j + 1) d (if L j = true then setBy r d cs else cs)

theorem mutGet_no : ∀ (l : List (Nat × List (Cell Γ))) (d : Nat) (cs : List (Cell Γ)), (∀ x ∈ l, x.1 ≠ d) → mutGet l d cs = cs
 | [], _, _, _ => rfl
 | (s, x) :: l, d, cs, h => by
  have : s.beq d = false := by
   cases hb : s.beq d with
   | false => rfl
   | true => exact absurd (Nat.eq_of_beq_eq_true hb) (h (s, x) (by simp))
  rw [mutGet, this]
  exact mutGet_no l d cs fun y hy => h y (by simp [hy])

theorem mutGet_mem : ∀ (l : List (Nat × List (Cell Γ))) (d : Nat) (cs : List (Cell Γ)), (∃ x ∈ l, x.1 = d) → ∃ x ∈ l, x.1 = d ∧ mutGet l d cs = x.2
 | [], _, _, h => by obtain ⟨_, h, _⟩ := h; cases h
 | (s, y) :: l, d, cs, h => by
  by_cases hex : ∃ x ∈ l, x.1 = d
  ·obtain ⟨x, h1, h2, h3⟩ := mutGet_mem l d (bif s.beq d then y else cs) hex
   exact ⟨x, by simp [h1], h2, h3⟩
  ·obtain ⟨x, hx, he⟩ := h
   rcases List.mem_cons.1 hx with rfl | hx
   ·have e : s = d := he
    subst e
    refine ⟨_, List.mem_cons_self, rfl, ?_⟩
    rw [mutGet, Nat.beq_refl]
    exact mutGet_no l s y fun z hz e => hex ⟨z, hz, e⟩
   ·exact (hex ⟨x, hx, he⟩).elim

theorem mutNb_get : ∀ (l : List (Nat × List (Cell Γ))) (nb : Bx Γ) (d : Nat), bxGet (mutNb l nb) d = (bxGet nb d).map fun x => (x.1, mutGet l d x.2)
 | [], nb, d => by cases h : bxGet nb d <;> simp [mutNb, mutGet, h]
 | (s, y) :: l, nb, d => by
  rw [mutNb]
  split
  ·rename_i T old hb
   rw [mutNb_get l _ d]
   simp only [bxGet, mutGet]
   cases hs : Nat.beq s d with
   | true =>
    obtain rfl := Nat.eq_of_beq_eq_true hs
    rw [hb]; rfl
   | false => rfl
  ·rename_i hb
   rw [mutNb_get l nb d]
   simp only [mutGet]
   cases hs : Nat.beq s d with
   | true =>
    obtain rfl := Nat.eq_of_beq_eq_true hs
    rw [hb]; rfl
   | false => rfl

theorem setBy_id {r : HRec Γ} {d : Nat} {cs : List (Cell Γ)} (h : ¬ hits r d) : setBy r d cs = cs := by
 unfold setBy
 split
 ·rename_i s off x he
  split
  ·rename_i e; exact (h (by unfold hits; rw [he]; exact e)).elim
  ·rfl
 ·rename_i fr l he
  exact mutGet_no l d cs fun x hx e => h (by unfold hits; rw [he]; exact ⟨x, hx, e⟩)
 ·rfl

theorem curC_congr {L L' : Nat → Bool} {d : Nat} : ∀ (rs : List (HRec Γ)) (j : Nat) (cs : List (Cell Γ)), (∀ (i : Nat) (r : HRec Γ), rs[i]? = some r → hits r d → L (j + i) = L' (j + i)) → curC L rs j d cs = curC L' rs j d cs
 | [], _, _, _ => rfl
 | r :: rs, j, cs, h => by
  have e : (if L j = true then setBy r d cs else cs) = (if L' j = true then setBy r d cs else cs) := by
   by_cases hex : hits r d
   ·have := h 0 r rfl hex
    rw [Nat.add_zero] at this
    rw [this]
   ·rw [setBy_id hex]; simp
  rw [curC, curC, e]
  exact curC_congr rs (j + 1) _ fun i r' hi he => by have := h (i + 1) r' (by simpa using hi) he; rwa [show j + 1 + i = j + (i + 1) by omega]

theorem curC_none {L : Nat → Bool} {d : Nat} : ∀ (rs : List (HRec Γ)) (j : Nat) (cs : List (Cell Γ)), (∀ (i : Nat) (r : HRec Γ), rs[i]? = some r → hits r d → L (j + i) = false) → curC L rs j d cs = cs
 | [], _, _, _ => rfl
 | r :: rs, j, cs, h => by
  have e : (if L j = true then setBy r d cs else cs) = cs := by
   by_cases hex : hits r d
   ·have := h 0 r rfl hex
    rw [Nat.add_zero] at this
    rw [this]; rfl
   ·rw [setBy_id hex]; simp
  rw [curC, e]
  exact curC_none rs (j + 1) _ fun i r' hi he => by have := h (i + 1) r' (by simpa using hi) he; rwa [show j + 1 + i = j + (i + 1) by omega]

theorem curC_last {L L' : Nat → Bool} {d : Nat} : ∀ (rs : List (HRec Γ)) (j : Nat) (cs : List (Cell Γ)) (k : Nat) (r : HRec Γ), rs[k]? = some r → L (j + k) = false → L' (j + k) = true → (∀ i, i ≠ k → L' (j + i) = L (j + i)) → (∀ (i : Nat) (r' : HRec Γ), k < i → rs[i]? = some r' → hits r' d → L (j + i) = false) → curC L' rs j d cs = setBy r d (curC L rs j d cs)
 | [], _, _, _, _, h, _, _, _, _ => by simp at h
 | r0 :: rs, j, cs, 0, r, h, h1, h2, h3, h4 => by
  simp at h; subst h
  rw [Nat.add_zero] at h1 h2
  rw [curC, curC, if_pos h2, h1]
  simp only [Bool.false_eq_true, if_false]
  rw [curC_none rs (j + 1) cs fun i r' hi he => by have := h4 (i + 1) r' (by omega) (by simpa using hi) he; rwa [show j + 1 + i = j + (i + 1) by omega]]
  exact curC_none rs (j + 1) _ fun i r' hi he => by
   have := h4 (i + 1) r' (by omega) (by simpa using hi) he
   rw [show j + 1 + i = j + (i + 1) by omega, h3 (i + 1) (by omega)]; exact this
 | r0 :: rs, j, cs, k + 1, r, h, h1, h2, h3, h4 => by
  have e := h3 0 (by omega)
  rw [Nat.add_zero] at e
  rw [curC, curC, e]
  refine curC_last rs (j + 1) _ k r (by simpa using h) (by rwa [show j + 1 + k = j + (k + 1) by omega]) (by rwa [show j + 1 + k = j + (k + 1) by omega]) (fun i hi => ?_) (fun i r' hi hr he => ?_)
  ·rw [show j + 1 + i = j + (i + 1) by omega]; exact h3 (i + 1) (by omega)
  ·rw [show j + 1 + i = j + (i + 1) by omega]; exact h4 (i + 1) r' (by omega) (by simpa using hr) he

theorem curC_take {L : Nat → Bool} {d : Nat} : ∀ (rs : List (HRec Γ)) (j : Nat) (cs : List (Cell Γ)) (k : Nat), (∀ (i : Nat) (r' : HRec Γ), i < k → rs[i]? = some r' → hits r' d → L (j + i) = true) → (∀ (i : Nat) (r' : HRec Γ), k ≤ i → rs[i]? = some r' → hits r' d → L (j + i) = false) → curC L rs j d cs = curA (rs.take k) d cs
 | [], _, _, k, _, _ => by simp [curC, curA]
 | r0 :: rs, j, cs, 0, _, h2 => by
  rw [List.take_zero, curA]
  exact curC_none _ j cs fun i r' hi he => h2 i r' (by omega) hi he
 | r0 :: rs, j, cs, k + 1, h1, h2 => by
  have e : (if L j = true then setBy r0 d cs else cs) = setBy r0 d cs := by
   by_cases hex : hits r0 d
   ·have := h1 0 r0 (by omega) rfl hex
    rw [Nat.add_zero] at this
    rw [this]; rfl
   ·rw [setBy_id hex]; simp
  rw [curC, e, List.take_succ_cons, curA]
  exact curC_take rs (j + 1) _ k (fun i r' hi hr he => by have := h1 (i + 1) r' (by omega) (by simpa using hr) he; rwa [show j + 1 + i = j + (i + 1) by omega]) (fun i r' hi hr he => by have := h2 (i + 1) r' (by omega) (by simpa using hr) he; rwa [show j + 1 + i = j + (i + 1) by omega])

theorem curA_none {d : Nat} : ∀ (rs : List (HRec Γ)) (cs : List (Cell Γ)), (∀ (i : Nat) (r : HRec Γ), rs[i]? = some r → ¬ hits r d) → curA rs d cs = cs
 | [], _, _ => rfl
 | r :: rs, cs, h => by
  rw [curA, setBy_id (h 0 r rfl)]
  exact curA_none rs cs fun i r' hi => h (i + 1) r' (by simpa using hi)

theorem curA_all {L : Nat → Bool} {d : Nat} : ∀ (rs : List (HRec Γ)) (j : Nat) (cs : List (Cell Γ)), (∀ i, i < rs.length → L (j + i) = true) → curC L rs j d cs = curA rs d cs
 | [], _, _, _ => rfl
 | r :: rs, j, cs, h => by
  have := h 0 (by simp)
  rw [Nat.add_zero] at this
  rw [curC, curA, if_pos this]
  exact curA_all rs (j + 1) _ fun i hi => by have := h (i + 1) (by simpa using hi); rwa [show j + 1 + i = j + (i + 1) by omega]

theorem curA_skip {d : Nat} : ∀ (m : Nat) (rs : List (HRec Γ)) (cs : List (Cell Γ)), (∀ (i : Nat) (r : HRec Γ), i < m → rs[i]? = some r → ¬ hits r d) → curA rs d cs = curA (rs.drop m) d cs
 | 0, _, _, _ => rfl
 | m + 1, [], _, _ => rfl
 | m + 1, r :: rs, cs, h => by
  rw [curA, setBy_id (h 0 r (by omega) rfl), List.drop_succ_cons]
  exact curA_skip m rs cs fun i r' hi hr => h (i + 1) r' (by omega) (by simpa using hr)

theorem chain_take {all : List Oper} {eat M : List Nat} {tm0 : Tm Γ} {bx0 : Bx Γ} : ∀ {l : List Oper} {utm : Tm Γ} {nb : Bx Γ} {rs : List (HRec Γ)} {utm' : Tm Γ} {nb' : Bx Γ}, Chain P n all eat M tm0 bx0 l utm nb rs utm' nb' → ∀ (k : Nat) (r : HRec Γ), rs[k]? = some r → Chain P n all eat M tm0 bx0 (l.take k) utm nb (rs.take k) r.utm r.nb
 | [], _, _, [], _, _, _, k, r, hr => by simp at hr
 | o :: l, utm, nb, r0 :: rs, utm', nb', h, 0, r, hr => by
  simp at hr; subst hr
  exact ⟨h.1, h.2.1⟩
 | o :: l, utm, nb, r0 :: rs, utm', nb', h, k + 1, r, hr => by
  simp only [List.take_succ_cons]
  exact ⟨h.1, h.2.1, h.2.2.1, chain_take h.2.2.2 k r (by simpa using hr)⟩
 | [], _, _, _ :: _, _, _, h, _, _, _ => h.elim
 | _ :: _, _, _, [], _, _, h, _, _, _ => h.elim

theorem chain_nb {all : List Oper} {eat M : List Nat} {tm0 : Tm Γ} {bx0 : Bx Γ} : ∀ {l : List Oper} {utm : Tm Γ} {nb : Bx Γ} {rs : List (HRec Γ)} {utm' : Tm Γ} {nb' : Bx Γ}, Chain P n all eat M tm0 bx0 l utm nb rs utm' nb' → ∀ (s : Nat),
  (∀ T cs, bxGet nb' s = some (T, cs) → (∃ c0, bxGet nb s = some (T, c0) ∧ cs = curA rs s c0) ∨ ∃ (i : Nat) (o : Oper) (r : HRec Γ) (c0 : List (Cell Γ)), l[i]? = some o ∧ rs[i]? = some r ∧ o.dst = some s ∧ r.eff = .new T c0 ∧ cs = curA (rs.drop (i + 1)) s c0) ∧
  (bxGet nb' s = none → bxGet nb s = none ∧ ∀ (i : Nat) (o : Oper) (r : HRec Γ) (T : Nat) (cs : List (Cell Γ)), l[i]? = some o → rs[i]? = some r → o.dst = some s → r.eff ≠ .new T cs)
 | [], _, _, [], _, _, h, s => by
  obtain ⟨_, rfl⟩ := h
  exact ⟨fun T cs h => .inl ⟨cs, h, rfl⟩, fun h => ⟨h, fun i o r T cs hi => by simp at hi⟩⟩
 | o :: l, utm, nb, r :: rs, utm', nb', h, s => by
  obtain ⟨h1, h2⟩ := chain_nb h.2.2.2 s
  have hput : ∀ T cs, bxGet (nbPut o.dst r.eff nb) s = some (T, cs) → (∃ c0, bxGet nb s = some (T, c0) ∧ cs = setBy r s c0) ∨ (o.dst = some s ∧ r.eff = .new T cs) := by
   intro T cs hh
   cases he : r.eff with
   | new T' cs' =>
    have hid : ∀ c, setBy r s c = c := fun c => setBy_id fun e => by unfold hits at e; rw [he] at e; exact e
    rw [he] at hh
    cases hd : o.dst with
    | none => rw [hd] at hh; exact .inl ⟨cs, hh, (hid cs).symm⟩
    | some d =>
     rw [hd] at hh
     simp only [nbPut, bxGet] at hh
     cases hb : Nat.beq d s with
     | true => obtain rfl := Nat.eq_of_beq_eq_true hb; rw [hb] at hh; cases hh; exact .inr ⟨rfl, rfl⟩
     | false => rw [hb] at hh; exact .inl ⟨cs, hh, (hid cs).symm⟩
   | set s' off x =>
    rw [he] at hh
    simp only [nbPut] at hh
    cases hg : bxGet nb s' with
    | none =>
     rw [hg] at hh
     refine .inl ⟨cs, hh, ?_⟩
     unfold setBy; rw [he]
     simp only
     rw [if_neg]
     intro e; subst e; rw [hg] at hh; cases hh
    | some y =>
     obtain ⟨T', old⟩ := y
     rw [hg] at hh
     simp only [bxGet] at hh
     cases hb : Nat.beq s' s with
     | true =>
      obtain rfl := Nat.eq_of_beq_eq_true hb
      rw [hb] at hh; cases hh
      refine .inl ⟨old, hg, ?_⟩
      unfold setBy; rw [he]; simp
     | false =>
      rw [hb] at hh
      refine .inl ⟨cs, hh, ?_⟩
      unfold setBy; rw [he]
      simp only
      rw [if_neg]
      intro e; subst e; rw [Nat.beq_refl] at hb; cases hb
   | muts fr l1 =>
    rw [he] at hh
    simp only [nbPut, mutNb_get] at hh
    obtain ⟨x, hx, e⟩ := Option.map_eq_some_iff.1 hh
    obtain ⟨T', c0⟩ := x
    cases e
    exact .inl ⟨c0, hx, by unfold setBy; rw [he]⟩
   | _ => exact .inl ⟨cs, by rw [he] at hh; exact hh, (setBy_id fun e => by unfold hits at e; rw [he] at e; exact e).symm⟩
  refine ⟨fun T cs hh => ?_, fun hh => ?_⟩
  ·rcases h1 T cs hh with ⟨c1, h3, h5⟩ | ⟨i, o', r', c0, e1, e2, e3, e4, e5⟩
   ·rcases hput T c1 h3 with ⟨c0, h4, h6⟩ | ⟨e1, e2⟩
    ·exact .inl ⟨c0, h4, by rw [h5, h6]; rfl⟩
    ·exact .inr ⟨0, o, r, c1, rfl, rfl, e1, e2, h5⟩
   ·exact .inr ⟨i + 1, o', r', c0, by simpa using e1, by simpa using e2, e3, e4, e5⟩
  ·obtain ⟨h3, h4⟩ := h2 hh
   have hno : bxGet nb s = none ∧ ∀ T cs, o.dst = some s → r.eff ≠ .new T cs := by
    cases he : r.eff with
    | new T' cs' =>
     rw [he] at h3
     cases hd : o.dst with
     | none => rw [hd] at h3; exact ⟨h3, fun T cs e => by cases e⟩
     | some d =>
      rw [hd] at h3
      simp only [nbPut, bxGet] at h3
      cases hb : Nat.beq d s with
      | true => rw [hb] at h3; cases h3
      | false =>
       rw [hb] at h3
       refine ⟨h3, fun T cs e => ?_⟩
       cases e
       rw [Nat.beq_refl] at hb; cases hb
    | set s' off x =>
     rw [he] at h3
     simp only [nbPut] at h3
     refine ⟨?_, fun _ _ _ e => by cases e⟩
     cases hg : bxGet nb s' with
     | none => rw [hg] at h3; exact h3
     | some y =>
      obtain ⟨T', old⟩ := y
      rw [hg] at h3
      simp only [bxGet] at h3
      cases hb : Nat.beq s' s with
      | true => rw [hb] at h3; cases h3
      | false => rw [hb] at h3; exact h3
    | muts fr l1 =>
     rw [he] at h3
     simp only [nbPut, mutNb_get] at h3
     exact ⟨by simpa using h3, fun _ _ _ e => by cases e⟩
    | _ => exact ⟨by rw [he] at h3; exact h3, fun _ _ _ e => by cases e⟩
   refine ⟨hno.1, fun i o' r' T cs e1 e2 e3 => ?_⟩
   cases i with
   | zero => simp at e1 e2; subst e1 e2; exact hno.2 T cs e3
   | succ i => exact h4 i o' r' T cs (by simpa using e1) (by simpa using e2) e3
 | [], _, _, _ :: _, _, _, h, _ => h.elim
 | _ :: _, _, _, [], _, _, h, _ => h.elim

theorem utm_none : ∀ (l : List Oper) (rs : List (HRec Γ)) (utm : Tm Γ) (k t : Nat), (∀ (i : Nat) (o : Oper), i < k → l[i]? = some o → o.dst ≠ some t) → tmGet (utmAt l rs utm k) t = tmGet utm t
 | [], _, _, _, _, _ => by simp [utmAt]
 | _ :: _, [], _, _, _, _ => by simp [utmAt]
 | o :: l, r :: rs, utm, 0, t, _ => rfl
 | o :: l, r :: rs, utm, k + 1, t, h => by
  rw [utmAt, utm_none l rs _ k t fun i o' hi ho => h (i + 1) o' (by omega) (by simpa using ho)]
  have := h 0 o (by omega) rfl
  cases hd : o.dst with
  | none => rfl
  | some d =>
   simp only [putTm, tmGet]
   cases hb : Nat.beq d t with
   | true => rw [Nat.eq_of_beq_eq_true hb] at hd; exact absurd hd this
   | false => rfl

theorem utm_some : ∀ (l : List Oper) (rs : List (HRec Γ)) (utm : Tm Γ) (k t i : Nat) (o : Oper) (r : HRec Γ), i < k → l[i]? = some o → rs[i]? = some r → o.dst = some t → (∀ (j : Nat) (o' : Oper), l[j]? = some o' → o'.dst = some t → j = i) → tmGet (utmAt l rs utm k) t = r.v
 | [], _, _, _, _, _, _, _, _, h, _, _, _ => by simp at h
 | _ :: _, [], _, _, _, _, _, _, _, _, h, _, _ => by simp at h
 | _ :: _, _ :: _, _, 0, _, _, _, _, h, _, _, _, _ => by omega
 | o :: l, r :: rs, utm, k + 1, t, i, o', r', hi, ho, hr, hd, hu => by
  rw [utmAt]
  cases i with
  | zero =>
   simp at ho hr
   subst ho hr
   rw [utm_none l rs _ k t fun j o' _ ho' e => by have := hu (j + 1) o' (by simpa using ho') e; omega]
   rw [hd]
   simp [putTm, tmGet, Nat.beq_refl]
  | succ i =>
   exact utm_some l rs _ k t i o' r' (by omega) (by simpa using ho) (by simpa using hr) hd fun j o'' h1 h2 => by have := hu (j + 1) o'' (by simpa using h1) h2; omega


theorem okAt_get {o : Oper} {j : Nat} : ∀ (h : List Oper) (i0 : Nat), headOK1.okAt o j h i0 = true → ∀ (i : Nat) (x : Oper) (d : Nat), h[i]? = some x → x.dst = some d → (d ∈ opTmps o → onAll o (i0 + i) = true ∧ i0 + i < j) ∧ (i0 + i = j ∨ o.dst ≠ some d)
 | [], _, _, i, _, _, hx, _ => by simp at hx
 | y :: h, i0, hok, i, x, d, hx, hd => by
  simp only [headOK1.okAt, Bool.and_eq_true] at hok
  cases i with
  | zero =>
   simp at hx; subst hx
   rw [hd] at hok
   simp only [Bool.and_eq_true, Bool.or_eq_true, Bool.not_eq_true'] at hok
   obtain ⟨⟨h1, h2⟩, _⟩ := hok
   refine ⟨fun hm => ?_, ?_⟩
   ·rcases h1 with h1 | ⟨h1, h1'⟩
    ·simp [List.contains_eq_mem, hm] at h1
    ·exact ⟨h1, Nat.le_of_ble_eq_true h1'⟩
   ·rcases h2 with h2 | h2
    ·exact .inl (Nat.eq_of_beq_eq_true h2)
    ·refine .inr fun e => ?_
     rw [e] at h2
     simp [Nat.beq_refl] at h2
  | succ i =>
   have := okAt_get h (i0 + 1) hok.2 i x d (by simpa using hx) hd
   rwa [show i0 + 1 + i = i0 + (i + 1) by omega] at this

theorem headOK_get {h : List Oper} : ∀ (l : List Oper) (j0 : Nat), headOK h l j0 = true → ∀ (j : Nat) (o : Oper), l[j]? = some o → headOK1 h o (j0 + j) = true ∧ backOK o (j0 + j) = true
 | [], _, _, j, _, ho => by simp at ho
 | o :: l, j0, hok, j, o', ho => by
  simp only [headOK, Bool.and_eq_true] at hok
  cases j with
  | zero => simp at ho; subst ho; exact hok.1
  | succ j =>
   have := headOK_get l (j0 + 1) hok.2 j o' (by simpa using ho)
   rwa [show j0 + 1 + j = j0 + (j + 1) by omega] at this

structure HeadFacts (head : List Oper) : Prop where
 dist : ∀ (i j : Nat) (o o' : Oper) (d : Nat), head[i]? = some o → head[j]? = some o' → o.dst = some d → o'.dst = some d → i = j
 deps : ∀ (k i : Nat) (o x : Oper) (d : Nat), head[k]? = some o → head[i]? = some x → x.dst = some d → d ∈ opTmps o → onAll o i = true ∧ i < k
 guard : ∀ (k : Nat) (o : Oper) (g : Nat) (b : Bool), head[k]? = some o → o.guard = some (g, b) → onAll o g = true ∧ g < k
 back : ∀ (k : Nat) (o : Oper), head[k]? = some o → backOK o k = true
 one : ∀ (i j : Nat) (o o' : Oper) (p : Nat), head[i]? = some o → head[j]? = some o' → storeTo o.op = some p → storeTo o'.op = some p → i = j

theorem stOne_get {o : Oper} {j : Nat} : ∀ (h : List Oper) (i0 : Nat), stOne o j h i0 = true → ∀ (i : Nat) (x : Oper) (p : Nat), h[i]? = some x → storeTo o.op = some p → storeTo x.op = some p → i0 + i = j
 | [], _, _, i, _, _, hx, _, _ => by simp at hx
 | y :: h, i0, hok, i, x, p, hx, h1, h2 => by
  simp only [stOne, Bool.and_eq_true] at hok
  cases i with
  | zero =>
   simp at hx; subst hx
   have := hok.1
   rw [h1, h2] at this
   simp only [Nat.beq_refl, Bool.not_true, Bool.or_false] at this
   exact Nat.eq_of_beq_eq_true this
  | succ i =>
   have := stOne_get h (i0 + 1) hok.2 i x p (by simpa using hx) h1 h2
   omega

theorem storeTo_tmps {o : Oper} {p : Nat} (h : storeTo o.op = some p) : p ∈ opTmps o := by
 unfold storeTo at h
 split at h
 ·rename_i t p' x ho
  cases h
  simp [opTmps, ho, Op.operands]
 ·cases h

theorem headFacts {head : List Oper} (h : headOK head head 0 = true) : HeadFacts head := by
 have key : ∀ (j : Nat) (o : Oper), head[j]? = some o → headOK1 head o j = true ∧ backOK o j = true := fun j o ho => by
  have := headOK_get head 0 h j o ho
  rwa [Nat.zero_add] at this
 have split : ∀ (j : Nat) (o : Oper), head[j]? = some o → headOK1.okAt o j head 0 = true ∧ (match o.guard with | none => true | some (g, _) => (onAll o g).and (g.blt j)) = true := fun j o ho => by
  have := (key j o ho).1
  simp only [headOK1, Bool.and_eq_true] at this ⊢
  exact this.2
 have stone : ∀ (j : Nat) (o : Oper), head[j]? = some o → stOne o j head 0 = true := fun j o ho => by
  have := (key j o ho).1
  simp only [headOK1, Bool.and_eq_true] at this
  exact this.1.2
 refine ⟨fun i j o o' d hi hj hd hd' => ?_, fun k i o x d hk hi hd hm => ?_, fun k o g b hk hg => ?_, fun k o hk => (key k o hk).2, fun i j o o' p hi hj h1 h2 => by have := stOne_get head 0 (stone j o' hj) i o p hi h2 h1; omega⟩
 ·have := (okAt_get head 0 (split j o' hj).1 i o d hi hd).2
  rw [Nat.zero_add] at this
  rcases this with e | e
  ·exact e
  ·exact absurd hd' e
 ·have := (okAt_get head 0 (split k o hk).1 i x d hi hd).1 hm
  rwa [Nat.zero_add] at this
 ·have := (split k o hk).2
  rw [hg] at this
  simp only [Bool.and_eq_true] at this
  exact ⟨this.1, Nat.le_of_ble_eq_true this.2⟩


def gone (L : Nat → Bool) (rs : List (HRec Γ)) (d : Nat) : Prop := ∃ (k : Nat) (r : HRec Γ) (j : Nat), rs[k]? = some r ∧ L k = true ∧ r.eff = .app (some (d, j))

theorem AVRep.weak {q : Nat → Nat → Bool} {x : AV Γ} {y : Value} {μ : Mp} {w : World} (h : AVRep base S μ w x y) : AVRep base S μ w (roAV q x) y := by
 have H : Ext base q no1 no1 μ w μ w := ⟨Nat.le_refl _, fun _ _ _ _ => rfl, fun _ _ _ h => h, fun _ _ _ h => h, fun _ _ _ _ _ => rfl, fun _ _ _ _ h => h, fun _ _ _ _ _ _ => rfl⟩
 have := AVRep.ext H (fun s h => by cases h) h
 rwa [noPt_no] at this

theorem BoxRep.weak {q : Nat → Nat → Bool} {s T : Nat} {cs : List (Cell Γ)} {μ : Mp} {w : World} (h : BoxRep base S μ w s T cs) : BoxRep base S μ w s T (cs.map (roCell q)) := by
 have H : Ext base q no1 no1 μ w μ w := ⟨Nat.le_refl _, fun _ _ _ _ => rfl, fun _ _ _ h => h, fun _ _ _ h => h, fun _ _ _ _ _ => rfl, fun _ _ _ _ h => h, fun _ _ _ _ _ _ => rfl⟩
 exact h.ext H rfl rfl

theorem freeCell_ro {q : Nat → Bool} {p : Nat → Nat → Bool} (hp : ∀ d j, p d j = true → q d = true) {c : Cell Γ} (h : freeCell q c = true) : roCell p c = c := by
 have no : ∀ d j, (!(q d)) = true → p d j = false := fun d j h => by
  cases hh : p d j with
  | false => rfl
  | true => rw [hp d j hh] at h; cases h
 cases c with
 | row e xs o =>
  cases o with
  | tok d j => simp only [roCell, no d j h, cond_false]
  | _ => rfl
 | own e xs d j => simp only [roCell, no d j h, cond_false]
 | _ => rfl
theorem freeCells_ro {q : Nat → Bool} {p : Nat → Nat → Bool} (hp : ∀ d j, p d j = true → q d = true) : ∀ {cs : List (Cell Γ)}, cs.all (freeCell q) = true → cs.map (roCell p) = cs
 | [], _ => rfl
 | c :: cs, h => by
  simp only [List.all_cons, Bool.and_eq_true] at h
  rw [List.map_cons, freeCell_ro hp h.1, freeCells_ro hp h.2]
theorem freeFV_ro {q : Nat → Bool} {p : Nat → Nat → Bool} (hp : ∀ d j, p d j = true → q d = true) {x : FV Γ} (h : freeFV q x = true) : roFV p x = x := by
 cases x with
 | c x => simp only [roFV, freeCell_ro hp h]
 | agg cs => simp only [roFV, freeCells_ro hp h]
theorem freeFVs_ro {q : Nat → Bool} {p : Nat → Nat → Bool} (hp : ∀ d j, p d j = true → q d = true) : ∀ {cs : List (FV Γ)}, cs.all (freeFV q) = true → cs.map (roFV p) = cs
 | [], _ => rfl
 | c :: cs, h => by
  simp only [List.all_cons, Bool.and_eq_true] at h
  rw [List.map_cons, freeFV_ro hp h.1, freeFVs_ro hp h.2]
theorem freePt_ro {q : Nat → Bool} {p : Nat → Nat → Bool} (hp : ∀ d j, p d j = true → q d = true) {x : Pt Γ} (h : freePt q x = true) : roPt p x = x := by
 cases x with
 | ref cs => simp only [roPt, freeCells_ro hp h]
 | el e xs d j i o =>
  have : p d j = false := by
   cases hh : p d j with
   | false => rfl
   | true => have h2 := hp d j hh; simp only [freePt, h2] at h; cases h
  simp only [roPt, this, cond_false]
 | _ => rfl
theorem freePts_ro {q : Nat → Bool} {p : Nat → Nat → Bool} (hp : ∀ d j, p d j = true → q d = true) : ∀ {cs : List (Pt Γ)}, cs.all (freePt q) = true → cs.map (roPt p) = cs
 | [], _ => rfl
 | c :: cs, h => by
  simp only [List.all_cons, Bool.and_eq_true] at h
  rw [List.map_cons, freePt_ro hp h.1, freePts_ro hp h.2]
theorem freeAV_ro {q : Nat → Bool} {p : Nat → Nat → Bool} (hp : ∀ d j, p d j = true → q d = true) {x : AV Γ} (h : freeAV q x = true) : roAV p x = x := by
 cases x with
 | f x => simp only [roAV, freeFV_ro hp h]
 | tup l => simp only [roAV, freeFVs_ro hp h]
 | p x => simp only [roAV, freePt_ro hp h]
 | clo f qs => simp only [roAV, freePts_ro hp h]
 | u => rfl

theorem freeCell_nil (c : Cell Γ) : freeCell (hasKey []) c = true := by
 cases c with
 | row e xs o => cases o <;> rfl
 | _ => rfl
theorem freeFV_nil (x : FV Γ) : freeFV (hasKey []) x = true := by
 cases x with
 | c x => exact freeCell_nil x
 | agg cs => exact List.all_eq_true.2 fun x _ => freeCell_nil x
theorem freePt_nil (x : Pt Γ) : freePt (hasKey []) x = true := by
 cases x with
 | ref cs => exact List.all_eq_true.2 fun x _ => freeCell_nil x
 | _ => rfl
theorem freeAV_nil (x : AV Γ) : freeAV (hasKey []) x = true := by
 cases x with
 | f x => exact freeFV_nil x
 | tup l => exact List.all_eq_true.2 fun x _ => freeFV_nil x
 | p x => exact freePt_nil x
 | clo f qs => exact List.all_eq_true.2 fun x _ => freePt_nil x
 | u => rfl

theorem ownTok_ro {dst : Option Nat} {p : Nat → Nat → Bool} (hp : ∀ d j, p d j = true → dst ≠ some d) {x : AV Γ} (h : ownTokV dst x = true) : roAV p x = x := by
 unfold ownTokV at h
 split at h
 ·rename_i e xs d j
  cases dst with
  | none => cases h
  | some y =>
   obtain rfl := Nat.eq_of_beq_eq_true h
   have : p y j = false := by
    cases hh : p y j with
    | false => rfl
    | true => exact (hp y j hh rfl).elim
   simp only [roAV, roFV, roCell, this, cond_false]
 ·cases h

def hitE : Eff Γ → Nat → Nat → Bool
 | .app o => hitTok o
 | _ => no2

theorem rec_eat {all : List Oper} {eat M : List Nat} {tm0 : Tm Γ} {bx0 : Bx Γ} {o : Oper} {r : HRec Γ} (h : RecOK P n all eat M tm0 bx0 o r) {d j : Nat} (he : r.eff = .app (some (d, j))) : d ∈ eat ∧ d ∈ opTmps o := by
 cases hr : r.run with
 | false => have := (h.no hr).2; rw [he] at this; cases this
 | true =>
  have := h.eat hr
  rw [he] at this
  unfold eatOK at this
  split at this
  ·cases this
  ·simp only [Bool.and_eq_true] at this
   exact ⟨hasKey_mem.1 this.2.1, hasKey_mem.1 this.2.2⟩

theorem rec_val {all : List Oper} {eat M : List Nat} {tm0 : Tm Γ} {bx0 : Bx Γ} {o : Oper} {r : HRec Γ} (h : RecOK P n all eat M tm0 bx0 o r) : freeAV (hasKey eat) r.v = true ∨ ownTokV o.dst r.v = true := by
 cases hr : r.run with
 | false => rw [(h.no hr).1]; exact .inl rfl
 | true =>
  have := h.eat hr
  unfold eatOK at this
  split at this
  ·exact .inl (freeAV_nil _)
  ·simp only [Bool.and_eq_true, Bool.or_eq_true] at this
   exact this.1

theorem rec_quiet {all : List Oper} {eat M : List Nat} {tm0 : Tm Γ} {bx0 : Bx Γ} {o : Oper} {r : HRec Γ} (h : RecOK P n all eat M tm0 bx0 o r) {d0 : Nat} (hd : d0 ∈ eat) : (∀ d, ¬ hits r d) ∧ ∀ T cs, r.eff = .new T cs → cs.all (freeCell (hasKey eat)) = true := by
 cases hr : r.run with
 | false =>
  have := (h.no hr).2
  unfold hits
  rw [this]
  exact ⟨fun _ h => h, fun _ _ e => by cases e⟩
 | true =>
  have := h.eat hr
  unfold eatOK at this
  split at this
  ·cases hd
  ·rw [Bool.and_eq_true] at this
   have h2 := this.2
   unfold hits
   cases he : r.eff with
   | new T cs =>
    rw [he] at h2
    exact ⟨fun _ h => h, fun T' cs' e => by cases e; exact h2⟩
   | set s o x => rw [he] at h2; cases h2
   | muts f l => rw [he] at h2; cases h2
   | put d j e i x => rw [he] at h2; cases h2
   | rows f l => rw [he] at h2; cases h2
   | none => exact ⟨fun _ h => h, fun _ _ e => by cases e⟩
   | fresh => exact ⟨fun _ h => h, fun _ _ e => by cases e⟩
   | app o => exact ⟨fun _ h => h, fun _ _ e => by cases e⟩

structure EatFacts (eat : List Nat) (head : List Oper) (tm0 : Tm Γ) (nb0 bx0 : Bx Γ) : Prop where
 one : ∀ d ∈ eat, ∀ (i j : Nat) (x y : Oper), head[i]? = some x → head[j]? = some y → d ∈ opTmps x → d ∈ opTmps y → i = j
 guard : ∀ d ∈ eat, ∀ (k : Nat) (o : Oper) (g : Nat) (w : Bool) (x : Oper), head[k]? = some o → o.guard = some (g, w) → head[g]? = some x → x.dst ≠ some d
 tm : ∀ t, freeAV (hasKey eat) (tmGet tm0 t) = true
 nb : ∀ s T cs, bxGet nb0 s = some (T, cs) → cs.all (freeCell (hasKey eat)) = true
 bx : ∀ s T cs, bxGet bx0 s = some (T, cs) → cs.all (freeCell (hasKey eat)) = true

structure DInv (base : Nat) (S : Nat → Nat → Prop) (w0 : W0) (n : Nt) (eat : List Nat) (head : List Oper) (rs : List (HRec Γ)) (tm0 : Tm Γ) (nb0 bx0 : Bx Γ) (L : Nat → Bool) (a : Act) (w : World) (μ : Mp) : Prop where
 maps : MapsOK base μ w
 below : Bel base w0 w
 own : ∀ s g, μ.ρ s = some g → OwnBox base w0 s g
 keys : ∀ s g, w0.ρ s = some g → n.n ≤ s
 le : base ≤ w.heap.size
 defers : a.defers = n.df
 size : a.tmps.size = n.n
 town : ∀ d j g u, μ.τ d j = some (g, u) → OwnTok base w0 g
 fix : ∀ t v, w0.fix t = some v → hasKey n.fx t = true ∧ a.eval (.tmp t) = v
 gd : Good Γ base w0
 done : ∀ (i : Nat) (o : Oper) (r : HRec Γ), head[i]? = some o → rs[i]? = some r → L i = true → (∀ d, o.dst = some d → (¬ gone L rs d → AVRep base S μ w r.v (a.eval (.tmp d))) ∧ AVRep base S μ w (roAV (fun d' _ => hasKey eat d') r.v) (a.eval (.tmp d))) ∧ ∀ T cs d, r.eff = .new T cs → o.dst = some d → BoxRep base S μ w d T (curC L rs 0 d cs)
 rest : ∀ t, (∀ (i : Nat) (o : Oper), head[i]? = some o → o.dst = some t → L i = false) → AVRep base S μ w (tmGet tm0 t) (a.eval (.tmp t))
 bx : ∀ s T cs, bxGet bx0 s = some (T, cs) → BoxRep base S μ w s T cs
 mv : ∀ s T cs, bxGet nb0 s = some (T, cs) → BoxRep base S μ w s T (curC L rs 0 s cs)
 dom : ∀ s, bxGet bx0 s = none → bxGet nb0 s = none → (∀ (i : Nat) (o : Oper) (r : HRec Γ) (T : Nat) (cs : List (Cell Γ)), head[i]? = some o → rs[i]? = some r → L i = true → o.dst = some s → r.eff ≠ .new T cs) → μ.ρ s = none
 tok : ∀ (i : Nat) (o : Oper) (d j : Nat), head[i]? = some o → o.dst = some d → L i = false → μ.τ d j = none
 closed : ∀ (i j : Nat) (o : Oper), head[i]? = some o → L i = true → onAll o j = true → L j = true

theorem Ext.strong {p p' : Nat → Nat → Bool} {q i : Nat → Bool} {μ μ' : Mp} {w w' : World} (H : Ext base p q i μ w μ' w') (hp : ∀ d j, p d j = true → p' d j = true ∨ μ.τ d j = none) (hq : ∀ s, q s = true → μ.ρ s = none) {i' : Nat → Bool} (hi : ∀ s, i s = true → i' s = true ∨ μ.ρ s = none) : Ext base p' no1 i' μ w μ' w' where
 size := H.size
 cell := H.cell
 stab := H.stab
 box s g _ h := by
  cases hs : q s with
  | false => exact H.box s g hs h
  | true => rw [hq s hs] at h; cases h
 hbox s g _ hi' h := by
  cases hs : q s with
  | true => rw [hq s hs] at h; cases h
  | false =>
   cases hs' : i s with
   | true =>
    rcases hi s hs' with e | e
    ·rw [hi'] at e; cases e
    ·rw [e] at h; cases h
   | false => exact H.hbox s g hs hs' h
 tok d j v hn h := by
  cases hs : p d j with
  | false => exact H.tok d j v hs h
  | true =>
   rcases hp d j hs with e | e
   ·rw [hn] at e; cases e
   ·rw [e] at h; cases h
 htok d j g u hn h := by
  cases hs : p d j with
  | false => exact H.htok d j g u hs h
  | true =>
   rcases hp d j hs with e | e
   ·rw [hn] at e; cases e
   ·rw [e] at h; cases h

theorem rec_set {all : List Oper} {eat M : List Nat} {tm0 : Tm Γ} {bx0 : Bx Γ} {o : Oper} {r : HRec Γ} (h : RecOK P n all eat M tm0 bx0 o r) {s off : Nat} {x : List (Cell Γ)} (he : r.eff = .set s off x) : storeTo o.op = some s ∧ ∃ T old, bxGet r.nb s = some (T, old) ∧ (Γ.td T).isArr = false ∧ (hasKey M s = false ∨ s ∈ callKeys tm0 o) := by
 cases hr : r.run with
 | false => have := (h.no hr).2; rw [he] at this; cases this
 | true => have := (h.yes hr).2; rw [he] at this; exact this

theorem rec_muts {all : List Oper} {eat M : List Nat} {tm0 : Tm Γ} {bx0 : Bx Γ} {o : Oper} {r : HRec Γ} (h : RecOK P n all eat M tm0 bx0 o r) {fr : Bool} {l : List (Nat × List (Cell Γ))} (he : r.eff = .muts fr l) : storeTo o.op = none ∧ ∀ x ∈ l, x.1 ∈ callKeys tm0 o ∧ ∃ T old, bxGet r.nb x.1 = some (T, old) ∧ (Γ.td T).isArr = false := by
 cases hr : r.run with
 | false => have := (h.no hr).2; rw [he] at this; cases this
 | true => have := (h.yes hr).2; rw [he] at this; exact this

theorem rec_hits {all : List Oper} {eat M : List Nat} {tm0 : Tm Γ} {bx0 : Bx Γ} {o : Oper} {r : HRec Γ} (h : RecOK P n all eat M tm0 bx0 o r) {d : Nat} (hh : hits r d) : (storeTo o.op = some d ∧ hasKey M d = false) ∨ d ∈ callKeys tm0 o := by
 unfold hits at hh
 split at hh
 ·rename_i s off x he
  subst hh
  obtain ⟨h1, _, _, _, _, h2⟩ := rec_set h he
  exact h2.elim (fun h2 => .inl ⟨h1, h2⟩) .inr
 ·rename_i fr l he
  obtain ⟨x, hx, rfl⟩ := hh
  exact .inr ((rec_muts h he).2 x hx).1
 ·exact hh.elim

structure MvFacts (head : List Oper) (M : List Nat) (tm0 : Tm Γ) (nb0 bx0 : Bx Γ) : Prop where
 sub : ∀ (k : Nat) (o : Oper) (s : Nat), head[k]? = some o → s ∈ callKeys tm0 o → hasKey M s = true
 ord : ∀ (i j : Nat) (o o' : Oper) (s : Nat), i < j → head[i]? = some o → head[j]? = some o' → s ∈ callKeys tm0 o → s ∈ callKeys tm0 o' → onAll o' i = true
 free : ∀ (i : Nat) (o : Oper) (s : Nat), head[i]? = some o → o.dst = some s → hasKey M s = false
 nb : ∀ s, hasKey M s = false → bxGet nb0 s = none
 bx : ∀ s, hasKey M s = true → bxGet bx0 s = none

theorem bxGet_append : ∀ (a b : Bx Γ) (s : Nat), bxGet (a ++ b) s = match bxGet a s with | some x => some x | none => bxGet b s
 | [], b, s => rfl
 | (i, x) :: a, b, s => by
  simp only [List.cons_append, bxGet]
  cases Nat.beq i s with
  | true => rfl
  | false => exact bxGet_append a b s

theorem bxGet_keys (nb : Bx Γ) (s : Nat) : ∀ (ks : List Nat), bxGet (ks.filterMap fun s => (bxGet nb s).map fun x => (s, x)) s = if s ∈ ks then bxGet nb s else none
 | [] => rfl
 | k :: ks => by
  have ih := bxGet_keys nb s ks
  cases hb : bxGet nb k with
  | none =>
   rw [List.filterMap_cons]
   simp only [hb, Option.map_none]
   rw [ih]
   by_cases e : s = k
   ·subst e; simp [hb]
   ·simp [e]
  | some x =>
   rw [List.filterMap_cons]
   simp only [hb, Option.map_some, bxGet]
   cases hk : Nat.beq k s with
   | true => obtain rfl := Nat.eq_of_beq_eq_true hk; simp [hb]
   | false =>
    have e : s ≠ k := fun e => by subst e; rw [Nat.beq_refl] at hk; cases hk
    simp only [cond_false, ih, List.mem_cons, e, false_or]

theorem store_box {all head : List Oper} {eat M : List Nat} {nb0 bx0 : Bx Γ} {tmk tm0 utm' : Tm Γ} {nb' : Bx Γ} {rs : List (HRec Γ)} (F : HeadFacts head) (V : MvFacts head M tmk nb0 bx0) (hch : Chain P n all eat M tmk bx0 head tm0 nb0 rs utm' nb') {k : Nat} {o : Oper} {r : HRec Γ} (hk : head[k]? = some o) (hr : rs[k]? = some r) {s T : Nat} {cs : List (Cell Γ)}
  (hs : storeTo o.op = some s) (hM : hasKey M s = false) (hb : bxGet r.nb s = some (T, cs)) : ∃ (i : Nat) (x : Oper) (ri : HRec Γ), head[i]? = some x ∧ rs[i]? = some ri ∧ x.dst = some s ∧ ri.eff = .new T cs ∧ onAll o i = true := by
 have ht := chain_take hch k r hr
 rcases (chain_nb ht s).1 T cs hb with ⟨c0, e, _⟩ | ⟨i, x, ri, c0, e1, e2, e3, e4, e5⟩
 ·rw [V.nb s hM] at e; cases e
 ·rw [List.getElem?_take] at e1 e2
  have hik : i < k := by
   rcases Nat.lt_or_ge i k with h | h
   ·exact h
   ·rw [if_neg (by omega)] at e1; cases e1
  rw [if_pos hik] at e1 e2
  have : cs = c0 := by
   rw [e5]
   refine curA_none _ _ fun j r' hj he => ?_
   rw [List.getElem?_drop, List.getElem?_take] at hj
   split at hj
   ·rename_i hlt
    have hx : ∃ o', head[i + 1 + j]? = some o' := by
     have : i + 1 + j < head.length := Nat.lt_trans hlt (List.getElem?_eq_some_iff.1 hk).1
     exact ⟨_, List.getElem?_eq_getElem this⟩
    obtain ⟨o', ho'⟩ := hx
    obtain ⟨r'', q1, q2, _⟩ := chain_get hch _ o' ho'
    rw [hj] at q1; cases q1
    rcases rec_hits q2 he with ⟨he, _⟩ | he
    ·have := F.one _ _ o' o s ho' hk he hs
     omega
    ·have := V.sub _ o' s ho' he
     rw [hM] at this; cases this
   ·cases hj
  subst this
  exact ⟨i, x, ri, e1, e2, e3, e4, (F.deps k i o x s hk e1 e3 (storeTo_tmps hs)).1⟩

theorem moved_now {all head : List Oper} {eat M : List Nat} {nb0 bx0 : Bx Γ} {tmk tm0 utm' : Tm Γ} {nb' : Bx Γ} {rs : List (HRec Γ)} (F : HeadFacts head) (V : MvFacts head M tmk nb0 bx0) (hch : Chain P n all eat M tmk bx0 head tm0 nb0 rs utm' nb') {k : Nat} {o : Oper} {r : HRec Γ} (hk : head[k]? = some o) (hr : rs[k]? = some r) {L : Nat → Bool} (hL : L k = false) (hon : ∀ i, onAll o i = true → L i = true)
  (hcl : ∀ (i j : Nat) (o : Oper), head[i]? = some o → L i = true → onAll o j = true → L j = true) {s T : Nat} {cs : List (Cell Γ)} (hs : s ∈ callKeys tmk o) (hb : bxGet r.nb s = some (T, cs)) : ∃ c0, bxGet nb0 s = some (T, c0) ∧ cs = curC L rs 0 s c0 := by
 have hM := V.sub k o s hk hs
 have ht := chain_take hch k r hr
 rcases (chain_nb ht s).1 T cs hb with ⟨c0, e, e'⟩ | ⟨i, x, ri, c0, e1, e2, e3, e4, e5⟩
 ·refine ⟨c0, e, ?_⟩
  rw [e']
  have hkey : ∀ (i : Nat) (r' : HRec Γ), rs[i]? = some r' → hits r' s → ∃ o', head[i]? = some o' ∧ s ∈ callKeys tmk o' := fun i r' hi he => by
   have hx : ∃ o', head[i]? = some o' := by
    have : i < head.length := by rw [← chain_len hch]; exact (List.getElem?_eq_some_iff.1 hi).1
    exact ⟨_, List.getElem?_eq_getElem this⟩
   obtain ⟨o', ho'⟩ := hx
   obtain ⟨r'', q1, q2, _⟩ := chain_get hch i o' ho'
   rw [hi] at q1; cases q1
   rcases rec_hits q2 he with ⟨_, h⟩ | h
   ·rw [hM] at h; cases h
   ·exact ⟨o', ho', h⟩
  refine (curC_take rs 0 c0 k (fun i r' hi hr' he => ?_) (fun i r' hi hr' he => ?_)).symm
  ·obtain ⟨o', ho', hs'⟩ := hkey i r' hr' he
   rw [Nat.zero_add]
   exact hon i (V.ord i k o' o s hi ho' hk hs' hs)
  ·obtain ⟨o', ho', hs'⟩ := hkey i r' hr' he
   rw [Nat.zero_add]
   rcases Nat.lt_or_ge k i with hlt | hge
   ·cases hl : L i with
    | false => rfl
    | true =>
     have := hcl i k o' ho' hl (V.ord k i o o' s hlt hk ho' hs hs')
     rw [hL] at this; cases this
   ·have : i = k := by omega
    subst this; exact hL
 ·rw [List.getElem?_take] at e1
  split at e1
  ·have := V.free i x s e1 e3
   rw [hM] at this; cases this
  ·cases e1

def wrB : Eff Γ → Nat → Bool
 | .set x _ _, s => x.beq s
 | .muts _ l, s => l.any fun x => x.1.beq s
 | _, _ => false

theorem wrB_hits {r : HRec Γ} {s : Nat} (h : wrB r.eff s = true) : hits r s := by
 unfold hits
 unfold wrB at h
 split at h
 ·rename_i x off cs s' he
  rw [he]; exact Nat.eq_of_beq_eq_true h
 ·rename_i fr l s' he
  rw [he]
  obtain ⟨x, h1, h2⟩ := List.any_eq_true.1 h
  exact ⟨x, h1, Nat.eq_of_beq_eq_true h2⟩
 ·cases h

theorem noIx_ids {i : Nat → Bool} {μ : Mp} {w : World} (hb : ∀ s, i s = true → ∃ T cs, BoxRep (Γ := Γ) base S μ w s T cs ∧ (Γ.td T).isArr = false) {x : AV Γ} {y : Value} (h : AVRep base S μ w x y) : noPt (fun _ => false) i x = x := by
 have key : ∀ (p : Pt Γ) (v : Value), PtRep base S μ w p v → ptIn (fun _ => false) i p = false := by
  intro p v hp
  cases p with
  | ix s' o e xs n =>
   obtain ⟨g', _, cur', T', hg, hh, hT', _⟩ := hp
   show i s' = false
   cases hs : i s' with
   | false => rfl
   | true =>
    obtain ⟨T, cs, ⟨g, cur, h1, h2, _⟩, hT⟩ := hb s' hs
    rw [h1] at hg
    injection hg with hg
    subst hg
    rw [h2] at hh
    injection hh with hh
    injection hh with _ hh
    subst hh
    rw [hT] at hT'
    cases hT'
  | _ => rfl
 cases x with
 | p p => simp only [noPt, key p y h, cond_false]
 | clo f qs =>
  obtain ⟨vs, rfl, hr⟩ := h
  have : ∀ (qs : List (Pt Γ)) (vs : List Value), PtsRep base S μ w qs vs → qs.any (ptIn (fun _ => false) i) = false := by
   intro qs
   induction qs with
   | nil => intro _ _; rfl
   | cons p qs ih => intro vs hr; cases vs with
    | nil => exact hr.elim
    | cons v vs => simp [key p v hr.1, ih vs hr.2]
  simp only [noPt, this qs vs hr, cond_false]
 | _ => rfl

theorem dstep {all head : List Oper} {eat M : List Nat} {nb0 bx0 : Bx Γ} {tmk tm0 utm' : Tm Γ} {nb' : Bx Γ} {rs : List (HRec Γ)} (F : HeadFacts head) (V : MvFacts head M tmk nb0 bx0) (X : EatFacts eat head tm0 nb0 bx0) (hall : ∀ (i : Nat) (o : Oper), head[i]? = some o → all[i]? = some o) (hch : Chain P n all eat M tmk bx0 head tm0 nb0 rs utm' nb')
  (hfree : ∀ (i : Nat) (o : Oper) (d : Nat), head[i]? = some o → o.dst = some d → bxGet bx0 d = none) {Q : Exit → Act → World → Prop} {Nx : Act → World → Prop} {k : Nat} {o : Oper} {L L' : Nat → Bool} {a : Act} {w : World} {μ : Mp}
  (hk : head[k]? = some o) (hL : L k = false) (hL' : ∀ i, L' i = true ↔ (i = k ∨ L i = true)) (hon : ∀ i, onAll o i = true → L i = true) (D : DInv base S w0 n eat head rs tm0 nb0 bx0 L a w μ)
  (hN : ∀ a' w' μ', DInv base S w0 n eat head rs tm0 nb0 bx0 L' a' w' μ' → Nx a' w') : wpOp P all.toArray Q k Nx a w := by
 obtain ⟨r, hr, hrec, hutm⟩ := chain_get hch k o hk
 have ho : all.toArray[k]? = some o := by simpa using hall k o hk
 have hdn := hrec.dst
 have hds : ∀ d, o.dst = some d → d < a.tmps.size := fun d hd => by rw [hd] at hdn; rw [D.size]; exact dstIn_lt hdn
 have notL : ∀ i, L i = false → i ≠ k → L' i = false := fun i h1 h2 => by
  cases h : L' i with
  | false => rfl
  | true =>
   rcases (hL' i).1 h with e | e
   ·exact absurd e h2
   ·rw [h1] at e; cases e
 have subL : ∀ i, L' i = false → L i = false ∧ i ≠ k := fun i h => by
  refine ⟨?_, fun e => by rw [(hL' i).2 (.inl e)] at h; cases h⟩
  cases hl : L i with
  | false => rfl
  | true => rw [(hL' i).2 (.inr hl)] at h; cases h
 have hopof : ∀ (j : Nat) (r' : HRec Γ), rs[j]? = some r' → ∃ o', head[j]? = some o' ∧ RecOK P n all eat M tmk bx0 o' r' := fun j r' hj => by
  have hx : ∃ o', head[j]? = some o' := by
   have : j < head.length := by rw [← chain_len hch]; exact (List.getElem?_eq_some_iff.1 hj).1
   exact ⟨_, List.getElem?_eq_getElem this⟩
  obtain ⟨o', ho'⟩ := hx
  obtain ⟨r'', q1, q2, _⟩ := chain_get hch j o' ho'
  rw [hj] at q1; cases q1
  exact ⟨o', ho', q2⟩
 have ng : ∀ t, t ∈ opTmps o → ¬ gone L rs t := fun t ht hg => by
  obtain ⟨k', r', j, q1, q2, q3⟩ := hg
  obtain ⟨o', ho', h2⟩ := hopof k' r' q1
  obtain ⟨e1, e2⟩ := rec_eat h2 q3
  have := X.one t e1 k' k o' o ho' hk e2 ht
  subst this
  rw [hL] at q2; cases q2
 have gmono : ∀ d, ¬ gone L' rs d → ¬ gone L rs d := fun d h hg => by
  obtain ⟨k', r', j, q1, q2, q3⟩ := hg
  exact h ⟨k', r', j, q1, (hL' k').2 (.inr q2), q3⟩
 -- what a temporary that it looks at holds
 have seen : ∀ t, ¬ gone L rs t → (∀ (i : Nat) (x : Oper), head[i]? = some x → x.dst = some t → onAll o i = true ∧ i < k) → AVRep base S μ w (tmGet r.utm t) (a.eval (.tmp t)) := by
  intro t hgo ht
  rw [hutm]
  by_cases hex : ∃ (i : Nat) (x : Oper), head[i]? = some x ∧ x.dst = some t
  ·obtain ⟨i, x, hx, hd⟩ := hex
   obtain ⟨h1, h2⟩ := ht i x hx hd
   obtain ⟨ri, hri, _, _⟩ := chain_get hch i x hx
   rw [utm_some head rs tm0 k t i x ri h2 hx hri hd fun j o' hj hd' => F.dist j i o' x t hj hx hd' hd]
   exact ((D.done i x ri hx hri (hon i h1)).1 t hd).1 hgo
  ·rw [utm_none head rs tm0 k t fun i x _ hx hd => hex ⟨i, x, hx, hd⟩]
   exact D.rest t fun i x hx hd => (hex ⟨i, x, hx, hd⟩).elim
 have hwant : Region.wanted o (yielded all.toArray a.tmps) = r.run := by
  have hg := hrec.guard
  cases hgd : o.guard with
  | none => rw [hgd] at hg; simp only at hg; simp [Region.wanted, hgd, hg]
  | some gw =>
   obtain ⟨j, want⟩ := gw
   rw [hgd] at hg
   obtain ⟨t, yv, h1, h2, h3⟩ := hg
   obtain ⟨h4, h5⟩ := F.guard k o j want hk hgd
   have hb : yb (a.eval (.tmp t)) = yv := by
    -- the temporary is the guard's own
    have hj : ∃ xj, head[j]? = some xj := by
     have : j < head.length := Nat.lt_trans h5 (List.getElem?_eq_some_iff.1 hk).1
     exact ⟨_, List.getElem?_eq_getElem this⟩
    obtain ⟨xj, hxj⟩ := hj
    have hnth : ∀ (l : List Oper) (j : Nat), nth l j = l[j]? := by
     intro l
     induction l with
     | nil => intro j; simp [nth]
     | cons x l ih => intro j; cases j <;> simp [nth, ih]
    have hdj : xj.dst = some t := by
     unfold dstOf at h1
     rw [hnth, hall j xj hxj] at h1
     exact h1
    refine h2 _ _ _ _ _ (seen t (fun hg => ?_) fun i x hx hd => ?_)
    ·obtain ⟨k', r', j', q1, q2, q3⟩ := hg
     obtain ⟨o', ho', q4⟩ := hopof k' r' q1
     exact X.guard t (rec_eat q4 q3).1 k o j want xj hk hgd hxj hdj
    obtain rfl := F.dist i j x xj t hx hxj hd hdj
    exact ⟨h4, h5⟩
   rw [h3]
   simp only [Region.wanted, hgd, yielded_yb h1, hb]
 have hother : ∀ (d t : Nat) (y : Value), o.dst = some d → t ≠ d → (a.put o.dst y).eval (.tmp t) = a.eval (.tmp t) := fun d t y hd ht => by
  rw [hd, put_eval (hds d hd), if_neg ht]
 have hput : ∀ (t : Nat) (y : Value), o.dst ≠ some t → (a.put o.dst y).eval (.tmp t) = a.eval (.tmp t) := fun t y ht => by
  cases hd : o.dst with
  | none => rfl
  | some d => rw [← hd]; exact hother d t y hd fun e => ht (by rw [hd, e])
 have hsize : ∀ y, (a.put o.dst y).tmps.size = n.n := fun y => by cases o.dst <;> simp [Act.put, D.size]
 have hfix : ∀ (y : Value) (t : Nat) (v : Value), w0.fix t = some v → hasKey n.fx t = true ∧ (a.put o.dst y).eval (.tmp t) = v := fun y t v e => by
  obtain ⟨h1, h2⟩ := D.fix t v e
  refine ⟨h1, ?_⟩
  rw [hput t y fun hd => ?_]
  ·exact h2
  ·rw [hd] at hdn
   simp only [aops.dstIn, Bool.and_eq_true, Bool.not_eq_true'] at hdn
   rw [h1] at hdn
   cases hdn.2
 have hdef : ∀ y, (a.put o.dst y).defers = n.df := fun y => by cases o.dst <;> exact D.defers
 have hclosed : ∀ (i j : Nat) (x : Oper), head[i]? = some x → L' i = true → onAll x j = true → L' j = true := fun i j x hx hi hj => by
  rcases (hL' i).1 hi with rfl | hl
  ·rw [hk] at hx; cases hx
   exact (hL' j).2 (.inr (hon j hj))
  ·exact (hL' j).2 (.inr (D.closed i j x hx hl hj))
 have ccong : ∀ (d : Nat) (cs : List (Cell Γ)), ¬ hits r d → curC L' rs 0 d cs = curC L rs 0 d cs := fun d cs hne => by
  refine curC_congr rs 0 cs fun i r' hi he => ?_
  rw [Nat.zero_add]
  by_cases e : i = k
  ·subst e; rw [hr] at hi; cases hi; exact (hne he).elim
  ·cases hl : L i with
   | true => exact (hL' i).2 (.inr hl)
   | false => exact notL i hl e
 unfold wpOp
 rw [ho]
 simp only [hwant]
 cases hrun : r.run with
 | false =>
  simp only [Bool.false_eq_true, if_false]
  obtain ⟨hv, he⟩ := hrec.no hrun
  have hnh : ∀ d, ¬ hits r d := fun d e' => by unfold hits at e'; rw [he] at e'; exact e'
  refine hN _ w μ ⟨D.maps, D.below, D.own, D.keys, D.le, hdef _, hsize _, D.town, hfix _, D.gd, fun i x ri hx hri hLi => ?_, fun t ht => ?_, D.bx, fun s T cs hs => by rw [ccong s cs (hnh s)]; exact D.mv s T cs hs, fun s hs hs2 hno => ?_, fun i x d j hx hd hLi => ?_, hclosed⟩
  ·rcases (hL' i).1 hLi with rfl | hl
   ·rw [hk] at hx; cases hx
    rw [hr] at hri; cases hri
    exact ⟨fun d hd => by rw [hv, hd, put_eval (hds d hd), if_pos rfl]; exact ⟨fun _ => rfl, rfl⟩, fun T cs d e _ => by rw [he] at e; cases e⟩
   ·obtain ⟨g1, g2⟩ := D.done i x ri hx hri hl
    refine ⟨fun d hd => ?_, fun T cs d e hd => by rw [ccong d cs (hnh d)]; exact g2 T cs d e hd⟩
    rw [hput d _ fun e => ?_]
    ·exact ⟨fun hg => (g1 d hd).1 (gmono d hg), (g1 d hd).2⟩
    ·have := F.dist i k x o d hx hk hd e; subst this; rw [hL] at hl; cases hl
  ·rw [hput t _ fun e => ?_]
   ·exact D.rest t fun i x hx hd => (subL i (ht i x hx hd)).1
   ·have := ht k o hk e; rw [(hL' k).2 (.inl rfl)] at this; cases this
  ·exact D.dom s hs hs2 fun i x ri T cs hx hri hl hd => hno i x ri T cs hx hri ((hL' i).2 (.inr hl)) hd
  ·exact D.tok i x d j hx hd (subL i hLi).1
 | true =>
  simp only [if_true]
  refine .inl ?_
  obtain ⟨hsem, hq⟩ := hrec.yes hrun
  have huni : ∀ (s : Nat), storeTo o.op = some s → hasKey M s = false → ∀ (j : Nat) (r' : HRec Γ), rs[j]? = some r' → hits r' s → j = k := fun s h1 h4 j r' hj he' => by
   obtain ⟨o', ho', q2⟩ := hopof j r' hj
   rcases rec_hits q2 he' with ⟨h, _⟩ | h
   ·exact F.one j k o' o s ho' hk h h1
   ·have := V.sub j o' s ho' h
    rw [h4] at this; cases this
  -- the box that it writes
  have hset : ∀ s off x, r.eff = .set s off x → hasKey M s = false → ∃ (i : Nat) (y : Oper) (ri : HRec Γ) (T : Nat) (cs : List (Cell Γ)), head[i]? = some y ∧ rs[i]? = some ri ∧ y.dst = some s ∧ ri.eff = .new T cs ∧ L i = true ∧ i ≠ k ∧ bxGet (nbOf M tmk o r.nb ++ bx0) s = some (T, cs) ∧ (Γ.td T).isArr = false ∧ BoxRep base S μ w s T cs ∧
    (∀ (j : Nat) (r' : HRec Γ), rs[j]? = some r' → hits r' s → j = k) ∧ hasKey M s = false := fun s off x he h4 => by
   obtain ⟨h1, T, cs, h2, h3, _⟩ := rec_set hrec he
   obtain ⟨i, y, ri, e1, e2, e3, e4, e5⟩ := store_box F V hch hk hr h1 h4 h2
   have huniq := huni s h1 h4
   have hli := hon i e5
   have hne : i ≠ k := fun e => by rw [e, hL] at hli; cases hli
   refine ⟨i, y, ri, T, cs, e1, e2, e3, e4, hli, hne, ?_, h3, ?_, huniq, h4⟩
   ·simp only [nbOf, h1, h2, h4, Bool.false_and, cond_false, List.cons_append, bxGet, Nat.beq_refl, cond_true]
   ·have := (D.done i y ri e1 e2 hli).2 T cs s e4 e3
    rwa [curC_none rs 0 cs fun j r' hj he' => by rw [huniq j r' hj he', Nat.zero_add]; exact hL] at this
  -- the boxes that a call writes
  have hmv : ∀ (s T : Nat) (old : List (Cell Γ)), s ∈ callKeys tmk o → (storeTo o.op = none ∨ storeTo o.op = some s) → bxGet r.nb s = some (T, old) → hasKey M s = true ∧ ∃ c0, bxGet nb0 s = some (T, c0) ∧ bxGet (nbOf M tmk o r.nb ++ bx0) s = some (T, curC L rs 0 s c0) ∧
    ∀ (j : Nat) (r' : HRec Γ), k < j → rs[j]? = some r' → hits r' s → L j = false := fun s T old k1 hst k2 => by
   have hM := V.sub k o s hk k1
   obtain ⟨c0, q1, q2⟩ := moved_now F V hch hk hr hL hon D.closed k1 k2
   refine ⟨hM, c0, q1, ?_, fun j r' hj hr' he' => ?_⟩
   ·rw [bxGet_append]
    have : bxGet (nbOf M tmk o r.nb) s = some (T, old) := by
     unfold nbOf
     rcases hst with hst | hst
     ·rw [hst]
      simp only
      rw [bxGet_keys, if_pos k1, k2]
     ·rw [hst]
      simp only [hasKey_mem.2 k1, Bool.not_true, Bool.and_false, cond_false, k2, bxGet, Nat.beq_refl, cond_true]
    rw [this, q2]
   ·obtain ⟨o', ho', h2⟩ := hopof j r' hr'
    rcases rec_hits h2 he' with ⟨_, h⟩ | h
    ·rw [hM] at h; cases h
    ·cases hl : L j with
     | false => rfl
     | true =>
      have := D.closed j k o' ho' hl (V.ord k j o o' s hj hk ho' k1 h)
      rw [hL] at this; cases this
  have hmut : ∀ fr l, r.eff = .muts fr l → ∀ x ∈ l, hasKey M x.1 = true ∧ ∃ T c0, bxGet nb0 x.1 = some (T, c0) ∧ (Γ.td T).isArr = false ∧ bxGet (nbOf M tmk o r.nb ++ bx0) x.1 = some (T, curC L rs 0 x.1 c0) ∧
    ∀ (j : Nat) (r' : HRec Γ), k < j → rs[j]? = some r' → hits r' x.1 → L j = false := fun fr l he x hx => by
   obtain ⟨k0, k1⟩ := rec_muts hrec he
   obtain ⟨k1, T, old, k2, k3⟩ := k1 x hx
   obtain ⟨hM, c0, q1, q2, q3⟩ := hmv x.1 T old k1 (.inl k0) k2
   exact ⟨hM, T, c0, q1, k3, q2, q3⟩
  have hsetM : ∀ s off x, r.eff = .set s off x → hasKey M s = true → s ∈ callKeys tmk o ∧ ∃ T c0, bxGet nb0 s = some (T, c0) ∧ (Γ.td T).isArr = false ∧ bxGet (nbOf M tmk o r.nb ++ bx0) s = some (T, curC L rs 0 s c0) ∧
    ∀ (j : Nat) (r' : HRec Γ), k < j → rs[j]? = some r' → hits r' s → L j = false := fun s off x he hM => by
   obtain ⟨k0, T, old, k2, k3, k4⟩ := rec_set hrec he
   have k1 : s ∈ callKeys tmk o := k4.elim (fun h => by rw [hM] at h; cases h) id
   obtain ⟨_, c0, q1, q2, q3⟩ := hmv s T old k1 (.inr k0) k2
   exact ⟨k1, T, c0, q1, k3, q2, q3⟩
  have hbx : ∀ s T cs, bxGet (nbOf M tmk o r.nb ++ bx0) s = some (T, cs) → BoxRep base S μ w s T cs := fun s T cs hs => by
   rw [bxGet_append] at hs
   split at hs
   ·rename_i y hy
    cases hs
    unfold nbOf at hy
    split at hy
    ·rename_i p hp
     cases hM : (hasKey M p).and (!(hasKey (callKeys tmk o) p)) with
     | true => rw [hM] at hy; cases hy
     | false =>
      rw [hM] at hy
      simp only [cond_false] at hy
      split at hy
      ·rename_i z hz
       simp only [bxGet] at hy
       cases hb : Nat.beq p s with
       | false => rw [hb] at hy; cases hy
       | true =>
        obtain rfl := Nat.eq_of_beq_eq_true hb
        rw [hb] at hy; cases hy
        cases hM' : hasKey M p with
        | true =>
         rw [hM'] at hM
         have hm : p ∈ callKeys tmk o := hasKey_mem.1 (by simpa using hM)
         obtain ⟨c0, q1, q2⟩ := moved_now F V hch hk hr hL hon D.closed hm hz
         rw [q2]; exact D.mv p T c0 q1
        | false =>
        have hM := hM'
        obtain ⟨i, y, ri, e1, e2, e3, e4, e5⟩ := store_box F V hch hk hr hp hM hz
        have := (D.done i y ri e1 e2 (hon i e5)).2 T cs p e4 e3
        rwa [curC_none rs 0 cs fun j r' hj he' => by rw [huni p hp hM j r' hj he', Nat.zero_add]; exact hL] at this
      ·cases hy
    ·rw [bxGet_keys] at hy
     split at hy
     ·rename_i hm
      obtain ⟨c0, q1, q2⟩ := moved_now F V hch hk hr hL hon D.closed hm hy
      rw [q2]; exact D.mv s T c0 q1
     ·cases hy
   ·exact D.bx s T cs hs
  refine hsem base S w0 a w μ ⟨D.maps, D.below, D.own, D.town, D.le, fun x hx => ?_, hbx, D.gd⟩ Nx Q fun y w' μ' H => ?_
  ·cases x with
   | const v => exact constAV_rep v
   | global g => trivial
   | func f => exact ⟨[], rfl, trivial⟩
   | tmp t =>
    have htm : t ∈ opTmps o := by
     simp only [opTmps, List.mem_filterMap]
     exact ⟨.tmp t, by simpa using hx, rfl⟩
    exact fnClo_rep ((hrec.imp t).at (seen t (ng t htm) fun i x hx' hd => F.deps k i o x t hk hx' hd htm))
  ·have hp : ∀ d j, pE o.dst r.eff d j = true → hitE r.eff d j = true ∨ μ.τ d j = none := fun d j h => by
    have hd : hitE r.eff d j = true ∨ o.dst = some d := by
     have htk : isTok o.dst d j = true → o.dst = some d := fun h => by
      unfold isTok at h
      split at h
      ·rename_i x hx; rw [Nat.eq_of_beq_eq_true h] at hx; exact hx
      ·cases h
     cases he : r.eff with
     | app o' =>
      rw [he] at h
      simp only [pE, Bool.or_eq_true] at h
      exact h.elim (fun h => .inr (htk h)) .inl
     | fresh => rw [he] at h; exact .inr (htk h)
     | muts fr l =>
      rw [he] at h
      simp only [pE] at h
      cases fr with
      | true => exact .inr (htk h)
      | false => cases h
     | put d0 j0 e i x => rw [he] at hq; exact hq.elim
     | rows fr l => rw [he] at hq; exact hq.elim
     | _ => rw [he] at h; cases h
    rcases hd with hd | hd
    ·exact .inl hd
    ·exact .inr (D.tok k o d j hk hd hL)
   have hρ : ∀ s, o.dst = some s → μ.ρ s = none := fun s hd => D.dom s (hfree k o s hk hd) (V.nb s (V.free k o s hk hd)) fun i x ri T cs hx _ hl hd' => by
    have := F.dist i k x o s hx hk hd' hd; subst this; rw [hL] at hl; cases hl
   have hqn : ∀ s, qE o.dst r.eff s = true → μ.ρ s = none := fun s h => by
    cases he : r.eff with
    | new T cs =>
     rw [he] at h
     simp only [qE] at h
     split at h
     ·rename_i x hx; rw [Nat.eq_of_beq_eq_true h] at hx; exact hρ s hx
     ·cases h
    | _ => rw [he] at h; cases h
   have hin : ∀ s, iE o.dst r.eff s = true → wrB r.eff s = true ∨ μ.ρ s = none := fun s h => by
    cases he : r.eff with
    | new T cs =>
     rw [he] at h
     simp only [iE] at h
     split at h
     ·rename_i x hx; rw [Nat.eq_of_beq_eq_true h] at hx; exact .inr (hρ s hx)
     ·cases h
    | set x off cs => rw [he] at h; exact .inl h
    | muts fr l => rw [he] at h; exact .inl h
    | put d j e i x => rw [he] at hq; exact hq.elim
    | _ => rw [he] at h; cases h
   have hx := H.ext.strong hp hqn hin
   have hwr : ∀ s, wrB r.eff s = true → ∃ T cs, BoxRep base S μ w s T cs ∧ (Γ.td T).isArr = false := fun s h => by
    cases he : r.eff with
    | set p off cs =>
     rw [he] at h
     obtain rfl := Nat.eq_of_beq_eq_true h
     cases hM : hasKey M p with
     | true =>
      obtain ⟨_, T, c0, q1, q2, _⟩ := hsetM p off cs he hM
      exact ⟨T, _, D.mv _ T c0 q1, q2⟩
     | false =>
     obtain ⟨_, _, _, T, cs', _, _, _, _, _, _, _, q1, q2, _⟩ := hset p off cs he hM
     exact ⟨T, cs', q2, q1⟩
    | muts fr l =>
     rw [he] at h
     simp only [wrB, List.any_eq_true] at h
     obtain ⟨x, hx', hb⟩ := h
     obtain rfl := Nat.eq_of_beq_eq_true hb
     obtain ⟨_, T, c0, q1, q2, _⟩ := hmut fr l he x hx'
     exact ⟨T, _, D.mv _ T c0 q1, q2⟩
    | _ => rw [he] at h; cases h
   have hitq : ∀ d j, hitE r.eff d j = true → hasKey eat d = true ∧ r.eff = .app (some (d, j)) := fun d j h => by
    cases he : r.eff with
    | app o' =>
     rw [he] at h
     have h : hitTok o' d j = true := h
     cases o' with
     | none => cases h
     | some t =>
      obtain ⟨d', j'⟩ := t
      simp only [hitTok, sameTok, Bool.and_eq_true] at h
      obtain rfl := Nat.eq_of_beq_eq_true h.1
      obtain rfl := Nat.eq_of_beq_eq_true h.2
      exact ⟨hasKey_mem.2 (rec_eat hrec he).1, rfl⟩
    | _ => rw [he] at h; cases h
   have keep : ∀ (x : AV Γ) (z : Value), roAV (hitE r.eff) x = x → AVRep base S μ w x z → AVRep base S μ' w' x z := fun x z hro h => by
    have := AVRep.ext hx (fun s h => by cases h) h
    rw [hro] at this
    rwa [show noPt no1 (wrB r.eff) x = x from noIx_ids hwr h] at this
   have hfree' : ∀ x : AV Γ, freeAV (hasKey eat) x = true → roAV (hitE r.eff) x = x := fun x h => freeAV_ro (fun d j h => (hitq d j h).1) h
   -- what a box holds has no token that is taken over
   have hnoB : ∀ (cs : List (Cell Γ)), ((∃ d, d ∈ eat) → cs.all (freeCell (hasKey eat)) = true) → cs.map (roCell (hitE r.eff)) = cs := fun cs h => by
    by_cases hex : ∃ d, d ∈ eat
    ·exact freeCells_ro (fun d j h => (hitq d j h).1) (h hex)
    ·rw [show (hitE r.eff) = no2 from ?_, roCells_no]
     funext d j
     cases hh : hitE r.eff d j with
     | false => rfl
     | true => exact (hex ⟨d, hasKey_mem.1 (hitq d j hh).1⟩).elim
   have hcurF : ∀ (s : Nat) (c0 : List (Cell Γ)), ((∃ d, d ∈ eat) → c0.all (freeCell (hasKey eat)) = true) → (curC L rs 0 s c0).map (roCell (hitE r.eff)) = curC L rs 0 s c0 := fun s c0 h => hnoB _ fun hex => by
    obtain ⟨d0, hd0⟩ := hex
    rw [curC_none rs 0 c0 fun j r' hj he' => ?_]
    ·exact h ⟨d0, hd0⟩
    ·obtain ⟨o', ho', q2⟩ := hopof j r' hj
     exact ((rec_quiet q2 hd0).1 s he').elim
   have keepB : ∀ (s T : Nat) (cs : List (Cell Γ)), ¬ hits r s → cs.map (roCell (hitE r.eff)) = cs → BoxRep base S μ w s T cs → BoxRep base S μ' w' s T cs := fun s T cs hne hro h => by
    have := h.ext hx rfl (by
     cases hb : wrB r.eff s with
     | false => rfl
     | true => exact (hne (wrB_hits hb)).elim)
    rwa [hro] at this
   have hown' : ∀ s g, μ'.ρ s = some g → OwnBox base w0 s g := fun s g e => by
    rcases H.own s g e with e1 | ⟨e1, e2⟩
    ·exact D.own s g e1
    ·refine .inl ⟨?_, e2⟩
     cases hr : w0.ρ s with
     | none => rfl
     | some g' => have h1 := D.keys s g' hr; exact absurd (hds s e1) (by rw [D.size]; exact Nat.not_lt.2 h1)
   -- what a box that it writes holds
   have hwas : ∀ (s T : Nat) (c0 : List (Cell Γ)), bxGet nb0 s = some (T, c0) → BoxRep base S μ' w' s T (curC L' rs 0 s c0) := fun s T c0 hs => by
    by_cases hh : hits r s
    ·cases he : r.eff with
     | set p off cs =>
      have hh' := hh
      unfold hits at hh'; rw [he] at hh'
      obtain rfl : p = s := hh'
      cases hM : hasKey M p with
      | false => rw [V.nb _ hM] at hs; cases hs
      | true =>
       obtain ⟨_, T', c0', q1, q2, q3, q4⟩ := hsetM p off cs he hM
       rw [hs] at q1; cases q1
       rw [curC_last (L := L) (L' := L') rs 0 c0 k r hr (by rw [Nat.zero_add]; exact hL) (by rw [Nat.zero_add]; exact (hL' k).2 (.inl rfl)) (fun i hi => ?_) (fun i r' hi hr' he' => by rw [Nat.zero_add]; exact q4 i r' hi hr' he')]
       ·have e : setBy r p (curC L rs 0 p c0) = setCells (curC L rs 0 p c0) off cs := by
         unfold setBy; rw [he]; simp
        rw [e]
        exact H.set p off cs he T _ q3
       ·rw [Nat.zero_add]
        cases hl : L i with
        | true => exact (hL' i).2 (.inr hl)
        | false => exact notL i hl hi
     | muts fr l =>
      have hh' := hh
      unfold hits at hh'; rw [he] at hh'
      have hh' : ∃ x ∈ l, x.1 = s := hh'
      obtain ⟨x, hx1, rfl, hx2⟩ := mutGet_mem l s (curC L rs 0 s c0) hh'
      obtain ⟨hM, T', c0', q1, q2, q3, q4⟩ := hmut fr l he x hx1
      rw [hs] at q1; cases q1
      rw [curC_last (L := L) (L' := L') rs 0 c0 k r hr (by rw [Nat.zero_add]; exact hL) (by rw [Nat.zero_add]; exact (hL' k).2 (.inl rfl)) (fun i hi => ?_) (fun i r' hi hr' he' => by rw [Nat.zero_add]; exact q4 i r' hi hr' he')]
      ·have e : setBy r x.1 (curC L rs 0 x.1 c0) = x.2 := by
        unfold setBy; rw [he]; exact hx2
       rw [e]
       exact H.muts fr l he x hx1 T _ q3
      ·rw [Nat.zero_add]
       cases hl : L i with
       | true => exact (hL' i).2 (.inr hl)
       | false => exact notL i hl hi
     | _ => unfold hits at hh; rw [he] at hh; exact hh.elim
    ·rw [ccong s c0 hh]
     exact keepB s T _ hh (hcurF s c0 fun _ => X.nb s T c0 hs) (D.mv s T c0 hs)
   refine hN _ w' μ' ⟨H.maps, H.below, hown', D.keys, Nat.le_trans D.le hx.size, hdef _, hsize _, H.town, hfix _, D.gd, fun i x ri hx' hri hLi => ?_, fun t ht => ?_, fun s T cs hs => keepB s T cs (fun hh => by
    rcases rec_hits hrec hh with ⟨h1, h2⟩ | h1
    ·cases he : r.eff with
     | set p off cs' =>
      unfold hits at hh; rw [he] at hh
      have hh : p = s := hh
      subst hh
      obtain ⟨i, y, _, _, _, q1, _, q2, _⟩ := hset p off cs' he h2
      rw [hfree i y _ q1 q2] at hs; cases hs
     | muts fr l =>
      unfold hits at hh; rw [he] at hh
      obtain ⟨x, hx1, rfl⟩ := hh
      have := (hmut fr l he x hx1).1
      rw [h2] at this; cases this
     | _ => unfold hits at hh; rw [he] at hh; exact hh.elim
    ·rw [V.bx s (V.sub k o s hk h1)] at hs; cases hs) (hnoB _ fun _ => X.bx s T cs hs) (D.bx s T cs hs), hwas, fun s hs hs2 hno => ?_, fun i x d j hx' hd hLi => ?_, hclosed⟩
   ·rcases (hL' i).1 hLi with rfl | hl
    ·rw [hk] at hx'; cases hx'
     rw [hr] at hri; cases hri
     refine ⟨fun d hd => ?_, fun T cs d e hd => ?_⟩
     ·rw [hd, put_eval (hds d hd), if_pos rfl]; exact ⟨fun _ => H.val, H.val.weak⟩
     ·obtain ⟨d', hd', hbx⟩ := H.new T cs e
      rw [hd] at hd'; cases hd'
      rw [curC_none rs 0 cs fun j r' hj he' => ?_]
      ·exact hbx
      rw [Nat.zero_add]
      obtain ⟨o', ho', q2⟩ := hopof j r' hj
      rcases rec_hits q2 he' with ⟨h, _⟩ | h
      ·have hdep := F.deps j i o' o d ho' hk hd (storeTo_tmps h)
       cases hlj : L' j with
       | false => rfl
       | true =>
        rcases (hL' j).1 hlj with e' | e'
        ·omega
        ·have := D.closed j i o' ho' e' hdep.1
         rw [hL] at this; cases this
      ·have h1 := V.sub j o' d ho' h
       rw [V.free i o d hk hd] at h1; cases h1
    ·obtain ⟨g1, g2⟩ := D.done i x ri hx' hri hl
     refine ⟨fun d hd => ?_, fun T cs d e hd => ?_⟩
     rotate_left
     ·by_cases hex : hits r d
      ·have hfr := V.free i x d hx' hd
       rcases rec_hits hrec hex with ⟨h1, h2⟩ | h1
       ·cases he : r.eff with
        | set p off y =>
         have hex' := hex
         unfold hits at hex'; rw [he] at hex'
         obtain rfl : p = d := hex'
         obtain ⟨i', y', ri', T', cs', q1, q2, q3, q4, q5, q6, q7, q8, q9, q10, _⟩ := hset p off y he h2
         obtain rfl := F.dist i i' x y' p hx' q1 hd q3
         rw [hri] at q2; cases q2
         rw [e] at q4; cases q4
         rw [curC_last (L := L) (L' := L') rs 0 cs k r hr (by rw [Nat.zero_add]; exact hL) (by rw [Nat.zero_add]; exact (hL' k).2 (.inl rfl)) (fun j hj => ?_) (fun j r' hj hr' he' => by have := q10 j r' hr' he'; omega)]
         ·rw [curC_none rs 0 cs fun j r' hj he' => by rw [q10 j r' hj he', Nat.zero_add]; exact hL]
          have e' : setBy r p cs = setCells cs off y := by unfold setBy; rw [he]; simp
          rw [e']
          exact H.set p off y he T cs q7
         ·rw [Nat.zero_add]
          cases hl : L j with
          | true => exact (hL' j).2 (.inr hl)
          | false => exact notL j hl hj
        | muts fr l =>
         unfold hits at hex; rw [he] at hex
         obtain ⟨x', hx1, rfl⟩ := hex
         have := (hmut fr l he x' hx1).1
         rw [h2] at this; cases this
        | _ => unfold hits at hex; rw [he] at hex; exact hex.elim
       ·have := V.sub k o d hk h1
        rw [hfr] at this; cases this
      ·rw [ccong d cs hex]
       exact keepB d T _ hex (hcurF d cs fun hex' => by
        obtain ⟨d0, hd0⟩ := hex'
        obtain ⟨ri', q1, q2, _⟩ := chain_get hch i x hx'
        rw [hri] at q1; cases q1
        exact (rec_quiet q2 hd0).2 T cs e) (g2 T cs d e hd)
     rw [hput d _ fun e => ?_]
     ·refine ⟨fun hg => ?_, ?_⟩
      ·refine keep _ _ ?_ ((g1 d hd).1 (gmono d hg))
       obtain ⟨ri', q1, q2, _⟩ := chain_get hch i x hx'
       rw [hri] at q1; cases q1
       rcases rec_val q2 with h | h
       ·exact hfree' _ h
       ·refine ownTok_ro (fun d' j' h' => ?_) h
        rw [hd]
        intro e; cases e
        exact hg ⟨k, r, j', hr, (hL' k).2 (.inl rfl), (hitq d j' h').2⟩
      ·refine keep _ _ ?_ (g1 d hd).2
       rw [roAV_or, show or2 (fun d' _ => hasKey eat d') (hitE r.eff) = fun d' _ => hasKey eat d' from ?_]
       funext d' j'
       simp only [or2]
       cases hh : hitE r.eff d' j' with
       | false => simp
       | true => rw [(hitq d' j' hh).1]; rfl
     ·have := F.dist i k x o d hx' hk hd e; subst this; rw [hL] at hl; cases hl
   ·rw [hput t _ fun e => ?_]
    ·exact keep _ _ (hfree' _ (X.tm t)) (D.rest t fun i x hx' hd => (subL i (ht i x hx' hd)).1)
    ·have := ht k o hk e; rw [(hL' k).2 (.inl rfl)] at this; cases this
   ·have h1 := D.dom s hs hs2 fun i x ri T cs hx' hri hl hd => hno i x ri T cs hx' hri ((hL' i).2 (.inr hl)) hd
    rcases H.dom s h1 with e | ⟨e1, T, cs, e2⟩
    ·exact e
    ·exact absurd e2 (hno k o r T cs hk hr ((hL' k).2 (.inl rfl)) e1)
   ·obtain ⟨g1, g2⟩ := subL i hLi
    rcases H.tdom d j (D.tok i x d j hx' hd g1) with e | e
    ·exact e
    ·exact absurd (F.dist i k x o d hx' hk hd e) g2

theorem ddone {all head : List Oper} {eat M : List Nat} {nb0 bx0 : Bx Γ} {tmk tm0 utm' tm' : Tm Γ} {nb' : Bx Γ} {rs : List (HRec Γ)} (F : HeadFacts head) (V : MvFacts head M tmk nb0 bx0) (hch : Chain P n all eat M tmk bx0 head tm0 nb0 rs utm' nb') (himp : ∀ t, Imp (tmGet utm' t) (tmGet tm' t))
  {L : Nat → Bool} {a : Act} {w : World} {μ : Mp} (hL : ∀ i, i < head.length → L i = true) (D : DInv base S w0 n eat head rs tm0 nb0 bx0 L a w μ) : Inv base S w0 n ((⟨tm', nb' ++ bx0⟩ : St Γ).ro fun d _ => hasKey eat d) a w μ := by
 have lt : ∀ {i : Nat} {o : Oper}, head[i]? = some o → i < head.length := fun h => (List.getElem?_eq_some_iff.1 h).1
 refine ⟨D.maps, D.below, D.own, D.keys, D.le, fun t => ?_, fun s T cs hs => ?_, fun s hs => ?_, D.defers, D.size, D.town, D.fix, D.gd⟩
 ·rw [ro_tm]
  refine himp t _ _ _ _ _ _ ?_
  rw [chain_end hch]
  by_cases hex : ∃ (i : Nat) (x : Oper), head[i]? = some x ∧ x.dst = some t
  ·obtain ⟨i, x, hx, hd⟩ := hex
   obtain ⟨ri, hri, _, _⟩ := chain_get hch i x hx
   rw [utm_some head rs tm0 _ t i x ri (lt hx) hx hri hd fun j o' hj hd' => F.dist j i o' x t hj hx hd' hd]
   exact ((D.done i x ri hx hri (hL i (lt hx))).1 t hd).2
  ·rw [utm_none head rs tm0 _ t fun i x _ hx hd => hex ⟨i, x, hx, hd⟩]
   exact (D.rest t fun i x hx hd => (hex ⟨i, x, hx, hd⟩).elim).weak
 ·rw [ro_bx] at hs
  obtain ⟨y, hs1, e⟩ := Option.map_eq_some_iff.1 hs
  clear hs
  obtain ⟨T1, cs1⟩ := y
  have e1 : T = T1 := (congrArg Prod.fst e).symm
  have e2 : cs = cs1.map (roCell fun d _ => hasKey eat d) := (congrArg Prod.snd e).symm
  subst e1 e2
  refine BoxRep.weak ?_
  revert hs1
  generalize cs1 = cs
  intro hs1
  have hs : bxGet (nb' ++ bx0) s = some (T, cs) := hs1
  rw [bxGet_append] at hs
  obtain ⟨h1, h2⟩ := chain_nb hch s
  cases hn : bxGet nb' s with
  | none => rw [hn] at hs; exact D.bx s T cs hs
  | some x =>
   rw [hn] at hs
   cases hs
   rcases h1 T cs hn with ⟨c0, e, e'⟩ | ⟨i, o, r, c0, e1, e2, e3, e4, e5⟩
   ·have := D.mv s T c0 e
    rw [curA_all rs 0 c0 fun j hj => by rw [Nat.zero_add]; exact hL j (by rw [← chain_len hch]; exact hj)] at this
    rw [e']; exact this
   ·have := (D.done i o r e1 e2 (hL i (lt e1))).2 T c0 s e4 e3
    rw [curA_all rs 0 c0 fun j hj => by rw [Nat.zero_add]; exact hL j (by rw [← chain_len hch]; exact hj)] at this
    rw [curA_skip (i + 1) rs c0 fun j r' hj hr' he => ?_] at this
    ·rw [e5]; exact this
    ·have hx : ∃ o', head[j]? = some o' := by
      have : j < head.length := by rw [← chain_len hch]; exact (List.getElem?_eq_some_iff.1 hr').1
      exact ⟨_, List.getElem?_eq_getElem this⟩
     obtain ⟨o', ho'⟩ := hx
     obtain ⟨r'', q1, q2, _⟩ := chain_get hch j o' ho'
     rw [hr'] at q1; cases q1
     rcases rec_hits q2 he with ⟨h, _⟩ | h
     ·have := (F.deps j i o' o s ho' e1 e3 (storeTo_tmps h)).2
      omega
     ·have h1 := V.sub j o' s ho' h
      rw [V.free i o s e1 e3] at h1; cases h1
 ·rw [ro_bx] at hs
  have hs : bxGet (nb' ++ bx0) s = none := by
   cases hx : bxGet (nb' ++ bx0) s with
   | none => rfl
   | some y =>
    have hs : Option.map _ (bxGet (nb' ++ bx0) s) = none := hs
    rw [hx] at hs; cases hs
  rw [bxGet_append] at hs
  obtain ⟨h1, h2⟩ := chain_nb hch s
  cases hn : bxGet nb' s with
  | some x => rw [hn] at hs; cases hs
  | none =>
   rw [hn] at hs
   exact D.dom s hs (h2 hn).1 fun i o r T cs e1 e2 _ e3 => (h2 hn).2 i o r T cs e1 e2 e3

end

section
variable {Γ : Ctx} {P : Program} {base : Nat} {S : Nat → Nat → Prop} {w0 : W0} {n : Nt}

theorem Inv.drew {st : St Γ} {a : Act} {w : World} {μ : Mp} (h : Inv base S w0 n st a w μ) : Inv base S w0 n st a w.drew μ := by
 have hB : Below w.heap.size w w.drew := (Below.refl _ _).drew
 have := h.ext_ro (Ext.of_below hB h.maps) (h.maps.of_size hB.size) (h.below.trans (hB.mono h.le)) (fun _ _ e => e) (fun _ e => e) h.town
 rwa [ro_no] at this

theorem Inv.clean {st : St Γ} {a : Act} {w : World} {μ : Mp} (h : Inv base S w0 n st a w μ) (D : Nat → Bool) :
  ∃ μ', Inv base S w0 n ((st.ro fun d _ => D d).drop D) a w μ' ∧ (∀ d j, D d = true → μ'.τ d j = none) ∧ ∀ s, D s = true → μ'.ρ s = none := by
 let μ' : Mp := ⟨fun s => if D s = true then none else μ.ρ s, fun d j => if D d = true then none else μ.τ d j⟩
 have hρ : ∀ s g, μ'.ρ s = some g → D s = false ∧ μ.ρ s = some g := fun s g hs => by
  simp only [μ'] at hs
  split at hs
  ·cases hs
  ·rename_i hd; exact ⟨by simpa using hd, hs⟩
 have hτ : ∀ d j v, μ'.τ d j = some v → D d = false ∧ μ.τ d j = some v := fun s g v hs => by
  simp only [μ'] at hs
  split at hs
  ·cases hs
  ·rename_i hd; exact ⟨by simpa using hd, hs⟩
 have H : Ext base (fun d _ => D d) D D μ w μ' w :=
  ⟨Nat.le_refl _, fun _ _ _ _ => rfl, fun b o _ hs => ⟨fun s e => hs.1 s (hρ s b e).2, fun d j u e => hs.2 d j u (hτ d j _ e).2⟩, fun s g hq e => by simp [μ', hq, e], fun _ _ _ _ _ => rfl, fun d j v hp e => by simp [μ', hp, e], fun _ _ _ _ _ _ => rfl⟩
 refine ⟨μ', ⟨⟨fun s s' g e e' => h.maps.ρinj s s' g (hρ s g e).2 (hρ s' g e').2, fun s g e => h.maps.ρnew s g (hρ s g e).2, fun d j g u e => ?_, fun d j d' j' g u u' e e' => h.maps.τinj d j d' j' g u u' (hτ d j _ e).2 (hτ d' j' _ e').2⟩, h.below, fun s g e => h.own s g (hρ s g e).2, h.keys, h.le, fun t => ?_, fun s T cs hs => ?_, fun s hs => ?_, h.defers, h.size, fun d j g u e => h.town d j g u (hτ d j _ e).2, h.fix, h.gd⟩, fun d j hd => by simp [μ', hd], fun s hs => by simp [μ', hs]⟩
 ·obtain ⟨h2, h3⟩ := h.maps.τnew d j g u (hτ d j _ e).2
  exact ⟨h2, fun s e' => h3 s (hρ s g e').2⟩
 ·rw [drop_tm, ro_tm]
  exact AVRep.ext H (fun s h => h) (h.tm t)
 ·rw [drop_bx, ro_bx] at hs
  cases hD : D s with
  | true => rw [hD] at hs; cases hs
  | false =>
   rw [hD] at hs
   obtain ⟨x, hx, e⟩ := Option.map_eq_some_iff.1 hs
   obtain ⟨T', cs'⟩ := x
   cases e
   exact (h.bx s _ cs' hx).ext H hD hD
 ·rw [drop_bx, ro_bx] at hs
  cases hD : D s with
  | true => simp [μ', hD]
  | false =>
   rw [hD] at hs
   have : bxGet st.bx s = none := by cases hx : bxGet st.bx s with | none => rfl | some x => rw [hx] at hs; cases hs
   simp [μ', hD, h.dom s this]

theorem headLen_spec (all : List Oper) : ∀ (l : List Oper) (j : Nat), j ≤ headLen all l j ∧ headLen all l j ≤ j + l.length ∧ headLen.tailOK all (l.drop (headLen all l j - j)) (headLen all l j) = true
 | [], j => by simp [headLen, headLen.tailOK]
 | o :: l, j => by
  obtain ⟨h1, h2, h3⟩ := headLen_spec all l (j + 1)
  simp only [headLen]
  cases ht : headLen.tailOK all (o :: l) j with
  | true => simp [ht]
  | false =>
   simp only [cond_false, List.length_cons]
   refine ⟨by omega, by omega, ?_⟩
   rw [show headLen all l (j + 1) - j = (headLen all l (j + 1) - (j + 1)) + 1 by omega]
   exact h3

theorem tailOK_get {all : List Oper} : ∀ (l : List Oper) (j : Nat), headLen.tailOK all l j = true → ∀ (i : Nat) (o : Oper), l[i]? = some o → waitsAll all o (j + i) (j + i) = true ∧ backOK o (j + i) = true
 | [], _, _, i, _, h => by simp at h
 | x :: l, j, hk, i, o, ho => by
  simp only [headLen.tailOK, Bool.and_eq_true] at hk
  cases i with
  | zero => simp at ho; subst ho; exact ⟨hk.1.1, hk.1.2⟩
  | succ i =>
   have := tailOK_get l (j + 1) hk.2 i o (by simpa using ho)
   rwa [show j + 1 + i = j + (i + 1) by omega] at this

theorem waitsAll_get {all : List Oper} {o : Oper} {j : Nat} : ∀ (n : Nat), waitsAll all o j n = true → ∀ i, i < n → onAll o i = true ∨ ∃ (k : Nat) (x : Oper), i < k ∧ k < j ∧ all[k]? = some x ∧ onAll x i = true
 | 0, _, i, h => by omega
 | m + 1, hk, i, h => by
  simp only [waitsAll, Bool.and_eq_true] at hk
  by_cases e : i = m
  ·subst e
   have h1 := hk.1
   cases ho : onAll o i with
   | true => exact .inl rfl
   | false =>
    rw [ho] at h1
    simp only [cond_false] at h1
    obtain ⟨x, hx, h2⟩ := List.any_eq_true.1 h1
    obtain ⟨q, hq⟩ := List.getElem?_of_mem hx
    rw [List.getElem?_drop, List.getElem?_take] at hq
    split at hq
    ·rename_i hlt
     exact .inr ⟨i + 1 + q, x, by omega, hlt, hq, h2⟩
    ·cases hq
  ·exact waitsAll_get m hk.2 i (by omega)

theorem waits_last {all : List Oper} {o : Oper} {j : Nat} (h : waitsAll all o (j + 1) (j + 1) = true) : onAll o j = true := by
 rcases waitsAll_get _ h j (by omega) with h | ⟨k, x, h1, h2, _⟩
 ·exact h
 ·omega

theorem waits_all {all : List Oper} {o : Oper} {L : Nat → Bool} {j : Nat} (h : waitsAll all o j j = true) (ho : ∀ i, onAll o i = true → L i = true) (hc : ∀ (k i : Nat) (x : Oper), k < j → all[k]? = some x → L k = true → onAll x i = true → L i = true) : ∀ (d i : Nat), i + d + 1 = j → L i = true := by
 intro d
 induction d using Nat.strongRecOn with
 | ind d ih =>
  intro i hi
  rcases waitsAll_get _ h i (by omega) with h1 | ⟨k, x, h1, h2, h3, h4⟩
  ·exact ho i h1
  ·exact hc k i x h2 h3 (ih (j - k - 1) (by omega) k (by omega)) h4

theorem onAll_listed {o : Oper} {listed : Array Bool} (h : ∀ e ∈ o.after, Region.binds .any e = true → listed.getD e.on false = true) {i : Nat} (hi : onAll o i = true) : listed.getD i false = true := by
 simp only [onAll, List.any_eq_true, Bool.and_eq_true] at hi
 obtain ⟨e, he, h1, h2⟩ := hi
 have := h e (by simpa using he) h2
 rwa [Nat.eq_of_beq_eq_true h1] at this

theorem back_ready {o : Oper} {j : Nat} (h : backOK o j = true) : ∀ e ∈ o.after, Region.binds .any e = true → e.on < j := by
 intro e he hb
 simp only [backOK, List.all_eq_true] at h
 have := h e (by simpa using he)
 simp only [hb, Bool.not_true, Bool.false_or] at this
 exact Nat.le_of_ble_eq_true this

theorem first_false {L : Nat → Bool} : ∀ (h : Nat), (∃ i, i < h ∧ L i = false) → ∃ k, k < h ∧ L k = false ∧ ∀ i, i < k → L i = true
 | 0, ⟨i, h, _⟩ => by omega
 | h + 1, ⟨i, hi, hl⟩ => by
  by_cases hex : ∃ i, i < h ∧ L i = false
  ·obtain ⟨k, h1, h2, h3⟩ := first_false h hex
   exact ⟨k, by omega, h2, h3⟩
  ·have hall : ∀ i, i < h → L i = true := fun i hi => by
    cases hl : L i with
    | true => rfl
    | false => exact (hex ⟨i, hi, hl⟩).elim
   have : i = h := by
    by_cases e : i = h
    ·exact e
    ·rw [hall i (by omega)] at hl; cases hl
   subst this
   exact ⟨i, by omega, hl, hall⟩

theorem set_getD {listed : Array Bool} {i j : Nat} {d : Bool} (hi : i < listed.size) : (listed.setIfInBounds i true).getD j d = if j = i then true else listed.getD j d := by
 by_cases h : j = i
 ·subst h; simp [Array.getD_eq_getD_getElem?, hi]
 ·rw [if_neg h, Array.getD_eq_getD_getElem?, Array.getElem?_setIfInBounds_ne (Ne.symm h), ← Array.getD_eq_getD_getElem?]

theorem ready_iff {ops : List Oper} {listed : Array Bool} (hs : listed.size = ops.length) {i : Nat} : i ∈ Region.ready .any ops.toArray listed ↔ ∃ o, ops[i]? = some o ∧ listed.getD i false = false ∧ ∀ e ∈ o.after, Region.binds .any e = true → listed.getD e.on false = true := by
 rw [mem_ready]
 constructor
 ·rintro ⟨g1, o, g2, g3⟩
  have g2' : ops[i]? = some o := by simpa using g2
  have hlt : i < listed.size := by rw [hs]; exact (List.getElem?_eq_some_iff.1 g2').1
  refine ⟨o, g2', ?_, g3⟩
  simp [Array.getD_eq_getD_getElem?, hlt] at g1 ⊢; exact g1
 ·rintro ⟨o, g1, g2, g3⟩
  have hlt : i < listed.size := by rw [hs]; exact (List.getElem?_eq_some_iff.1 g1).1
  refine ⟨?_, o, by simpa using g1, g3⟩
  simp [Array.getD_eq_getD_getElem?, hlt] at g2 ⊢; exact g2

theorem any_tail {R : Type} (C : CtxOK P Γ) {E : List (Ent Γ)} (hE : ∀ e ∈ E, EntOK P e) {ops : List Oper} {Q : Exit → Act → World → Prop} {K : St Γ → Option R} {r : R} {h : Nat}
  (htail : ∀ (j : Nat) (o : Oper), h ≤ j → ops[j]? = some o → waitsAll ops o j j = true ∧ backOK o j = true)
  (hQ : ∀ st' a' w' μ', Inv base S w0 n st' a' w' μ' → K st' = some r → Q .normal a' w') : ∀ (fuel j : Nat) (listed : Array Bool) (st : St Γ) (a : Act) (w : World) (μ : Mp) (al : List (Nat × Nat)), listed.size = ops.length → (∀ i, i < j → i < ops.length → listed.getD i false = true) → (∀ i, j ≤ i → i < ops.length → listed.getD i false = false) →
   h ≤ j → ops.length ≤ j + fuel → aops n E ops al (ops.drop j) st K = some r → Inv base S w0 n st a w μ → AlOK al a → wpAny P .any ops.toArray Q fuel listed a w := by
 intro fuel
 have only : ∀ (j : Nat) (listed : Array Bool), listed.size = ops.length → (∀ i, i < j → i < ops.length → listed.getD i false = true) → (∀ i, j ≤ i → i < ops.length → listed.getD i false = false) → h ≤ j → ∀ i, i ∈ Region.ready .any ops.toArray listed → i = j ∧ j < ops.length := by
  intro j listed hs h1 h2 hj i hi
  obtain ⟨o, g1, g2, g3⟩ := (ready_iff hs).1 hi
  have hlt : i < ops.length := (List.getElem?_eq_some_iff.1 g1).1
  have hij : j ≤ i := by
   rcases Nat.lt_or_ge i j with e | e
   ·rw [h1 i e hlt] at g2; cases g2
   ·exact e
  rcases Nat.lt_or_ge j i with e | e
  ·have hw := (htail i o (by omega) g1).1
   obtain ⟨i', rfl⟩ : ∃ i', i = i' + 1 := ⟨i - 1, by omega⟩
   have := onAll_listed g3 (waits_last hw)
   rw [h2 i' (by omega) (by omega)] at this
   cases this
  ·exact ⟨by omega, by omega⟩
 induction fuel with
 | zero =>
  intro j listed st a w μ al hs h1 h2 hj hf hk hi ha
  have hd : ops.drop j = [] := List.drop_eq_nil_of_le (by omega)
  rw [hd] at hk
  refine ⟨?_, hQ st a w μ hi hk⟩
  rw [List.eq_nil_iff_forall_not_mem]
  intro i hi'
  have := (only j listed hs h1 h2 hj i hi').2
  omega
 | succ fuel ih =>
  intro j listed st a w μ al hs h1 h2 hj hf hk hi ha
  rcases Nat.lt_or_ge j ops.length with hlt | hge
  ·have ho : ops[j]? = some ops[j] := List.getElem?_eq_getElem hlt
   have hdrop : ops.drop j = ops[j] :: ops.drop (j + 1) := List.drop_eq_getElem_cons hlt
   rw [hdrop] at hk
   refine ⟨fun hn => ?_, fun i hi' => ?_⟩
   ·have : j ∈ Region.ready .any ops.toArray listed := (ready_iff hs).2 ⟨_, ho, h2 j (Nat.le_refl _) hlt, fun e he hb => by
     have hbk := back_ready (htail j _ hj ho).2 e he hb
     exact h1 _ hbk (by omega)⟩
    rw [hn] at this; cases this
   ·obtain ⟨rfl, _⟩ := only j listed hs h1 h2 hj i hi'
    have hsz : i < listed.size := by omega
    refine aop_step C hE ho hk hi ha fun st' a' w' μ' al' hi2 ha2 hk2 => ih (i + 1) _ st' a' w' μ' al' (by simpa using hs) (fun k hk3 hk4 => ?_) (fun k hk3 hk4 => ?_) (by omega) (by omega) hk2 hi2 ha2
    ·rw [set_getD hsz]
     split
     ·rfl
     ·exact h1 k (by omega) hk4
    ·rw [set_getD hsz, if_neg (by omega)]
     exact h2 k (by omega) hk4
  ·have hd : ops.drop j = [] := List.drop_eq_nil_of_le hge
   rw [hd] at hk
   refine ⟨fun _ => hQ st a w μ hi hk, fun i hi' => ?_⟩
   have := (only j listed hs h1 h2 hj i hi').2
   omega

theorem any_head {R : Type} (C : CtxOK P Γ) {E : List (Ent Γ)} (hE : ∀ e ∈ E, EntOK P e) {ops : List Oper} {Q : Exit → Act → World → Prop} {K : St Γ → Option R} {r : R} {h : Nat} (hh : h ≤ ops.length)
  (htail : ∀ (j : Nat) (o : Oper), h ≤ j → ops[j]? = some o → waitsAll ops o j j = true ∧ backOK o j = true) (F : HeadFacts (ops.take h))
  (hQ : ∀ st' a' w' μ', Inv base S w0 n st' a' w' μ' → K st' = some r → Q .normal a' w') {eat M : List Nat} {nb0 bx0 : Bx Γ} {tmk tm0 utm' tm' : Tm Γ} {nb' : Bx Γ} {rs : List (HRec Γ)} (V : MvFacts (ops.take h) M tmk nb0 bx0) (X : EatFacts eat (ops.take h) tm0 nb0 bx0) (hch : Chain P n ops eat M tmk bx0 (ops.take h) tm0 nb0 rs utm' nb') (himp : ∀ t, Imp (tmGet utm' t) (tmGet tm' t))
  (hfree : ∀ (i : Nat) (o : Oper) (d : Nat), (ops.take h)[i]? = some o → o.dst = some d → bxGet bx0 d = none) (hk : aops n E ops [] (ops.drop h) ((⟨tm', nb' ++ bx0⟩ : St Γ).ro fun d _ => hasKey eat d) K = some r) :
  ∀ (fuel : Nat) (listed : Array Bool) (U : List Nat) (a : Act) (w : World) (μ : Mp), listed.size = ops.length → (∀ i, h ≤ i → i < ops.length → listed.getD i false = false) → (∀ i, i < h → (listed.getD i false = false ↔ i ∈ U)) → U.Nodup → U.length + (ops.length - h) ≤ fuel →
   DInv base S w0 n eat (ops.take h) rs tm0 nb0 bx0 (fun i => listed.getD i false) a w μ → wpAny P .any ops.toArray Q fuel listed a w := by
 have lenh : (ops.take h).length = h := by rw [List.length_take]; omega
 have hget : ∀ (i : Nat) (o : Oper), (ops.take h)[i]? = some o ↔ i < h ∧ ops[i]? = some o := fun i o => by
  rw [List.getElem?_take]
  by_cases e : i < h
  ·simp [e]
  ·simp [e]
 intro fuel
 induction fuel with
 | zero =>
  intro listed U a w μ hs h1 h2 hU hf D
  have hl : ∀ i, i < h → listed.getD i false = true := fun i hi => by
   cases hg : listed.getD i false with
   | true => rfl
   | false =>
    have := (h2 i hi).1 hg
    have := List.length_pos_of_mem this
    omega
  exact any_tail C hE htail hQ 0 h listed _ a w μ [] hs (fun i hi _ => hl i hi) h1 (Nat.le_refl _) (by omega) hk (ddone F V hch himp (fun i hi => hl i (by omega)) D) (fun _ h => by cases h)
 | succ fuel ih =>
  intro listed U a w μ hs h1 h2 hU hf D
  by_cases hex : ∃ i, i < h ∧ listed.getD i false = false
  ·obtain ⟨k0, g1, g2, g3⟩ := first_false (L := fun i => listed.getD i false) h hex
   have hk0 : ops[k0]? = some ops[k0] := List.getElem?_eq_getElem (by omega)
   refine ⟨fun hn => ?_, fun i hi => ?_⟩
   ·have : k0 ∈ Region.ready .any ops.toArray listed := (ready_iff hs).2 ⟨_, hk0, g2, fun e he hb => g3 _ (back_ready (F.back k0 _ ((hget k0 _).2 ⟨g1, hk0⟩)) e he hb)⟩
    rw [hn] at this; cases this
   ·obtain ⟨o, e1, e2, e3⟩ := (ready_iff hs).1 hi
    have hlt : i < ops.length := (List.getElem?_eq_some_iff.1 e1).1
    have hih : i < h := by
     rcases Nat.lt_or_ge i h with e | e
     ·exact e
     ·have hw := (htail i o e e1).1
      rcases Nat.lt_or_ge h i with e' | e'
      ·obtain ⟨i', rfl⟩ : ∃ i', i = i' + 1 := ⟨i - 1, by omega⟩
       have := onAll_listed e3 (waits_last hw)
       rw [h1 i' (by omega) (by omega)] at this; cases this
      ·obtain rfl : i = h := by omega
       have := waits_all (L := fun j => listed.getD j false) hw (fun m hm => onAll_listed e3 hm) (fun k m x hk hx hl hm => D.closed k m x ((hget k x).2 ⟨hk, hx⟩) hl hm) (i - k0 - 1) k0 (by omega)
       simp only [g2] at this; cases this
    have hsz : i < listed.size := by omega
    refine dstep F V X (fun j x hj => ((hget j x).1 hj).2) hch hfree ((hget i o).2 ⟨hih, e1⟩) (L' := fun j => (listed.setIfInBounds i true).getD j false) e2 (fun j => ?_) (fun j hj => onAll_listed e3 hj) D fun a' w' μ' D' => ih _ (U.erase i) a' w' μ' (by simpa using hs) (fun j hj hj' => ?_) (fun j hj => ?_) (hU.erase i) ?_ D'
    ·simp only [set_getD hsz]
     by_cases e : j = i <;> simp [e]
    ·rw [set_getD hsz, if_neg (by omega)]; exact h1 j hj hj'
    ·rw [set_getD hsz, hU.mem_erase_iff]
     by_cases e : j = i
     ·simp [e]
     ·simp only [e, if_false, ne_eq, not_false_eq_true, true_and]; exact h2 j hj
    ·have hm : i ∈ U := (h2 i hih).1 e2
     rw [List.length_erase_of_mem hm]
     have := List.length_pos_of_mem hm
     omega
  ·have hl : ∀ i, i < h → listed.getD i false = true := fun i hi => by
    cases hg : listed.getD i false with
    | true => rfl
    | false => exact (hex ⟨i, hi, hg⟩).elim
   exact any_tail C hE htail hQ (fuel + 1) h listed _ a w μ [] hs (fun i hi _ => hl i hi) h1 (Nat.le_refl _) (by omega) hk (ddone F V hch himp (fun i hi => hl i (by omega)) D) (fun _ h => by cases h)

theorem dsts_mem {l : List Oper} {i d : Nat} {o : Oper} (hi : l[i]? = some o) (hd : o.dst = some d) : dsts l d = true := by
 simp only [dsts, List.any_eq_true]
 exact ⟨o, List.mem_of_getElem? hi, by rw [hd]; exact Nat.beq_refl d⟩

theorem bxGet_kept (M : List Nat) : ∀ (bx : Bx Γ) (s : Nat), bxGet (bx.filter fun x => hasKey M x.1) s = bif hasKey M s then bxGet bx s else none
 | [], s => by cases hasKey M s <;> rfl
 | (i, x) :: bx, s => by
  have ih := bxGet_kept M bx s
  rw [List.filter_cons]
  cases hi : hasKey M i with
  | true =>
   simp only [if_true, bxGet]
   cases hs : Nat.beq i s with
   | true => obtain rfl := Nat.eq_of_beq_eq_true hs; simp [hi]
   | false => simp only [cond_false]; exact ih
  | false =>
   simp only [Bool.false_eq_true, if_false, bxGet]
   cases hs : Nat.beq i s with
   | true => obtain rfl := Nat.eq_of_beq_eq_true hs; rw [ih, hi]; rfl
   | false => simp only [cond_false]; exact ih

theorem mvOK_go {tm0 : Tm Γ} {o : Oper} {j : Nat} : ∀ (l : List Oper) (i0 : Nat), mvOK.go tm0 o j l i0 = true → ∀ (i : Nat) (x : Oper) (s : Nat), l[i]? = some x → i0 + i < j → s ∈ callKeys tm0 o → s ∈ callKeys tm0 x → onAll o (i0 + i) = true
 | [], _, _, i, _, _, h, _, _, _ => by simp at h
 | y :: l, i0, hk, i, x, s, hx, hlt, h1, h2 => by
  simp only [mvOK.go, Bool.and_eq_true] at hk
  cases i with
  | zero =>
   simp at hx; subst hx
   have h3 := hk.1
   rw [Nat.add_zero] at hlt ⊢
   have h4 : (callKeys tm0 o).any (fun s => hasKey (callKeys tm0 y) s) = true := List.any_eq_true.2 ⟨s, h1, hasKey_mem.2 h2⟩
   have h5 : i0.blt j = true := Nat.ble_eq_true_of_le hlt
   rw [h4, h5] at h3
   simpa using h3
  | succ i =>
   have := mvOK_go l (i0 + 1) hk.2 i x s (by simpa using hx) (by omega) h1 h2
   rwa [show i0 + 1 + i = i0 + (i + 1) by omega] at this

theorem mvOK_at {tm0 : Tm Γ} {h : List Oper} : ∀ (l : List Oper) (j0 : Nat), mvOK tm0 h l j0 = true → ∀ (j : Nat) (o : Oper), l[j]? = some o → mvOK.go tm0 o (j0 + j) h 0 = true
 | [], _, _, j, _, ho => by simp at ho
 | o :: l, j0, hk, j, o', ho => by
  simp only [mvOK, Bool.and_eq_true] at hk
  cases j with
  | zero => simp at ho; subst ho; exact hk.1
  | succ j =>
   have := mvOK_at l (j0 + 1) hk.2 j o' (by simpa using ho)
   rwa [show j0 + 1 + j = j0 + (j + 1) by omega] at this

theorem mvOK_get {tm0 : Tm Γ} (h : List Oper) (l : List Oper) (hk : mvOK tm0 h l 0 = true) {i j : Nat} {o o' : Oper} {s : Nat} (h1 : h[i]? = some o) (h2 : l[j]? = some o') (hij : i < j) (h3 : s ∈ callKeys tm0 o) (h4 : s ∈ callKeys tm0 o') : onAll o' i = true := by
 have := mvOK_at l 0 hk j o' h2
 rw [Nat.zero_add] at this
 have := mvOK_go h 0 this i o s h1 (by omega) h4 h3
 rwa [Nat.zero_add] at this

theorem useOne_lt {d : Nat} : ∀ (l : List Oper), useOne d l = true → ∀ (i j : Nat) (x y : Oper), i < j → l[i]? = some x → l[j]? = some y → d ∈ opTmps x → d ∈ opTmps y → False
 | [], _, i, j, x, y, _, h, _, _, _ => by simp at h
 | o :: l, hk, i, j, x, y, hij, hx, hy, h1, h2 => by
  simp only [useOne, Bool.and_eq_true, Bool.or_eq_true] at hk
  cases i with
  | succ i =>
   cases j with
   | zero => omega
   | succ j => exact useOne_lt l hk.2 i j x y (by omega) (by simpa using hx) (by simpa using hy) h1 h2
  | zero =>
   simp at hx; subst hx
   cases j with
   | zero => omega
   | succ j =>
    have hm : y ∈ l := List.mem_of_getElem? (by simpa using hy)
    rcases hk.1 with h | h
    ·rw [hasKey_mem.2 h1] at h; cases h
    ·have := List.all_eq_true.1 h y hm
     rw [hasKey_mem.2 h2] at this; cases this

theorem tmGet_all {f : AV Γ → Bool} (h0 : f .u = true) : ∀ (tm : Tm Γ), (tm.all fun x => f x.2) = true → ∀ t, f (tmGet tm t) = true
 | [], _, _ => h0
 | (i, a) :: tm, h, t => by
  simp only [List.all_cons, Bool.and_eq_true] at h
  simp only [tmGet]
  cases Nat.beq i t with
  | true => exact h.1
  | false => exact tmGet_all h0 tm h.2 t

theorem bxGet_all {f : List (Cell Γ) → Bool} : ∀ (bx : Bx Γ), (bx.all fun x => f x.2.2) = true → ∀ s T cs, bxGet bx s = some (T, cs) → f cs = true
 | [], _, _, _, _, h => by cases h
 | (i, a) :: bx, h, s, T, cs, hs => by
  simp only [List.all_cons, Bool.and_eq_true] at h
  simp only [bxGet] at hs
  cases hb : Nat.beq i s with
  | true => rw [hb] at hs; cases hs; exact h.1
  | false => rw [hb] at hs; exact bxGet_all bx h.2 s T cs hs

theorem eatRo_eq (eat : List Nat) (st : St Γ) : eatRo eat st = st.ro fun d _ => hasKey eat d := by
 cases eat with
 | nil => exact (ro_no st).symm
 | cons d l => rfl

theorem eatFacts {eat : List Nat} {head : List Oper} {st : St Γ} {nb0 bx0 : Bx Γ} (h1 : eatUse eat head = true) (h2 : eatFree eat st = true) (hn : ∀ s T cs, bxGet nb0 s = some (T, cs) → bxGet st.bx s = some (T, cs)) (hb : ∀ s T cs, bxGet bx0 s = some (T, cs) → bxGet st.bx s = some (T, cs)) : EatFacts eat head st.tm nb0 bx0 := by
 have hcs : ∀ s T cs, bxGet st.bx s = some (T, cs) → cs.all (freeCell (hasKey eat)) = true := fun s T cs hs => by
  unfold eatFree at h2
  split at h2
  ·exact List.all_eq_true.2 fun x _ => freeCell_nil x
  ·rw [Bool.and_eq_true] at h2
   exact bxGet_all (f := fun cs => cs.all (freeCell (hasKey _))) st.bx h2.2 s T cs hs
 refine ⟨fun d hd i j x y hx hy e1 e2 => ?_, fun d hd k o g w x hk hg hx e => ?_, fun t => ?_, fun s T cs hs => hcs s T cs (hn s T cs hs), fun s T cs hs => hcs s T cs (hb s T cs hs)⟩
 ·have := List.all_eq_true.1 h1 d hd
  rw [Bool.and_eq_true] at this
  rcases Nat.lt_trichotomy i j with h | h | h
  ·exact (useOne_lt head this.1 i j x y h hx hy e1 e2).elim
  ·exact h
  ·exact (useOne_lt head this.1 j i y x h hy hx e2 e1).elim
 ·have := List.all_eq_true.1 h1 d hd
  rw [Bool.and_eq_true] at this
  have := List.all_eq_true.1 this.2 o (List.mem_of_getElem? hk)
  have hnth : ∀ (l : List Oper) (j : Nat), nth l j = l[j]? := by
   intro l
   induction l with
   | nil => intro j; simp [nth]
   | cons x l ih => intro j; cases j <;> simp [nth, ih]
  simp only [hg, dstOf, hnth, hx, e, Nat.beq_refl] at this
  cases this
 ·unfold eatFree at h2
  split at h2
  ·exact freeAV_nil _
  ·rw [Bool.and_eq_true] at h2
   exact tmGet_all rfl st.tm h2.1 t

theorem adrawn_any {R : Type} (C : CtxOK P Γ) {E : List (Ent Γ)} (hE : ∀ e ∈ E, EntOK P e) {ops : Array Oper} {Q : Exit → Act → World → Prop} {st : St Γ} {K : St Γ → Option R} {r : R} {a : Act} {w : World} {μ : Mp}
  (h : adrawn n E ops.toList st K = some r) (hi : Inv base S w0 n st a w μ) (hQ : ∀ st' a' w' μ', Inv base S w0 n st' a' w' μ' → K st' = some r → Q .normal a' w') : wpAny P .any ops Q ops.size (Array.replicate ops.size false) a w.drew := by
 unfold adrawn at h
 simp only at h
 obtain ⟨s1, s2, s3⟩ := headLen_spec ops.toList ops.toList 0
 simp only [Nat.sub_zero, Nat.zero_add] at s2 s3
 cases hok : headOK (ops.toList.take (headLen ops.toList ops.toList 0)) (ops.toList.take (headLen ops.toList ops.toList 0)) 0 with
 | false => simp [hok] at h
 | true =>
  simp only [hok, cond_true] at h
  have F := headFacts hok
  have hi1 := hi.drew
  obtain ⟨μ', hi2, t1, t2⟩ := hi1.clean (dsts (ops.toList.take (headLen ops.toList ops.toList 0)))
  generalize hst1 : (st.ro fun d _ => dsts (ops.toList.take (headLen ops.toList ops.toList 0)) d).drop (dsts (ops.toList.take (headLen ops.toList ops.toList 0))) = st1 at h hi2
  generalize htk : headMoves st1.tm (ops.toList.take (headLen ops.toList ops.toList 0)) = tk at h
  generalize hMM : (ops.toList.take (headLen ops.toList ops.toList 0)).flatMap (callKeys tk) = M at h
  cases hmv : (mvOK tk (ops.toList.take (headLen ops.toList ops.toList 0)) (ops.toList.take (headLen ops.toList ops.toList 0)) 0).and (M.all fun s => !(dsts (ops.toList.take (headLen ops.toList ops.toList 0)) s)) with
  | false => simp [hmv] at h
  | true =>
  rw [hmv] at h
  generalize heat : eaten (ops.toList.take (headLen ops.toList ops.toList 0)) = eat at h
  rw [Bool.true_and] at h
  cases hea : (eatUse eat (ops.toList.take (headLen ops.toList ops.toList 0))).and (eatFree eat st1) with
  | false => rw [hea] at h; cases h
  | true =>
  rw [hea] at h
  simp only [cond_true] at h
  rw [Bool.and_eq_true] at hmv hea
  obtain ⟨rs, utm', tm', nb', g1, g2, g3⟩ := ahead_inv (P := P) C hE _ _ _ _ _ r (fun t => fun _ _ _ _ _ _ h => h) h
  rw [eatRo_eq] at g3
  have hfree0 : ∀ (i : Nat) (o : Oper) (d : Nat), (ops.toList.take (headLen ops.toList ops.toList 0))[i]? = some o → o.dst = some d → bxGet st1.bx d = none := fun i o d hi' hd => by
   rw [← hst1, drop_bx, dsts_mem hi' hd]; rfl
  have hkept : ∀ s, bxGet (st1.bx.filter fun x => hasKey M x.1) s = bif hasKey M s then bxGet st1.bx s else none := fun s => bxGet_kept M st1.bx s
  have hrest : ∀ s, bxGet (st1.bx.filter fun x => !hasKey M x.1) s = bif hasKey M s then none else bxGet st1.bx s := fun s => bxGet_filter (hasKey M) st1.bx s
  have hfree : ∀ (i : Nat) (o : Oper) (d : Nat), (ops.toList.take (headLen ops.toList ops.toList 0))[i]? = some o → o.dst = some d → bxGet (st1.bx.filter fun x => !hasKey M x.1) d = none := fun i o d hi' hd => by
   rw [hrest, hfree0 i o d hi' hd]; cases hasKey M d <;> rfl
  have V : MvFacts (ops.toList.take (headLen ops.toList ops.toList 0)) M tk (st1.bx.filter fun x => hasKey M x.1) (st1.bx.filter fun x => !hasKey M x.1) := by
   refine ⟨fun k o s hk hs => ?_, fun i j o o' s hij h1 h2 h3 h4 => mvOK_get _ _ hmv.1 h1 h2 hij h3 h4, fun i o s hk hd => ?_, fun s hs => by rw [hkept, hs]; rfl, fun s hs => by rw [hrest, hs]; rfl⟩
   ·rw [hasKey_mem, ← hMM, List.mem_flatMap]
    exact ⟨o, List.mem_of_getElem? hk, hs⟩
   ·cases hh : hasKey M s with
    | false => rfl
    | true =>
     have := List.all_eq_true.1 hmv.2 s (hasKey_mem.1 hh)
     rw [dsts_mem hk hd] at this
     cases this
  have X : EatFacts eat (ops.toList.take (headLen ops.toList ops.toList 0)) st1.tm (st1.bx.filter fun x => hasKey M x.1) (st1.bx.filter fun x => !hasKey M x.1) := by
   refine eatFacts hea.1 hea.2 (fun s T cs hs => ?_) (fun s T cs hs => ?_)
   ·rw [hkept] at hs
    cases hM : hasKey M s with
    | true => rw [hM] at hs; exact hs
    | false => rw [hM] at hs; cases hs
   ·rw [hrest] at hs
    cases hM : hasKey M s with
    | true => rw [hM] at hs; cases hs
    | false => rw [hM] at hs; exact hs
  have htail : ∀ (j : Nat) (o : Oper), headLen ops.toList ops.toList 0 ≤ j → ops.toList[j]? = some o → waitsAll ops.toList o j j = true ∧ backOK o j = true := fun j o hj ho => by
   have := tailOK_get _ _ s3 (j - headLen ops.toList ops.toList 0) o (by rw [List.getElem?_drop]; rwa [show headLen ops.toList ops.toList 0 + (j - headLen ops.toList ops.toList 0) = j by omega])
   rwa [show headLen ops.toList ops.toList 0 + (j - headLen ops.toList ops.toList 0) = j by omega] at this
  have hrep : ∀ (i : Nat) (d : Bool), i < ops.size → (Array.replicate ops.size false).getD i d = false := fun i d hi => by simp [Array.getD_eq_getD_getElem?, hi]
  have hrep' : ∀ (i : Nat), (Array.replicate ops.size false).getD i false = false := fun i => by
   rcases Nat.lt_or_ge i ops.size with e | e
   ·exact hrep i false e
   ·simp [Array.getD_eq_getD_getElem?, Array.getElem?_eq_none, e]
  have hb1 : ∀ s T cs, bxGet (st1.bx.filter fun x => !hasKey M x.1) s = some (T, cs) → BoxRep base S μ' w.drew s T cs := fun s T cs hs => by
   rw [hrest] at hs
   cases hM : hasKey M s with
   | true => rw [hM] at hs; cases hs
   | false => rw [hM] at hs; exact hi2.bx s T cs hs
  have hb2 : ∀ s T cs, bxGet (st1.bx.filter fun x => hasKey M x.1) s = some (T, cs) → BoxRep base S μ' w.drew s T (curC (fun i => (Array.replicate ops.size false).getD i false) rs 0 s cs) := fun s T cs hs => by
   rw [curC_none rs 0 cs fun i r' _ _ => hrep' _]
   rw [hkept] at hs
   cases hM : hasKey M s with
   | true => rw [hM] at hs; exact hi2.bx s T cs hs
   | false => rw [hM] at hs; cases hs
  have hb3 : ∀ s, bxGet (st1.bx.filter fun x => !hasKey M x.1) s = none → bxGet (st1.bx.filter fun x => hasKey M x.1) s = none → (∀ (i : Nat) (o : Oper) (r : HRec Γ) (T : Nat) (cs : List (Cell Γ)), (ops.toList.take (headLen ops.toList ops.toList 0))[i]? = some o → rs[i]? = some r → (Array.replicate ops.size false).getD i false = true → o.dst = some s → r.eff ≠ .new T cs) → μ'.ρ s = none := fun s hs hs2 _ => by
   rw [hrest] at hs
   rw [hkept] at hs2
   cases hM : hasKey M s with
   | true => rw [hM] at hs2; exact hi2.dom s hs2
   | false => rw [hM] at hs; exact hi2.dom s hs
  have := any_head C hE (Q := Q) s2 htail F hQ V X g1 g2 hfree g3 ops.size (Array.replicate ops.size false) (List.range (headLen ops.toList ops.toList 0)) a w.drew μ' (by simp) (fun i _ _ => hrep' i) (fun i hi => by simp [hrep' i, hi]) List.nodup_range (by simp at s2 ⊢; omega)
   ⟨hi2.maps, hi2.below, hi2.own, hi2.keys, hi2.le, hi2.defers, hi2.size, hi2.town, hi2.fix, hi2.gd, fun i o r' _ _ hl => absurd hl (by rw [hrep' i]; simp), fun t _ => hi2.tm t, hb1, hb2, hb3, fun i o d j ho hd _ => t1 d j (dsts_mem ho hd), fun i j o _ hl _ => absurd hl (by rw [hrep' i]; simp)⟩
  simpa using this

theorem adrawn_sound {R : Type} (C : CtxOK P Γ) {E : List (Ent Γ)} (hE : ∀ e ∈ E, EntOK P e) {id : Nat} {ops : Array Oper} {Q : Exit → Act → World → Prop} {st : St Γ} {K : St Γ → Option R} {r : R} {a : Act} {w : World} {μ : Mp}
  (h : adrawn n E ops.toList st K = some r) (hi : Inv base S w0 n st a w μ) (hQ : ∀ st' a' w' μ', Inv base S w0 n st' a' w' μ' → K st' = some r → Q .normal a' w') : (Code.region id ops true).wp P Q a w := wp_region_any C.mixed (adrawn_any C hE h hi hQ)

theorem region_sound {R : Type} (C : CtxOK P Γ) {E : List (Ent Γ)} (hE : ∀ e ∈ E, EntOK P e) {id : Nat} {ops : Array Oper} {draw : Bool} {Q : Exit → Act → World → Prop} {st : St Γ} {K : St Γ → Option R} {r : R} {a : Act} {w : World} {μ : Mp}
  (h : region n E ops.toList draw st K = some r) (hi : Inv base S w0 n st a w μ) (hQ : ∀ st' a' w' μ', Inv base S w0 n st' a' w' μ' → K st' = some r → Q .normal a' w') : (Code.region id ops draw).wp P Q a w := by
 cases draw with
 | true => exact adrawn_sound C hE h hi hQ
 | false =>
  refine wp_region ?_
  have := aops_sound C hE (all := ops.toList) (Q := Q) ops.toList (List.range ops.size) st K r a w μ [] (by simp) (fun j i hj => by
   have : i = j := by
    have hl := (List.getElem?_eq_some_iff.1 hj).1
    rw [List.getElem?_range (by simpa using hl)] at hj
    cases hj; rfl
   subst this; rfl) h hi (fun _ h => by cases h) hQ
  simpa using this

end

end Go.Refl
