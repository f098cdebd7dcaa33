/- The law FnExactExportHand, plainly: the program's and the reference's functions return the same text and the same bool. -/
import Derived.Test.YtaaldnaefdodkaaDoorWalkFnExactExportHand
import Derived.Test.YtaaldnaefdodkaaDoorPAx2
import Derived.Test.YtaaldnaefdodkaaDoorPAx1
import Derived.Test.YtaaldnaefdodkaaDoorQSigns
namespace Go.Proofs.YtaaldnaefdodkaaDoor.PA
open Go.RowKit Go.Proofs.YtaaldnaefdodkaaDoorW.PrintWords Go.Proofs.YtaaldnaefdodkaaDoorW.PrintLast Go.Proofs.YtaaldnaefdodkaaDoorW.PrintMore
set_option linter.unusedVariables false
set_option linter.unusedSimpArgs false
section
variable (t i m r l : Int) (s : Bool) (p f g d : Int) (c : Bool) (b : ByteArray) (n : Int)
/-- The old text of a hand. -/
def oldTxt : ByteArray := (((((((⟨#[83, 61]⟩ : ByteArray) ++ shTxt t i m r l s) ++ (⟨#[59, 79, 61]⟩ : ByteArray)) ++ orTxt p f) ++ (⟨#[59, 80, 61]⟩ : ByteArray)) ++ plTxt g d c) ++ (⟨#[59, 77, 61]⟩ : ByteArray)) ++ mvTxt b n
theorem spec_old (h : TxOK t i m r l p f g d b n) : Ev (fun k => spec_imText.f k t i m r l s p f g d c b n) (oldTxt t i m r l s p f g d c b n) := by
  obtain ⟨⟨h1, h2, h3, h4, h5⟩, ⟨h6, h7⟩, ⟨h8, h9⟩, h10, h11⟩ := h
  have a := shTxt_size t i m r l s h1 h2 h3 h4 h5
  obtain ⟨e1, _, e⟩ := or_txt p f h6 h7
  obtain ⟨e4, _, e2⟩ := pl_txt g d c h8 h9
  have e3 := mvTxt_size b n h10 h11
  have z1 : (⟨#[83, 61]⟩ : ByteArray).size = 2 := rfl
  have z2 : (⟨#[59, 79, 61]⟩ : ByteArray).size = 3 := rfl
  have z3 : (⟨#[59, 80, 61]⟩ : ByteArray).size = 3 := rfl
  have z4 : (⟨#[59, 77, 61]⟩ : ByteArray).size = 3 := rfl
  unfold spec_imText.f oldTxt
  have q := spec_mv_txt b n h10 h11
  have q0 := spec_sh_ev t i m r l s h1 h2 h3 h4 h5
  simp only [e1, e4, Option.bind_some]
  generalize shTxt t i m r l s = A at a q0 ⊢
  generalize orTxt p f = B at e ⊢
  generalize plTxt g d c = C at e2 ⊢
  generalize mvTxt b n = D at e3 q ⊢
  refine Ev.bind q0 ?_
  refine Ev.congr (fun k => if_pos (by omega)) (Ev.congr (fun k => if_pos (by simp only [app_size, z1]; omega)) (Ev.congr (fun k => if_pos (by simp only [app_size, z1, z2, e]; omega)) (Ev.congr (fun k => if_pos (by simp only [app_size, z1, z2, e]; omega)) (Ev.congr (fun k => if_pos (by simp only [app_size, z1, z2, z3, e]; omega)) (Ev.congr (fun k => if_pos (by simp only [app_size, z1, z2, z3, e]; omega)) ?_)))))
  exact Ev.bind q (Ev.congr (f := fun _ => some _) (fun k => if_pos (by simp only [app_size, z1, z2, z3, z4, e]; omega)) (Ev.now _))
theorem impl_old (h : TxOK t i m r l p f g d b n) : Ev (fun k => impl_Hand_old.f k t i m r l s p f g d c b n) (oldTxt t i m r l s p f g d c b n) := by
  obtain ⟨⟨h1, h2, h3, h4, h5⟩, ⟨h6, h7⟩, ⟨h8, h9⟩, h10, h11⟩ := h
  have a := shTxt_size t i m r l s h1 h2 h3 h4 h5
  obtain ⟨_, e1, e⟩ := or_txt p f h6 h7
  obtain ⟨_, e4, e2⟩ := pl_txt g d c h8 h9
  have e3 := mvTxt_size b n h10 h11
  have z1 : (⟨#[83, 61]⟩ : ByteArray).size = 2 := rfl
  have z2 : (⟨#[59, 79, 61]⟩ : ByteArray).size = 3 := rfl
  have z3 : (⟨#[59, 80, 61]⟩ : ByteArray).size = 3 := rfl
  have z4 : (⟨#[59, 77, 61]⟩ : ByteArray).size = 3 := rfl
  unfold impl_Hand_old.f oldTxt
  have q := impl_mv_txt b n h10 h11
  have q0 := impl_sh_ev t i m r l s h1 h2 h3 h4 h5
  simp only [e1, e4, q, Option.bind_some]
  generalize shTxt t i m r l s = A at a q0 ⊢
  generalize orTxt p f = B at e ⊢
  generalize plTxt g d c = C at e2 ⊢
  generalize mvTxt b n = D at e3 ⊢
  refine Ev.bind q0 ?_
  refine Ev.congr (fun k => if_pos (by omega)) (Ev.congr (fun k => if_pos (by simp only [app_size, z1]; omega)) (Ev.congr (fun k => if_pos (by simp only [app_size, z1, z2, e]; omega)) (Ev.congr (fun k => if_pos (by simp only [app_size, z1, z2, e]; omega)) (Ev.congr (fun k => if_pos (by simp only [app_size, z1, z2, z3, e]; omega)) (Ev.congr (fun k => if_pos (by simp only [app_size, z1, z2, z3, e]; omega)) ?_)))))
  exact Ev.congr (f := fun _ => some _) (fun k => if_pos (by simp only [app_size, z1, z2, z3, z4, e]; omega)) (Ev.now _)
theorem both_ev (hb : b.size ≤ 1048576) : ∃ x, Ev (fun k => spec_ExportHand.f k t i m r l s p f g d c b n) x ∧ Ev (fun k => impl_ExportHand.f k t i m r l s p f g d c b n) x := by
  unfold spec_ExportHand.f impl_ExportHand.f
  have q1 := spec_hand_ev t i m r l s p f g d c b n hb
  have q2 := impl_hand_ev t i m r l s p f g d c b n hb
  cases h : hdOK t i m r l s p f g d c b n
  · rw [h] at q1 q2
    refine ⟨((⟨#[]⟩ : ByteArray), false), Ev.bind q1 ?_, Ev.bind q2 ?_⟩ <;> (simp only [Bool.false_eq_true, if_false]; exact Ev.now _)
  · rw [h] at q1 q2
    have hx := hdOK_tx t i m r l s p f g d c b n h
    refine ⟨(oldTxt t i m r l s p f g d c b n, true), Ev.bind q1 ?_, Ev.bind q2 ?_⟩
    · simp only [if_true]; exact Ev.bind (spec_old t i m r l s p f g d c b n hx) (Ev.now _)
    · simp only [if_true]; exact Ev.bind (impl_old t i m r l s p f g d c b n hx) (Ev.now _)
end
end Go.Proofs.YtaaldnaefdodkaaDoor.PA
namespace Go.Proofs.YtaaldnaefdodkaaDoor.Pure
open Go.RowKit Go.Proofs.YtaaldnaefdodkaaDoor.PA Go.Proofs.YtaaldnaefdodkaaDoorW.PrintWords Go.Proofs.YtaaldnaefdodkaaDoorW.PrintLast Go.Proofs.YtaaldnaefdodkaaDoorW.PrintMore
theorem FnExactExportHand : laws_FnExactExportHand.Pure := by
  rintro ⟨⟨t, i, m, r, l, s⟩, ⟨p, f⟩, ⟨g, d, c⟩, ⟨b, n⟩⟩ hV
  have hb : b.size ≤ 9223372036854775807 := hV.2.2.2.1
  refine Ev.rounds (g := fun k => laws_FnExactExportHand.f k t i m r l s p f g d c b n) (r := true) ?_
  unfold laws_FnExactExportHand.f
  rw [sz_hand t i m r l s p f g d c b n 1048576 (by omega) (by omega) hb]
  simp only [Option.bind_some, to_hand]
  by_cases h : (b.size : Int) ≤ 1048576
  · simp only [if_pos h, if_neg (show ¬ (1048576 - (b.size : Int) < 0) by omega)]
    obtain ⟨x, hx, hy⟩ := both_ev t i m r l s p f g d c b n (by omega)
    refine Ev.bind hx (Ev.bind hy ?_)
    exact Ev.congr (f := fun _ => some true) (fun k => by simp only [if_true, beq_self_eq_true]) (Ev.now _)
  · simp only [if_neg h]
    exact Ev.congr (f := fun _ => some true) (fun k => if_pos (by decide)) (Ev.now _)
end Go.Proofs.YtaaldnaefdodkaaDoor.Pure
