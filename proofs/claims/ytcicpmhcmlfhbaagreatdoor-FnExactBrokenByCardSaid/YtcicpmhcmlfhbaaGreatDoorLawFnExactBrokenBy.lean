/- The law FnExactBrokenBy: whatever the input, the call returns true, and its arguments read behind the call as they read before. Out of the pure statement and the printed contracts. -/
import Derived.Test.YtcicpmhcmlfhbaaGreatDoorRows
import Derived.Test.YtcicpmhcmlfhbaaGreatDoorWalkFnExactBrokenBy
import Derived.Test.YtcicpmhcmlfhbaaGreatDoorPureFnExactBrokenBy
import Derived.Test.YtcicpmhcmlfhbaaGreatDoorCards
import Derived.Test.YtcicpmhcmlfhbaaGreatDoorTie
import Derived.SevenTiedAt
import Derived.LaidMore
import Derived.Stop.Joined
import Derived.WalkKit
import Derived.ProofKit
import Derived.OpenShut
import Derived.ShutString
import Derived.ChangeOld
import Derived.Below
import Derived.SizedLaws
namespace Go.Proofs.YtcicpmhcmlfhbaaGreatDoor.fnExactBrokenBy
open Go.ChangeShapes Go.WideShapes Go.ChangeAt Go.RowKit Go.Proofs.YtcicpmhcmlfhbaaGreatDoor.PA Go.Proofs.YtcicpmhcmlfhbaaGreatDoorW.PrintWords
open Go.ChangeMaps (open_string shut_string)
set_option linter.unusedVariables false
theorem own : ownKnob Tryz.prog.godebug = none := by kernel_rfl
noncomputable def laidL {H : Type} : List (String × DataW H) := [("math/bits.deBruijn32tab", Rows.laid_math_bits_deBruijn32tab), ("math/bits.deBruijn64tab", Rows.laid_math_bits_deBruijn64tab), ("internal/strconv.uint64pow10", Rows.laid_internal_strconv_uint64pow10)]
/-- The door's own heap meets the condition. -/
theorem door_met (os : Os) (args : Array Value) : laidMetH Tryz.prog laidL ((World.doorLaid Tryz.prog 4000 os).forCall (fun _ _ => 0) ⟨#[], args, []⟩).memory :=
  laidMetH_of_parts3 (fuel := 8) (laidMet_of_run' 8 (by kernel_rfl) (by kernel_rfl)) (by kernel_rfl) (by kernel_rfl)
theorem laidOut : laidOutB Tryz.prog = true := by kernel_rfl
set_option maxRecDepth 100000 in
theorem lifted (os : Os) (started : os.Started) (H : Type) (enc : TypeId × Value → H) :
    ReturnsInHanded {} Tryz.checked os 7 .any (fun w args => (Rows.fnExactBrokenBySpec.pre enc Tryz.prog Tryz.f7 [] false w args ∧ laidMetH Tryz.prog laidL w) ∧ sizedMet enc Tryz.prog Tryz.f7 (OpenSpec.ofChange Rows.fnExactBrokenBySpec) false w args) (Rows.fnExactBrokenBySpec.post enc Tryz.prog Tryz.f7 false true false false) := by
  refine returnsInHanded_of_change_and (C := Tryz.checked) (X := fun w _ => laidMetH Tryz.prog laidL w) (fun _ _ _ hh h => h.of_heap hh) own started (by kernel_rfl) Tryz.func7
    (ChangeSpec.witness_shaped (enc := enc) (C := Tryz.checked) (os := os) (X := fun w _ => laidMetH Tryz.prog laidL w) false (World.doorLaid Tryz.prog 4000 os) #[.agg #[.int .i64 0, .int .i64 0, .int .i64 0, .int .i64 0, .int .i64 0, .bool false, .int .i64 0, .int .i64 0, .int .i64 0, .int .i64 0, .bool false, .string ByteArray.empty, .int .i64 0, .bool false, .int .i64 0, .int .i64 0, .int .i64 0, .int .i64 0, .int .i64 0, .bool false, .int .i64 0, .int .i64 0, .int .i64 0, .int .i64 0, .bool false, .string ByteArray.empty, .int .i64 0], .slice none 0 0] 8 rfl (World.shaped_of_RefB (by kernel_rfl) (by kernel_rfl)) (by kernel_rfl) (by kernel_rfl) (by kernel_rfl) (door_met os _)) ?_
  intro W base args ds gs before hval0 hW _ _ hL _
  have hval : ∀ (j : Nat) t v, Tryz.f7.params[j]? = some t → args[j]? = some v → Value.okWide Tryz.prog W .any base t v := hval0
  have hW' := hW
  obtain ⟨p, q, hA0, hV, rfl, hfz, hnd⟩ := hW
  have hA : DataW.TrodAll enc Tryz.prog W 0 (fun _ => true) true Tryz.f7.params.toList args.toList ds p := hA0
  rw [Tryz.params7] at hA hval
  obtain ⟨v0, vs0, d0, ds0, p0, q0, hargs, rfl, rfl, h0, r0⟩ := trodAll_cons hA
  obtain ⟨v1, vs1, d1, ds1, p1, q1, rfl, rfl, rfl, h1, r1⟩ := trodAll_cons r0
  obtain ⟨rfl, rfl, rfl⟩ := trodAll_nil r1
  obtain rfl : args = #[v0, v1] := by cases args; simp_all
  obtain ⟨rfl, rfl⟩ := trodVars_none hV
  have k0 := h0
  have lt0 : ∀ x ∈ p0, x.block < W.heap.size := by obtain ⟨m, hm⟩ := k0; exact DataW.trod_lt m _ _ _ hm
  obtain ⟨x0, cs0, rfl, hK0, V0⟩ := opens_agg Tryz.underlying70 opens70 (hval 0 70 v0 rfl rfl) h0
  have e0 := k70_open hK0
  obtain ⟨cs0⟩ := cs0
  have e0' : cs0 = _ := e0
  clear e0 hK0
  subst e0'
  have k1 := h1
  have lt1 : ∀ x ∈ p1, x.block < W.heap.size := by obtain ⟨m, hm⟩ := k1; exact DataW.trod_lt m _ _ _ hm
  obtain ⟨A1, x1, c1, rfl, hc1, hr1, V1⟩ := opens_arg_slice Tryz.underlying71 (opens_slice Tryz.underlying71 (by kernel_rfl) opens114) (hval 1 71 v1 rfl rfl) h1
  clear hA0 hval0 hL
  simp only [List.append_nil] at hW'
  obtain ⟨k, h⟩ := (Pure.FnExactBrokenBy x0 x1 V0 V1)
  refine (laws_FnExactBrokenBy.calls k x0.f0.f0.f0 x0.f0.f0.f1 x0.f0.f0.f2 x0.f0.f0.f3 x0.f0.f0.f4 x0.f0.f0.f5 x0.f0.f1.f0 x0.f0.f1.f1 x0.f0.f2.f0 x0.f0.f2.f1 x0.f0.f2.f2 x0.f0.f3.f0 x0.f0.f3.f1 x0.f1 x0.f2.f0.f0 x0.f2.f0.f1 x0.f2.f0.f2 x0.f2.f0.f3 x0.f2.f0.f4 x0.f2.f0.f5 x0.f2.f1.f0 x0.f2.f1.f1 x0.f2.f2.f0 x0.f2.f2.f1 x0.f2.f2.f2 x0.f2.f3.f0 x0.f2.f3.f1 A1 c1 x1 true W hr1 hc1 h).mono ?_
  rintro e W' ⟨he, bel0⟩
  subst he
  have bel : Below W.heap.size W W' := bel0
  exact ⟨_, rfl, _, _, _, [], _, [], hW', trodAll_mk1 (shut_bool Tryz.underlying4 _), (trodAll_cons_mk (Below.trod laidOut (by kernel_rfl) (of_decide_eq_true (by kernel_rfl)) k0 bel lt0) (trodAll_cons_mk (Below.trod laidOut (by kernel_rfl) (of_decide_eq_true (by kernel_rfl)) k1 bel lt1) trodAll_mk0)), rfl, bel.frame _, fun h => by cases h⟩
theorem o1_ : Tryz.pinned.checked.prog.funcNamed Rows.fnExactBrokenByRow.func = some 7 := by kernel_rfl
theorem o2_ : joinedFacts Tryz.pinned.checked.prog 7 Tryz.f7 Rows.fnExactBrokenBySpec Rows.fnExactBrokenByRow = true := by kernel_rfl
theorem over : Rows.fnExactBrokenByRow.holds Tryz.pinned (OpenSpec.ofChange Rows.fnExactBrokenBySpec) :=
  OpenClaim.holds_of_wide 7 Tryz.f7 rfl rfl rfl rfl rfl rfl rfl ⟨rfl, rfl, rfl, rfl, rfl⟩ rfl rfl rfl rfl rfl o1_ Tryz.func7 o2_
    (of_decide_eq_true (by kernel_rfl)) (by unfold Func.isWrapper; first | (rw [if_pos (by decide +kernel)]; kernel_rfl) | (rw [if_neg (by decide +kernel)]; exact ⟨rfl, rfl⟩))
    (fun os started H enc _ => lifted os started H enc)
theorem proved : Rows.FnExactBrokenByCardSaid :=
  Claim7.holds_tied_plain_at .later [] [.data, .data, .data] true (true, "278c3abcaf0adf981e0efac096a2b3af13acad94e50bdab68ac4902528aba0b4") true
    over (fun _ h => by cases h) (by kernel_rfl) (fun _ h => by cases h) fnExactBrokenBy_row_tie rfl ⟨rfl, rfl⟩ (by kernel_rfl) rfl
    (fun f fn hf hfn => by
      obtain rfl : f = 7 := Option.some.inj ((show Tryz.prog.funcNamed "loop.example/g01008/laws.FnExactBrokenBy" = some 7 by kernel_rfl).symm.trans hf) |>.symm
      obtain rfl : fn = Tryz.f7 := (Option.some.inj (Tryz.func7.symm.trans hfn)).symm
      exact ⟨by kernel_rfl, fun j t ht => by
        rw [Tryz.params7] at ht
        have hm : t ∈ (Tryz.f7.params).toList := by rw [Tryz.params7]; simpa using Array.mem_of_getElem? ht
        have hall : ((Tryz.f7.params).toList.all fun u => !Tryz.prog.wantsStandIn u) = true := by kernel_rfl
        exact (show Tryz.prog.wantsStandIn t = false by simpa using List.all_eq_true.1 hall t hm)⟩)
    (by kernel_rfl)
#print axioms proved
end Go.Proofs.YtcicpmhcmlfhbaaGreatDoor.fnExactBrokenBy
namespace Go.Proofs.YtcicpmhcmlfhbaaGreatDoor
/-- The card, under a short name, for the claim. -/
theorem fnExactBrokenBy_holds : Rows.FnExactBrokenByCardSaid := fnExactBrokenBy.proved
end Go.Proofs.YtcicpmhcmlfhbaaGreatDoor
