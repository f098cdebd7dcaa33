/- Shapes, orientations and places told by texts: both sides. -/
import Derived.Test.YtcicpmhcmlfhbaaGreatDoorQHandI
namespace Go.Proofs.YtcicpmhcmlfhbaaGreatDoor.PA
open Go.RowKit Go.Proofs.YtcicpmhcmlfhbaaGreatDoorW.PrintWords Go.Proofs.YtcicpmhcmlfhbaaGreatDoorW.PrintLast Go.Proofs.YtcicpmhcmlfhbaaGreatDoorW.PrintMore
set_option linter.unusedVariables false
set_option linter.unusedSimpArgs false
def shNo : Int × Int × Int × Int × Int × Bool × Bool := (0, 0, 0, 0, 0, false, false)
def shGo (x : ByteArray) (s : Bool) : Int × Int × Int × Int × Int × Bool × Bool :=
  if shOK (bt x 0 - 48) (bt x 1 - 48) (bt x 2 - 48) (bt x 3 - 48) (bt x 4 - 48) s = true then (bt x 0 - 48, bt x 1 - 48, bt x 2 - 48, bt x 3 - 48, bt x 4 - 48, s, true) else shNo
/-- The shape that a text tells. -/
def shPs (x : ByteArray) : Int × Int × Int × Int × Int × Bool × Bool :=
  if x.size = 5 ∨ (x.size = 6 ∧ bt x 5 = 115) then shGo x ((x.size : Int) == 6) else shNo
theorem bt48 (x : ByteArray) (j : Int) : wrap64 ((wrap64 (bt x j)) - 48) = bt x j - 48 := by
  have := bt_range x j
  rw [w64_i (x := bt x j) (by omega) (by omega), w64_i (by omega) (by omega)]
theorem spec_sh_l0 (x : ByteArray) (h5 : 5 ≤ x.size) : Ev (fun k => spec_shParse.l0 k x ([] : List Int) 0) (shGo x ((x.size : Int) == 6)) := by
  have e5 : Ev (fun k => (spec_shGood.f k (bt x 0 - 48) (bt x 1 - 48) (bt x 2 - 48) (bt x 3 - 48) (bt x 4 - 48) ((x.size : Int) == 6)).bind fun t131 => (if t131 = true then (some (bt x 0 - 48, bt x 1 - 48, bt x 2 - 48, bt x 3 - 48, bt x 4 - 48, ((x.size : Int) == 6), true)) else (some (0, 0, 0, 0, 0, false, false)))) (shGo x ((x.size : Int) == 6)) := by
    refine Ev.bind (spec_shape_ev _ _ _ _ _ _) ?_
    unfold shGo shNo
    split
    · exact Ev.now _
    · exact Ev.now _
  have l5 : Ev (fun k => spec_shParse.l0 k x [bt x 0 - 48, bt x 1 - 48, bt x 2 - 48, bt x 3 - 48, bt x 4 - 48] 5) (shGo x ((x.size : Int) == 6)) := by
    refine Ev.step (fun k => ?_) e5
    simp only [spec_shParse.l0]
    rw [if_neg (by decide), if_pos (by simp), if_pos (by simp), if_pos (by simp), if_pos (by simp), if_pos (by simp)]
    rfl
  have st : ∀ (k : Nat) (L : List Int) (j : Nat), j < 5 → L.length = j → spec_shParse.l0 (k + 1) x L (j : Int) = spec_shParse.l0 k x (L ++ [bt x (j : Int) - 48]) ((j + 1 : Nat) : Int) := fun k L j hj hL => by
    simp only [spec_shParse.l0]
    rw [if_pos (by omega), if_pos (by omega), if_pos (by omega), if_pos (by omega), bt48, w64_succ (by omega)]
  refine Ev.step (fun k => st k [] 0 (by omega) rfl) ?_
  refine Ev.step (fun k => st k [bt x 0 - 48] 1 (by omega) rfl) ?_
  refine Ev.step (fun k => st k [bt x 0 - 48, bt x 1 - 48] 2 (by omega) rfl) ?_
  refine Ev.step (fun k => st k [bt x 0 - 48, bt x 1 - 48, bt x 2 - 48] 3 (by omega) rfl) ?_
  exact Ev.step (fun k => st k [bt x 0 - 48, bt x 1 - 48, bt x 2 - 48, bt x 3 - 48] 4 (by omega) rfl) l5
theorem spec_shParse_ev (x : ByteArray) : Ev (fun k => spec_shParse.f k x) (shPs x) := by
  by_cases h : 5 ≤ x.size ∧ x.size ≤ 6
  · have e : ∀ k, spec_shParse.f k x = (if (x.size : Int) = 6 then (if 5 < (x.size : Int) then (spec_shParse.j0 k x ((bt x 5) != 115)) else (none)) else (spec_shParse.j0 k x false)) := fun k => by
      unfold spec_shParse.f
      rw [in_val, Option.bind_some, if_pos (by simp; omega)]
    refine Ev.congr e ?_
    by_cases h6 : x.size = 6
    · have e2 : ∀ k, (if (x.size : Int) = 6 then (if 5 < (x.size : Int) then (spec_shParse.j0 k x ((bt x 5) != 115)) else (none)) else (spec_shParse.j0 k x false)) = spec_shParse.j0 k x ((bt x 5) != 115) := fun k => by
        rw [if_pos (by omega), if_pos (by omega)]
      refine Ev.congr e2 ?_
      by_cases hb : bt x 5 = 115
      · unfold shPs
        rw [if_pos (.inr ⟨h6, hb⟩), hb]
        exact Ev.step (fun k => by simp only [spec_shParse.j0]; rw [if_neg (by decide)]) (spec_sh_l0 x h.1)
      · unfold shPs
        rw [if_neg (by omega)]
        exact Ev.step (fun k => by simp only [spec_shParse.j0]; rw [if_pos (by simpa using hb)]; rfl) (Ev.now shNo)
    · have e2 : ∀ k, (if (x.size : Int) = 6 then (if 5 < (x.size : Int) then (spec_shParse.j0 k x ((bt x 5) != 115)) else (none)) else (spec_shParse.j0 k x false)) = spec_shParse.j0 k x false := fun k => by
        rw [if_neg (by omega)]
      refine Ev.congr e2 ?_
      unfold shPs
      rw [if_pos (.inl (by omega))]
      exact Ev.step (fun k => by simp only [spec_shParse.j0]; rw [if_neg (by decide)]) (spec_sh_l0 x h.1)
  · have e : ∀ k, spec_shParse.f k x = spec_shParse.j0 k x true := fun k => by
      unfold spec_shParse.f
      rw [in_val, Option.bind_some, if_neg (by simp; omega)]
    refine Ev.congr e ?_
    have hs : shPs x = shNo := by unfold shPs; rw [if_neg (by omega)]
    rw [hs]
    exact Ev.step (fun k => by simp only [spec_shParse.j0]; rw [if_pos trivial]; rfl) (Ev.now shNo)
theorem itc (c : UInt8) (h : 0 ≤ (c.toNat : Int) - 48 ∧ (c.toNat : Int) - 48 ≤ 2) : itT ((c.toNat : Int) - 48) = ⟨#[c]⟩ := by
  have h3 : c.toNat = 48 ∨ c.toNat = 49 ∨ c.toNat = 50 := by omega
  rcases h3 with h3 | h3 | h3
  · obtain rfl : c = 48 := UInt8.toNat_inj.1 h3
    decide +kernel
  · obtain rfl : c = 49 := UInt8.toNat_inj.1 h3
    decide +kernel
  · obtain rfl : c = 50 := UInt8.toNat_inj.1 h3
    decide +kernel
theorem cat5 (a b c d e : UInt8) : (((((⟨#[a]⟩ : ByteArray) ++ ⟨#[b]⟩) ++ ⟨#[c]⟩) ++ ⟨#[d]⟩) ++ ⟨#[e]⟩) = ⟨#[a, b, c, d, e]⟩ := by kernel_rfl
theorem cat6 (a b c d e f : UInt8) : ((((((⟨#[a]⟩ : ByteArray) ++ ⟨#[b]⟩) ++ ⟨#[c]⟩) ++ ⟨#[d]⟩) ++ ⟨#[e]⟩) ++ ⟨#[f]⟩) = ⟨#[a, b, c, d, e, f]⟩ := by kernel_rfl
theorem of5 (x : ByteArray) (h : x.size = 5) : ∃ a b c d e, x = ⟨#[a, b, c, d, e]⟩ := by
  obtain ⟨⟨l⟩⟩ := x
  match l, h with
  | [a, b, c, d, e], _ => exact ⟨a, b, c, d, e, rfl⟩
theorem of6 (x : ByteArray) (h : x.size = 6) : ∃ a b c d e f, x = ⟨#[a, b, c, d, e, f]⟩ := by
  obtain ⟨⟨l⟩⟩ := x
  match l, h with
  | [a, b, c, d, e, f], _ => exact ⟨a, b, c, d, e, f, rfl⟩
theorem impl_sh_l0 (x : ByteArray) (h5 : 5 ≤ x.size) (h6 : x.size ≤ 6) : Ev (fun k => impl_ParseShape.l0 k x 0 0 0 0 0 0 false) (shPs x) := by
  have st : ∀ (k : Nat) (t i m r l : Int) (j : Nat), j < 5 → impl_ParseShape.l0 (k + 1) x (j : Int) t i m r l false = (impl_Shape_with.f t i m r l false (j : Int) (bt x (j : Int) - 48)).bind fun b => impl_ParseShape.l0 k x ((j + 1 : Nat) : Int) b.1 b.2.1 b.2.2.1 b.2.2.2.1 b.2.2.2.2.1 b.2.2.2.2.2 := fun k t i m r l j hj => by
    simp only [impl_ParseShape.l0]
    rw [if_pos (by omega), if_pos (by omega), if_pos (by omega), bt48, w64_succ (by omega)]
  refine Ev.step (fun k => (st k 0 0 0 0 0 0 (by omega)).trans rfl) ?_
  refine Ev.step (fun k => (st k (bt x 0 - 48) 0 0 0 0 1 (by omega)).trans rfl) ?_
  refine Ev.step (fun k => (st k (bt x 0 - 48) (bt x 1 - 48) 0 0 0 2 (by omega)).trans rfl) ?_
  refine Ev.step (fun k => (st k (bt x 0 - 48) (bt x 1 - 48) (bt x 2 - 48) 0 0 3 (by omega)).trans rfl) ?_
  refine Ev.step (fun k => (st k (bt x 0 - 48) (bt x 1 - 48) (bt x 2 - 48) (bt x 3 - 48) 0 4 (by omega)).trans rfl) ?_
  refine Ev.shift ?_
  have e : ∀ k, impl_ParseShape.l0 (k + 1) x 5 (bt x 0 - 48) (bt x 1 - 48) (bt x 2 - 48) (bt x 3 - 48) (bt x 4 - 48) false = (if shOK (bt x 0 - 48) (bt x 1 - 48) (bt x 2 - 48) (bt x 3 - 48) (bt x 4 - 48) ((x.size : Int) == 6) = true then ((impl_Shape_text.f k (bt x 0 - 48) (bt x 1 - 48) (bt x 2 - 48) (bt x 3 - 48) (bt x 4 - 48) ((x.size : Int) == 6)).bind fun t => (if t.toList = x.toList then (some (bt x 0 - 48, bt x 1 - 48, bt x 2 - 48, bt x 3 - 48, bt x 4 - 48, ((x.size : Int) == 6), true)) else (some shNo))) else some shNo) := fun k => by
    simp only [impl_ParseShape.l0]
    rw [if_neg (by decide), impl_shape, Option.bind_some]
    rfl
  refine Ev.congr e ?_
  by_cases hok : shOK (bt x 0 - 48) (bt x 1 - 48) (bt x 2 - 48) (bt x 3 - 48) (bt x 4 - 48) ((x.size : Int) == 6) = true
  · simp only [hok, if_true]
    have hin := shOK_in hok
    refine Ev.bind (impl_sh_ev _ _ _ _ _ _ (by omega) (by omega) (by omega) (by omega) (by omega)) ?_
    have key : (shTxt (bt x 0 - 48) (bt x 1 - 48) (bt x 2 - 48) (bt x 3 - 48) (bt x 4 - 48) ((x.size : Int) == 6)).toList = x.toList ↔ (x.size = 5 ∨ (x.size = 6 ∧ bt x 5 = 115)) := by
      rcases (show x.size = 5 ∨ x.size = 6 by omega) with h | h
      · obtain ⟨a, b, c, d, y, rfl⟩ := of5 x h
        unfold shTxt
        rw [show ((((⟨#[a, b, c, d, y]⟩ : ByteArray).size : Nat) : Int) == 6) = false from rfl, if_neg (by decide)]
        have : (((itT (bt ⟨#[a, b, c, d, y]⟩ 0 - 48) ++ itT (bt ⟨#[a, b, c, d, y]⟩ 1 - 48)) ++ itT (bt ⟨#[a, b, c, d, y]⟩ 2 - 48)) ++ itT (bt ⟨#[a, b, c, d, y]⟩ 3 - 48)) ++ itT (bt ⟨#[a, b, c, d, y]⟩ 4 - 48) = ⟨#[a, b, c, d, y]⟩ := by
          rw [show itT (bt ⟨#[a, b, c, d, y]⟩ 0 - 48) = ⟨#[a]⟩ from itc a hin.1, show itT (bt ⟨#[a, b, c, d, y]⟩ 1 - 48) = ⟨#[b]⟩ from itc b hin.2.1, show itT (bt ⟨#[a, b, c, d, y]⟩ 2 - 48) = ⟨#[c]⟩ from itc c hin.2.2.1, show itT (bt ⟨#[a, b, c, d, y]⟩ 3 - 48) = ⟨#[d]⟩ from itc d hin.2.2.2.1, show itT (bt ⟨#[a, b, c, d, y]⟩ 4 - 48) = ⟨#[y]⟩ from itc y hin.2.2.2.2, cat5]
        rw [this]
        exact ⟨fun _ => .inl h, fun _ => rfl⟩
      · obtain ⟨a, b, c, d, y, f, rfl⟩ := of6 x h
        unfold shTxt
        rw [show ((((⟨#[a, b, c, d, y, f]⟩ : ByteArray).size : Nat) : Int) == 6) = true from rfl, if_pos rfl]
        have : (((itT (bt ⟨#[a, b, c, d, y, f]⟩ 0 - 48) ++ itT (bt ⟨#[a, b, c, d, y, f]⟩ 1 - 48)) ++ itT (bt ⟨#[a, b, c, d, y, f]⟩ 2 - 48)) ++ itT (bt ⟨#[a, b, c, d, y, f]⟩ 3 - 48)) ++ itT (bt ⟨#[a, b, c, d, y, f]⟩ 4 - 48) ++ ⟨#[115]⟩ = ⟨#[a, b, c, d, y, 115]⟩ := by
          rw [show itT (bt ⟨#[a, b, c, d, y, f]⟩ 0 - 48) = ⟨#[a]⟩ from itc a hin.1, show itT (bt ⟨#[a, b, c, d, y, f]⟩ 1 - 48) = ⟨#[b]⟩ from itc b hin.2.1, show itT (bt ⟨#[a, b, c, d, y, f]⟩ 2 - 48) = ⟨#[c]⟩ from itc c hin.2.2.1, show itT (bt ⟨#[a, b, c, d, y, f]⟩ 3 - 48) = ⟨#[d]⟩ from itc d hin.2.2.2.1, show itT (bt ⟨#[a, b, c, d, y, f]⟩ 4 - 48) = ⟨#[y]⟩ from itc y hin.2.2.2.2, cat6]
        rw [this, ← bs_list, ← bs_list]
        have hf : bt ⟨#[a, b, c, d, y, f]⟩ 5 = (f.toNat : Int) := rfl
        constructor
        · intro he
          have : (115 : UInt8) = f := by simpa using he
          subst this
          exact .inr ⟨h, rfl⟩
        · rintro (h5 | ⟨_, h7⟩)
          · omega
          · rw [hf] at h7
            have : f = 115 := UInt8.toNat_inj.1 (by show f.toNat = 115; omega)
            rw [this]
    unfold shPs shGo
    rw [if_pos hok]
    by_cases hk : (x.size = 5 ∨ (x.size = 6 ∧ bt x 5 = 115))
    · rw [if_pos hk, if_pos (key.2 hk)]; exact Ev.now _
    · rw [if_neg hk, if_neg (fun h => hk (key.1 h))]; exact Ev.now _
  · simp only [hok]
    have : shPs x = shNo := by
      unfold shPs shGo
      rw [if_neg hok]
      split <;> rfl
    rw [this]
    exact Ev.now _
theorem impl_ParseShape_ev (x : ByteArray) : Ev (fun k => impl_ParseShape.f k x) (shPs x) := by
  by_cases h : 5 ≤ x.size ∧ x.size ≤ 6
  · refine Ev.congr (fun k => ?_) (impl_sh_l0 x h.1 h.2)
    unfold impl_ParseShape.f impl_within.f
    rw [if_pos (by omega), Option.bind_some, if_pos (by simp; omega)]
  · have hs : shPs x = shNo := by unfold shPs; rw [if_neg (by omega)]
    rw [hs]
    refine Ev.congr (fun k => ?_) (Ev.now shNo)
    unfold impl_ParseShape.f impl_within.f
    by_cases h1 : (x.size : Int) ≥ 5
    · rw [if_pos h1, Option.bind_some, if_neg (by simp; omega)]; rfl
    · rw [if_neg h1, Option.bind_some, if_neg (by decide)]; rfl
end Go.Proofs.YtcicpmhcmlfhbaaGreatDoor.PA
