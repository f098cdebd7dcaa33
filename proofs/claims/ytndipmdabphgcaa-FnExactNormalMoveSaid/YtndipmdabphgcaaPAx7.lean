-- Written by a program of this session (wip/tools/myprint.py). Not trusted: Lean checks it.
import Derived.Test.YtndipmdabphgcaaPAx0
import Derived.Test.YtndipmdabphgcaaPAx6
namespace Go.Proofs.Ytndipmdabphgcaa.PA
open Go.RowKit Go.Proofs.YtndipmdabphgcaaW.PrintWords Go.Proofs.YtndipmdabphgcaaW.PrintLast Go.Proofs.YtndipmdabphgcaaW.PrintMore
attribute [local go_sem] max2_int min2_int max_two min_two max_three min_three max_four min_four   -- for this text's walks alone
set_option linter.unusedVariables false
set_option linter.unusedSimpArgs false

/-! ### impl_OldPlace: function 12 -/
section
open Go.Maps Go.WideElems Go.WideMaps
/-- The place that an old name stands for. -/
def oldNm (a : ByteArray) : ByteArray :=
  if a.toList = [97, 105, 114] then ⟨#[115, 112, 97, 99, 101]⟩ else if a.toList = [98, 114, 111, 119] then ⟨#[101, 121, 101]⟩ else if a.toList = [102, 97, 99, 101] then ⟨#[109, 111, 117, 116, 104]⟩ else if a.toList = [98, 111, 100, 121] then ⟨#[99, 104, 101, 115, 116, 42]⟩ else ⟨#[]⟩
def oldD : DataW Unit := (((((DataW.map []).put (.string [98, 111, 100, 121]) (.lit (.string [99, 104, 101, 115, 116, 42]))).put (.string [102, 97, 99, 101]) (.lit (.string [109, 111, 117, 116, 104]))).put (.string [98, 114, 111, 119]) (.lit (.string [101, 121, 101]))).put (.string [97, 105, 114]) (.lit (.string [115, 112, 97, 99, 101])))
theorem oldD_at (a s : ByteArray) (h : oldD.atKey (.string a.data.toList) (.lit (.string [])) = .lit (.string s.data.toList)) : s = oldNm a := by
  have e : oldD.atKey (.string a.data.toList) (.lit (.string [])) = .lit (.string (oldNm a).data.toList) := by
    rw [bs_list a]
    unfold oldD oldNm
    generalize a.toList = l
    have isk : ∀ l : List UInt8, WideAt.IsKeyLit (.string l) := fun l => trivial
    have i0 : IsMap (DataW.map [] : DataW Unit) := isMap_empty
    split
    · subst l; rw [atKey_put_same (by repeat (first | exact i0 | apply IsMap.put)) (isk _)]
    · rename_i h1
      rw [atKey_put_other (by simpa using h1)]
      split
      · subst l; rw [atKey_put_same (by repeat (first | exact i0 | apply IsMap.put)) (isk _)]
      · rename_i h2
        rw [atKey_put_other (by simpa using h2)]
        split
        · subst l; rw [atKey_put_same (by repeat (first | exact i0 | apply IsMap.put)) (isk _)]
        · rename_i h3
          rw [atKey_put_other (by simpa using h3)]
          split
          · subst l; rw [atKey_put_same i0 (isk _)]
          · rename_i h4
            rw [atKey_put_other (by simpa using h4)]
            rfl
  rw [e] at h
  simp only [DataW.lit.injEq, Lit.string.injEq] at h
  obtain ⟨⟨l⟩⟩ := s
  generalize oldNm a = b at h
  obtain ⟨⟨m⟩⟩ := b
  simp at h
  rw [h]

theorem law_str : Keyed Try.prog 9 := string_keyed Try.underlying9
def impl_OldPlace.f (k : Nat) (a0 : ByteArray) : Option (Int × Int × Bool × Bool) := if a0.size ≤ 9223372036854775807 then impl_ParsePlace.f k (oldNm a0) else none
theorem impl_OldPlace.mono : ∀ a0 k, LeO (impl_OldPlace.f k a0) (impl_OldPlace.f (k + 1) a0) := by
  intro a0 k
  unfold impl_OldPlace.f
  exact LeO.ite (impl_ParsePlace.mono _ _) (LeO.none _)
set_option maxHeartbeats 4000000 in
set_option maxRecDepth 100000 in
theorem impl_OldPlace.calls (k : Nat) (a0 : ByteArray) (t142 : Int) (t143 : Int) (t144 : Bool) (t145 : Bool) (w : World) (h : impl_OldPlace.f k a0 = some (t142, t143, t144, t145)) :
    Calls Try.prog 12 #[.string a0] w fun e w' => e = .returned (.tuple #[.agg #[.int .i64 t142, .int .i64 t143, .bool t144], .bool t145]) ∧ Below w.heap.size w w' := by
  have ha : a0.size ≤ maxLen := by
    unfold impl_OldPlace.f at h
    split at h
    · unfold maxLen; assumption
    · cases h
  have h : impl_ParsePlace.f k (oldNm a0) = some (t142, t143, t144, t145) := by
    unfold impl_OldPlace.f at h
    rwa [if_pos (by unfold maxLen at ha; exact ha)] at h
  have hu23 := Try.underlying23
  have HB := Aside0.mk (Below.refl w.heap.size w)
  have A2 := Aside0.mk h
  clear h
  go_enter Try.func12, Try.ntmps12
  go_wp2_with (first
    | ((with_reducible refine gate_dst (N := 2) rfl ?_); refine box_event ?hg (N := 2) ?hd (cs := #[.int .i64 0, .int .i64 0, .bool false]) (t := 23) ?hr ?_; (case hd => rfl); (case hg => rfl); (case hr => first | (go_simp; done) | (go_simp; rfl)); intro gb141 hg w3 hbox hb; have n0_ := Aside0.mk (below_step (by repeat (first | (with_reducible first | exact HB.out | apply below_alloc | apply pw_below_drewN | apply below_drew1) | exact HB.out)) hb); have n1_ := Aside0.mk (hbox); have n2_ := Aside0.mk ((by rw [hg]; exact (below_size (by repeat (first | (with_reducible first | exact HB.out | apply below_alloc | apply pw_below_drewN | apply below_drew1) | exact HB.out))) : w.heap.size ≤ gb141)); clear HB; have HB := n0_; have BK141 := n1_; have GE141 := n2_; clear n0_ n1_ n2_; clear hb hbox hg)
    | (refine wpList_makeMap_own _ rfl 49 rfl 9 (plainElem (H := Unit) Try.prog 9) ?_; intro gm w5 hgm hown0 hb; have hown := Aside0.mk hown0; have n0_ := Aside0.mk (blk_below (g := gb141) BK141.out hb); have n1_ := Aside0.mk (below_step HB.out hb); have n2_ := Aside0.mk (show gb141 < gm by rw [hgm]; exact blk_lt BK141.out); clear hown0 BK141 HB hb hgm; have BK141 := n0_; have HB := n1_; have GM := n2_; clear n0_ n1_ n2_)
    | (refine wpList_insert_own _ rfl _ _ _ 49 rfl 9 9 law_str Try.underlying49 (plainElem (H := Unit) Try.prog 9) _ _ _ rfl hown.out (by unfold maxLen; omega) _ _ _ rfl rfl (keyOf_string_mk Try.underlying9 (by decide)) _ _ (plainElem_string Try.underlying9 (by decide)) ?_; intro w6 hown1 hg1; have n0_ := Aside0.mk (blk_grown BK141.out hg1 (by have := GM.out; intro e; cases e; omega)); have n1_ := Aside0.mk (pw_below_grown HB.out _ (below_size HB.out) hg1 (fun k hk => by cases hk; have := GM.out; have := GE141.out; omega)); have n2_ := Aside0.mk hown1; clear hown hown1 BK141 HB hg1; have BK141 := n0_; have HB := n1_; have hown := n2_; clear n0_ n1_ n2_)
    | (refine wpList_lookup_own_str _ rfl _ _ 49 rfl 9 9 law_str Try.underlying49 Try.underlying9 (by kernel_rfl) _ _ _ rfl hown.out _ _ rfl (keyOf_string_mk Try.underlying9 ha) ?_; intro s hs; obtain rfl := oldD_at a0 s hs; clear hs)
    | ((with_reducible refine gate_callee (f := 32) rfl ?_); refine goesL_ (some 10) rfl rfl Try.func32 (by kernel_rfl) rfl #[.string (oldNm a0)] rfl (by (try simp only [List.map_toArray, List.map_cons, List.map_nil]); first | done | rfl | (simp only [List.length_drop, List.length_take]; rfl)) ?_; (with_reducible refine (impl_ParsePlace.calls k (oldNm a0) t142 t143 t144 t145 _ A2.out).mono ?_); rintro e w4 ⟨rfl, hb⟩; refine ⟨_, rfl, ?_⟩; have n0_ := Aside0.mk (blk_below (g := gb141) (o := .cells #[.int .i64 0, .int .i64 0, .bool false] 23 (0, 0)) (by (with_reducible repeat (first | refine blk_drewN ?_ _ | refine blk_drew ?_ | refine blk_alloc ?_ _)); exact BK141.out) hb); have n1_ := Aside0.mk (below_step (by repeat (first | (with_reducible first | exact HB.out | apply below_alloc | apply pw_below_drewN | apply below_drew1 | refine below_set ?_ GE141.out) | exact HB.out)) hb); clear BK141; clear HB; have BK141 := n0_; have HB := n1_; clear n0_ n1_; (try clear hb); have hcz5_0 : w4.cell? ⟨gb141, 0, none⟩ = some (.int .i64 0) := (blk_cell BK141.out 0).trans rfl; have hcz5_1 : w4.cell? ⟨gb141, 1, none⟩ = some (.int .i64 0) := (blk_cell BK141.out 1).trans rfl; have hcz5_2 : w4.cell? ⟨gb141, 2, none⟩ = some (.bool false) := (blk_cell BK141.out 2).trans rfl; have hfz5_0 := blk_frozen BK141.out 0; have hfz5_1 := blk_frozen BK141.out 1; have hfz5_2 := blk_frozen BK141.out 2))
  refine bodyPost_ret (results_ct rfl _ _ gb141 23 #[.int .i64 t142, .int .i64 t143, .bool t144] (0, 0) _ rfl (by (with_reducible repeat (first | refine blk_drewN ?_ _ | refine blk_drew ?_ | refine blk_alloc ?_ _)); refine blk_put (cs := #[.int .i64 t142, .int .i64 t143, .bool false]) ?_ 2 _ rfl; (with_reducible repeat (first | refine blk_drewN ?_ _ | refine blk_drew ?_ | refine blk_alloc ?_ _)); refine blk_put (cs := #[.int .i64 t142, .int .i64 0, .bool false]) ?_ 1 _ rfl; (with_reducible repeat (first | refine blk_drewN ?_ _ | refine blk_drew ?_ | refine blk_alloc ?_ _)); refine blk_put (cs := #[.int .i64 0, .int .i64 0, .bool false]) ?_ 0 _ rfl; (with_reducible repeat (first | refine blk_drewN ?_ _ | refine blk_drew ?_ | refine blk_alloc ?_ _)); exact BK141.out) Try.underlying23 rfl (by kernel_rfl)) rfl ?_
  exact ⟨by first | rfl | (simp [errW_none, errW_some] <;> rfl) | (simp [*, errW_none, errW_some] <;> rfl), by repeat (first | (with_reducible first | exact HB.out | apply below_alloc | apply pw_below_drewN | apply below_drew1 | refine below_set ?_ GE141.out) | exact HB.out)⟩
end

end Go.Proofs.Ytndipmdabphgcaa.PA
