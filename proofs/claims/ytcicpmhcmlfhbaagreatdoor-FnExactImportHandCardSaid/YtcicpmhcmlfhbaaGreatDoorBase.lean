/- What the texts that are told by hand share: small lemmas on worlds, maps and texts. -/
import Derived.Test.YtcicpmhcmlfhbaaGreatDoorProg
import Derived.Test.YtcicpmhcmlfhbaaGreatDoorWWords
import Derived.Test.YtcicpmhcmlfhbaaGreatDoorWLast
import Derived.Test.YtcicpmhcmlfhbaaGreatDoorWTab
import Derived.Test.YtcicpmhcmlfhbaaGreatDoorWFour
import Derived.Test.YtcicpmhcmlfhbaaGreatDoorWQPut
import Derived.Test.YtcicpmhcmlfhbaaGreatDoorWApart
import Derived.Test.YtcicpmhcmlfhbaaGreatDoorWArr
import Derived.Test.YtcicpmhcmlfhbaaGreatDoorWZeros
import Derived.Test.YtcicpmhcmlfhbaaGreatDoorWFoot
import Derived.Test.YtcicpmhcmlfhbaaGreatDoorWKept
import Derived.Test.YtcicpmhcmlfhbaaGreatDoorWShare
import Derived.Test.YtcicpmhcmlfhbaaGreatDoorWN
import Derived.Test.YtcicpmhcmlfhbaaGreatDoorWFootNe
import Derived.Test.YtcicpmhcmlfhbaaGreatDoorWAt
import Derived.Test.YtcicpmhcmlfhbaaGreatDoorWEqStruct
import Derived.Test.YtcicpmhcmlfhbaaGreatDoorWRepsOne
import Derived.Test.YtcicpmhcmlfhbaaGreatDoorWInv
import Derived.Test.YtcicpmhcmlfhbaaGreatDoorWInvWords
import Derived.Test.YtcicpmhcmlfhbaaGreatDoorWGuard
import Derived.Test.YtcicpmhcmlfhbaaGreatDoorWNEv
import Derived.Test.YtcicpmhcmlfhbaaGreatDoorWMore
import Derived.OrdersHeld
import Derived.Laws.BitsLemmas
import Derived.Maps.OwnOps
import Derived.Maps.StringElems
import Derived.Maps.Views
namespace Go.Proofs.YtcicpmhcmlfhbaaGreatDoor.PA
open Go.RowKit Go.Proofs.YtcicpmhcmlfhbaaGreatDoorW.PrintWords Go.Proofs.YtcicpmhcmlfhbaaGreatDoorW.PrintLast Go.Proofs.YtcicpmhcmlfhbaaGreatDoorW.PrintMore
set_option linter.unusedVariables false
set_option linter.unusedSimpArgs false
theorem reads_len {α : Type} {R : α → List Value → Prop} {sz : Nat} {w : World} {A : Option Addr} {m m' : Nat} {ys : List α} (h : m' = m) (hr : ReadsRow R sz w A m' ys) : ReadsRow R sz w A m ys := h ▸ hr
section
variable {α : Type} {d : Kd α} {e : Nat} {w w1 W : World} {base : Nat} {ok : Nat → Prop} {v : Value} {xs : List α}
theorem rA_ (h : d.R e w base ok v xs) (o : Obj) : d.R e (w.alloc o) base ok v xs := Kd.R_alloc h o
theorem rD_ (h : d.R e w base ok v xs) : d.R e w.drew base ok v xs := Kd.R_drew h
theorem rN_ (h : d.R e w base ok v xs) (m : Nat) : d.R e (w.drewN m) base ok v xs := Kd.R_drewN h m
end
theorem cA_ {α : Type} {d : Kd α} {w : World} {xs : List α} {A : Option Addr} {n : Nat} (h : d.C w A n xs) (o : Obj) : d.C (w.alloc o) A n xs := Kd.C_alloc h o
theorem cD_ {α : Type} {d : Kd α} {w : World} {xs : List α} {A : Option Addr} {n : Nat} (h : d.C w A n xs) : d.C w.drew A n xs := Kd.C_drew h
theorem cN_ {α : Type} {d : Kd α} {w : World} {xs : List α} {A : Option Addr} {n : Nat} (h : d.C w A n xs) (m : Nat) : d.C (w.drewN m) A n xs := Kd.C_drewN h m
theorem lA_ {w : World} {g : Nat} {o : Obj} (h : w.heap[g]? = some o) (o' : Obj) : (w.alloc o').heap[g]? = some o := blk_alloc h o'
theorem lD_ {w : World} {g : Nat} {o : Obj} (h : w.heap[g]? = some o) : w.drew.heap[g]? = some o := blk_drew h
theorem lN_ {w : World} {g : Nat} {o : Obj} (h : w.heap[g]? = some o) (n : Nat) : (w.drewN n).heap[g]? = some o := blk_drewN h n
theorem bA_ {w W : World} (h : Below w.heap.size w W) (o : Obj) : Below w.heap.size w (W.alloc o) := below_alloc h o
theorem bN_ {B : Nat} {w W : World} (h : Below B w W) (n : Nat) : Below B w (W.drewN n) := pw_below_drewN h n
theorem bD_ {base : Nat} {w W : World} (h : Below base w W) : Below base w W.drew := below_drew1 h
theorem bS_ {w W : World} {g j : Nat} {v : Value} (h : Below w.heap.size w W) (hg : w.heap.size ≤ g) : Below w.heap.size w (W.setCell ⟨g, j, none⟩ v) := below_set h hg
/-! short names whose side goals are told by the proofs bound to them (wip/tools/squeeze2.py puts them in) -/
theorem args_ {P : Prop} (h : P := by (try simp only [List.map_toArray, List.map_cons, List.map_nil]); first | done | rfl | (simp only [List.length_drop, List.length_take]; rfl)) : P := h
theorem bb_ {P Q : Prop} (q : Aside0 Q) (f : Q → P := by intro HB_; repeat (first | (with_reducible first | exact HB_ | apply bA_ | apply bN_ | apply bD_) | exact HB_)) : P := f q.out
theorem bb1_ {P Q G1 : Prop} (q : Aside0 Q) (g1 : Aside0 G1) (f : Q → G1 → P := by intro HB_ g1_; repeat (first | (with_reducible first | exact HB_ | apply bA_ | apply bN_ | apply bD_ | refine bS_ ?_ g1_) | exact HB_)) : P := f q.out g1.out
theorem bb2_ {P Q G1 G2 : Prop} (q : Aside0 Q) (g1 : Aside0 G1) (g2 : Aside0 G2) (f : Q → G1 → G2 → P := by intro HB_ g1_ g2_; repeat (first | (with_reducible first | exact HB_ | apply bA_ | apply bN_ | apply bD_ | refine bS_ ?_ g1_ | refine bS_ ?_ g2_) | exact HB_)) : P := f q.out g1.out g2.out
theorem bb3_ {P Q G1 G2 G3 : Prop} (q : Aside0 Q) (g1 : Aside0 G1) (g2 : Aside0 G2) (g3 : Aside0 G3) (f : Q → G1 → G2 → G3 → P := by intro HB_ g1_ g2_ g3_; repeat (first | (with_reducible first | exact HB_ | apply bA_ | apply bN_ | apply bD_ | refine bS_ ?_ g1_ | refine bS_ ?_ g2_ | refine bS_ ?_ g3_) | exact HB_)) : P := f q.out g1.out g2.out g3.out
theorem bb4_ {P Q G1 G2 G3 G4 : Prop} (q : Aside0 Q) (g1 : Aside0 G1) (g2 : Aside0 G2) (g3 : Aside0 G3) (g4 : Aside0 G4) (f : Q → G1 → G2 → G3 → G4 → P := by intro HB_ g1_ g2_ g3_ g4_; repeat (first | (with_reducible first | exact HB_ | apply bA_ | apply bN_ | apply bD_ | refine bS_ ?_ g1_ | refine bS_ ?_ g2_ | refine bS_ ?_ g3_ | refine bS_ ?_ g4_) | exact HB_)) : P := f q.out g1.out g2.out g3.out g4.out
theorem bz_ {w W W' : World} (q : Aside0 (Below w.heap.size w W')) (f : Below w.heap.size w W' → Below w.heap.size w W := by intro HB_; repeat (first | (with_reducible first | exact HB_ | apply bA_ | apply bN_ | apply bD_) | exact HB_)) : w.heap.size ≤ W.heap.size := below_size (f q.out)
theorem bt_ {w W W' w2 : World} (q : Aside0 (Below w.heap.size w W')) (hb : Below W.heap.size W w2) (f : Below w.heap.size w W' → Below w.heap.size w W := by intro HB_; repeat (first | (with_reducible first | exact HB_ | apply bA_ | apply bN_ | apply bD_) | exact HB_)) : Below w.heap.size w w2 := below_step (f q.out) hb
theorem ra_ {P Q : Prop} (q : Aside0 Q) (f : Q → P := by intro h_; (with_reducible repeat (first | apply rA_ | apply rN_ | apply rD_)); exact h_) : P := f q.out
theorem rf_ {P Q : Prop} (q : Q) (f : Q → P := by intro h_; (with_reducible repeat (first | apply rA_ | apply rN_ | apply rD_)); exact h_) : P := f q
theorem la_ {P Q : Prop} (q : Aside0 Q) (f : Q → P := by intro h_; (with_reducible repeat (first | apply lN_ | apply lD_ | apply lA_)); exact h_) : P := f q.out
theorem lb_ {w w1 W : World} {g : Nat} {o : Obj} (q : Aside0 (w.heap[g]? = some o)) (hb : Below w1.heap.size w1 W) (f : w.heap[g]? = some o → w1.heap[g]? = some o := by intro h_; (with_reducible repeat (first | apply lN_ | apply lD_ | apply lA_)); exact h_) : W.heap[g]? = some o := blk_below (f q.out) hb
section
variable {α : Type} {d : Kd α} {e g : Nat} {w : World} {base : Nat} {ok : Nat → Prop} {v : Value} {xs : List α}
theorem ft_ {t : Nat} {cells : Array Value} (h : Aside0 (d.R e w base ok v xs)) (hb : Aside0 (w.heap[g]? = some (.cells cells t (0, 0)))) (ht : ∀ q, q ∈ e :: d.E → q ≠ t := by decide) : d.R e w base (fun k => ok k ∧ k ≠ g) v xs := Kd.R_types h.out hb.out ht
theorem fr_ (h : d.R e w base (fun k => ok k ∧ k ≠ g) v xs) (i : Nat) (u : Value) : d.R e (w.setCell ⟨g, i, none⟩ u) base (fun k => ok k ∧ k ≠ g) v xs := Kd.R_far h (fun _ hk => hk.2) u
theorem fm_ (h : d.R e w base (fun k => ok k ∧ k ≠ g) v xs) : d.R e w base ok v xs := Kd.R_mono h (fun _ hk => hk.1)
end
theorem cz0_ {w : World} {g t : Nat} {a : Value} {l : List Value} (q : Aside0 (w.heap[g]? = some (.cells (a :: l).toArray t (0, 0)))) : w.cell? ⟨g, 0, none⟩ = some a := (blk_cell q.out 0).trans rfl
theorem cz1_ {w : World} {g t : Nat} {a b : Value} {l : List Value} (q : Aside0 (w.heap[g]? = some (.cells (a :: b :: l).toArray t (0, 0)))) : w.cell? ⟨g, 1, none⟩ = some b := (blk_cell q.out 1).trans rfl
theorem cz2_ {w : World} {g t : Nat} {a b c : Value} {l : List Value} (q : Aside0 (w.heap[g]? = some (.cells (a :: b :: c :: l).toArray t (0, 0)))) : w.cell? ⟨g, 2, none⟩ = some c := (blk_cell q.out 2).trans rfl
theorem cz3_ {w : World} {g t : Nat} {a b c d : Value} {l : List Value} (q : Aside0 (w.heap[g]? = some (.cells (a :: b :: c :: d :: l).toArray t (0, 0)))) : w.cell? ⟨g, 3, none⟩ = some d := (blk_cell q.out 3).trans rfl
theorem cz4_ {w : World} {g t : Nat} {v0 v1 v2 v3 v4 : Value} {l : List Value} (q : Aside0 (w.heap[g]? = some (.cells (v0 :: v1 :: v2 :: v3 :: v4 :: l).toArray t (0, 0)))) : w.cell? ⟨g, 4, none⟩ = some v4 := (blk_cell q.out 4).trans rfl
theorem cz5_ {w : World} {g t : Nat} {v0 v1 v2 v3 v4 v5 : Value} {l : List Value} (q : Aside0 (w.heap[g]? = some (.cells (v0 :: v1 :: v2 :: v3 :: v4 :: v5 :: l).toArray t (0, 0)))) : w.cell? ⟨g, 5, none⟩ = some v5 := (blk_cell q.out 5).trans rfl
theorem cz6_ {w : World} {g t : Nat} {v0 v1 v2 v3 v4 v5 v6 : Value} {l : List Value} (q : Aside0 (w.heap[g]? = some (.cells (v0 :: v1 :: v2 :: v3 :: v4 :: v5 :: v6 :: l).toArray t (0, 0)))) : w.cell? ⟨g, 6, none⟩ = some v6 := (blk_cell q.out 6).trans rfl
theorem cz7_ {w : World} {g t : Nat} {v0 v1 v2 v3 v4 v5 v6 v7 : Value} {l : List Value} (q : Aside0 (w.heap[g]? = some (.cells (v0 :: v1 :: v2 :: v3 :: v4 :: v5 :: v6 :: v7 :: l).toArray t (0, 0)))) : w.cell? ⟨g, 7, none⟩ = some v7 := (blk_cell q.out 7).trans rfl
theorem cz8_ {w : World} {g t : Nat} {v0 v1 v2 v3 v4 v5 v6 v7 v8 : Value} {l : List Value} (q : Aside0 (w.heap[g]? = some (.cells (v0 :: v1 :: v2 :: v3 :: v4 :: v5 :: v6 :: v7 :: v8 :: l).toArray t (0, 0)))) : w.cell? ⟨g, 8, none⟩ = some v8 := (blk_cell q.out 8).trans rfl
theorem cz9_ {w : World} {g t : Nat} {v0 v1 v2 v3 v4 v5 v6 v7 v8 v9 : Value} {l : List Value} (q : Aside0 (w.heap[g]? = some (.cells (v0 :: v1 :: v2 :: v3 :: v4 :: v5 :: v6 :: v7 :: v8 :: v9 :: l).toArray t (0, 0)))) : w.cell? ⟨g, 9, none⟩ = some v9 := (blk_cell q.out 9).trans rfl
theorem cz10_ {w : World} {g t : Nat} {v0 v1 v2 v3 v4 v5 v6 v7 v8 v9 v10 : Value} {l : List Value} (q : Aside0 (w.heap[g]? = some (.cells (v0 :: v1 :: v2 :: v3 :: v4 :: v5 :: v6 :: v7 :: v8 :: v9 :: v10 :: l).toArray t (0, 0)))) : w.cell? ⟨g, 10, none⟩ = some v10 := (blk_cell q.out 10).trans rfl
theorem cz11_ {w : World} {g t : Nat} {v0 v1 v2 v3 v4 v5 v6 v7 v8 v9 v10 v11 : Value} {l : List Value} (q : Aside0 (w.heap[g]? = some (.cells (v0 :: v1 :: v2 :: v3 :: v4 :: v5 :: v6 :: v7 :: v8 :: v9 :: v10 :: v11 :: l).toArray t (0, 0)))) : w.cell? ⟨g, 11, none⟩ = some v11 := (blk_cell q.out 11).trans rfl
theorem cz12_ {w : World} {g t : Nat} {v0 v1 v2 v3 v4 v5 v6 v7 v8 v9 v10 v11 v12 : Value} {l : List Value} (q : Aside0 (w.heap[g]? = some (.cells (v0 :: v1 :: v2 :: v3 :: v4 :: v5 :: v6 :: v7 :: v8 :: v9 :: v10 :: v11 :: v12 :: l).toArray t (0, 0)))) : w.cell? ⟨g, 12, none⟩ = some v12 := (blk_cell q.out 12).trans rfl
theorem cz13_ {w : World} {g t : Nat} {v0 v1 v2 v3 v4 v5 v6 v7 v8 v9 v10 v11 v12 v13 : Value} {l : List Value} (q : Aside0 (w.heap[g]? = some (.cells (v0 :: v1 :: v2 :: v3 :: v4 :: v5 :: v6 :: v7 :: v8 :: v9 :: v10 :: v11 :: v12 :: v13 :: l).toArray t (0, 0)))) : w.cell? ⟨g, 13, none⟩ = some v13 := (blk_cell q.out 13).trans rfl
theorem cz14_ {w : World} {g t : Nat} {v0 v1 v2 v3 v4 v5 v6 v7 v8 v9 v10 v11 v12 v13 v14 : Value} {l : List Value} (q : Aside0 (w.heap[g]? = some (.cells (v0 :: v1 :: v2 :: v3 :: v4 :: v5 :: v6 :: v7 :: v8 :: v9 :: v10 :: v11 :: v12 :: v13 :: v14 :: l).toArray t (0, 0)))) : w.cell? ⟨g, 14, none⟩ = some v14 := (blk_cell q.out 14).trans rfl
theorem cz15_ {w : World} {g t : Nat} {v0 v1 v2 v3 v4 v5 v6 v7 v8 v9 v10 v11 v12 v13 v14 v15 : Value} {l : List Value} (q : Aside0 (w.heap[g]? = some (.cells (v0 :: v1 :: v2 :: v3 :: v4 :: v5 :: v6 :: v7 :: v8 :: v9 :: v10 :: v11 :: v12 :: v13 :: v14 :: v15 :: l).toArray t (0, 0)))) : w.cell? ⟨g, 15, none⟩ = some v15 := (blk_cell q.out 15).trans rfl
theorem cz16_ {w : World} {g t : Nat} {v0 v1 v2 v3 v4 v5 v6 v7 v8 v9 v10 v11 v12 v13 v14 v15 v16 : Value} {l : List Value} (q : Aside0 (w.heap[g]? = some (.cells (v0 :: v1 :: v2 :: v3 :: v4 :: v5 :: v6 :: v7 :: v8 :: v9 :: v10 :: v11 :: v12 :: v13 :: v14 :: v15 :: v16 :: l).toArray t (0, 0)))) : w.cell? ⟨g, 16, none⟩ = some v16 := (blk_cell q.out 16).trans rfl
theorem cz17_ {w : World} {g t : Nat} {v0 v1 v2 v3 v4 v5 v6 v7 v8 v9 v10 v11 v12 v13 v14 v15 v16 v17 : Value} {l : List Value} (q : Aside0 (w.heap[g]? = some (.cells (v0 :: v1 :: v2 :: v3 :: v4 :: v5 :: v6 :: v7 :: v8 :: v9 :: v10 :: v11 :: v12 :: v13 :: v14 :: v15 :: v16 :: v17 :: l).toArray t (0, 0)))) : w.cell? ⟨g, 17, none⟩ = some v17 := (blk_cell q.out 17).trans rfl
theorem cz18_ {w : World} {g t : Nat} {v0 v1 v2 v3 v4 v5 v6 v7 v8 v9 v10 v11 v12 v13 v14 v15 v16 v17 v18 : Value} {l : List Value} (q : Aside0 (w.heap[g]? = some (.cells (v0 :: v1 :: v2 :: v3 :: v4 :: v5 :: v6 :: v7 :: v8 :: v9 :: v10 :: v11 :: v12 :: v13 :: v14 :: v15 :: v16 :: v17 :: v18 :: l).toArray t (0, 0)))) : w.cell? ⟨g, 18, none⟩ = some v18 := (blk_cell q.out 18).trans rfl
theorem cz19_ {w : World} {g t : Nat} {v0 v1 v2 v3 v4 v5 v6 v7 v8 v9 v10 v11 v12 v13 v14 v15 v16 v17 v18 v19 : Value} {l : List Value} (q : Aside0 (w.heap[g]? = some (.cells (v0 :: v1 :: v2 :: v3 :: v4 :: v5 :: v6 :: v7 :: v8 :: v9 :: v10 :: v11 :: v12 :: v13 :: v14 :: v15 :: v16 :: v17 :: v18 :: v19 :: l).toArray t (0, 0)))) : w.cell? ⟨g, 19, none⟩ = some v19 := (blk_cell q.out 19).trans rfl
theorem cz20_ {w : World} {g t : Nat} {v0 v1 v2 v3 v4 v5 v6 v7 v8 v9 v10 v11 v12 v13 v14 v15 v16 v17 v18 v19 v20 : Value} {l : List Value} (q : Aside0 (w.heap[g]? = some (.cells (v0 :: v1 :: v2 :: v3 :: v4 :: v5 :: v6 :: v7 :: v8 :: v9 :: v10 :: v11 :: v12 :: v13 :: v14 :: v15 :: v16 :: v17 :: v18 :: v19 :: v20 :: l).toArray t (0, 0)))) : w.cell? ⟨g, 20, none⟩ = some v20 := (blk_cell q.out 20).trans rfl
theorem cz21_ {w : World} {g t : Nat} {v0 v1 v2 v3 v4 v5 v6 v7 v8 v9 v10 v11 v12 v13 v14 v15 v16 v17 v18 v19 v20 v21 : Value} {l : List Value} (q : Aside0 (w.heap[g]? = some (.cells (v0 :: v1 :: v2 :: v3 :: v4 :: v5 :: v6 :: v7 :: v8 :: v9 :: v10 :: v11 :: v12 :: v13 :: v14 :: v15 :: v16 :: v17 :: v18 :: v19 :: v20 :: v21 :: l).toArray t (0, 0)))) : w.cell? ⟨g, 21, none⟩ = some v21 := (blk_cell q.out 21).trans rfl
theorem cz22_ {w : World} {g t : Nat} {v0 v1 v2 v3 v4 v5 v6 v7 v8 v9 v10 v11 v12 v13 v14 v15 v16 v17 v18 v19 v20 v21 v22 : Value} {l : List Value} (q : Aside0 (w.heap[g]? = some (.cells (v0 :: v1 :: v2 :: v3 :: v4 :: v5 :: v6 :: v7 :: v8 :: v9 :: v10 :: v11 :: v12 :: v13 :: v14 :: v15 :: v16 :: v17 :: v18 :: v19 :: v20 :: v21 :: v22 :: l).toArray t (0, 0)))) : w.cell? ⟨g, 22, none⟩ = some v22 := (blk_cell q.out 22).trans rfl
theorem cz23_ {w : World} {g t : Nat} {v0 v1 v2 v3 v4 v5 v6 v7 v8 v9 v10 v11 v12 v13 v14 v15 v16 v17 v18 v19 v20 v21 v22 v23 : Value} {l : List Value} (q : Aside0 (w.heap[g]? = some (.cells (v0 :: v1 :: v2 :: v3 :: v4 :: v5 :: v6 :: v7 :: v8 :: v9 :: v10 :: v11 :: v12 :: v13 :: v14 :: v15 :: v16 :: v17 :: v18 :: v19 :: v20 :: v21 :: v22 :: v23 :: l).toArray t (0, 0)))) : w.cell? ⟨g, 23, none⟩ = some v23 := (blk_cell q.out 23).trans rfl
theorem cz24_ {w : World} {g t : Nat} {v0 v1 v2 v3 v4 v5 v6 v7 v8 v9 v10 v11 v12 v13 v14 v15 v16 v17 v18 v19 v20 v21 v22 v23 v24 : Value} {l : List Value} (q : Aside0 (w.heap[g]? = some (.cells (v0 :: v1 :: v2 :: v3 :: v4 :: v5 :: v6 :: v7 :: v8 :: v9 :: v10 :: v11 :: v12 :: v13 :: v14 :: v15 :: v16 :: v17 :: v18 :: v19 :: v20 :: v21 :: v22 :: v23 :: v24 :: l).toArray t (0, 0)))) : w.cell? ⟨g, 24, none⟩ = some v24 := (blk_cell q.out 24).trans rfl
theorem cz25_ {w : World} {g t : Nat} {v0 v1 v2 v3 v4 v5 v6 v7 v8 v9 v10 v11 v12 v13 v14 v15 v16 v17 v18 v19 v20 v21 v22 v23 v24 v25 : Value} {l : List Value} (q : Aside0 (w.heap[g]? = some (.cells (v0 :: v1 :: v2 :: v3 :: v4 :: v5 :: v6 :: v7 :: v8 :: v9 :: v10 :: v11 :: v12 :: v13 :: v14 :: v15 :: v16 :: v17 :: v18 :: v19 :: v20 :: v21 :: v22 :: v23 :: v24 :: v25 :: l).toArray t (0, 0)))) : w.cell? ⟨g, 25, none⟩ = some v25 := (blk_cell q.out 25).trans rfl
theorem cz26_ {w : World} {g t : Nat} {v0 v1 v2 v3 v4 v5 v6 v7 v8 v9 v10 v11 v12 v13 v14 v15 v16 v17 v18 v19 v20 v21 v22 v23 v24 v25 v26 : Value} {l : List Value} (q : Aside0 (w.heap[g]? = some (.cells (v0 :: v1 :: v2 :: v3 :: v4 :: v5 :: v6 :: v7 :: v8 :: v9 :: v10 :: v11 :: v12 :: v13 :: v14 :: v15 :: v16 :: v17 :: v18 :: v19 :: v20 :: v21 :: v22 :: v23 :: v24 :: v25 :: v26 :: l).toArray t (0, 0)))) : w.cell? ⟨g, 26, none⟩ = some v26 := (blk_cell q.out 26).trans rfl
theorem fz_ {w : World} {g t : Nat} {cs : Array Value} (q : Aside0 (w.heap[g]? = some (.cells cs t (0, 0)))) (i : Nat) : w.frozen? ⟨g, i, none⟩ = false := blk_frozen q.out i
theorem gz_ {w W W' : World} {g : Nat} (hg : g = W.heap.size) (q : Aside0 (Below w.heap.size w W')) (f : Below w.heap.size w W' → Below w.heap.size w W := by intro HB_; repeat (first | (with_reducible first | exact HB_ | apply bA_ | apply bN_ | apply bD_) | exact HB_)) : Aside0 (w.heap.size ≤ g) := ⟨hg ▸ below_size (f q.out)⟩
theorem gy_ {w W : World} {g : Nat} (hg : g = W.heap.size) (q : Below w.heap.size w W) : Aside0 (w.heap.size ≤ g) := ⟨hg ▸ below_size q⟩
theorem nl_ {w W : World} {g g1 : Nat} {o : Obj} (hg : g1 = W.heap.size) (q : Aside0 (w.heap[g]? = some o)) (f : w.heap[g]? = some o → W.heap[g]? = some o := by intro h_; (with_reducible repeat (first | apply lN_ | apply lD_ | apply lA_)); exact h_) : Aside0 (g ≠ g1) := ⟨by rw [hg]; exact Nat.ne_of_lt (blk_lt (f q.out))⟩
theorem ng_ {w W : World} {g g1 : Nat} {o : Obj} (hg : g1 = W.heap.size) (q : Aside0 (w.heap[g]? = some o)) (f : w.heap[g]? = some o → W.heap[g]? = some o := by intro h_; (with_reducible repeat (first | apply lN_ | apply lD_ | apply lA_)); exact h_) : Aside0 (g1 ≠ g) := ⟨by rw [hg]; exact Nat.ne_of_gt (blk_lt (f q.out))⟩
theorem as_ {P : Prop} (h : P := by first | (with_reducible assumption) | assumption) : P := h
theorem hc_ {w W : World} {p : Addr} {v : Value} (q : Aside0 (Below w.heap.size w W)) (h : w.cell? p = some v) : W.cell? p = some v := (q.out.cell (World.block_lt_of_cell? w _ h)).trans h
theorem sA_ {α : Type} (l : List α) (i : Nat) (a : α) : l.toArray.setIfInBounds i a = (l.set i a).toArray := List.setIfInBounds_toArray l i a
theorem sB_ {α : Type} {a b : α} {l : List α} : (a :: l).set 0 b = b :: l := List.set_cons_zero
theorem sC_ {α : Type} {a b : α} {l : List α} {n : Nat} : (a :: l).set (n + 1) b = a :: l.set n b := List.set_cons_succ
section
variable {α : Type} {d : Kd α} {e : Nat} {w W : World} {base n : Nat} {ok : Nat → Prop} {v : Value} {A : Option Addr} {xs : List α}
theorem cb_ {P : Prop} (a : Aside0 (d.C w A n xs)) (b : Aside0 (Below w.heap.size w W)) (f : d.C W A n xs → P := by intro h_; repeat (first | exact h_ | (with_reducible first | apply cA_ | apply cN_ | apply cD_))) : P := f (Kd.C_below a.out b.out)
theorem cr_ {P : Prop} {c : Nat} (a : Aside0 (d.R e w base ok (.slice A n c) xs)) (f : d.C w A xs.length xs → P := by intro h_; repeat (first | exact h_ | (with_reducible first | apply cA_ | apply cN_ | apply cD_))) : P := f (Kd.R_reads' a.out).2.2
end
theorem pu_ {P : Program} {md : Region.Mode} {ops : Array Oper} {Q : Exit → Act → World → Prop} {S : World → Prop} {ds : List Nat} {i : Nat} {N : Option Tmp} {oi : Oper} {v : Value} {fuel : Nat} {l : Array Bool} {a : Act} {w : World} (l' : Array Bool) (hi : ops[i]? = some oi) (hN : oi.dst = N) (hy : Yields P ops oi v a) {a' : Act} (ha : a.put N v = a')
    (h : wpAnyLast P md ops Q S ds fuel l' a' w) (hc : anyB md ops l l' i = true := by exact any_of HT_.out (by kernel_rfl)) (hQ : ∀ c a w, Q (.panic c) (a.put oi.dst v) w → Q (.panic c) a w := by exact fun _ _ _ h => h) : wpAnyLast P md ops Q S ds (fuel + 1) l a w := pure_ l' hi hN hc hQ hy ha h
theorem pu2_ {P : Program} {md : Region.Mode} {ops : Array Oper} {Q : Exit → Act → World → Prop} {S : World → Prop} {ds : List Nat} {i : Nat} {N : Option Tmp} {oi : Oper} {v : Value} {fuel : Nat} {l : Array Bool} {a : Act} {w : World} (l' : Array Bool) (hi : ops[i]? = some oi) (hN : oi.dst = N) {a' : Act}
    (h : wpAnyLast P md ops Q S ds fuel l' a' w) (hy : Yields P ops oi v a := by exact Or.inl ⟨by rfl, by intro w'; go_simp; with_reducible rfl⟩) (ha : a.put N v = a' := by simp only [Act.put, sA_, sB_, sC_, i64_w, i32_w]; rfl)
    (hc : anyB md ops l l' i = true := by exact any_of HT_.out (by kernel_rfl)) (hQ : ∀ c a w, Q (.panic c) (a.put oi.dst v) w → Q (.panic c) a w := by exact fun _ _ _ h => h) : wpAnyLast P md ops Q S ds (fuel + 1) l a w := pure_ l' hi hN hc hQ hy ha h
theorem tk2_ {P : Program} {md : Region.Mode} {ops : Array Oper} {Q : Exit → Act → World → Prop} {S : World → Prop} {ds : List Nat} {i : Nat} {N : Option Tmp} {oi : Oper} {v : Value} {fuel : Nat} {l : Array Bool} {a : Act} {w : World} (l' : Array Bool) (hi : ops[i]? = some oi) (hN : oi.dst = N) (hS : S w) {a' : Act}
    (h : wpAnyLast P md ops Q S ds fuel l' a' w) (hy : YieldsIf P ops S oi v a := by exact Or.inl ⟨by rfl, by intro w' hs_; (repeat obtain ⟨_, hs_⟩ := hs_); go_simp; with_reducible rfl⟩) (ha : a.put N v = a' := by simp only [Act.put, sA_, sB_, sC_, i64_w, i32_w]; rfl)
    (hc : takeB md ops ds l l' i = true := by exact take_ofW HT_.out HW_.out (by kernel_rfl)) (hQ : ∀ c a w, Q (.panic c) (a.put oi.dst v) w → Q (.panic c) a w := by exact fun _ _ _ h => h) : wpAnyLast P md ops Q S ds (fuel + 1) l a w := take_ l' hi hN hc hQ hy hS ha h
theorem nm2_ {P : Program} {md : Region.Mode} {ops : Array Oper} {Q : Exit → Act → World → Prop} {S : World → Prop} {ds : List Nat} {fuel : Nat} {l : Array Bool} {a a' : Act} {w : World} (h : wpAnyLast P md ops Q S ds fuel l a' w)
    (ha : a = a' := by (show Act.put _ (some _) _ = _); simp only [Act.put, sA_, sB_, sC_, i64_w, i32_w]; rfl) : wpAnyLast P md ops Q S ds fuel l a w := norm_ ha h
theorem bs_list (b : ByteArray) : b.data.toList = b.toList := (ByteArray.toList_eq b).symm
/-- The names of the regions. -/
def plNms : List ByteArray := [⟨#[115, 112, 97, 99, 101]⟩, ⟨#[104, 101, 97, 100]⟩, ⟨#[101, 121, 101]⟩, ⟨#[99, 104, 101, 101, 107]⟩, ⟨#[109, 111, 117, 116, 104]⟩, ⟨#[99, 104, 105, 110]⟩, ⟨#[110, 101, 99, 107]⟩, ⟨#[99, 104, 101, 115, 116]⟩, ⟨#[119, 97, 105, 115, 116]⟩, ⟨#[104, 105, 112]⟩]
def plSide (i : Int) : ByteArray := if i = -1 then ⟨#[60]⟩ else if i = 1 then ⟨#[62]⟩ else ⟨#[]⟩
theorem arr_cell (w : World) (cs : Array Value) (t : TypeId) (k : Nat) (v : Value) (hv : cs[k]? = some v) : (w.alloc (Obj.cells cs t)).cell? ⟨w.heap.size, k, none⟩ = some v := by
  have := blk_cell (w := w.alloc (Obj.cells cs t)) (heap_alloc_new w (Obj.cells cs t)) k
  exact this.trans hv
theorem plNms_at (k : Nat) (h : k < 10) : (#[Value.string { data := #[115, 112, 97, 99, 101] }, Value.string { data := #[104, 101, 97, 100] }, Value.string { data := #[101, 121, 101] }, Value.string { data := #[99, 104, 101, 101, 107] }, Value.string { data := #[109, 111, 117, 116, 104] }, Value.string { data := #[99, 104, 105, 110] }, Value.string { data := #[110, 101, 99, 107] }, Value.string { data := #[99, 104, 101, 115, 116] }, Value.string { data := #[119, 97, 105, 115, 116] }, Value.string { data := #[104, 105, 112] }] : Array Value)[k]? = some (.string (plNms.getD k ⟨#[]⟩)) := by
  have : k = 0 ∨ k = 1 ∨ k = 2 ∨ k = 3 ∨ k = 4 ∨ k = 5 ∨ k = 6 ∨ k = 7 ∨ k = 8 ∨ k = 9 := by omega
  rcases this with rfl | rfl | rfl | rfl | rfl | rfl | rfl | rfl | rfl | rfl <;> rfl
theorem plNms_size (k : Nat) : (plNms.getD k ⟨#[]⟩).size ≤ 5 := by
  by_cases h : k < 10
  · have : k = 0 ∨ k = 1 ∨ k = 2 ∨ k = 3 ∨ k = 4 ∨ k = 5 ∨ k = 6 ∨ k = 7 ∨ k = 8 ∨ k = 9 := by omega
    rcases this with rfl | rfl | rfl | rfl | rfl | rfl | rfl | rfl | rfl | rfl <;> decide
  · rw [List.getD_eq_getElem?_getD, List.getElem?_eq_none (by show 10 ≤ k; omega)]; decide
theorem bs_app_nil (b : ByteArray) : b ++ (⟨#[]⟩ : ByteArray) = b := by
  cases b; simp [ByteArray.ext_iff]
theorem world_abs {P : Program} {c : Code} {Q : Exit → Act → World → Prop} {a : Act} {w : World} (S : World → Prop) (hS : S w) (h : ∀ w', S w' → Code.wp P c Q a w') : Code.wp P c Q a w := h w hS
section
open Go.Maps Go.WideElems Go.WideMaps
theorem wpList_insert_own {H : Type} {P : Program} (w : World) {ops : Array Oper} {rest : List Oper} {o : Oper} {a : Act} {Q : Exit → Act → World → Prop}
    (hg : o.guard = none) (m x v : Operand) (t : TypeId) (hop : o.op = Op.insert t m x v)
    (k e : TypeId) (K : Keyed P k) (ht : P.underlying t = some (.map k e)) (R : Value → Option (DataW H × List MemPlace)) (b n : Nat) (D : DataW H)
    (hm : a.eval m = .map (some b)) (hown : w.ownsMap P k R b n D) (hn : n < maxLen) (key val : Value) (kl : Lit) (hx : a.eval x = key) (hv : a.eval v = val) (hkey : keyOf P k key = some kl)
    (d : DataW H) (ps : List MemPlace) (hval : R val = some (d, ps))
    (hK : ∀ w', w'.ownsMap P k R b (n + 1) (D.put kl d) → w.grownBy w' (some b) → wpList P ops Q rest (a.put o.dst undef) w') :
    wpList P ops Q (o :: rest) a w := by
  refine wpList_plain hg fun K' hK' => ?_
  obtain ⟨w', hrun, r1, r2⟩ := hown.update K ht hn hkey hval
  unfold Oper.wp
  simp [execOp, hop, hm, hx, hv, hrun, Result.andThen]
  exact hK' _ _ (hK w' r1 r2)

theorem wpList_lookup_own_str {H : Type} {P : Program} (w : World) {ops : Array Oper} {rest : List Oper} {o : Oper} {a : Act} {Q : Exit → Act → World → Prop}
    (hg : o.guard = none) (m x : Operand) (t : TypeId) (hop : o.op = Op.lookup t m x false)
    (k e : TypeId) (K : Keyed P k) (ht : P.underlying t = some (.map k e)) (he : P.underlying e = some .string) (hz : (zeroValue e).run P w = .ok (.string ⟨#[]⟩) w) (b n : Nat) (D : DataW H)
    (hm : a.eval m = .map (some b)) (hown : w.ownsMap P k (plainElem P e) b n D) (key : Value) (kl : Lit) (hx : a.eval x = key) (hkey : keyOf P k key = some kl)
    (hK : ∀ s : ByteArray, D.atKey kl (.lit (.string [])) = .lit (.string s.data.toList) → wpList P ops Q rest (a.put o.dst (.string s)) w) :
    wpList P ops Q (o :: rest) a w := by
  refine wpList_plain hg fun K' hK' => ?_
  obtain ⟨v, ps, hrun, hv⟩ := hown.lookup K ht hz (plainElem_string he (by decide)) hkey
  obtain ⟨s, rfl, hc, hwc⟩ := plainElem_string_inv he hv
  simp only [Prod.mk.injEq] at hc
  unfold Oper.wp
  simp [execOp, hop, hm, hx, hrun, Result.andThen]
  exact hK' _ _ (hK s hc.1)


theorem wpList_makeMap_own {H : Type} {P : Program} (w : World) {ops : Array Oper} {rest : List Oper} {o : Oper} {a : Act} {Q : Exit → Act → World → Prop}
    (hg : o.guard = none) (t : TypeId) (hop : o.op = Op.makeMap t none) (k : TypeId) (R : Value → Option (DataW H × List MemPlace))
    (hK : ∀ b w', b = w.heap.size → w'.ownsMap P k R b 0 (.map []) → Below w.heap.size w w' → wpList P ops Q rest (a.put o.dst (.map (some b))) w') :
    wpList P ops Q (o :: rest) a w := by
  refine wpList_plain hg fun K' hK' => ?_
  unfold Oper.wp
  have e : (Instr.makeMap t none).run P w = .ok (.map (some w.heap.size)) (w.alloc (.map #[] 0)) := rfl
  simp [execOp, hop, e, Result.andThen]
  exact hK' _ _ (hK _ _ rfl (World.ownsMap_made w P k R) (below_alloc (Below.refl _ _) _))

end
end Go.Proofs.YtcicpmhcmlfhbaaGreatDoor.PA
