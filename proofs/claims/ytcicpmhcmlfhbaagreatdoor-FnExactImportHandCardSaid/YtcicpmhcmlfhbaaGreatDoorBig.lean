/- Loads and stores of whole structs as events: the block's cells as one list, the world as a letter. -/
import Derived.Test.YtcicpmhcmlfhbaaGreatDoorBase
namespace Go.Proofs.YtcicpmhcmlfhbaaGreatDoor.PA
open Go.RowKit Go.Proofs.YtcicpmhcmlfhbaaGreatDoorW.PrintWords Go.Proofs.YtcicpmhcmlfhbaaGreatDoorW.PrintLast Go.Proofs.YtcicpmhcmlfhbaaGreatDoorW.PrintMore
set_option linter.unusedVariables false
set_option linter.unusedSimpArgs false
section
variable {P : Program} {ops : Array Oper} {rest : List Oper} {o : Oper} {a : Act} {Q : Exit → Act → World → Prop}
theorem gate_load {W : World} {t : TypeId} {p : Tmp} (_ho : o.op = .load t (.tmp p)) (h : wpList P ops Q (o :: rest) a W) : wpList P ops Q (o :: rest) a W := h
theorem load_part {W : World} (hgd : o.guard = none) {t : TypeId} {p : Tmp} (ho : o.op = .load t (.tmp p)) {g off : Nat} {tt : TypeId} {cs : List Value} (hb : W.heap[g]? = some (.cells cs.toArray tt (0, 0))) (l : List Value)
    (haddr : a.eval (.tmp p) = .pointer (some ⟨g, off, none⟩)) (hsz : (P.info? t).map (·.size) = some l.length) (hagg : ∀ w, (isAgg t).run P w = .ok true w) (hv : (cs.drop off).take l.length = l)
    (h : wpList P ops Q rest (a.put o.dst (.agg l.toArray)) W) : wpList P ops Q (o :: rest) a W := by
  obtain ⟨i, hi, hs⟩ := Option.map_eq_some_iff.1 hsz
  have hl := run_loadCells_list (P := P) W ⟨g, off, none⟩ l (fun j v hj => by
    have hlt : j < l.length := (List.getElem?_eq_some_iff.1 hj).1
    rw [show (⟨g, off, none⟩ : Addr).add j = ⟨g, off + j, none⟩ by unfold Addr.add; split <;> simp_all, blk_cell hb (off + j)]
    rw [← hv, List.getElem?_take, if_pos hlt, List.getElem?_drop] at hj
    simpa using hj)
  refine Kd.event_run hgd ?_ h
  unfold execOp
  rw [ho]
  simp only [haddr]
  simp [Instr.loadAt, Instr.sureAddr, loadVar, hagg, sizeOf, typeInfo, hi, hs, hl, Result.andThen]
theorem load_one {W : World} (hgd : o.guard = none) {t : TypeId} {p : Tmp} (ho : o.op = .load t (.tmp p)) {g off : Nat} {tt : TypeId} {cs : List Value} (hb : W.heap[g]? = some (.cells cs.toArray tt (0, 0))) (v : Value)
    (haddr : a.eval (.tmp p) = .pointer (some ⟨g, off, none⟩)) (hagg : ∀ w, (isAgg t).run P w = .ok false w) (hv : cs[off]? = some v)
    (h : wpList P ops Q rest (a.put o.dst v) W) : wpList P ops Q (o :: rest) a W := by
  have hc : W.cell? ⟨g, off, none⟩ = some v := (blk_cell hb off).trans (by simpa using hv)
  refine Kd.event_run hgd ?_ h
  unfold execOp
  rw [ho]
  simp only [haddr]
  simp [Instr.loadAt, Instr.sureAddr, loadVar, hagg, hc, Result.andThen]
/-- load_part and load_one with what they ask told by the words themselves. -/
theorem lp_ {W W0 : World} {g : Nat} {tt : TypeId} {cs : List Value} (q : Aside0 (W0.heap[g]? = some (.cells cs.toArray tt (0, 0)))) (t : TypeId) (p : Tmp) (off : Nat) (l : List Value)
    (h : wpList P ops Q rest (a.put o.dst (.agg l.toArray)) W)
    (f : W0.heap[g]? = some (.cells cs.toArray tt (0, 0)) → W.heap[g]? = some (.cells cs.toArray tt (0, 0)) := by intro h_; (with_reducible repeat (first | apply lN_ | apply lD_ | apply lA_)); exact h_)
    (hgd : o.guard = none := by rfl) (ho : o.op = .load t (.tmp p) := by rfl) (ha : a.eval (.tmp p) = .pointer (some ⟨g, off, none⟩) := by rfl)
    (hs : (P.info? t).map (·.size) = some l.length := by kernel_rfl) (hi : ∀ w, (isAgg t).run P w = .ok true w := by exact fun _ => by kernel_rfl) (hv : (cs.drop off).take l.length = l := by rfl) : wpList P ops Q (o :: rest) a W :=
  load_part hgd ho (f q.out) l ha hs hi hv h
theorem lq_ {W W0 : World} {g : Nat} {tt : TypeId} {cs : List Value} (q : Aside0 (W0.heap[g]? = some (.cells cs.toArray tt (0, 0)))) (t : TypeId) (p : Tmp)
    (h : wpList P ops Q rest (a.put o.dst (.agg cs.toArray)) W)
    (f : W0.heap[g]? = some (.cells cs.toArray tt (0, 0)) → W.heap[g]? = some (.cells cs.toArray tt (0, 0)) := by intro h_; (with_reducible repeat (first | apply lN_ | apply lD_ | apply lA_)); exact h_)
    (hgd : o.guard = none := by rfl) (ho : o.op = .load t (.tmp p) := by rfl) (ha : a.eval (.tmp p) = .pointer (some ⟨g, 0, none⟩) := by rfl)
    (hs : (P.info? t).map (·.size) = some cs.length := by kernel_rfl) (hi : ∀ w, (isAgg t).run P w = .ok true w := by exact fun _ => by kernel_rfl) (hv : cs.take cs.length = cs := by rfl) : wpList P ops Q (o :: rest) a W :=
  load_part hgd ho (f q.out) cs ha hs hi hv h
theorem lo_ {W W0 : World} {g : Nat} {tt : TypeId} {cs : List Value} (q : Aside0 (W0.heap[g]? = some (.cells cs.toArray tt (0, 0)))) (t : TypeId) (p : Tmp) (off : Nat) (v : Value)
    (h : wpList P ops Q rest (a.put o.dst v) W)
    (f : W0.heap[g]? = some (.cells cs.toArray tt (0, 0)) → W.heap[g]? = some (.cells cs.toArray tt (0, 0)) := by intro h_; (with_reducible repeat (first | apply lN_ | apply lD_ | apply lA_)); exact h_)
    (hgd : o.guard = none := by rfl) (ho : o.op = .load t (.tmp p) := by rfl) (ha : a.eval (.tmp p) = .pointer (some ⟨g, off, none⟩) := by rfl)
    (hi : ∀ w, (isAgg t).run P w = .ok false w := by exact fun _ => by kernel_rfl) (hv : cs[off]? = some v := by rfl) : wpList P ops Q (o :: rest) a W :=
  load_one hgd ho (f q.out) v ha hi hv h
theorem store_part {W : World} (hgd : o.guard = none) {t : TypeId} {p : Tmp} {x : Operand} (ho : o.op = .store t (.tmp p) x) (hN : o.dst = none) {g off : Nat} {tt : TypeId} {cs : List Value} (hb : W.heap[g]? = some (.cells cs.toArray tt (0, 0))) (u : Value) (l cs' : List Value)
    (haddr : a.eval (.tmp p) = .pointer (some ⟨g, off, none⟩)) (hx : a.eval x = u) (hu : u.cells.toList = l) (hsz : (P.info? t).map (·.size) = some l.length) (hfit : off + l.length ≤ cs.length) (h1 : l.all Value.oneCell' = true)
    (hcs : cs.take off ++ l ++ cs.drop (off + l.length) = cs')
    (h : ∀ w1, w1.heap[g]? = some (.cells cs'.toArray tt (0, 0)) → (∀ k ob, k ≠ g → W.heap[k]? = some ob → w1.heap[k]? = some ob) → (∀ B w0, Below B w0 W → B ≤ g → Below B w0 w1) → wpList P ops Q rest a w1) : wpList P ops Q (o :: rest) a W := by
  have hst := run_store_run (P := P) t u l hb hu hsz (by simpa using hfit) (fun q hq => List.all_eq_true.1 h1 q hq)
  obtain ⟨cur, k1, k2, k3⟩ := setCells_row l off W cs.toArray hb (by simpa using hfit)
  obtain ⟨s1, s2, s3, s4⟩ := setCells_same g l off W
  have ecur : cur = cs'.toArray := by
    rw [← hcs, ← Array.toList_inj, k3]
  refine store_event hgd ho hN (w1 := W.setCells g off l) ?_ (fun w' hw' => ?_)
  · unfold execOp
    rw [ho]
    simp only [haddr, hx]
    simp [hst, Result.andThen]
  · subst hw'
    refine h _ (by rw [k1, ecur]) (fun k ob hk hob => (setCells_far l off k hk).trans hob) (fun B w0 hB hg => hB.trans ⟨s1, s2, s3, by rw [s4]; exact Nat.le_refl _, fun k hk => setCells_far l off k (by omega)⟩)
end
end Go.Proofs.YtcicpmhcmlfhbaaGreatDoor.PA
