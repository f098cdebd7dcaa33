/- A pure interpreter of the code, and that the machine does what it tells (a text of this session). -/
import Derived.Test.YtojfncpjgpklhaaGreatDoorReflA
set_option autoImplicit false
set_option linter.unusedVariables false
set_option linter.unusedSimpArgs false
namespace Go.Refl
open Go.RowKit

section
variable {Γ : Ctx} {P : Program} {base : Nat} {S : Nat → Nat → Prop} {w0 : W0}

theorem stable_new {μ : Mp} {w : World} (hm : MapsOK base μ w) (o : Nat) : Stable base μ w.heap.size o := by
 exact ⟨fun s hs => by have := (hm.ρnew s _ hs); omega, fun d j u ht => by have := (hm.τnew d j _ u ht).2.1; omega⟩

theorem row_new {α : Type} {K : RK α} {e : Nat} {xs : List α} {μ : Mp} {w w1 : World} {cur : Array Value} (hm : MapsOK base μ w) (hb : base ≤ w.heap.size) (hw : w1.heap.size = w.heap.size) (hc : xs.flatMap K.enc = cur.toList) (hl : xs.length ≤ maxLen) :
  RowRep base S μ (w1.alloc (.cells cur e)) K e xs .full (.slice (some ⟨w.heap.size, 0, none⟩) xs.length xs.length) := by
 refine ⟨_, _, rfl, Nat.le_refl _, hl, fun _ => ⟨w.heap.size, 0, rfl, fun j v hj => ⟨?_, stable_new hm _, fun h => by omega⟩⟩, rfl⟩
 rw [hc] at hj
 rw [← hw, Nat.zero_add, World.cell?_alloc_new]
 simpa using hj

theorem repU {μ : Mp} {w : World} : ∀ (vs : List Value), CellsRep (Γ := Γ) base S μ w (List.replicate vs.length .u) vs
 | [] => trivial
 | _ :: vs => ⟨trivial, repU vs⟩

theorem sem_buildSlice (C : CtxOK P Γ) {o : Oper} {tm : Tm Γ} {bx : Bx Γ} {t e b len : Nat} {parts : Array (Nat × Operand)} (h : o.op = .buildSlice t len parts) (ht : Γ.td t = .sl e b) {cs : List (Cell Γ)} {vs : List Value} {xs : List (Γ.kd e).α}
  (hf : fillCells (fun i => some (i * (Γ.kd e).K.sz, (Γ.kd e).K.sz)) (List.replicate (len * (Γ.kd e).K.sz) .u) (parts.toList.map fun p => (p.1, ev tm p.2)) = some cs)
  (hv : cellVals cs = some vs) (hd : decRow (Γ.kd e).K len vs = some xs) (hle : len * (Γ.kd e).K.sz ≤ 16777216) : OpSem P o tm bx (.f (.c (.row e xs .full))) .none := by
 obtain ⟨ii, ie, z, hu, hi1, _, _, hie, hiz, hsz, _⟩ := td_sl C ht
 refine sem_grow fun base S w0 a w μ hp => ?_
 obtain ⟨e1, e2⟩ := parts_rep hp (parts := parts) (fun p hm => by rw [h]; simp [Op.operands]; exact ⟨p.1, by simpa using hm⟩)
 obtain ⟨hfl, hl⟩ := decRow_flat _ _ _ _ hd
 obtain ⟨zs, hz⟩ : ∃ zs : Array Value, zs = if len * (Γ.kd e).K.sz = 0 then #[] else z.cells := ⟨_, rfl⟩
 obtain ⟨cur', e3, e4⟩ := fill_rep (base := base) (S := S) (μ := μ) (w := w) (place := fun i => some (i * (Γ.kd e).K.sz, (Γ.kd e).K.sz)) (fun _ _ _ h => h) _ _ (List.replicate (len * (Γ.kd e).K.sz) .u) cs
  ((Array.range (len * (Γ.kd e).K.sz)).map (zs[· % zs.size]!)) e1 e2 (by
   have := repU (Γ := Γ) (base := base) (S := S) (μ := μ) (w := w) ((Array.range (len * (Γ.kd e).K.sz)).map (zs[· % zs.size]!)).toList
   simpa using this) hf
 have hvs := cellVals_eq hv e4
 have hpos := (Γ.kd e).K.pos
 have hlen : len ≤ len * (Γ.kd e).K.sz := Nat.le_mul_of_pos_right _ hpos
 refine ⟨.slice (some ⟨w.heap.size, 0, none⟩) len len, w.alloc (.cells cur' e), ?_, (Below.refl _ _).alloc (Nat.le_refl _) _, ?_⟩
 ·have : ¬ (16777216 < len * (Γ.kd e).K.sz) := by omega
  simp only [execOp, h, Instr.buildSlice, Sem.run_bind, run_underlying hu, Result.andThen_ok, run_sizeOf hie, hsz]
  simp only [show (2 : Nat) ^ 24 = 16777216 from rfl, gt_iff_lt, this, if_false, Sem.run_bind, Sem.run_pure, Result.andThen_ok]
  by_cases h0 : len * (Γ.kd e).K.sz = 0
  ·rw [if_pos h0] at hz
   subst hz
   simp only [h0, if_true, Sem.run_bind, Sem.run_pure, Result.andThen_ok] at e3 ⊢
   simp only [e3, newRow, Sem.run_bind, run_newObj, Sem.run_pure, Result.andThen_ok]
   rfl
  ·rw [if_neg h0] at hz
   subst hz
   simp only [h0, if_false, Sem.run_bind, Sem.run_pure, Result.andThen_ok, zeroValue, typeInfo, run_program, hie, hiz]
   simp only [e3, newRow, Sem.run_bind, run_newObj, Sem.run_pure, Result.andThen_ok]
   rfl
 ·have := row_new (S := S) (K := (Γ.kd e).K) (e := e) (xs := xs) (μ := μ) (w := w) (w1 := w) (cur := cur') hp.maps hp.le rfl (hfl.trans hvs.symm) (by simp only [maxLen]; omega)
  rw [hl] at this
  show RowRep base S μ (w.alloc (.cells cur' e)) (Γ.kd e).K e xs .full _
  exact this

theorem sem_box {o : Oper} {tm : Tm Γ} {bx : Bx Γ} {t d : Nat} {x : Operand} (h : o.op = .box t x) (hd : o.dst = some d) {fv : FV Γ} (hx : cloFn (coerce t (ev tm x)) = .f fv) (hok : fv.ok = true) : OpSem P o tm bx (.p (.box d 0)) (.new t (fvCells fv)) := by
 refine sem_new hd fun base S w0 a w μ hp => ⟨(a.eval x).cells, ?_, ?_⟩
 ·simp only [execOp, h, Instr.box, newVar, newRow, Sem.run_bind, run_newObj, Sem.run_pure, Result.andThen_ok]
  rfl
 ·have hy := cloFn_rep (coerce_rep (t := t) (hp.ops x (by rw [h]; simp [Op.operands])))
  rw [hx] at hy
  exact FVRep.cells hy hok

theorem zero_rep (C : CtxOK P Γ) {t : Nat} {cs : List (Cell Γ)} (h : zeroCells (Γ.td t) = some cs) : ∃ i z, P.info? t = some i ∧ i.zero = some z ∧ ∀ base S μ w, CellsRep base S μ w cs z.cells.toList := by
 have ht := C.td t
 cases hd : Γ.td t with
 | st sz zs fs =>
  rw [hd] at ht h; obtain ⟨fields, i, h1, h2, h3, h4, _⟩ := ht
  cases h
  exact ⟨i, _, h2, h4, fun base S μ w => by simpa [Value.cells] using zc_rep zs⟩
 | ar n e esz zs =>
  rw [hd] at ht h; obtain ⟨i, ie, h1, h2, h3, h4, _⟩ := ht
  cases h
  exact ⟨i, _, h2, h4, fun base S μ w => by simpa [Value.cells] using zc_rep zs⟩
 | sl e b =>
  rw [hd] at ht h; obtain ⟨i, ie, z, h1, h2, h3, h4, _⟩ := ht
  cases h
  exact ⟨i, _, h2, h4, fun base S μ w => ⟨⟨none, 0, rfl, Nat.le_refl _, Nat.zero_le _, fun hn => by simp at hn, rfl⟩, trivial⟩⟩
 | int k => rw [hd] at ht h; obtain ⟨h1, i, h2, h3, h4⟩ := ht; cases h; exact ⟨i, _, h2, h4, fun base S μ w => ⟨rfl, trivial⟩⟩
 | str => rw [hd] at ht h; obtain ⟨h1, i, h2, h3, h4⟩ := ht; cases h; exact ⟨i, _, h2, h4, fun base S μ w => ⟨rfl, trivial⟩⟩
 | bool => rw [hd] at ht h; obtain ⟨h1, i, h2, h3, h4⟩ := ht; cases h; exact ⟨i, _, h2, h4, fun base S μ w => ⟨rfl, trivial⟩⟩
 | fn => rw [hd] at h; cases h
 | ot => rw [hd] at h; cases h

theorem sem_alloc (C : CtxOK P Γ) {o : Oper} {tm : Tm Γ} {bx : Bx Γ} {t d : Nat} (h : o.op = .alloc t) (hd : o.dst = some d) {cs : List (Cell Γ)} (hz : zeroCells (Γ.td t) = some cs) : OpSem P o tm bx (.p (.box d 0)) (.new t cs) := by
 obtain ⟨i, z, h1, h2, h3⟩ := zero_rep C hz
 refine sem_new hd fun base S w0 a w μ hp => ⟨z.cells, ?_, h3 _ _ _ _⟩
 simp only [execOp, h, Instr.alloc, newVar, newRow, Sem.run_bind, run_newObj, Sem.run_pure, Result.andThen_ok, zeroValue, typeInfo, run_program, h1, h2]
 rfl

theorem overV_eq : ∀ (vs : List Value) (o : Nat) (ns : List Value), o + ns.length ≤ vs.length → overV vs o ns = vs.take o ++ ns ++ vs.drop (o + ns.length)
 | [], o, ns, h => by
  simp at h
  obtain ⟨rfl, rfl⟩ := h
  rfl
 | v :: vs, 0, [], _ => rfl
 | v :: vs, 0, n :: ns, h => by
  simp only [overV, overV_eq vs 0 ns (by simp at h ⊢; omega)]
  simp [Nat.add_comm]
 | v :: vs, o + 1, ns, h => by
  have := overV_eq vs o ns (by simp at h ⊢; omega)
  have e : o + 1 + ns.length = (o + ns.length) + 1 := by omega
  rw [e]
  cases ns <;> simp [overV, this]

theorem setRow_cell {w : World} {g b o : Nat} {cs : Array Value} (h : b ≠ g) : (w.setRow g cs).cell? ⟨b, o, none⟩ = w.cell? ⟨b, o, none⟩ := by
 simp only [World.cell?, setRow_other w g b cs h]

theorem sem_store (C : CtxOK P Γ) {o : Oper} {tm : Tm Γ} {bx : Bx Γ} {t s off : Nat} {x y : Operand} (h : o.op = .store t x y) {fv : FV Γ} (hx : ev tm x = .p (.box s off)) (hy : cloFn (coerce t (ev tm y)) = .f fv)
  (hk : (Γ.td t).known = true) (h1 : (fvCells fv).all Cell.one = true) (hsz : (fvCells fv).length = (Γ.td t).size) (heff : effOK bx (.set s off (fvCells fv)) = true) : OpSem P o tm bx .u (.set s off (fvCells fv)) := by
 obtain ⟨i, d, hi, his, hu, hd⟩ := known_size C hk
 intro base S w0 a w μ hp next Q hn
 have hpx := hp.ops x (by rw [h]; simp [Op.operands])
 rw [hx] at hpx
 obtain ⟨g, hg, ex⟩ := hpx
 have hpy := cloFn_rep (coerce_rep (t := t) (hp.ops y (by rw [h]; simp [Op.operands])))
 rw [hy] at hpy
 have hok : fv.ok = true := by
  cases fv with
  | agg cs => rfl
  | c x => simpa [fvCells, FV.ok] using h1
 have hcr := FVRep.cells hpy hok
 simp only [effOK] at heff
 cases hb : bxGet bx s with
 | none => rw [hb] at heff; cases heff
 | some Told =>
  obtain ⟨T, old⟩ := Told
  rw [hb] at heff
  have hle := Nat.le_of_ble_eq_true heff
  obtain ⟨g', cur, hg', hh, hold⟩ := hp.bx s T old hb
  obtain rfl : g = g' := by rw [hg] at hg'; injection hg'
  have hlo := hold.length
  have hlc := hcr.length
  have hrun := run_storeCells_at P g off T (a.eval y).cells.toList 0 cur w hh (by simp at hlo hlc ⊢; omega) (cells_one hcr h1)
  simp only [Nat.add_zero] at hrun
  rw [← overV_eq _ _ _ (by simp at hlo hlc ⊢; omega)] at hrun
  have hsize : ¬ ((a.eval y).cells.size ≠ i.size) := by simp at hlc ⊢; omega
  have hexec : (execOp a.eval o).run P w = .ok .skip (w.setRow g (overV cur.toList off (a.eval y).cells.toList).toArray) := by
   simp only [execOp, h, ex, Instr.storeAt, Instr.sureAddr, storeVar, Sem.run_bind, Sem.run_pure, Result.andThen_ok, run_sizeOf hi, hsize, if_false, Sem.run_ite, hrun]
  have hsz' : (w.setRow g (overV cur.toList off (a.eval y).cells.toList).toArray).heap.size = w.heap.size := by simp
  have hne : ∀ b oo, Stable base μ b oo → b ≠ g := by
   intro b oo hs e
   subst e
   exact hs.1 s hg
  have hext : Ext base no2 no1 (fun z => s.beq z) μ w μ (w.setRow g (overV cur.toList off (a.eval y).cells.toList).toArray) := by
   refine ⟨by rw [hsz']; exact Nat.le_refl _, fun b oo _ hs => setRow_cell (hne b oo hs), fun _ _ _ h => h, fun _ _ _ h => h, fun s' g' _ hi' hs' => ?_, fun _ _ _ _ h => h, fun dd j g' u _ ht => ?_⟩
   ·refine setRow_other w g g' _ fun e => ?_
    subst e
    have := hp.maps.ρinj s s' g' hg hs'
    subst this
    simp at hi'
   ·exact setRow_other w g g' _ fun e => (hp.maps.τnew dd j g' u ht).2.2 s (by rw [e]; exact hg)
  unfold Oper.wp
  rw [hexec]
  have e1 : (pE o.dst (.set s off (fvCells fv) : Eff Γ)) = no2 := rfl
  have e2 : (qE o.dst (.set s off (fvCells fv) : Eff Γ)) = no1 := rfl
  have e3 : (iE o.dst (.set s off (fvCells fv) : Eff Γ)) = fun z => s.beq z := rfl
  refine hn _ _ μ ⟨⟨hp.maps.ρinj, fun s g h => by rw [hsz']; exact hp.maps.ρnew s g h, fun d j g u h => by rw [hsz']; exact hp.maps.τnew d j g u h, hp.maps.τinj⟩, ?_, fun _ _ h => .inl h, by rw [e1, e2, e3]; exact hext, trivial, fun s hs => .inl hs, fun _ _ h => .inl h, fun _ _ e => (by cases e), fun s' off' cs' e T' old' hb' => ?_, fun _ _ e => (by cases e), fun _ _ _ _ _ e => (by cases e)⟩
  ·refine ⟨hp.below.os, hp.below.tape, hp.below.output, by rw [hsz']; exact hp.below.size, fun k hk hs => ?_⟩
   rw [setRow_other w g k _ fun e => ?_]
   ·exact hp.below.block k hk hs
   ·subst e
    rcases hp.own s k hg with ⟨_, h⟩ | h
    ·omega
    ·exact hs s h
  ·cases e
   rw [hb] at hb'
   cases hb'
   refine ⟨g, _, hg, setRow_heap w g cur _ T _ hh, ?_⟩
   have := (hold.over off hcr).ext hext
   rw [roCells_no] at this
   simpa using this


theorem flat_len {α : Type} (K : RK α) : ∀ (xs : List α), (xs.flatMap K.enc).length = xs.length * K.sz
 | [] => by simp
 | x :: xs => by
  have := flat_len K xs
  simp only [List.flatMap_cons, List.length_append, K.len, this, List.length_cons, Nat.succ_mul]
  omega

theorem flat_rep {α : Type} (K : RK α) : ∀ (n : Nat) (zs : Array Value), zs.toList = K.enc K.d → ((Array.range (n * K.sz)).map (zs[· % zs.size]!)).toList = (List.replicate n K.d).flatMap K.enc
 | 0, zs, _ => by simp
 | n + 1, zs, h => by
  have ih := flat_rep K n zs h
  have hz : zs.size = K.sz := by rw [← Array.length_toList, h, K.len]
  have hpos := K.pos
  simp only [Array.toList_map, Array.toList_range] at ih ⊢
  rw [show (n + 1) * K.sz = n * K.sz + K.sz by rw [Nat.succ_mul], List.range_add, List.map_append, ih, List.replicate_succ', List.flatMap_append]
  congr 1
  simp only [List.flatMap_cons, List.flatMap_nil, List.append_nil, List.map_map]
  apply List.ext_getElem?
  intro k
  rw [List.getElem?_map]
  rcases Nat.lt_or_ge k K.sz with hk | hk
  ·rw [List.getElem?_range hk]
   simp only [Option.map_some, Function.comp]
   have e : (n * K.sz + k) % zs.size = k := by rw [hz, Nat.add_comm, Nat.add_mul_mod_self_right, Nat.mod_eq_of_lt hk]
   rw [e, ← h]
   have hk2 : k < zs.size := by rw [hz]; exact hk
   simp [hk2]
  ·rw [List.getElem?_eq_none (by simpa using hk), List.getElem?_eq_none (by rw [K.len]; exact hk)]
   rfl

theorem sem_makeSlice (C : CtxOK P Γ) {o : Oper} {tm : Tm Γ} {bx : Bx Γ} {t e bytes d : Nat} {l c : Operand} (h : o.op = .makeSlice t l c) (ht : Γ.td t = .sl e bytes) (hd : o.dst = some d) (hlc : sameOp l c = true) {n : Int} (hi : intOfAV (ev tm l) = some n)
  (h0 : 0 ≤ n) (h1 : n.toNat ≤ 281474976710656 / bytes) : OpSem P o tm bx (.f (.c (.own e (List.replicate n.toNat (Γ.kd e).K.d) d 0))) .fresh := by
 obtain ⟨ii, ie, z, hu, hi1, _, _, hie, hiz, hsz, hby, hzs, hb0, hzd⟩ := td_sl C ht
 have hle : bytes * n.toNat ≤ 281474976710656 := by rw [Nat.mul_comm]; exact Nat.mul_le_of_le_div _ _ _ h1
 have hn48 : n.toNat ≤ 281474976710656 := Nat.le_trans (Nat.le_mul_of_pos_left _ hb0) hle
 intro base S w0 a w μ hp next Q hn
 have hlc' : l = c := by
  unfold sameOp at hlc
  split at hlc
  ·rw [Nat.eq_of_beq_eq_true hlc]
  ·cases hlc
 subst hlc'
 obtain ⟨k, ei⟩ := intOfAV_rep hi (hp.ops l (by rw [h]; simp [Op.operands]))
 have hbn : (ie.bytes : Int) * n ≤ 281474976710656 := by
  rw [hby]
  have : ((bytes * n.toNat : Nat) : Int) ≤ 281474976710656 := by omega
  rw [Int.natCast_mul] at this
  rwa [Int.toNat_of_nonneg h0] at this
 have hrun := run_make (P := P) w t e ie z hu hie hiz k k n n h0 (Int.le_refl _) hbn (by omega)
 have hexec : (execOp a.eval o).run P w = .ok (.value (.slice (some ⟨w.heap.size, 0, none⟩) n.toNat n.toNat)) (w.alloc (.cells (madeCells z.cells (n.toNat * ie.size)) e)) := by
  simp only [execOp, h, ei, hrun, Sem.run_bind, Sem.run_pure, Result.andThen_ok]
 unfold Oper.wp
 rw [hexec]
 have hB : Below w.heap.size w (w.alloc (.cells (madeCells z.cells (n.toNat * ie.size)) e)) := (Below.refl _ _).alloc (Nat.le_refl _) _
 let μ' : Mp := ⟨μ.ρ, fun d' j => bif d.beq d' then (bif j.beq 0 then some (w.heap.size, 0) else none) else μ.τ d' j⟩
 have hcases : ∀ d' j v, μ'.τ d' j = some v → (d' = d ∧ j = 0 ∧ v = (w.heap.size, 0)) ∨ (d.beq d' = false ∧ μ.τ d' j = some v) := fun d' j v hv => by
  simp only [μ'] at hv
  cases hb : d.beq d' with
  | true =>
   rw [hb] at hv
   cases hj : j.beq 0 with
   | true => rw [hj] at hv; cases hv; exact .inl ⟨(Nat.eq_of_beq_eq_true hb).symm, Nat.eq_of_beq_eq_true hj, rfl⟩
   | false => rw [hj] at hv; cases hv
  | false => rw [hb] at hv; exact .inr ⟨rfl, hv⟩
 have hext : Ext base (pE o.dst (.fresh : Eff Γ)) (qE o.dst (.fresh : Eff Γ)) (iE o.dst (.fresh : Eff Γ)) μ w μ' (w.alloc (.cells (madeCells z.cells (n.toNat * ie.size)) e)) := by
  have hpe : ∀ d' j, pE o.dst (.fresh : Eff Γ) d' j = d.beq d' := fun d' j => by simp only [pE, isTok, hd]
  refine ⟨hB.size, fun b oo hb _ => hB.cell (p := ⟨b, oo, none⟩) hb, fun b oo hb hs => ⟨hs.1, fun d' j u hu => ?_⟩, fun s g _ hs => hs, fun s g _ _ hs => hB.block g (hp.maps.ρnew s g hs), fun d' j v hpp ht' => ?_, fun d' j g u _ ht' => hB.block g (hp.maps.τnew d' j g u ht').2.1⟩
  ·rcases hcases d' j _ hu with ⟨_, _, e⟩ | ⟨_, e⟩
   ·cases e; omega
   ·exact hs.2 d' j u e
  ·rw [hpe] at hpp
   simp only [μ', hpp, cond_false]
   exact ht'
 refine hn _ _ μ' ⟨⟨hp.maps.ρinj, fun s g hs => Nat.lt_of_lt_of_le (hp.maps.ρnew s g hs) hB.size, fun d' j g u hu => ?_, fun d' j d'' j' g u u' hu hu' => ?_⟩, hp.below.trans (hB.mono hp.le), fun s g hs => .inl hs, hext, ?_, fun s hs => .inl hs, fun d' j hnn => ?_, fun _ _ ee => (by cases ee), fun _ _ _ ee => (by cases ee), fun _ _ ee => (by cases ee), fun _ _ _ _ _ ee => (by cases ee)⟩
 ·rcases hcases d' j _ hu with ⟨_, _, ee⟩ | ⟨_, ee⟩
  ·cases ee
   exact ⟨hp.le, by simp, fun s hs => by have := hp.maps.ρnew s _ hs; omega⟩
  ·obtain ⟨q1, q2, q3⟩ := hp.maps.τnew d' j g u ee
   exact ⟨q1, Nat.lt_of_lt_of_le q2 hB.size, q3⟩
 ·rcases hcases d' j _ hu with ⟨e1, e2, ee⟩ | ⟨_, ee⟩ <;> rcases hcases d'' j' _ hu' with ⟨e1', e2', ee'⟩ | ⟨_, ee'⟩
  ·exact ⟨e1.trans e1'.symm, e2.trans e2'.symm⟩
  ·cases ee; have := (hp.maps.τnew _ _ _ _ ee').2.1; omega
  ·cases ee'; have := (hp.maps.τnew _ _ _ _ ee).2.1; omega
  ·exact hp.maps.τinj _ _ _ _ _ _ _ ee ee'
 ·refine ⟨w.heap.size, madeCells z.cells (n.toNat * ie.size), by simp [μ'], heap_alloc_new w _, ⟨[], ?_⟩, by simp only [List.length_replicate, maxLen]; omega, n.toNat, by simp, by simp⟩
  rw [hsz, List.append_nil]
  exact flat_rep (Γ.kd e).K n.toNat z.cells hzd
 ·simp only [μ']
  cases hb : d.beq d' with
  | true => exact .inr (by rw [hd, Nat.eq_of_beq_eq_true hb])
  | false => exact .inl hnn

theorem over_nil : ∀ (X : List Value) (o : Nat), overV X o [] = X
 | [], o => by cases o <;> rfl
 | x :: X, 0 => rfl
 | x :: X, o + 1 => by simp only [overV, over_nil X o]

theorem over_app : ∀ (B C us : List Value) (o : Nat), o + us.length ≤ B.length → overV (B ++ C) o us = overV B o us ++ C
 | [], C, us, o, h => by
  simp at h
  obtain ⟨rfl, rfl⟩ := h
  rw [over_nil, over_nil]
 | b :: B, C, [], o, _ => by rw [over_nil, over_nil]
 | b :: B, C, u :: us, 0, h => by
  simp only [List.cons_append, overV]
  rw [over_app B C us 0 (by simp at h ⊢; omega)]
 | b :: B, C, u :: us, o + 1, h => by
  simp only [List.cons_append, overV]
  rw [over_app B C (u :: us) o (by simp at h ⊢; omega)]

theorem over_skip : ∀ (A X us : List Value) (o : Nat), overV (A ++ X) (A.length + o) us = A ++ overV X o us
 | [], X, us, o => by simp
 | a :: A, X, us, o => by
  rw [show (a :: A).length + o = (A.length + o) + 1 by simp; omega]
  simp only [List.cons_append, overV]
  rw [over_skip A X us o]

theorem flat_over {α : Type} (K : RK α) (xs : List α) (i : Nat) (hi : i < xs.length) (o : Nat) (us : List Value) (ho : o + us.length ≤ K.sz) (x : α) (hx : K.enc x = overV (K.enc xs[i]) o us) :
  overV (xs.flatMap K.enc) (i * K.sz + o) us = (xs.set i x).flatMap K.enc := by
 have hsplit : xs.flatMap K.enc = (xs.take i).flatMap K.enc ++ (K.enc xs[i] ++ (xs.drop (i + 1)).flatMap K.enc) := by
  conv => lhs; rw [← List.take_append_drop i xs, List.drop_eq_getElem_cons hi]
  rw [List.flatMap_append, List.flatMap_cons]
 have hlt : ((xs.take i).flatMap K.enc).length = i * K.sz := by rw [flat_len, List.length_take, Nat.min_eq_left (by omega)]
 rw [List.set_eq_take_append_cons_drop, if_pos hi, List.flatMap_append, List.flatMap_cons, hx, hsplit, ← hlt, over_skip, over_app _ _ _ _ (by rw [K.len]; exact ho)]

theorem flat_inj {α : Type} (K : RK α) : ∀ (xs ys : List α) (i : Nat) (hi : i < xs.length) (hj : i < ys.length), xs.flatMap K.enc = ys.flatMap K.enc → K.enc xs[i] = K.enc ys[i]
 | x :: xs, y :: ys, 0, _, _, h => by
  simp only [List.flatMap_cons] at h
  exact (List.append_inj h (by rw [K.len, K.len])).1
 | x :: xs, y :: ys, i + 1, hi, hj, h => by
  simp only [List.flatMap_cons] at h
  exact flat_inj K xs ys i (by simpa using hi) (by simpa using hj) (List.append_inj h (by rw [K.len, K.len])).2

theorem flat_inj2 {α : Type} (K : RK α) : ∀ (xs ys : List α) (r s : List Value) (i : Nat) (hi : i < xs.length) (hj : i < ys.length), xs.flatMap K.enc ++ r = ys.flatMap K.enc ++ s → K.enc xs[i] = K.enc ys[i]
 | x :: xs, y :: ys, r, s, 0, _, _, h => by
  simp only [List.flatMap_cons, List.append_assoc] at h
  exact (List.append_inj h (by rw [K.len, K.len])).1
 | x :: xs, y :: ys, r, s, i + 1, hi, hj, h => by
  simp only [List.flatMap_cons, List.append_assoc] at h
  exact flat_inj2 K xs ys r s i (by simpa using hi) (by simpa using hj) (List.append_inj h (by rw [K.len, K.len])).2

theorem sem_put (C : CtxOK P Γ) {o : Oper} {tm : Tm Γ} {bx : Bx Γ} {t e d j off : Nat} {xs : List (Γ.kd e).α} {i : Int} {x y : Operand} (h : o.op = .store t x y) {fv : FV Γ} (hx : ev tm x = .p (.el e xs d j i off)) (hy : cloFn (coerce t (ev tm y)) = .f fv)
  (hk : (Γ.td t).known = true) (h1 : (fvCells fv).all Cell.one = true) (hsz : (fvCells fv).length = (Γ.td t).size) (hoff : off + (fvCells fv).length ≤ (Γ.kd e).K.sz) {us : List Value} (hus : cellVals (fvCells fv) = some us) {v : (Γ.kd e).α} (hv : (Γ.kd e).K.dec (overV ((Γ.kd e).K.enc (rdK (Γ.kd e).K xs i)) off us) = some v) :
  OpSem P o tm bx .u (.put d j e i v) := by
 obtain ⟨ii, dd, hi, his, hu, hdd⟩ := known_size C hk
 intro base S w0 a w μ hp next Q hn
 have hpx := hp.ops x (by rw [h]; simp [Op.operands])
 rw [hx] at hpx
 obtain ⟨g, cur, hg, hh, ⟨rest, hcur⟩, hi0, hi1, ex⟩ := hpx
 have hpy := cloFn_rep (coerce_rep (t := t) (hp.ops y (by rw [h]; simp [Op.operands])))
 rw [hy] at hpy
 have hok : fv.ok = true := by
  cases fv with
  | agg cs => rfl
  | c x => simpa [fvCells, FV.ok] using h1
 have hcr := FVRep.cells hpy hok
 have hvals := cellVals_eq hus hcr
 have hlen := hcr.length
 have hlu : us.length = (fvCells fv).length := by rw [← hvals]; exact hlen.symm
 have hnat : i.toNat < xs.length := by omega
 have hsize := flat_len (Γ.kd e).K xs
 have hcs : xs.length * (Γ.kd e).K.sz ≤ cur.size := by rw [← Array.length_toList, hcur, List.length_append, hsize]; omega
 have hle : (i.toNat + 1) * (Γ.kd e).K.sz ≤ xs.length * (Γ.kd e).K.sz := Nat.mul_le_mul_right _ hnat
 rw [Nat.succ_mul] at hle
 have hrun := run_storeCells_at P g (i.toNat * (Γ.kd e).K.sz + off) e us 0 cur w hh (by omega) (by rw [← hvals]; exact cells_one hcr h1)
 simp only [Nat.add_zero] at hrun
 rw [← overV_eq cur.toList (i.toNat * (Γ.kd e).K.sz + off) us (by have := Array.length_toList (xs := cur); omega)] at hrun
 have hysz : ¬ ((a.eval y).cells.size ≠ ii.size) := by
  rw [his, ← hsz, hlen]; simp
 have hexec : (execOp a.eval o).run P w = .ok .skip (w.setRow g (overV cur.toList (i.toNat * (Γ.kd e).K.sz + off) us).toArray) := by
  simp only [execOp, h, ex, Instr.storeAt, Instr.sureAddr, storeVar, Sem.run_bind, Sem.run_pure, Result.andThen_ok, run_sizeOf hi, hysz, if_false, Sem.run_ite, hvals, hrun]
 have hsz' : (w.setRow g (overV cur.toList (i.toNat * (Γ.kd e).K.sz + off) us).toArray).heap.size = w.heap.size := by simp
 have hdec := (Γ.kd e).K.de _ _ hv
 have hrd : rdK (Γ.kd e).K xs i = xs[i.toNat] := by simp [rdK, List.getD_eq_getElem?_getD, hnat]
 rw [hrd] at hdec
 have hne : ∀ b oo, Stable base μ b oo → b ≠ g := by
  intro b oo hs ee
  subst ee
  have := hs.2 d j 0 hg
  omega
 have hp' : (pE o.dst (.put d j e i v : Eff Γ)) = sameTok (d, j) := rfl
 have hext : Ext base (sameTok (d, j)) no1 no1 μ w μ (w.setRow g (overV cur.toList (i.toNat * (Γ.kd e).K.sz + off) us).toArray) := by
  refine ⟨by rw [hsz']; exact Nat.le_refl _, fun b oo _ hs => setRow_cell (hne b oo hs), fun _ _ _ h => h, fun _ _ _ h => h, fun s' g' _ _ hs' => setRow_other w g g' _ fun ee => ?_, fun _ _ _ _ h => h, fun d' j' g' u hpp ht => setRow_other w g g' _ fun ee => ?_⟩
  ·subst ee; exact (hp.maps.τnew d j g' 0 hg).2.2 s' hs'
  ·subst ee
   obtain ⟨rfl, rfl⟩ := hp.maps.τinj _ _ _ _ _ _ _ hg ht
   simp [sameTok, Nat.beq_refl] at hpp
 unfold Oper.wp
 rw [hexec]
 refine hn _ _ μ ⟨⟨hp.maps.ρinj, fun s g h => by rw [hsz']; exact hp.maps.ρnew s g h, fun d j g u h => by rw [hsz']; exact hp.maps.τnew d j g u h, hp.maps.τinj⟩, ?_, fun _ _ h => .inl h, by rw [hp']; exact hext, trivial, fun s hs => .inl hs, fun _ _ h => .inl h, fun _ _ ee => (by cases ee), fun _ _ _ ee => (by cases ee), fun _ _ ee => (by cases ee), fun d' j' e' i' v' ee c z hc => ?_⟩
 ·refine ⟨hp.below.os, hp.below.tape, hp.below.output, by rw [hsz']; exact hp.below.size, fun k hkk hs => ?_⟩
  rw [setRow_other w g k _ fun ee => ?_]
  ·exact hp.below.block k hkk hs
  ·subst ee
   have := (hp.maps.τnew d j k 0 hg).1
   omega
 ·cases ee
  cases c with
  | own e' xs' d' j' =>
   obtain ⟨g', cur', q1, q2, ⟨rest', q3⟩, q4, q5⟩ := hc
   simp only [elCell]
   cases hs : sameTok (d, j) d' j' with
   | true =>
    simp only [cond_true]
    simp only [sameTok, Bool.and_eq_true] at hs
    obtain rfl := Nat.eq_of_beq_eq_true hs.1
    obtain rfl := Nat.eq_of_beq_eq_true hs.2
    have eg : (g, 0) = (g', 0) := by rw [hg] at q1; injection q1
    cases eg
    rw [hh] at q2
    injection q2 with q2
    injection q2 with q2 q2'
    subst q2 q2'
    simp only [dif_pos]
    refine ⟨g, _, hg, setRow_heap w g cur _ e _ hh, ?_, by rw [List.length_set]; exact q4, by rw [List.length_set]; exact q5⟩
    have hs3 := flat_len (Γ.kd e).K xs'
    rcases Nat.lt_or_ge i.toNat xs'.length with hlt | hge
    ·have he : (Γ.kd e).K.enc xs'[i.toNat] = (Γ.kd e).K.enc xs[i.toNat] := flat_inj2 _ _ _ _ _ _ hlt hnat (by rw [← q3, hcur])
     have := flat_over (Γ.kd e).K xs' i.toNat hlt off us (by omega) v (by rw [he]; exact hdec)
     refine ⟨rest', ?_⟩
     have hb : i.toNat * (Γ.kd e).K.sz + off + us.length ≤ (xs'.flatMap (Γ.kd e).K.enc).length := by
      rw [hs3]
      have : (i.toNat + 1) * (Γ.kd e).K.sz ≤ xs'.length * (Γ.kd e).K.sz := Nat.mul_le_mul_right _ hlt
      rw [Nat.succ_mul] at this
      omega
     rw [q3, over_app _ _ _ _ hb, this]
    ·rw [List.set_eq_of_length_le hge]
     refine ⟨overV rest' (i.toNat * (Γ.kd e).K.sz + off - (xs'.flatMap (Γ.kd e).K.enc).length) us, ?_⟩
     have hb : (xs'.flatMap (Γ.kd e).K.enc).length ≤ i.toNat * (Γ.kd e).K.sz := by rw [hs3]; exact Nat.mul_le_mul_right _ hge
     rw [q3, ← over_skip]
     show overV _ _ _ = _
     rw [show (xs'.flatMap (Γ.kd e).K.enc).length + (i.toNat * (Γ.kd e).K.sz + off - (xs'.flatMap (Γ.kd e).K.enc).length) = i.toNat * (Γ.kd e).K.sz + off by omega]
   | false =>
    simp only [cond_false]
    refine ⟨g', cur', q1, (setRow_other w g g' _ fun ee => ?_).trans q2, ⟨rest', q3⟩, q4, q5⟩
    subst ee
    obtain ⟨rfl, rfl⟩ := hp.maps.τinj _ _ _ _ _ _ _ hg q1
    simp [sameTok, Nat.beq_refl] at hs
  | u => exact hc.ext hext
  | v x => exact hc.ext hext
  | bb b q i' hh' => exact hc.ext hext
  | nb b q i' hh' => exact hc.ext hext
  | row e' xs' o' => exact hc.ext hext
  | fn f => exact hc.ext hext


theorem sem_len {R : Type} (C : CtxOK P Γ) {o : Oper} {tm : Tm Γ} {bx : Bx Γ} {c : Call} (h : o.op = .call c) (hc : c.callee = .builtin .len) {x : Operand} {t : Nat} (ha : c.args.toList = [x]) (hT : c.argTypes.toList = [t]) {K : AV Γ → Option R} {r : R}
  (hk : lenAV (Γ.td t) (ev tm x) K = some r) : ∃ v, K v = some r ∧ OpSem P o tm bx v .none := by
 have ea : c.args = #[x] := by simpa using congrArg List.toArray ha
 have et : c.argTypes = #[t] := by simpa using congrArg List.toArray hT
 have hmem : x ∈ o.op.operands := by rw [h]; simp [Op.operands, Call.operands, hc, ea]
 have hrun : ∀ (a : Act) (w : World) (z : Value), (Builtin.len_ #[t] o.type #[a.eval x]).run P w = .ok z w → (execOp a.eval o).run P w = .ok (.value z) w := fun a w z hz => by
  simp [execOp, h, resolve, hc, ea, et, invoke, builtin, hz, Result.andThen]
 unfold lenAV at hk
 split at hk
 ·rename_i s htd hx
  refine ⟨_, hk, sem_val fun base S w0 a w μ hp => ⟨.int .i64 s.size, hrun a w _ ?_, rfl⟩⟩
  have hy := hp.ops x hmem
  rw [hx] at hy; change a.eval x = _ at hy
  obtain ⟨hu, _⟩ := td_str C htd
  simp [Builtin.len_, hy, run_underlying hu, goInt, Result.andThen]
 ·rename_i e' b e xs ow htd hx
  refine ⟨_, hk, sem_val fun base S w0 a w μ hp => ⟨.int .i64 xs.length, hrun a w _ ?_, rfl⟩⟩
  have hy := hp.ops x hmem
  rw [hx] at hy
  obtain ⟨A, c, ey, _⟩ := hy
  obtain ⟨ii, ie, z, hu, _⟩ := td_sl C htd
  simp [Builtin.len_, ey, run_underlying hu, goInt, Result.andThen]
 ·rename_i e' b e xs d j htd hx
  refine ⟨_, hk, sem_val fun base S w0 a w μ hp => ⟨.int .i64 xs.length, hrun a w _ ?_, rfl⟩⟩
  have hy := hp.ops x hmem
  rw [hx] at hy
  obtain ⟨_, _, _, _, _, _, _, _, ey⟩ := hy
  obtain ⟨ii, ie, z, hu, _⟩ := td_sl C htd
  simp [Builtin.len_, ey, run_underlying hu, goInt, Result.andThen]
 ·rename_i e' b htd hx
  refine ⟨_, hk, sem_val fun base S w0 a w μ hp => ⟨.int .i64 0, hrun a w _ ?_, rfl⟩⟩
  have hy := hp.ops x hmem
  rw [hx] at hy; change a.eval x = _ at hy
  obtain ⟨ii, ie, z, hu, _⟩ := td_sl C htd
  simp [Builtin.len_, hy, run_underlying hu, goInt, Result.andThen]
 ·cases hk

theorem sem_mm {R : Type} {o : Oper} {tm : Tm Γ} {bx : Bx Γ} {c : Call} (h : o.op = .call c) {mx : Bool} (hc : c.callee = .builtin (bif mx then .max else .min)) {x y : Operand} (ha : c.args.toList = [x, y]) {K : AV Γ → Option R} {r : R}
  (hk : mmAV mx (ev tm x) (ev tm y) K = some r) : ∃ v, K v = some r ∧ OpSem P o tm bx v .none := by
 have ea : c.args = #[x, y] := by simpa using congrArg List.toArray ha
 unfold mmAV at hk
 split at hk
 ·rename_i k m k' n hx hy
  split at hk
  ·rename_i he
   subst he
   refine ⟨_, hk, sem_val fun base S w0 a w μ hp => ⟨_, ?_, rfl⟩⟩
   have h1 := hp.ops x (by rw [h]; cases mx <;> simp [Op.operands, Call.operands, hc, ea])
   have h2 := hp.ops y (by rw [h]; cases mx <;> simp [Op.operands, Call.operands, hc, ea])
   rw [hx] at h1; change a.eval x = _ at h1
   rw [hy] at h2; change a.eval y = _ at h2
   cases mx <;> simp [execOp, h, resolve, hc, ea, invoke, builtin, Builtin.max_, Builtin.min_, Builtin.max2, Builtin.min2, h1, h2, Result.andThen]
  ·cases hk
 ·cases hk

end

section
variable {Γ : Ctx} {P : Program} {base : Nat} {S : Nat → Nat → Prop} {w0 : W0}

theorem eqLeaf_run (C : CtxOK P Γ) {t : Nat} {a b : Cell Γ} {r : Bool} (h : eqLeaf (Γ.td t) a b = some r) {μ : Mp} {w : World} {u v : Value} (ha : CellRep base S μ w a u) (hb : CellRep base S μ w b v) (D : Nat) (w' : World) :
  (Op.equalIn (D + 1) t u v).run P w' = .ok r w' := by
 unfold eqLeaf at h
 split at h
 ·rename_i k a k' b htd
  split at h
  ·rename_i hk; subst hk; cases h; cases ha; cases hb
   exact run_equalIn_int w' D t _ _ _ _ (td_int C htd).1
  ·cases h
 ·rename_i a b htd; cases h; cases ha; cases hb; exact run_equalIn_bool' w' D t _ _ (td_bool C htd).1
 ·rename_i a q i hh b htd; cases h; cases ha; cases hb; exact run_equalIn_bool' w' D t _ _ (td_bool C htd).1
 ·rename_i a q i hh b htd; cases h; cases ha; cases hb; exact run_equalIn_bool' w' D t _ _ (td_bool C htd).1
 ·rename_i a b htd; cases h; cases ha; cases hb; exact run_equalIn_string w' D t _ _ (td_str C htd).1
 ·cases h

theorem allB_cons (b : Bool) (l : List Bool) : allB (b :: l) = (b && allB l) := by
 cases l with
 | nil => simp [allB]
 | cons c l => rfl

theorem eq_run (C : CtxOK P Γ) {μ : Mp} {w : World} : ∀ n : Nat,
  (∀ (t : Nat) (as bs : List (Cell Γ)) (us vs : List Value) (b : Bool), eqTy n true t as bs = some b → CellsRep base S μ w as us → CellsRep base S μ w bs vs → ∀ (D : Nat) (w' : World), n ≤ D →
   (Op.equalIn D t (.agg (us.take (Γ.td t).size).toArray) (.agg (vs.take (Γ.td t).size).toArray)).run P w' = .ok b w') ∧
  (∀ (fs : List Fd) (gs : List Field) (as bs : List (Cell Γ)) (us vs : List Value) (l : List Bool), eqFs n fs as bs = some l → FdsOK P fs gs → CellsRep base S μ w as us → CellsRep base S μ w bs vs → ∀ (D : Nat) (w' : World), n ≤ D →
   (Op.eqFields D us.toArray vs.toArray gs).run P w' = .ok (allB l) w') := by
 intro n
 induction n with
 | zero =>
  refine ⟨fun t as bs us vs b h => ?_, fun fs gs as bs us vs l h => ?_⟩
  ·simp [eqTy] at h
  ·simp [eqFs] at h
 | succ n ih =>
  obtain ⟨ih1, ih2⟩ := ih
  refine ⟨fun t as bs us vs b h ha hb D w' hD => ?_, fun fs gs as bs us vs l h hfs ha hb D w' hD => ?_⟩
  ·obtain ⟨D, rfl⟩ : ∃ m, D = m + 1 := ⟨D - 1, by omega⟩
   unfold eqTy at h
   cases htd : Γ.td t with
   | st sz zs fs =>
    rw [htd] at h
    simp only at h
    obtain ⟨l, hl, rfl⟩ := Option.map_eq_some_iff.1 h
    obtain ⟨fields, inf, hu, hi, hsz, _, _, hfs, hst, _⟩ := td_st C htd
    have hfo : P.fieldsOf t = fields := by simp [Program.fieldsOf, hu]
    rw [run_equalIn_struct w' D t _ _ (by rw [hfo]; exact hu) hst, hfo]
    exact ih2 fs fields.toList _ _ _ _ l hl hfs (ha.take sz) (hb.take sz) D w' (by omega)
   | _ => rw [htd] at h; cases h
  ·obtain ⟨D, rfl⟩ : ∃ m, D = m + 1 := ⟨D - 1, by omega⟩
   cases fs with
   | nil =>
    cases gs with
    | nil => simp [eqFs] at h; subst h; rfl
    | cons _ _ => exact hfs.elim
   | cons f fs =>
    cases gs with
    | nil => exact hfs.elim
    | cons g gs =>
     unfold eqFs at h
     split at h
     ·rename_i b hb1
      split at h
      ·rename_i r hr
       cases h
       obtain ⟨⟨h1, h2, h3, h4, h5, h6⟩, hgs⟩ := hfs
       obtain ⟨i, hi, hs⟩ := info_size h3
       obtain ⟨d, hu, hd⟩ := Option.map_eq_some_iff.1 h5
       have hrest := ih2 fs gs as bs us vs r hr hgs ha hb (D + 1) w' (by omega)
       have hpart : ∃ x y, (part g.type us.toArray g.offset).run P w' = .ok x w' ∧ (part g.type vs.toArray g.offset).run P w' = .ok y w' ∧ (Op.equalIn (D + 1) g.type x y).run P w' = .ok b w' := by
        cases hag : f.agg with
        | true =>
         rw [hag] at hb1 hd
         have hp : ∀ zs : List Value, (part g.type zs.toArray g.offset).run P w' = .ok (.agg ((zs.drop f.off).take f.sz).toArray) w' := fun zs => by
          unfold part
          rw [Sem.run_bind, run_isAgg hu, Result.andThen_ok, hd, h1]
          simp only [if_true, Sem.run_bind, run_sizeOf hi, Result.andThen_ok, Sem.run_pure, hs]
          congr 2
          simp [List.drop_take]
         refine ⟨_, _, hp us, hp vs, ?_⟩
         have := ih1 f.ty _ _ _ _ b hb1 (ha.drop f.off) (hb.drop f.off) (D + 1) w' (by omega)
         have hsz : (Γ.td f.ty).size = f.sz := by
          cases hk : (Γ.td f.ty).known with
          | true =>
           obtain ⟨i', d', e1, e2, _, _⟩ := known_size C hk
           rw [← h2, hi] at e1
           injection e1 with e1
           rw [← e2, ← e1, hs]
          | false =>
           cases n with
           | zero => simp [eqTy] at hb1
           | succ n =>
            unfold eqTy at hb1
            cases htd : Γ.td f.ty <;> rw [htd] at hk hb1 <;> first | (cases hk; done) | (simp at hb1; done)
         rw [hsz, ← h2] at this
         exact this
        | false =>
         rw [hag] at hb1 hd
         cases n with
         | zero => simp [eqTy] at hb1
         | succ n =>
          cases hx1 : as.drop f.off with
          | nil => rw [hx1] at hb1; simp [eqTy] at hb1
          | cons x xs =>
          cases hy1 : bs.drop f.off with
          | nil => rw [hx1, hy1] at hb1; simp [eqTy] at hb1
          | cons y ys =>
           rw [hx1, hy1] at hb1
           simp only [eqTy] at hb1
           have ga := (ha.drop f.off).get 0 (c := x) (by rw [hx1]; rfl)
           have gb := (hb.drop f.off).get 0 (c := y) (by rw [hy1]; rfl)
           obtain ⟨u, hu1, hu2⟩ := ga
           obtain ⟨v, hv1, hv2⟩ := gb
           rw [List.getElem?_drop] at hu1 hv1
           have hp : ∀ (zs : List Value) (z : Value), zs[f.off + 0]? = some z → (part g.type zs.toArray g.offset).run P w' = .ok z w' := fun zs z hz => by
            unfold part
            rw [Sem.run_bind, run_isAgg hu, Result.andThen_ok, hd, h1]
            have : zs.toArray[f.off]? = some z := by simpa using hz
            simp only [Bool.false_eq_true, if_false, this, Sem.run_pure]
           refine ⟨u, v, hp us u hu1, hp vs v hv1, ?_⟩
           rw [h2]
           exact eqLeaf_run C hb1 hu2 hv2 D w'
       obtain ⟨x, y, p1, p2, p3⟩ := hpart
       rw [allB_cons, Op.eqFields]
       simp only [h6, ne_eq, not_false_eq_true, if_true, Sem.run_bind, p1, p2, p3, Result.andThen_ok, Sem.run_ite]
       cases b with
       | false => simp
       | true => simpa using hrest
      ·cases h
     ·cases h

theorem plainB_rep {base : Nat} {S : Nat → Nat → Prop} {μ : Mp} {w : World} {x : AV Γ} {y : Value} (h : AVRep base S μ w x y) : AVRep base S μ w (plainB x) y := by
 unfold plainB
 split
 ·exact h
 ·exact h
 ·exact h

theorem sem_binOp {R : Type} (C : CtxOK P Γ) {o : Oper} {tm : Tm Γ} {bx : Bx Γ} {op : BinOp} {t t' : Nat} {x y : Operand} (h : o.op = .binOp op t x y t') {K : AV Γ → Option R} {r : R} (hk : binAV op t x y (plainB (ev tm x)) (plainB (ev tm y)) K = some r) :
  ∃ v, K v = some r ∧ OpSem P o tm bx v .none := by
 have hmx : x ∈ o.op.operands := by rw [h]; simp [Op.operands]
 have hmy : y ∈ o.op.operands := by rw [h]; simp [Op.operands]
 unfold binAV at hk
 split at hk
 ·rename_i k m k' n hx hy
  obtain ⟨v, hv, z, h1, h2, h3⟩ := intBin2_inv hk
  refine ⟨v, hv, sem_val fun base S w0 a w μ hp => ⟨z, ?_, h3 _ _ _ _⟩⟩
  have ex := plainB_rep (hp.ops x hmx)
  have ey := plainB_rep (hp.ops y hmy)
  rw [hx] at ex; change a.eval x = _ at ex
  rw [hy] at ey; change a.eval y = _ at ey
  exact run_binOp h (by rw [ex, ey]; exact h2 w t x y) (by rw [ex, ey]; exact h1 w t)
 ·rename_i m n hx hy
  obtain ⟨v, hv, z, h1, h2, h3⟩ := strBin_inv hk
  refine ⟨v, hv, sem_val fun base S w0 a w μ hp => ⟨z, ?_, h3 _ _ _ _⟩⟩
  have ex := plainB_rep (hp.ops x hmx)
  have ey := plainB_rep (hp.ops y hmy)
  rw [hx] at ex; change a.eval x = _ at ex
  rw [hy] at ey; change a.eval y = _ at ey
  exact run_binOp h (by rw [ex, ey]; exact h2 w t x y) (by rw [ex, ey]; exact h1 w t)
 ·rename_i m n hx hy
  have key : ∀ (v : AV Γ) (z : Bool), (Γ.td t = .bool) → (∀ w : World, (binOp op t (.bool m) (.bool n)).run P w = .ok (.bool z) w) → (∀ base S μ w, AVRep (Γ := Γ) base S μ w v (.bool z)) → OpSem P o tm bx v .none := by
   intro v z ht h1 h3
   refine sem_val fun base S w0 a w μ hp => ⟨.bool z, ?_, h3 _ _ _ _⟩
   have ex := plainB_rep (hp.ops x hmx)
   have ey := plainB_rep (hp.ops y hmy)
   rw [hx] at ex; change a.eval x = _ at ex
   rw [hy] at ey; change a.eval y = _ at ey
   exact run_binOp h (by rw [ex, ey]; cases op <;> simp [eqGuard]) (by rw [ex, ey]; exact h1 w)
  split at hk
  ·rename_i htd
   refine ⟨_, hk, key _ (m == n) htd (fun w => ?_) fun _ _ _ _ => rfl⟩
   simp [binOp, Op.equal, Op.maxDepth, run_equalIn_bool' w 9999 t m n (td_bool C htd).1]
  ·rename_i htd
   refine ⟨_, hk, key _ (!(m == n)) htd (fun w => ?_) fun _ _ _ _ => rfl⟩
   simp [binOp, Op.equal, Op.maxDepth, run_equalIn_bool' w 9999 t m n (td_bool C htd).1]
  ·cases hk
 ·rename_i as bs hx hy
  cases hl : (as.length.beq (Γ.td t).size).and (bs.length.beq (Γ.td t).size) with
  | false => simp [hl] at hk
  | true =>
   simp only [hl, cond_true] at hk
   simp only [Bool.and_eq_true] at hl
   have hla := Nat.eq_of_beq_eq_true hl.1
   have hlb := Nat.eq_of_beq_eq_true hl.2
   split at hk
   ·rename_i b hb
    have key : ∀ (v : AV Γ) (z : Bool), (∀ (w : World) (us vs : Array Value), (Op.equalIn 10000 t (.agg us) (.agg vs)).run P w = .ok b w → (binOp op t (.agg us) (.agg vs)).run P w = .ok (.bool z) w) → (∀ base S μ w, AVRep (Γ := Γ) base S μ w v (.bool z)) → OpSem P o tm bx v .none := by
     intro v z h1 h3
     refine sem_val fun base S w0 a w μ hp => ⟨.bool z, ?_, h3 _ _ _ _⟩
     have ex := plainB_rep (hp.ops x hmx)
     have ey := plainB_rep (hp.ops y hmy)
     rw [hx] at ex
     rw [hy] at ey
     obtain ⟨us, e1, e2⟩ := ex
     obtain ⟨vs, e3, e4⟩ := ey
     have hrun := (eq_run (P := P) C 20).1 t as bs us vs b hb e2 e4 10000 w (by omega)
     rw [List.take_of_length_le (by rw [← e2.length]; omega), List.take_of_length_le (by rw [← e4.length]; omega)] at hrun
     have hgu : P.eqGuardType P.depth t = false := by
      unfold eqTy at hb
      cases htd : Γ.td t with
      | st sz zs fs => obtain ⟨_, _, _, _, _, _, _, _, _, hh⟩ := td_st C htd; exact hh
      | _ => rw [htd] at hb; simp at hb
     exact run_binOp h (by rw [e1, e3]; exact run_eqGuard_agg w op t x y _ _ hgu) (by rw [e1, e3]; exact h1 w _ _ hrun)
    split at hk
    ·exact ⟨_, hk, key _ b (fun w us vs hh => by rw [run_eql_struct, hh]; rfl) fun _ _ _ _ => rfl⟩
    ·exact ⟨_, hk, key _ (!b) (fun w us vs hh => by rw [run_neq_struct, hh]; rfl) fun _ _ _ _ => rfl⟩
    ·cases hk
   ·cases hk
 ·cases hk

end

section
variable {Γ : Ctx} {P : Program} {base : Nat} {S : Nat → Nat → Prop} {w0 : W0}

def mvTok (μ : Mp) (d : Nat) (t : Option (Nat × Nat)) (nv : Option (Nat × Nat)) : Mp :=
 ⟨μ.ρ, fun d' j' => bif d.beq d' then (bif j'.beq 0 then nv else none) else (bif hitTok t d' j' then none else μ.τ d' j')⟩

theorem mv_tok {μ : Mp} {d : Nat} {t nv : Option (Nat × Nat)} {d' j' : Nat} (h : pE (some d) (.app t : Eff Γ) d' j' = false) : (mvTok μ d t nv).τ d' j' = μ.τ d' j' := by
 simp only [pE, isTok, Bool.or_eq_false_iff] at h
 simp only [mvTok, h.1, h.2, cond_false]

theorem mv_new {μ : Mp} {d : Nat} {t nv : Option (Nat × Nat)} : (mvTok μ d t nv).τ d 0 = nv := by
 have e1 : d.beq d = true := Nat.beq_refl d
 simp [mvTok, e1]

theorem mv_cases {μ : Mp} {d : Nat} {t nv : Option (Nat × Nat)} {d' j' : Nat} {v : Nat × Nat} (h : (mvTok μ d t nv).τ d' j' = some v) :
  (d' = d ∧ j' = 0 ∧ nv = some v) ∨ (pE (some d) (.app t : Eff Γ) d' j' = false ∧ μ.τ d' j' = some v) := by
 simp only [mvTok] at h
 cases hd : d.beq d' with
 | true =>
  simp only [hd, cond_true] at h
  cases hj : j'.beq 0 with
  | true =>
   simp only [hj, cond_true] at h
   exact .inl ⟨(Nat.eq_of_beq_eq_true hd).symm, Nat.eq_of_beq_eq_true hj, h⟩
  | false => simp [hj] at h
 | false =>
  simp only [hd, cond_false] at h
  cases ht : hitTok t d' j' with
  | true => simp [ht] at h
  | false =>
   simp only [ht, cond_false] at h
   exact .inr ⟨by simp only [pE, isTok, hd, ht]; rfl, h⟩

structure AppW (base : Nat) (μ : Mp) (w w' : World) (d : Nat) (t nv : Option (Nat × Nat)) : Prop where
 size : w.heap.size ≤ w'.heap.size
 below : Below base w w'
 cell : ∀ b o, b < w.heap.size → Stable base μ b o → w'.cell? ⟨b, o, none⟩ = w.cell? ⟨b, o, none⟩
 box : ∀ s g, μ.ρ s = some g → w'.heap[g]? = w.heap[g]?
 tok : ∀ d' j' g u, (pE (Γ := Γ) (some d) (.app t) d' j') = false → μ.τ d' j' = some (g, u) → w'.heap[g]? = w.heap[g]?
 nv : ∀ g u, nv = some (g, u) → base ≤ g ∧ g < w'.heap.size ∧ (∀ s, μ.ρ s ≠ some g) ∧ (∀ d' j' u', pE (Γ := Γ) (some d) (.app t) d' j' = false → μ.τ d' j' ≠ some (g, u')) ∧ (∀ b o, b < w.heap.size → Stable base μ b o → b = g → o < u)

theorem AppW.stab {μ : Mp} {w w' : World} {d : Nat} {t nv : Option (Nat × Nat)} (H : AppW (Γ := Γ) base μ w w' d t nv) : ∀ b o, b < w.heap.size → Stable base μ b o → Stable base (mvTok μ d t nv) b o := by
 intro b o hb h
 have ⟨h1, h2⟩ := h
 refine ⟨h1, fun d' j' u hu => ?_⟩
 rcases mv_cases (Γ := Γ) hu with ⟨_, _, e⟩ | ⟨_, e⟩
 ·exact (H.nv b u e).2.2.2.2 b o hb h rfl
 ·exact h2 d' j' u e

theorem AppW.ext {μ : Mp} {w w' : World} {d : Nat} {t nv : Option (Nat × Nat)} (H : AppW (Γ := Γ) base μ w w' d t nv) : Ext base (pE (some d) (.app t : Eff Γ)) no1 no1 μ w (mvTok μ d t nv) w' :=
 ⟨H.size, H.cell, H.stab, fun _ _ _ h => h, fun s g _ _ h => H.box s g h, fun d' j' v hp h => by rw [mv_tok hp]; exact h, fun d' j' g u hp h => H.tok d' j' g u hp h⟩

theorem AppW.maps {μ : Mp} {w w' : World} {d : Nat} {t nv : Option (Nat × Nat)} (H : AppW (Γ := Γ) base μ w w' d t nv) (hm : MapsOK base μ w) : MapsOK base (mvTok μ d t nv) w' where
 ρinj := hm.ρinj
 ρnew s g h := Nat.lt_of_lt_of_le (hm.ρnew s g h) H.size
 τnew d' j' g u h := by
  rcases mv_cases (Γ := Γ) h with ⟨_, _, e⟩ | ⟨_, e⟩
  ·obtain ⟨h1, h2, h3, _⟩ := H.nv g u e; exact ⟨h1, h2, h3⟩
  ·obtain ⟨h1, h2, h3⟩ := hm.τnew d' j' g u e; exact ⟨h1, Nat.lt_of_lt_of_le h2 H.size, h3⟩
 τinj d' j' d'' j'' g u u' h h' := by
  rcases mv_cases (Γ := Γ) h with ⟨e1, e2, e⟩ | ⟨hp, e⟩ <;> rcases mv_cases (Γ := Γ) h' with ⟨e1', e2', e'⟩ | ⟨hp', e'⟩
  ·exact ⟨e1.trans e1'.symm, e2.trans e2'.symm⟩
  ·exact absurd e' ((H.nv g u e).2.2.2.1 _ _ _ hp')
  ·exact absurd e ((H.nv g u' e').2.2.2.1 _ _ _ hp)
  ·exact hm.τinj _ _ _ _ _ _ _ e e'

theorem own_cases {μ : Mp} {w : World} {e sz n c : Nat} {A : Option Addr} {o : Own} {t : Option (Nat × Nat)} (ht : tokO o = some t) (h : OwnRep base μ w e sz A n c o) :
  n = c ∨ ∃ d j g cur, t = some (d, j) ∧ A = some ⟨g, 0, none⟩ ∧ base ≤ g ∧ μ.τ d j = some (g, n * sz) ∧ w.heap[g]? = some (.cells cur e (0, 0)) ∧ c ≤ maxLen ∧ cur.size = c * sz := by
 cases o with
 | ro => cases ht
 | full => exact .inl h
 | tok d j =>
  rcases h with h | ⟨g, cur, h⟩
  ·exact .inl h
  ·cases ht; exact .inr ⟨d, j, g, cur, rfl, h⟩

theorem flat_length {α : Type} (K : RK α) : ∀ xs : List α, (xs.flatMap K.enc).length = xs.length * K.sz
 | [] => by simp
 | x :: xs => by simp [flat_length K xs, K.len, Nat.succ_mul, Nat.add_comm]

theorem flat_one {α : Type} (K : RK α) (xs : List α) : ∀ v ∈ xs.flatMap K.enc, v.oneCell' = true := by
 intro v hv
 obtain ⟨x, _, h⟩ := List.mem_flatMap.1 hv
 exact K.one x v h

theorem app_run {α : Type} (K : RK α) {t e bytes : Nat} {i : TypeInfo} {z : Value} (hu : P.underlying t = some (.slice e)) (hi : P.info? e = some i) (hz : i.zero = some z) (hsz : i.size = K.sz) (hby : i.bytes = bytes) (hzs : z.cells.size = i.size) (hb0 : 0 < bytes)
  {μ : Mp} {w : World} (hm : MapsOK base μ w) (hle : base ≤ w.heap.size) {xs ys : List α} {o o' : Own} {tk : Option (Nat × Nat)} (ht : tokO o = some tk) {x y : Value} (hx : RowRep base S μ w K e xs o x) (hy : RowRep base S μ w K e ys o' y)
  (hb : (xs.length + ys.length) * bytes ≤ 140737488355328) (d ty : Nat) :
  ∃ v w' nv, (Builtin.append_ #[t, t] ty #[x, y]).run P w = .ok v w' ∧ AppW (Γ := Γ) base μ w w' d tk nv ∧ RowRep base S (mvTok μ d tk nv) w' K e (xs ++ ys) (.tok d 0) v := by
 obtain ⟨A, c, rfl, hl1, hl2, hrd, hown⟩ := hx
 obtain ⟨A2, c2, rfl, hl3, hl4, hrd2, hown2⟩ := hy
 have hn63 : xs.length + ys.length ≤ 140737488355328 := Nat.le_trans (Nat.le_mul_of_pos_right _ hb0) hb
 have hpos := K.pos
 have hcases := own_cases ht hown
 rcases Nat.eq_zero_or_pos ys.length with hm0 | hm0
 ·-- nothing is appended
  have hys : ys = [] := List.eq_nil_of_length_eq_zero hm0
  subst hys
  have hr : (Builtin.append_ #[t, t] ty #[.slice A xs.length c, .slice A2 0 c2]).run P w = .ok (.slice A xs.length c) w := by
   have e1 : (Builtin.firstCells i.size 0 (.slice A2 0 c2)).run P w = .ok #[] w := by
    cases A2 <;> simp [Builtin.firstCells, loadCells, loadCellsFrom]
   cases A <;> simp [Builtin.append_, run_underlying hu, sizeOf, typeInfo, hi, Builtin.lenOf, hl1, e1, storeCells, Result.andThen]
  have nvx : ∃ nv : Option (Nat × Nat), (xs.length = c ∧ nv = none) ∨ (∃ dd j g cur, tk = some (dd, j) ∧ A = some ⟨g, 0, none⟩ ∧ base ≤ g ∧ μ.τ dd j = some (g, xs.length * K.sz) ∧ w.heap[g]? = some (.cells cur e (0, 0)) ∧ c ≤ maxLen ∧ cur.size = c * K.sz ∧ nv = some (g, xs.length * K.sz)) := by
   rcases hcases with h | ⟨dd, j, g, cur, h1, h2, h3, h4, h5, h6, h7⟩
   ·exact ⟨none, .inl ⟨h, rfl⟩⟩
   ·exact ⟨_, .inr ⟨dd, j, g, cur, h1, h2, h3, h4, h5, h6, h7, rfl⟩⟩
  obtain ⟨nv, hnv⟩ := nvx
  have H : AppW (Γ := Γ) base μ w w d tk nv := by
   refine ⟨Nat.le_refl _, Below.refl _ _, fun _ _ _ _ => rfl, fun _ _ _ => rfl, fun _ _ _ _ _ _ => rfl, fun g u e => ?_⟩
   rcases hnv with ⟨_, rfl⟩ | ⟨dd, j, g', cur, h1, h2, h3, h4, h5, h6, h7, rfl⟩
   ·cases e
   ·cases e
    obtain ⟨f1, f2, f3⟩ := hm.τnew dd j g _ h4
    refine ⟨f1, f2, f3, fun d' j' u' hp he => ?_, fun b oo _ hs e => ?_⟩
    ·obtain ⟨rfl, rfl⟩ := hm.τinj _ _ _ _ _ _ _ he h4
     subst h1
     have : sameTok (d', j') d' j' = true := by simp [sameTok, Nat.beq_refl]
     simp [pE, hitTok, this] at hp
    ·subst e; exact hs.2 dd j _ h4
  refine ⟨_, w, nv, hr, H, A, c, by simp, by simpa using hl1, by simpa using hl2, fun hn => ?_, ?_⟩
  ·rw [List.append_nil] at hn
   obtain ⟨b, off, rfl, hc⟩ := hrd hn
   refine ⟨b, off, rfl, fun j v hj => ?_⟩
   rw [List.append_nil] at hj
   obtain ⟨f1, f2, f3⟩ := hc j v hj
   exact ⟨f1, H.stab b _ (lt_of_cell f1) f2, f3⟩
  ·rcases hnv with ⟨h, _⟩ | ⟨dd, j, g', cur, h1, h2, h3, h4, h5, h6, h7, rfl⟩
   ·exact .inl (by simpa using h)
   ·exact .inr ⟨g', cur, h2, h3, by rw [mv_new]; simp, h5, h6, h7⟩
 ·-- the new elements are read
  obtain ⟨b2, off2, rfl, hc2⟩ := hrd2 hm0
  have hnews : ∀ j v, (ys.flatMap K.enc)[j]? = some v → w.cell? ((⟨b2, off2, none⟩ : Addr).add j) = some v := fun j v hj => by rw [add_plain']; exact (hc2 j v hj).1
  have hnl : (ys.flatMap K.enc).length = ys.length * i.size := by rw [flat_length, hsz]
  have holds : ∀ (ad : Addr), A = some ad → ∀ j v, (xs.flatMap K.enc)[j]? = some v → w.cell? (ad.add j) = some v := fun ad e j v hj => by
   have : 0 < xs.length := by
    rcases Nat.eq_zero_or_pos xs.length with h | h
    ·have : xs = [] := List.eq_nil_of_length_eq_zero h
     subst this; simp at hj
    ·exact h
   obtain ⟨b, off, e', hc⟩ := hrd this
   rw [e] at e'; injection e' with e'; subst e'
   rw [add_plain']; exact (hc j v hj).1
  have hol : (xs.flatMap K.enc).length = xs.length * i.size := by rw [flat_length, hsz]
  have grown : ∀ old : Nat, old < xs.length + ys.length → ∀ w' : World, w' = w.drew.alloc (.cells ((xs.flatMap K.enc).toArray ++ (ys.flatMap K.enc).toArray ++ Builtin.zeroCells z.cells (grownCap w (xs.length + ys.length) old e - (xs.length + ys.length))) e) →
    ∃ nv, AppW (Γ := Γ) base μ w w' d tk nv ∧ RowRep base S (mvTok μ d tk nv) w' K e (xs ++ ys) (.tok d 0) (.slice (some ⟨w.heap.size, 0, none⟩) (xs.length + ys.length) (grownCap w (xs.length + ys.length) old e)) := by
   rintro old ho w' rfl
   have hge := grownCap_ge w (xs.length + ys.length) old e
   have hcm : grownCap w (xs.length + ys.length) old e ≤ maxLen := grownCap_le_maxLen w _ old e (by simp only [maxLen]; omega)
   have hB : Below w.heap.size w (w.drew.alloc (.cells ((xs.flatMap K.enc).toArray ++ (ys.flatMap K.enc).toArray ++ Builtin.zeroCells z.cells (grownCap w (xs.length + ys.length) old e - (xs.length + ys.length))) e)) :=
    (Below.refl _ _).drew.alloc (Nat.le_refl _) _
   have H : AppW (Γ := Γ) base μ w (w.drew.alloc (.cells ((xs.flatMap K.enc).toArray ++ (ys.flatMap K.enc).toArray ++ Builtin.zeroCells z.cells (grownCap w (xs.length + ys.length) old e - (xs.length + ys.length))) e)) d tk (some (w.heap.size, (xs.length + ys.length) * K.sz)) := by
    refine ⟨hB.size, hB.mono hle, fun b o hb _ => hB.cell (p := ⟨b, o, none⟩) hb, fun s g h => hB.block g (hm.ρnew s g h), fun d' j' g u _ h => hB.block g (hm.τnew d' j' g u h).2.1, fun g u e => ?_⟩
    cases e
    exact ⟨hle, by simp, fun s hs => by have := (hm.ρnew s _ hs); omega, fun d' j' u' _ h => by have := (hm.τnew d' j' _ u' h).2.1; omega, fun b o hb _ e => by omega⟩
   refine ⟨_, H, some ⟨w.heap.size, 0, none⟩, grownCap w (xs.length + ys.length) old e, by simp, by simpa using hge, by simp only [List.length_append, maxLen]; omega, fun _ => ⟨w.heap.size, 0, rfl, fun j v hj => ⟨?_, ?_, fun h => by omega⟩⟩, .inr ⟨w.heap.size, _, rfl, hle, by rw [mv_new]; simp, heap_alloc_new w.drew _, hcm, ?_⟩⟩
   ·rw [Nat.zero_add]
    have h1 : (w.drew.alloc (.cells ((xs.flatMap K.enc).toArray ++ (ys.flatMap K.enc).toArray ++ Builtin.zeroCells z.cells (grownCap w (xs.length + ys.length) old e - (xs.length + ys.length))) e)).cell? ⟨w.heap.size, j, none⟩ = _ := World.cell?_alloc_new w.drew _ _ j
    rw [h1]
    rw [List.flatMap_append] at hj
    have hjl := (List.getElem?_eq_some_iff.1 hj).1
    rw [Array.getElem?_append_left (by simpa using hjl)]
    simpa using hj
   ·refine ⟨fun s hs => by have := (hm.ρnew s _ hs); omega, fun d' j' u hu => ?_⟩
    rcases mv_cases (Γ := Γ) hu with ⟨_, _, e⟩ | ⟨_, e⟩
    ·cases e
     have hjl := (List.getElem?_eq_some_iff.1 hj).1
     rw [flat_length, List.length_append] at hjl
     omega
    ·have := (hm.τnew d' j' _ u e).2.1; omega
   ·simp only [Array.size_append, List.size_toArray, size_zeroCells, hzs, hsz, flat_length, ← Nat.add_mul]
    congr 1
    omega
  have viaGrow : c < xs.length + ys.length → ∃ v w' nv, (Builtin.append_ #[t, t] ty #[.slice A xs.length c, .slice (some ⟨b2, off2, none⟩) ys.length c2]).run P w = .ok v w' ∧ AppW (Γ := Γ) base μ w w' d tk nv ∧ RowRep base S (mvTok μ d tk nv) w' K e (xs ++ ys) (.tok d 0) v := by
   intro hlt
   cases A with
   | none =>
    have hx0 : xs.length = 0 := by
     rcases Nat.eq_zero_or_pos xs.length with h | h
     ·exact h
     ·obtain ⟨b, off, e, _⟩ := hrd h; cases e
    have hc0 : c = 0 := by
     rcases hcases with h | ⟨_, _, g, _, _, h, _⟩
     ·omega
     ·cases h
    have hxs : xs = [] := List.eq_nil_of_length_eq_zero hx0
    subst hxs
    subst hc0
    have hr := run_append_nil (P := P) w t ty e i z hu hi hz ⟨b2, off2, none⟩ ys.length c2 (ys.flatMap K.enc) hnl hnews hm0 (by simp at hn63; omega) (by rw [hby]; simp at hb; omega)
    obtain ⟨nv, H1, H2⟩ := grown 0 (by simpa using hm0) _ rfl
    simp only [List.flatMap_nil, List.length_nil, Nat.zero_add, Array.empty_append, List.nil_append] at H1 H2
    exact ⟨_, _, nv, hr, H1, H2⟩
   | some ad =>
    have hr := run_append_grow (P := P) w t ty e i z hu hi hz ad xs.length c (xs.flatMap K.enc) hol (holds ad rfl) ⟨b2, off2, none⟩ ys.length c2 (ys.flatMap K.enc) hnl hnews hlt (by omega) (growslice_fits hlt (by rw [hby]; exact hb))
    obtain ⟨nv, H1, H2⟩ := grown c hlt _ rfl
    exact ⟨_, _, nv, hr, H1, H2⟩
  rcases Nat.lt_or_ge c (xs.length + ys.length) with hlt | hroom
  ·exact viaGrow hlt
  ·rcases hcases with h | ⟨dd, j, g, cur, rfl, rfl, h3, h4, h5, h6, h7⟩
   ·omega
   ·-- in place
    have hfit : xs.length * i.size + (ys.flatMap K.enc).length ≤ cur.size := by rw [hnl, h7, hsz, ← Nat.add_mul]; exact Nat.mul_le_mul_right _ hroom
    have hr := run_append_room (P := P) w t ty e i hu hi g xs.length c cur h5 ⟨b2, off2, none⟩ ys.length c2 (ys.flatMap K.enc) hnl hnews (flat_one K ys) hroom hfit
    obtain ⟨f1, f2, f3⟩ := hm.τnew dd j g _ h4
    have hcell : ∀ o, o < xs.length * K.sz → (w.setRow g (cur.toList.take (xs.length * i.size) ++ ys.flatMap K.enc ++ cur.toList.drop (xs.length * i.size + (ys.flatMap K.enc).length)).toArray).cell? ⟨g, o, none⟩ = w.cell? ⟨g, o, none⟩ := by
     intro oo ho
     rw [cell_setRow_same w g oo cur _ e (0, 0) h5, cell_of_row w g oo cur e (0, 0) h5]
     have hlc : xs.length * K.sz ≤ c * K.sz := Nat.mul_le_mul_right _ (by omega)
     have hcl : cur.toList.length = c * K.sz := by rw [← h7]; simp
     rw [hsz, List.append_assoc]
     simp only [List.getElem?_toArray]
     rw [List.getElem?_append_left (by rw [List.length_take, hcl]; exact Nat.lt_min.2 ⟨ho, Nat.lt_of_lt_of_le ho hlc⟩), List.getElem?_take, if_pos ho]
     simp
    have H : AppW (Γ := Γ) base μ w (w.setRow g (cur.toList.take (xs.length * i.size) ++ ys.flatMap K.enc ++ cur.toList.drop (xs.length * i.size + (ys.flatMap K.enc).length)).toArray) d (some (dd, j)) (some (g, (xs.length + ys.length) * K.sz)) := by
     refine ⟨by simp, ⟨rfl, rfl, rfl, by simp, fun k hk => setRow_other w g k _ fun e => by omega⟩, fun b oo hb hs => ?_, fun s g' h => setRow_other w g g' _ fun e => f3 s (by rw [h, e]), fun d' j' g' u hp h => setRow_other w g g' _ fun e => ?_, fun g' u e => ?_⟩
     ·by_cases e : b = g
      ·subst e
       exact hcell oo (hs.2 dd j _ h4)
      ·exact setRow_cell e
     ·subst e
      obtain ⟨rfl, rfl⟩ := hm.τinj _ _ _ _ _ _ _ h h4
      have : sameTok (d', j') d' j' = true := by simp [sameTok, Nat.beq_refl]
      simp [pE, hitTok, this] at hp
     ·cases e
      refine ⟨f1, by simpa using f2, f3, fun d' j' u' hp h => ?_, fun b oo hb hs e => ?_⟩
      ·obtain ⟨rfl, rfl⟩ := hm.τinj _ _ _ _ _ _ _ h h4
       have : sameTok (d', j') d' j' = true := by simp [sameTok, Nat.beq_refl]
       simp [pE, hitTok, this] at hp
      ·subst e
       have := hs.2 dd j _ h4
       rw [Nat.add_mul]; omega
    refine ⟨_, _, _, hr, H, some ⟨g, 0, none⟩, c, by simp, by simpa using hroom, by simp only [List.length_append, maxLen]; omega, fun _ => ⟨g, 0, rfl, fun jj v hj => ⟨?_, ?_, fun h => by omega⟩⟩, .inr ⟨g, _, rfl, h3, by rw [mv_new]; simp, setRow_heap w g cur _ e _ h5, h6, ?_⟩⟩
    ·rw [Nat.zero_add]
     rw [List.flatMap_append] at hj
     rw [cell_setRow_same w g jj cur _ e (0, 0) h5]
     have htake : cur.toList.take (xs.length * i.size) = xs.flatMap K.enc := by
      apply List.ext_getElem?
      intro q
      rw [List.getElem?_take]
      by_cases hq : q < xs.length * i.size
      ·rw [if_pos hq]
       have hq' : q < (xs.flatMap K.enc).length := by rw [hol]; exact hq
       have := holds ⟨g, 0, none⟩ rfl q _ (List.getElem?_eq_getElem hq')
       rw [add_plain', Nat.zero_add, cell_of_row w g q cur e (0, 0) h5] at this
       rw [List.getElem?_eq_getElem hq', ← this]
       simp
      ·rw [if_neg hq, List.getElem?_eq_none (by rw [hol]; omega)]
     rw [htake]
     have hjl := (List.getElem?_eq_some_iff.1 hj).1
     simp only [List.getElem?_toArray]
     rw [List.getElem?_append_left hjl]
     exact hj
    ·refine ⟨f3, fun d' j' u hu => ?_⟩
     rcases mv_cases (Γ := Γ) hu with ⟨_, _, e⟩ | ⟨hp, e⟩
     ·cases e
      have hjl := (List.getElem?_eq_some_iff.1 hj).1
      rw [flat_length, List.length_append] at hjl
      omega
     ·obtain ⟨rfl, rfl⟩ := hm.τinj _ _ _ _ _ _ _ e h4
      have : sameTok (d', j') d' j' = true := by simp [sameTok, Nat.beq_refl]
      simp [pE, hitTok, this] at hp
    ·simp only [List.size_toArray, List.length_append, List.length_take, List.length_drop, Array.length_toList]
     rw [← h7]
     omega

end

section
variable {Γ : Ctx} {P : Program} {base : Nat} {S : Nat → Nat → Prop} {w0 : W0}

def μ0 : Mp := ⟨fun _ => none, fun _ _ => none⟩

def AVsRep (base : Nat) (S : Nat → Nat → Prop) (μ : Mp) (w : World) : List (AV Γ) → List Value → Prop
 | [], [] => True
 | a :: as, y :: ys => AVRep base S μ w a y ∧ AVsRep base S μ w as ys
 | _, _ => False

def resVal : RC → List Value → Value
 | .one _, ys => ys.headD undef
 | .tup _, ys => .tuple ys.toArray

def OutRep (base : Nat) (S : Nat → Nat → Prop) (ρ : Nat → Option Nat) (μc : Mp) (w' : World) : List (Nat × Nat × List LC) → List Nat → List (Cell Γ) → Prop
 | [], [], os => os = []
 | (_, T, ls) :: r, s :: ks, os => (∃ g cur, ρ s = some g ∧ w'.heap[g]? = some (.cells cur T (0, 0)) ∧ CellsRep base S μc w' (os.take ls.length) cur.toList ∧ (os.take ls.length).length = ls.length) ∧ OutRep base S ρ μc w' r ks (os.drop ls.length)
 | _, _, _ => False

def ResOK (Γ : Ctx) (S : Nat → Nat → Prop) (ρ : Nat → Option Nat) (ks : List Nat) (w w' : World) (rc : RC) (args : List VC) (y : PT Γ (rc.ls ++ outLs args)) (v : Value) : Prop :=
 ∃ (μ : Mp) (avs : List (AV Γ)) (ys : List Value) (cs os : List (Cell Γ)), MapsOK w.heap.size μ w' ∧ AVsRep w.heap.size S μ w' avs ys ∧ argCells rc.vcs avs = some cs ∧ OutRep w.heap.size S ρ μ w' (mutsOf args) ks os ∧
  toksOK (rc.ls ++ outLs args) (cs ++ os) [] = true ∧ decLeaves (rc.ls ++ outLs args) (cs ++ os) = some y ∧ v = resVal rc ys

structure InOK (w : World) (μ : Mp) (ks : List Nat) : Prop where
 nodup : nodupB ks = true
 ρinj : ∀ s s' g, μ.ρ s = some g → μ.ρ s' = some g → s = s'
 ρlt : ∀ s g, μ.ρ s = some g → g < w.heap.size
 ρin : ∀ s g, μ.ρ s = some g → s ∈ ks
 τ : ∀ d j, μ.τ d j = none

structure EntOK (P : Program) (e : Ent Γ) : Prop where
 res : e.res.ok = true
 fn : ∃ fn, P.funcs[e.f]? = some fn ∧ (fn.name == "runtime.NumGoroutine") = false ∧ fn.body.isNone = false
 calls : ∀ (S : Nat → Nat → Prop) (w : World) (μ : Mp) (bx : Bx Γ) (avs : List (AV Γ)) (vals : List Value) (cs : List (Cell Γ)) (x : PT Γ (e.args.flatMap VC.ls)) (y : PT Γ e.ol), InOK w μ (inKeys e.args avs) →
  (∀ s T cs, bxGet bx s = some (T, cs) → BoxRep w.heap.size S μ w s T cs) → argsIn bx e.args avs = some cs → decLeaves (e.args.flatMap VC.ls) cs = some x → e.fn x = some y →
  AVsRep w.heap.size S μ w avs vals → Calls P e.f vals.toArray w fun en w' => ∃ v, en = .returned v ∧ Bel w.heap.size ⟨w, μ.ρ⟩ w' ∧ ResOK Γ S μ.ρ (inKeys e.args avs) w w' e.res e.args y v


def viewS (base : Nat) (S : Nat → Nat → Prop) (μ : Mp) (b o : Nat) : Prop := (b < base → S b o) ∧ Stable base μ b o

def μv (μ : Mp) (ks : List Nat) : Mp := ⟨fun s => bif hasKey ks s then μ.ρ s else none, fun _ _ => none⟩

theorem hasKey_mem {ks : List Nat} {s : Nat} : hasKey ks s = true ↔ s ∈ ks := by
 induction ks with
 | nil => simp [hasKey]
 | cons x ks ih =>
  simp only [hasKey, List.any_cons, Bool.or_eq_true, List.mem_cons] at ih ⊢
  rw [ih]
  constructor
  ·rintro (h | h)
   ·exact .inl (Nat.eq_of_beq_eq_true h)
   ·exact .inr h
  ·rintro (h | h)
   ·exact .inl (by rw [h, Nat.beq_refl])
   ·exact .inr h

theorem μv_ρ {μ : Mp} {ks : List Nat} {s g : Nat} (h : (μv μ ks).ρ s = some g) : s ∈ ks ∧ μ.ρ s = some g := by
 simp only [μv] at h
 cases hk : hasKey ks s with
 | false => rw [hk] at h; cases h
 | true => rw [hk] at h; exact ⟨hasKey_mem.1 hk, h⟩

theorem Stable.view {n : Nat} {μ : Mp} {ks : List Nat} {b o : Nat} (h : Stable base μ b o) : Stable n (μv μ ks) b o :=
 ⟨fun s e => h.1 s (μv_ρ e).2, fun d j u e => by simp [μv] at e⟩

theorem CellRep.view {μ : Mp} {ks : List Nat} {w : World} {c : Cell Γ} {y : Value} (h : CellRep base S μ w c y) : CellRep w.heap.size (viewS base S μ) (μv μ ks) w (roCell (fun _ _ => true) c) y := by
 have key : ∀ (e : Nat) (xs : List (Γ.kd e).α) (o o' : Own), (∀ A c, OwnRep base μ w e (Γ.kd e).K.sz A xs.length c o → OwnRep w.heap.size (μv μ ks) w e (Γ.kd e).K.sz A xs.length c o') → RowRep base S μ w (Γ.kd e).K e xs o y → RowRep w.heap.size (viewS base S μ) (μv μ ks) w (Γ.kd e).K e xs o' y := by
  rintro e xs o o' ho ⟨A, c, rfl, h1, h2, h3, h4⟩
  refine ⟨A, c, rfl, h1, h2, fun hn => ?_, ho A c h4⟩
  obtain ⟨b, off, rfl, hc⟩ := h3 hn
  refine ⟨b, off, rfl, fun j v hj => ?_⟩
  obtain ⟨f1, f2, f3⟩ := hc j v hj
  exact ⟨f1, f2.view, fun _ => ⟨f3, f2⟩⟩
 cases c with
 | u => trivial
 | v x => exact h
 | bb b q i hh => exact h
 | nb b q i hh => exact h
 | fn f => exact h
 | own e xs d j => trivial
 | row e xs o =>
  cases o with
  | ro => exact key e xs .ro .ro (fun _ _ _ => trivial) h
  | full => exact key e xs .full .full (fun _ _ h => h) h
  | tok d j => exact key e xs (.tok d j) .ro (fun _ _ _ => trivial) h

theorem CellsRep.view {μ : Mp} {ks : List Nat} {w : World} : ∀ {cs : List (Cell Γ)} {vs : List Value}, CellsRep base S μ w cs vs → CellsRep w.heap.size (viewS base S μ) (μv μ ks) w (cs.map (roCell fun _ _ => true)) vs
 | [], [], _ => trivial
 | _ :: _, _ :: _, h => ⟨h.1.view, CellsRep.view h.2⟩
 | [], _ :: _, h => h.elim
 | _ :: _, [], h => h.elim

theorem FVRep.view {μ : Mp} {ks : List Nat} {w : World} {x : FV Γ} {y : Value} (h : FVRep base S μ w x y) : FVRep w.heap.size (viewS base S μ) (μv μ ks) w (roFV (fun _ _ => true) x) y := by
 cases x with
 | c x => exact CellRep.view h
 | agg cs => obtain ⟨vs, rfl, h⟩ := h; exact ⟨vs, rfl, h.view⟩

theorem FVsRep.view {μ : Mp} {ks : List Nat} {w : World} : ∀ {cs : List (FV Γ)} {vs : List Value}, FVsRep base S μ w cs vs → FVsRep w.heap.size (viewS base S μ) (μv μ ks) w (cs.map (roFV fun _ _ => true)) vs
 | [], [], _ => trivial
 | _ :: _, _ :: _, h => ⟨h.1.view, FVsRep.view h.2⟩
 | [], _ :: _, h => h.elim
 | _ :: _, [], h => h.elim

theorem viewPt_rep {μ : Mp} {ks : List Nat} {w : World} {bx : Bx Γ} (hm : ∀ s s' g, μ.ρ s = some g → μ.ρ s' = some g → s = s') (hb : ∀ s T cs, bxGet bx s = some (T, cs) → hasKey ks s = false ∧ BoxRep base S μ w s T cs) {q r : Pt Γ} {y : Value} (h : PtRep base S μ w q y) (hr : viewPt bx q = some r) : PtRep w.heap.size (viewS base S μ) (μv μ ks) w r y := by
 cases q with
 | box s o =>
  obtain ⟨g, hg, rfl⟩ := h
  simp only [viewPt] at hr
  split at hr
  ·rename_i T cs he
   cases hr
   obtain ⟨hk, hbr⟩ := hb s T cs he
   obtain ⟨g', hg', hc⟩ := hbr.cells o
   obtain rfl : g = g' := by rw [hg] at hg'; injection hg'
   refine ⟨g, o, rfl, fun j c hj => ?_⟩
   rw [List.getElem?_map] at hj
   obtain ⟨c', hc', rfl⟩ := Option.map_eq_some_iff.1 hj
   obtain ⟨v, f1, f2⟩ := hc j c' hc'
   refine ⟨v, f1, f2.view, ⟨fun s' e => ?_, fun d j u e => by simp [μv] at e⟩, lt_of_cell f1⟩
   obtain ⟨e1, e2⟩ := μv_ρ e
   obtain rfl := hm s s' g hg e2
   rw [hasKey_mem.2 e1] at hk
   cases hk
  ·cases hr
 | ref cs =>
  obtain ⟨b, off, rfl, hc⟩ := h
  cases hr
  refine ⟨b, off, rfl, fun j c hj => ?_⟩
  rw [List.getElem?_map] at hj
  obtain ⟨c', hc', rfl⟩ := Option.map_eq_some_iff.1 hj
  obtain ⟨v, f1, f2, f3, f4⟩ := hc j c' hc'
  exact ⟨v, f1, f2.view, f3.view, f4⟩
 | ix s o e xs n => cases hr
 | el e xs d j i o => cases hr
 | un => cases hr

theorem viewPts_rep {μ : Mp} {ks : List Nat} {w : World} {bx : Bx Γ} (hm : ∀ s s' g, μ.ρ s = some g → μ.ρ s' = some g → s = s') (hb : ∀ s T cs, bxGet bx s = some (T, cs) → hasKey ks s = false ∧ BoxRep base S μ w s T cs) : ∀ {qs rs : List (Pt Γ)} {ys : List Value}, PtsRep base S μ w qs ys → viewPts bx qs = some rs → PtsRep w.heap.size (viewS base S μ) (μv μ ks) w rs ys
 | [], rs, [], _, h => by cases h; trivial
 | q :: qs, rs, y :: ys, hp, h => by
  simp only [viewPts] at h
  split at h
  ·rename_i r hr
   split at h
   ·rename_i rs' hrs
    cases h
    exact ⟨viewPt_rep hm hb hp.1 hr, viewPts_rep hm hb hp.2 hrs⟩
   ·cases h
  ·cases h
 | [], _, _ :: _, hp, _ => hp.elim
 | _ :: _, _, [], hp, _ => hp.elim

theorem viewAV_rep {μ : Mp} {ks : List Nat} {w : World} {bx : Bx Γ} (hm : ∀ s s' g, μ.ρ s = some g → μ.ρ s' = some g → s = s') (hb : ∀ s T cs, bxGet bx s = some (T, cs) → hasKey ks s = false ∧ BoxRep base S μ w s T cs) {a : AV Γ} {y : Value} (h : AVRep base S μ w a y) : AVRep w.heap.size (viewS base S μ) (μv μ ks) w (viewAV bx a) y := by
 cases a with
 | u => trivial
 | f x => exact FVRep.view h
 | tup l => obtain ⟨vs, rfl, h⟩ := h; exact ⟨vs, rfl, h.view⟩
 | p q =>
  simp only [viewAV]
  split
  ·rename_i r hr; exact viewPt_rep hm hb h hr
  ·trivial
 | clo f qs =>
  simp only [viewAV]
  split
  ·rename_i rs hr; obtain ⟨vs, rfl, h⟩ := h; exact ⟨vs, rfl, viewPts_rep hm hb h hr⟩
  ·trivial

theorem AVsRep.append {μ : Mp} {w : World} : ∀ {as as' : List (AV Γ)} {ys ys' : List Value}, AVsRep base S μ w as ys → AVsRep base S μ w as' ys' → AVsRep base S μ w (as ++ as') (ys ++ ys')
 | [], _, [], _, _, h => h
 | _ :: _, _, _ :: _, _, h, h' => ⟨h.1, AVsRep.append h.2 h'⟩
 | [], _, _ :: _, _, h, _ => h.elim
 | _ :: _, _, [], _, h, _ => h.elim


def valsOf : List VC → List Value → List Value
 | [], _ => []
 | .c _ :: r, v :: vs => v :: valsOf r vs
 | .c _ :: _, [] => []
 | v :: r, vs => .agg (vs.take v.n).toArray :: valsOf r (vs.drop v.n)

theorem avCells_c {l : LC} {a : AV Γ} {cs : List (Cell Γ)} (h : avCells (.c l) a = some cs) : ∃ x, a = .f (.c x) ∧ cs = [x] := by
 cases a with
 | f x =>
  cases x with
  | c x => simp [avCells] at h; exact ⟨x, rfl, h.symm⟩
  | agg cs => simp [avCells] at h
 | _ => simp [avCells] at h

theorem avCells_agg {ls : List LC} {a : AV Γ} {cs : List (Cell Γ)} (h : avCells (.agg ls) a = some cs) : a = .f (.agg cs) ∧ cs.length = ls.length := by
 cases a with
 | f x =>
  cases x with
  | c x => simp [avCells] at h
  | agg cs' =>
   simp only [avCells] at h
   cases hl : cs'.length.beq ls.length with
   | false => simp [hl] at h
   | true =>
    simp only [hl, cond_true] at h
    cases h
    exact ⟨rfl, Nat.eq_of_beq_eq_true hl⟩
 | _ => simp [avCells] at h

theorem args_cells {μ : Mp} {w : World} : ∀ (vcs : List VC) (avs : List (AV Γ)) (ys : List Value) (cs : List (Cell Γ)), vcs.all VC.plain = true → argCells vcs avs = some cs → AVsRep base S μ w avs ys →
  ∃ vs, CellsRep base S μ w cs vs ∧ ys = valsOf vcs vs ∧ cs.length = (vcs.flatMap VC.ls).length
 | [], [], [], cs, _, h, _ => by simp [argCells] at h; subst h; exact ⟨[], trivial, rfl, rfl⟩
 | v :: vcs, a :: avs, y :: ys, cs, hp, h, hr => by
  simp only [List.all_cons, Bool.and_eq_true] at hp
  simp only [argCells] at h
  split at h
  ·rename_i cs1 h1
   split at h
   ·rename_i cs2 h2
    cases h
    obtain ⟨vs2, e1, e2, e3⟩ := args_cells vcs avs ys cs2 hp.2 h2 hr.2
    cases v with
    | c l =>
     obtain ⟨x, rfl, rfl⟩ := avCells_c h1
     exact ⟨y :: vs2, ⟨hr.1, e1⟩, by simp only [valsOf, e2], by simp [VC.ls, e3, Nat.add_comm]⟩
    | agg ls =>
     obtain ⟨rfl, hlen⟩ := avCells_agg h1
     obtain ⟨us, rfl, hc⟩ := hr.1
     have hlu := hc.length
     refine ⟨us ++ vs2, hc.append e1, ?_, by simp [VC.ls, e3, hlen]⟩
     simp only [valsOf, VC.n]
     rw [List.take_left' (by omega), List.drop_left' (by omega), e2]
    | clo f caps => simp [VC.plain] at hp
    | ref ls => simp [VC.plain] at hp
    | wr k T ls => simp [VC.plain] at hp
   ·cases h
  ·cases h
 | [], _ :: _, _, _, _, h, _ => by simp [argCells] at h
 | _ :: _, [], _, _, _, h, _ => by simp [argCells] at h
 | [], [], _ :: _, _, _, _, hr => hr.elim
 | _ :: _, _ :: _, [], _, _, _, hr => hr.elim

theorem fvs_rep {μ : Mp} {w : World} : ∀ (vcs : List VC) (cs : List (Cell Γ)) (vs : List Value), vcs.all VC.plain = true → CellsRep base S μ w cs vs → (vcs.flatMap VC.ls).length ≤ cs.length → FVsRep base S μ w (fvsOf vcs cs) (valsOf vcs vs)
 | [], _, _, _, _, _ => trivial
 | .c l :: vcs, c :: cs, v :: vs, hp, h, hl => by
  simp only [List.all_cons, Bool.and_eq_true] at hp
  exact ⟨h.1, fvs_rep vcs cs vs hp.2 h.2 (by rw [List.flatMap_cons, List.length_append, List.length_cons] at hl; simp only [VC.ls, List.length_cons, List.length_nil] at hl; omega)⟩
 | .c l :: vcs, [], _, _, _, hl => by rw [List.flatMap_cons, List.length_append] at hl; simp only [VC.ls, List.length_cons, List.length_nil] at hl; omega
 | .c l :: vcs, _ :: _, [], _, h, _ => h.elim
 | .agg ls :: vcs, cs, vs, hp, h, hl => by
  simp only [List.all_cons, Bool.and_eq_true] at hp
  refine ⟨⟨vs.take ls.length, rfl, h.take _⟩, fvs_rep vcs _ _ hp.2 (h.drop _) ?_⟩
  rw [List.flatMap_cons, List.length_append] at hl; simp only [VC.ls, VC.n, List.length_drop] at hl ⊢; omega
 | .clo _ _ :: _, _, _, hp, _, _ => by simp [VC.plain] at hp
 | .ref _ :: _, _, _, hp, _, _ => by simp [VC.plain] at hp
 | .wr _ _ _ :: _, _, _, hp, _, _ => by simp [VC.plain] at hp

theorem valsOf_append : ∀ (vcs : List VC) (vs us : List Value), vcs.all VC.plain = true → vs.length = (vcs.flatMap VC.ls).length → valsOf vcs (vs ++ us) = valsOf vcs vs
 | [], _, _, _, _ => rfl
 | .c l :: vcs, v :: vs, us, hp, hl => by
  simp only [List.all_cons, Bool.and_eq_true] at hp
  simp only [List.cons_append, valsOf]
  rw [valsOf_append vcs vs us hp.2 (by rw [List.flatMap_cons, List.length_append, List.length_cons] at hl; simp only [VC.ls, List.length_cons, List.length_nil] at hl; omega)]
 | .c l :: vcs, [], _, _, hl => by rw [List.flatMap_cons, List.length_append] at hl; simp only [VC.ls, List.length_cons, List.length_nil] at hl; omega
 | .agg ls :: vcs, vs, us, hp, hl => by
  simp only [List.all_cons, Bool.and_eq_true] at hp
  rw [List.flatMap_cons, List.length_append] at hl
  simp only [VC.ls] at hl
  simp only [valsOf, VC.n]
  rw [List.take_append_of_le_length (by omega), List.drop_append_of_le_length (by omega), valsOf_append vcs _ us hp.2 (by simp only [List.length_drop]; omega)]
 | .clo _ _ :: _, _, _, hp, _ => by simp [VC.plain] at hp
 | .ref _ :: _, _, _, hp, _ => by simp [VC.plain] at hp
 | .wr _ _ _ :: _, _, _, hp, _ => by simp [VC.plain] at hp

def OutBack (base : Nat) (S : Nat → Nat → Prop) (μ : Mp) (w : World) : List (Nat × Nat × List LC) → List Nat → List (Cell Γ) → Prop
 | [], [], _ => True
 | (_, T, ls) :: r, s :: ks, cs => BoxRep base S μ w s T (cs.take ls.length) ∧ OutBack base S μ w r ks (cs.drop ls.length)
 | _, _, _ => False

theorem out_cells {base' : Nat} {S' : Nat → Nat → Prop} {ρ : Nat → Option Nat} {μc : Mp} {w' : World} : ∀ {ms : List (Nat × Nat × List LC)} {ks : List Nat} {os : List (Cell Γ)}, OutRep base' S' ρ μc w' ms ks os →
  ∃ us, CellsRep base' S' μc w' os us ∧ os.length = (ms.flatMap fun x => x.2.2).length ∧ ∀ (μ : Mp) (cs2 : List (Cell Γ)), (∀ s g, ρ s = some g → μ.ρ s = some g) → CellsRep base S μ w' cs2 us → OutBack base S μ w' ms ks cs2
 | [], [], os, h => by
  obtain rfl : os = [] := h
  exact ⟨[], trivial, rfl, fun _ _ _ _ => trivial⟩
 | (k, T, ls) :: ms, s :: ks, os, h => by
  obtain ⟨⟨g, cur, h1, h2, h3, h4⟩, h5⟩ := h
  obtain ⟨us, g1, g2, g3⟩ := out_cells h5
  refine ⟨cur.toList ++ us, ?_, ?_, fun μ cs2 hρ hc => ?_⟩
  ·have := h3.append g1
   rwa [List.take_append_drop] at this
  ·simp only [List.flatMap_cons, List.length_append, ← g2, List.length_drop]
   have : ls.length ≤ os.length := by rw [List.length_take] at h4; omega
   omega
  ·have hl : cur.toList.length = ls.length := by rw [← h3.length, h4]
   have ht := hc.take ls.length
   have hd := hc.drop ls.length
   rw [List.take_left' hl] at ht
   rw [List.drop_left' hl] at hd
   exact ⟨⟨g, cur, hρ s g h1, h2, ht⟩, g3 μ _ hρ hd⟩
 | [], _ :: _, _, h => h.elim
 | _ :: _, [], _, h => h.elim

def newTok (μc : Mp) (ls : List LC) (cs : List (Cell Γ)) (j : Nat) : Option (Nat × Nat) :=
 match ls[j]?, cs[j]? with
 | some (.row _ true), some (.row _ _ (.tok a b)) => μc.τ a b
 | some (.own _), some (.own _ _ a b) => μc.τ a b
 | _, _ => none

def backMp (μ μc : Mp) (d : Nat) (ls : List LC) (cs : List (Cell Γ)) : Mp := ⟨μ.ρ, fun d' j' => bif d.beq d' then newTok μc ls cs j' else μ.τ d' j'⟩

def Tok1 (l : LC) (c : Cell Γ) (a b : Nat) : Prop := (∃ (e e' : Nat) (xs : List (Γ.kd e').α), l = .row e true ∧ c = .row e' xs (.tok a b)) ∨ ∃ (e : Nat) (xs : List (Γ.kd e).α), c = .own e xs a b

def TokAt (ls : List LC) (cs : List (Cell Γ)) (j a b : Nat) : Prop := ∃ l c, ls[j]? = some l ∧ cs[j]? = some c ∧ Tok1 l c a b

theorem newTok_inv {μc : Mp} {ls : List LC} {cs : List (Cell Γ)} {j : Nat} {v : Nat × Nat} (h : newTok μc ls cs j = some v) : ∃ a b, TokAt ls cs j a b ∧ μc.τ a b = some v := by
 unfold newTok at h
 split at h
 ·rename_i e e' xs a b h1 h2; exact ⟨a, b, ⟨_, _, h1, h2, .inl ⟨e, e', xs, rfl, rfl⟩⟩, h⟩
 ·rename_i e e' xs a b h1 h2; exact ⟨a, b, ⟨_, _, h1, h2, .inr ⟨e', xs, rfl⟩⟩, h⟩
 ·cases h

theorem newTok_freed {μc : Mp} {ls : List LC} {cs : List (Cell Γ)} {j e e' a b : Nat} {q : Bool} {xs : List (Γ.kd e').α} (h1 : ls[j]? = some (.row e q)) (h2 : cs[j]? = some (.own e' xs a b)) : newTok μc ls cs j = none := by
 unfold newTok
 rw [h1, h2]
 cases q <;> rfl

theorem tokStep_inv {l : LC} {c : Cell Γ} {seen s : List (Nat × Nat)} (h : tokStep l c seen = some s) :
  (∀ x ∈ seen, x ∈ s) ∧ ∀ (a b : Nat), Tok1 l c a b → (a, b) ∈ s ∧ (a, b) ∉ seen := by
 have main : ∀ d j, (bif seen.any fun x => (x.1.beq d).and (x.2.beq j) then none else some ((d, j) :: seen)) = some s → (∀ x ∈ seen, x ∈ s) ∧ (d, j) ∈ s ∧ (d, j) ∉ seen := fun d j h => by
  cases ha : seen.any fun x => (x.1.beq d).and (x.2.beq j) with
  | true => simp [ha] at h
  | false =>
   simp only [ha, cond_false] at h
   cases h
   refine ⟨fun x hx => List.mem_cons_of_mem _ hx, List.mem_cons_self, fun hm => ?_⟩
   rw [List.any_eq_false] at ha
   have := ha _ hm
   simp [Nat.beq_refl] at this
 unfold tokStep at h
 split at h
 ·rename_i e e' xs d j
  obtain ⟨h1, h2⟩ := main d j h
  refine ⟨h1, fun a b ht => ?_⟩
  rcases ht with ⟨_, _, _, _, e2⟩ | ⟨_, _, e2⟩
  ·cases e2; exact h2
  ·cases e2
 ·rename_i e xs d j
  obtain ⟨h1, h2⟩ := main d j h
  refine ⟨h1, fun a b ht => ?_⟩
  rcases ht with ⟨_, _, _, _, e2⟩ | ⟨_, _, e2⟩
  ·cases e2
  ·cases e2; exact h2
 ·rename_i hno2 hno1
  cases h
  refine ⟨fun x hx => hx, fun a b ht => ?_⟩
  rcases ht with ⟨_, _, _, e1, e2⟩ | ⟨_, _, e2⟩
  ·exact (hno1 _ _ _ _ _ e1 e2).elim
  ·exact (hno2 _ _ _ _ e2).elim

theorem toks_cons {l : LC} {ls : List LC} {c : Cell Γ} {cs : List (Cell Γ)} {seen : List (Nat × Nat)} (h : toksOK (l :: ls) (c :: cs) seen = true) : ∃ s, tokStep l c seen = some s ∧ toksOK ls cs s = true := by
 simp only [toksOK] at h
 split at h
 ·exact ⟨_, by assumption, h⟩
 ·cases h

theorem TokAt.succ {l : LC} {ls : List LC} {c : Cell Γ} {cs : List (Cell Γ)} {j a b : Nat} (h : TokAt (l :: ls) (c :: cs) (j + 1) a b) : TokAt ls cs j a b := by
 obtain ⟨l', c', h1, h2, h3⟩ := h
 exact ⟨l', c', by simpa using h1, by simpa using h2, h3⟩

theorem TokAt.zero {l : LC} {ls : List LC} {c : Cell Γ} {cs : List (Cell Γ)} {a b : Nat} (h : TokAt (l :: ls) (c :: cs) 0 a b) : Tok1 l c a b := by
 obtain ⟨l', c', h1, h2, h3⟩ := h
 simp at h1 h2
 subst h1 h2
 exact h3

theorem toks_seen : ∀ (ls : List LC) (cs : List (Cell Γ)) (seen : List (Nat × Nat)), toksOK ls cs seen = true → ∀ (j a b : Nat), TokAt ls cs j a b → (a, b) ∉ seen
 | [], _, _, _, j, _, _, ⟨_, _, h1, _⟩ => by simp at h1
 | _ :: _, [], _, _, j, _, _, ⟨_, _, _, h2, _⟩ => by simp at h2
 | l :: ls, c :: cs, seen, h, j, a, b, ht => by
  obtain ⟨s, hs, hk⟩ := toks_cons h
  obtain ⟨i1, i2⟩ := tokStep_inv hs
  cases j with
  | zero => exact (i2 _ _ ht.zero).2
  | succ j => exact fun hm => toks_seen ls cs s hk j a b ht.succ (i1 _ hm)

theorem toks_inj : ∀ (ls : List LC) (cs : List (Cell Γ)) (seen : List (Nat × Nat)), toksOK ls cs seen = true → ∀ (j j' a b : Nat), TokAt ls cs j a b → TokAt ls cs j' a b → j = j'
 | [], _, _, _, j, _, _, _, ⟨_, _, h1, _⟩, _ => by simp at h1
 | _ :: _, [], _, _, j, _, _, _, ⟨_, _, _, h2, _⟩, _ => by simp at h2
 | l :: ls, c :: cs, seen, h, j, j', a, b, h1, h2 => by
  obtain ⟨s, hs, hk⟩ := toks_cons h
  obtain ⟨i1, i2⟩ := tokStep_inv hs
  cases j with
  | zero =>
   cases j' with
   | zero => rfl
   | succ j' => exact absurd (i2 _ _ h1.zero).1 (toks_seen ls cs s hk j' a b h2.succ)
  | succ j =>
   cases j' with
   | zero => exact absurd (i2 _ _ h2.zero).1 (toks_seen ls cs s hk j a b h1.succ)
   | succ j' => exact congrArg (· + 1) (toks_inj ls cs s hk j j' a b h1.succ h2.succ)

end

section
variable {Γ : Ctx} {P : Program} {base : Nat} {S : Nat → Nat → Prop} {w0 : W0}

theorem decInt_inv {k : IntKind} {c : Cell Γ} {x : Int} (h : decInt k c = some x) : c = .v (.int k x) := by
 unfold decInt at h
 split at h
 ·split at h
  ·cases h; subst_vars; rfl
  ·cases h
 ·cases h
theorem decBool_inv {c : Cell Γ} {x : Bool} (h : decBool c = some x) {μ : Mp} {w : World} {u : Value} (hc : CellRep base S μ w c u) : u = .bool x := by
 unfold decBool at h
 split at h
 ·cases h; exact hc
 ·cases h; exact hc
 ·cases h; exact hc
 ·cases h
theorem decStr_inv {c : Cell Γ} {x : ByteArray} (h : decStr c = some x) : c = .v (.string x) := by
 unfold decStr at h
 split at h
 ·cases h; rfl
 ·cases h
theorem decRw_inv {e : Nat} {own : Bool} {c : Cell Γ} {x : List (Γ.kd e).α} (h : decRw e own c = some x) : (∃ o, c = .row e x o ∧ (own = true → o.mine = true)) ∨ (c = .v (.slice none 0 0) ∧ x = []) ∨ own = false ∧ ∃ d j, c = .own e x d j := by
 unfold decRw at h
 split at h
 ·rename_i e' xs o
  cases hb : (!own).or o.mine with
  | false => simp [hb] at h
  | true =>
   simp only [hb, cond_true] at h
   split at h
   ·rename_i he
    subst he
    cases h
    refine .inl ⟨o, rfl, fun ho => ?_⟩
    subst ho
    simpa using hb
   ·cases h
 ·rename_i e' xs d j
  cases own with
  | true => cases h
  | false =>
   simp only [cond_false] at h
   split at h
   ·rename_i he; subst he; cases h; exact .inr (.inr ⟨rfl, d, j, rfl⟩)
   ·cases h
 ·cases h; exact .inr (.inl ⟨rfl, rfl⟩)
 ·cases h

theorem decOwn_inv {e : Nat} {c : Cell Γ} {x : List (Γ.kd e).α} (h : decOwn e c = some x) : ∃ d j, c = .own e x d j := by
 unfold decOwn at h
 split at h
 ·rename_i e' xs d j
  split at h
  ·rename_i he; subst he; cases h; exact ⟨d, j, rfl⟩
  ·cases h
 ·cases h

theorem decFn_inv {f : Nat} {c : Cell Γ} {x : Unit} (h : decFn f c = some x) : c = .fn f := by
 unfold decFn at h
 split at h
 ·rename_i g
  cases hb : f.beq g with
  | true => rw [Nat.eq_of_beq_eq_true hb]
  | false => rw [hb] at h; cases h
 ·cases h

theorem dec_one {l : LC} {cs : List (Cell Γ)} {y : PT1 Γ l []} (h : decL l [] cs = some y) : ∃ c, cs = [c] ∧ decLeaf l c = some y := by
 match cs, h with
 | [c], h => exact ⟨c, rfl, h⟩
 | [], h => exact absurd (show (none : Option (PT1 Γ l [])) = some y from h) (fun e => nomatch e)
 | _ :: _ :: _, h => exact absurd (show (none : Option (PT1 Γ l [])) = some y from h) (fun e => nomatch e)

theorem dec_two {l b : LC} {r : List LC} {cs : List (Cell Γ)} {y : PT1 Γ l (b :: r)} (h : decL l (b :: r) cs = some y) : ∃ c cs', cs = c :: cs' ∧ decLeaf l c = some y.1 ∧ decL b r cs' = some y.2 := by
 match cs, h with
 | [], h => exact absurd (show (none : Option (PT1 Γ l (b :: r))) = some y from h) (fun e => nomatch e)
 | c :: cs, h =>
  have h' : ((decLeaf l c).bind fun x => (decL b r cs).bind fun z => some (x, z)) = some y := h
  obtain ⟨x, hx, h1⟩ := Option.bind_eq_some_iff.1 h'
  obtain ⟨z, hz, h2⟩ := Option.bind_eq_some_iff.1 h1
  have := Option.some.inj h2
  subst this
  exact ⟨c, cs, rfl, hx, hz⟩

theorem dec_nil {cs : List (Cell Γ)} {y : PT Γ []} (h : decLeaves [] cs = some y) : cs = [] := by
 simp only [decLeaves] at h
 split at h
 ·rfl
 ·cases h

def Moves (base' : Nat) (S' : Nat → Nat → Prop) (μc : Mp) (base : Nat) (S : Nat → Nat → Prop) (μ : Mp) : Prop :=
 ∀ b oo, (b < base' → S' b oo) → Stable base' μc b oo → Stable base μ b oo ∧ (b < base → S b oo)

theorem leaf_rep {base' : Nat} {S' : Nat → Nat → Prop} {μ μc : Mp} {w' : World} {l : LC} {c : Cell Γ} {x : l.T Γ} {u : Value} {o : Own} (hx : decLeaf l c = some x) (hc : CellRep base' S' μc w' c u) (hst : Moves base' S' μc base S μ)
  (ho : ∀ e, l = .row e true → ∀ (xs : List (Γ.kd e).α) (o' : Own), c = .row e xs o' → o'.mine = true → ∀ (A : Option Addr) (n cc : Nat), OwnRep base' μc w' e (Γ.kd e).K.sz A n cc o' → OwnRep base μ w' e (Γ.kd e).K.sz A n cc o)
  (h0 : ∀ e, l = .row e true → OwnRep base μ w' e (Γ.kd e).K.sz none 0 0 o) (hf : ∀ (e : Nat) (xs : List (Γ.kd e).α) (a b : Nat), c = .own e xs a b → ∀ g, μc.τ a b = some (g, 0) → (∀ e' q, l = .row e' q → ∀ off, Stable base μ g off ∧ (g < base → S g off)) ∧ ∀ e', l = .own e' → ∀ d j, o = .tok d j → μ.τ d j = some (g, 0)) :
  CellRep base S μ w' (encLeaf o l x) u := by
 cases l with
 | int k => obtain rfl := decInt_inv hx; exact hc
 | bool => exact decBool_inv hx hc
 | str => obtain rfl := decStr_inv hx; exact hc
 | fn f => obtain rfl := decFn_inv hx; exact hc
 | own e =>
  obtain ⟨a, b, rfl⟩ := decOwn_inv hx
  obtain ⟨g, cur, q1, q2, q3, q4, q5⟩ := hc
  cases o with
  | tok d j => exact ⟨g, cur, (hf e x a b rfl g q1).2 e rfl d j rfl, q2, q3, q4, q5⟩
  | _ => trivial
 | row e own =>
  rcases decRw_inv hx with ⟨o', rfl, hm⟩ | ⟨rfl, e2⟩ | ⟨rfl, a, b, rfl⟩
  ·obtain ⟨A, cc, rfl, h1, h2, h3, h4⟩ := hc
   refine ⟨A, cc, rfl, h1, h2, fun hn => ?_, ?_⟩
   ·obtain ⟨b, off, rfl, hh⟩ := h3 hn
    refine ⟨b, off, rfl, fun j v hj => ?_⟩
    obtain ⟨f1, f2, f3⟩ := hh j v hj
    exact ⟨f1, hst b _ f3 f2⟩
   ·cases own with
    | false => trivial
    | true => exact ho e rfl x o' rfl (hm rfl) A _ cc h4
  ·cases hc
   have : x = [] := e2
   subst this
   refine ⟨none, 0, rfl, Nat.le_refl _, Nat.zero_le _, fun hn => (by simp at hn), ?_⟩
   cases own with
   | false => trivial
   | true => exact h0 e rfl
  ·obtain ⟨g, cur, q1, q2, ⟨rest, q3⟩, q4, cc, q5, rfl⟩ := hc
   refine ⟨_, _, rfl, q5, q4, fun hn => ⟨g, 0, rfl, fun j v hj => ⟨?_, ?_⟩⟩, trivial⟩
   ·rw [cell_of_row w' g _ cur e (0, 0) q2, Nat.zero_add, ← Array.getElem?_toList, q3]
    rw [List.getElem?_append_left (List.getElem?_eq_some_iff.1 hj).1]; exact hj
   ·exact (hf e x a b rfl g q1).1 e _ rfl _

theorem ls_rep {base' : Nat} {S' : Nat → Nat → Prop} {μ μc : Mp} {w' : World} {o : Nat → Own} (hst : Moves base' S' μc base S μ) (h0 : ∀ (j e : Nat), OwnRep base μ w' e (Γ.kd e).K.sz none 0 0 (o j)) :
  ∀ (r : List LC) (l : LC) (cs : List (Cell Γ)) (vs : List Value) (y : PT1 Γ l r) (k : Nat), decL l r cs = some y → CellsRep base' S' μc w' cs vs →
  (∀ (j e : Nat) (xs : List (Γ.kd e).α) (o' : Own), (l :: r)[j]? = some (.row e true) → cs[j]? = some (.row e xs o') → o'.mine = true → ∀ (A : Option Addr) (n cc : Nat), OwnRep base' μc w' e (Γ.kd e).K.sz A n cc o' → OwnRep base μ w' e (Γ.kd e).K.sz A n cc (o (k + j))) →
  (∀ (j e : Nat) (xs : List (Γ.kd e).α) (a b : Nat), cs[j]? = some (.own e xs a b) → ∀ g, μc.τ a b = some (g, 0) → (∀ e' q, (l :: r)[j]? = some (.row e' q) → ∀ off, Stable base μ g off ∧ (g < base → S g off)) ∧ ∀ e', (l :: r)[j]? = some (.own e') → ∀ d j', o (k + j) = .tok d j' → μ.τ d j' = some (g, 0)) →
  CellsRep base S μ w' (encL o k l r y) vs
 | [], l, cs, vs, y, k, h, hc, ho, hf => by
  obtain ⟨c, rfl, hl⟩ := dec_one h
  cases vs with
  | nil => exact hc.elim
  | cons v vs =>
   cases vs with
   | cons _ _ => exact hc.2.elim
   | nil => exact ⟨leaf_rep hl hc.1 hst (fun e he xs o' he' hm => ho 0 e xs o' (by simp [he]) (by simp [he']) hm) (fun e _ => h0 k e) (fun e xs a b e1 g hg => by
     obtain ⟨f1, f2⟩ := hf 0 e xs a b (by simp [e1]) g hg
     exact ⟨fun e' q e2 => f1 e' q (by simp [e2]), fun e' e2 => f2 e' (by simp [e2])⟩), trivial⟩
 | b :: r, l, cs, vs, y, k, h, hc, ho, hf => by
  obtain ⟨c, cs', rfl, hl, hr⟩ := dec_two h
  cases vs with
  | nil => exact hc.elim
  | cons v vs =>
   refine ⟨leaf_rep hl hc.1 hst (fun e he xs o' he' hm => ho 0 e xs o' (by simp [he]) (by simp [he']) hm) (fun e _ => h0 k e) (fun e xs a b e1 g hg => by
     obtain ⟨f1, f2⟩ := hf 0 e xs a b (by simp [e1]) g hg
     exact ⟨fun e' q e2 => f1 e' q (by simp [e2]), fun e' e2 => f2 e' (by simp [e2])⟩), ls_rep hst h0 r b cs' vs y.2 (k + 1) hr hc.2 (fun j e xs o' e1 e2 hm => ?_) (fun j e xs a b' e1 g hg => ?_)⟩
   ·have := ho (j + 1) e xs o' (by simpa using e1) (by simpa using e2) hm
    rwa [show k + 1 + j = k + (j + 1) by omega]
   ·obtain ⟨f1, f2⟩ := hf (j + 1) e xs a b' (by simpa using e1) g hg
    rw [show k + 1 + j = k + (j + 1) by omega]
    exact ⟨fun e' q e2 => f1 e' q (by simpa using e2), fun e' e2 => f2 e' (by simpa using e2)⟩

theorem leaves_rep {base' : Nat} {S' : Nat → Nat → Prop} {μ μc : Mp} {w' : World} {o : Nat → Own} (hst : Moves base' S' μc base S μ) (ls : List LC) (cs : List (Cell Γ)) (vs : List Value) (y : PT Γ ls) (k : Nat) (h : decLeaves ls cs = some y) (hc : CellsRep base' S' μc w' cs vs)
  (ho : ∀ (j e : Nat) (xs : List (Γ.kd e).α) (o' : Own), ls[j]? = some (.row e true) → cs[j]? = some (.row e xs o') → o'.mine = true → ∀ (A : Option Addr) (n cc : Nat), OwnRep base' μc w' e (Γ.kd e).K.sz A n cc o' → OwnRep base μ w' e (Γ.kd e).K.sz A n cc (o (k + j)))
  (h0 : ∀ (j e : Nat), OwnRep base μ w' e (Γ.kd e).K.sz none 0 0 (o j)) (hf : ∀ (j e : Nat) (xs : List (Γ.kd e).α) (a b : Nat), cs[j]? = some (.own e xs a b) → ∀ g, μc.τ a b = some (g, 0) → (∀ e' q, ls[j]? = some (.row e' q) → ∀ off, Stable base μ g off ∧ (g < base → S g off)) ∧ ∀ e', ls[j]? = some (.own e') → ∀ d j', o (k + j) = .tok d j' → μ.τ d j' = some (g, 0)) : CellsRep base S μ w' (encLeaves o k ls y) vs := by
 cases ls with
 | nil =>
  obtain rfl := dec_nil h
  cases vs with
  | nil => trivial
  | cons _ _ => exact hc.elim
 | cons l r => exact ls_rep hst h0 r l cs vs y k h hc ho hf

theorem encL_length (o : Nat → Own) : ∀ (r : List LC) (l : LC) (k : Nat) (y : PT1 Γ l r), (encL o k l r y).length = r.length + 1
 | [], _, _, _ => rfl
 | b :: r, l, k, y => congrArg (· + 1) (encL_length o r b (k + 1) y.2)

theorem encLeaves_length (o : Nat → Own) (ls : List LC) (k : Nat) (y : PT Γ ls) : (encLeaves o k ls y).length = ls.length := by
 cases ls with
 | nil => rfl
 | cons l r => exact encL_length o r l k y

theorem encL_no {o o' : Nat → Own} : ∀ (r : List LC) (l : LC) (k : Nat) (y : PT1 Γ l r), (∀ x ∈ (l :: r), x.isRow = false) → encL o k l r y = encL o' k l r y := by
 have hleaf : ∀ (l : LC) (p q : Own) (x : l.T Γ), l.isRow = false → encLeaf p l x = encLeaf q l x := by
  intro l p q x hh
  cases l with
  | row e own =>
   cases own with
   | false => rfl
   | true => cases hh
  | own e => cases hh
  | _ => rfl
 intro r
 induction r with
 | nil => intro l k y hh; exact congrArg (fun z => [z]) (hleaf l _ _ y (hh l List.mem_cons_self))
 | cons b r ih =>
  intro l k y hh
  have h1 := hleaf l (o k) (o' k) y.1 (hh l List.mem_cons_self)
  have h2 := ih b (k + 1) y.2 (fun x hx => hh x (List.mem_cons_of_mem _ hx))
  show encLeaf (o k) l y.1 :: encL o (k + 1) b r y.2 = encLeaf (o' k) l y.1 :: encL o' (k + 1) b r y.2
  rw [h1, h2]

theorem encLeaves_no {o o' : Nat → Own} (ls : List LC) (k : Nat) (y : PT Γ ls) (hh : ∀ x ∈ ls, x.isRow = false) : encLeaves o k ls y = encLeaves o' k ls y := by
 cases ls with
 | nil => rfl
 | cons l r => exact encL_no r l k y hh

theorem vcs_ls (rc : RC) : rc.vcs.flatMap VC.ls = rc.ls := by cases rc <;> simp [RC.vcs, RC.ls]

theorem res_shape {μ : Mp} {w : World} (rc : RC) (hok : rc.ok = true) (cs : List (Cell Γ)) (vs us : List Value) (hl : rc.ls.length ≤ cs.length) (hv : vs.length = rc.ls.length) (h : CellsRep base S μ w cs (vs ++ us)) : AVRep base S μ w (resOf rc cs) (resVal rc (valsOf rc.vcs vs)) := by
 rw [← valsOf_append rc.vcs vs us hok (by rw [vcs_ls]; exact hv)]
 cases rc with
 | one v =>
  cases v with
  | c l =>
   cases cs with
   | nil => simp [RC.ls, VC.ls] at hl
   | cons c cs =>
    cases vs with
    | nil => simp [RC.ls, VC.ls] at hv
    | cons v vs => exact h.1
  | agg ls => exact ⟨(vs ++ us).take ls.length, rfl, h.take _⟩
  | clo f caps => simp [RC.ok, RC.vcs, VC.plain] at hok
  | ref ls => simp [RC.ok, RC.vcs, VC.plain] at hok
  | wr k T ls => simp [RC.ok, RC.vcs, VC.plain] at hok
 | tup l => exact ⟨valsOf l (vs ++ us), rfl, fvs_rep l _ _ hok h (by simpa [RC.ls] using hl)⟩

def pF (d : Nat) (fr : Bool) : Nat → Nat → Bool := fun d' j => bif fr then isTok (some d) d' j else false

theorem cell_of_block {w w' : World} {b o : Nat} (h : w'.heap[b]? = w.heap[b]?) : w'.cell? ⟨b, o, none⟩ = w.cell? ⟨b, o, none⟩ := by
 simp only [World.cell?, h]

theorem res_back {w w' : World} {μ : Mp} {ks : List Nat} {rc : RC} {args : List VC} {y : PT Γ (rc.ls ++ outLs args)} {v : Value} (hok : rc.ok = true) (hm : MapsOK base μ w) (hle : base ≤ w.heap.size) (hB : Bel w.heap.size ⟨w, (μv μ ks).ρ⟩ w') (h : ResOK Γ (viewS base S μ) (μv μ ks).ρ ks w w' rc args y v) (d : Nat) :
  ∃ μ', MapsOK base μ' w' ∧ Ext base (pF d ((rc.ls ++ outLs args).any LC.isRow)) no1 (hasKey ks) μ w μ' w' ∧ AVRep base S μ' w' (resOf rc (encLeaves (Own.tok d) 0 (rc.ls ++ outLs args) y)) v ∧
   OutBack base S μ' w' (mutsOf args) ks ((encLeaves (Own.tok d) 0 (rc.ls ++ outLs args) y).drop rc.ls.length) ∧ μ'.ρ = μ.ρ ∧ ∀ d' j, μ.τ d' j = none → μ'.τ d' j = none ∨ d' = d := by
 obtain ⟨μc, avs, ys, cs, os, h1, h2, h3, hout, h4, h5, rfl⟩ := h
 obtain ⟨vs, e1, rfl, e3⟩ := args_cells rc.vcs avs ys cs hok h3 h2
 obtain ⟨us, o1, o2, o3⟩ := out_cells (base := base) (S := S) hout
 rw [vcs_ls] at e3
 have e1 := e1.append o1
 have hvs : vs.length = rc.ls.length := by
  have := (args_cells rc.vcs avs _ cs hok h3 h2)
  obtain ⟨vs', f1, f2, f3⟩ := this
  have hl := e1.length
  have ho := o1.length
  simp only [List.length_append] at hl
  omega
 have hlen : (encLeaves (Γ := Γ) (Own.tok d) 0 (rc.ls ++ outLs args) y).length = rc.ls.length + (outLs args).length := by rw [encLeaves_length, List.length_append]
 -- blocks that stay
 have hblk : ∀ b, b < w.heap.size → (∀ s, μ.ρ s = some b → hasKey ks s = false) → w'.heap[b]? = w.heap[b]? := fun b hb hs => hB.block b hb fun s e => by
  obtain ⟨k1, k2⟩ := μv_ρ e
  have := hs s k2
  rw [hasKey_mem.2 k1] at this
  cases this
 have hcell : ∀ b o, b < w.heap.size → Stable base μ b o → w'.cell? ⟨b, o, none⟩ = w.cell? ⟨b, o, none⟩ := fun b o hb hst => cell_of_block (hblk b hb fun s e => absurd e (hst.1 s))
 have hhb : ∀ s g, no1 s = false → hasKey ks s = false → μ.ρ s = some g → w'.heap[g]? = w.heap[g]? := fun s g _ hk hs => hblk g (hm.ρnew s g hs) fun s' e => by rw [hm.ρinj s' s g e hs]; exact hk
 have hht : ∀ d' j g u, μ.τ d' j = some (g, u) → w'.heap[g]? = w.heap[g]? := fun d' j g u e => hblk g (hm.τnew d' j g u e).2.1 fun s e' => absurd e' ((hm.τnew d' j g u e).2.2 s)
 have finish : ∀ μ' : Mp, μ'.ρ = μ.ρ → CellsRep base S μ' w' (encLeaves (Own.tok d) 0 (rc.ls ++ outLs args) y) (vs ++ us) → AVRep base S μ' w' (resOf rc (encLeaves (Own.tok d) 0 (rc.ls ++ outLs args) y)) (resVal rc (valsOf rc.vcs vs)) ∧
   OutBack base S μ' w' (mutsOf args) ks ((encLeaves (Own.tok d) 0 (rc.ls ++ outLs args) y).drop rc.ls.length) := fun μ' hρ hc => by
  refine ⟨res_shape rc hok _ vs us (by omega) hvs hc, o3 μ' _ (fun s g e => by rw [hρ]; exact (μv_ρ e).2) ?_⟩
  have := hc.drop rc.ls.length
  rwa [List.drop_left' hvs] at this
 cases hr : (rc.ls ++ outLs args).any LC.isRow with
 | false =>
  have hno : ∀ x ∈ rc.ls ++ outLs args, x.isRow = false := fun x hx => by simpa using List.any_eq_false.1 hr x hx
  have hno1 : ∀ (j e : Nat), (rc.ls ++ outLs args)[j]? ≠ some (.row e true) := fun j e he => by
   have := hno _ (List.mem_of_getElem? he)
   cases this
  have hno2 : ∀ (j e : Nat), (rc.ls ++ outLs args)[j]? ≠ some (.own e) := fun j e he => by
   have := hno _ (List.mem_of_getElem? he)
   cases this
  have hmv : Moves w.heap.size (viewS base S μ) μc base S μ := by
   intro b oo hs hst
   rcases Nat.lt_or_ge b w.heap.size with hb | hb
   ·exact ⟨(hs hb).2, (hs hb).1⟩
   ·exact ⟨⟨fun s e => by have := (hm.ρnew s _ e); omega, fun dd j u e => by have := (hm.τnew dd j _ u e).2.1; omega⟩, fun h => by omega⟩
  obtain ⟨f1, f2⟩ := finish μ rfl (by
   -- no leaf is owned: whose they are is not told
   have key := leaves_rep (base := base) (S := S) (μ := μ) (o := fun _ => Own.full) hmv (rc.ls ++ outLs args) (cs ++ os) (vs ++ us) y 0 h5 e1 (fun j e xs o' he => absurd he (hno1 j e)) (fun _ _ => rfl) (fun j e xs a b _ g hg => ⟨fun e' q _ off => ⟨⟨fun s es => by have := hm.ρnew s _ es; have := (h1.τnew a b g 0 hg).1; omega, fun dd jj u eu => by have := (hm.τnew dd jj _ u eu).2.1; have := (h1.τnew a b g 0 hg).1; omega⟩, fun hlt => by have := (h1.τnew a b g 0 hg).1; omega⟩, fun e' he => absurd he (hno2 j e')⟩)
   rw [encLeaves_no (o' := fun _ => Own.full) (rc.ls ++ outLs args) 0 y hno]
   exact key)
  exact ⟨μ, hm.of_size hB.size, ⟨hB.size, hcell, fun _ _ _ h => h, fun _ _ _ h => h, hhb, fun _ _ _ _ h => h, fun d' j g u _ => hht d' j g u⟩, f1, f2, rfl, fun _ _ h => .inl h⟩
 | true =>
  have hnew : ∀ j g u, newTok μc (rc.ls ++ outLs args) (cs ++ os) j = some (g, u) → w.heap.size ≤ g ∧ g < w'.heap.size := fun j g u h => by
   obtain ⟨a, b, _, ht⟩ := newTok_inv h
   obtain ⟨f1, f2, _⟩ := h1.τnew a b g u ht
   exact ⟨f1, f2⟩
  have hcases : ∀ d' j g u, (backMp μ μc d (rc.ls ++ outLs args) (cs ++ os)).τ d' j = some (g, u) → (d' = d ∧ newTok μc (rc.ls ++ outLs args) (cs ++ os) j = some (g, u)) ∨ (d.beq d' = false ∧ μ.τ d' j = some (g, u)) := fun d' j g u h => by
   simp only [backMp] at h
   cases hd : d.beq d' with
   | true => simp only [hd, cond_true] at h; exact .inl ⟨(Nat.eq_of_beq_eq_true hd).symm, h⟩
   | false => simp only [hd, cond_false] at h; exact .inr ⟨rfl, h⟩
  have hmv : Moves w.heap.size (viewS base S μ) μc base S (backMp μ μc d (rc.ls ++ outLs args) (cs ++ os)) := by
   intro b oo hs hst
   rcases Nat.lt_or_ge b w.heap.size with hb | hb
   ·refine ⟨?_, (hs hb).1⟩
    obtain ⟨g1, g2⟩ := (hs hb).2
    refine ⟨g1, fun d' j u e => ?_⟩
    rcases hcases d' j b u e with ⟨_, e⟩ | ⟨_, e⟩
    ·have := (hnew j b u e).1; omega
    ·exact g2 d' j u e
   ·refine ⟨⟨fun s e => by have := (hm.ρnew s _ e); omega, fun d' j u e => ?_⟩, fun h => by omega⟩
    rcases hcases d' j b u e with ⟨_, e⟩ | ⟨_, e⟩
    ·obtain ⟨a, b', _, ht⟩ := newTok_inv e
     exact hst.2 a b' u ht
    ·have := (hm.τnew d' j b u e).2.1; omega
  have hpf : ∀ d' j, pF d true d' j = false → d.beq d' = false := fun d' j h => h
  obtain ⟨f1, f2⟩ := finish (backMp μ μc d (rc.ls ++ outLs args) (cs ++ os)) rfl (by
   refine leaves_rep hmv (rc.ls ++ outLs args) (cs ++ os) (vs ++ us) y 0 h5 e1 (fun j e xs o' he hc hmine A n cc hown => ?_) (fun _ _ => .inl rfl) (fun j e xs a b he g hg => ?_)
   rotate_left
   ·obtain ⟨g1, g2, _⟩ := h1.τnew a b g 0 hg
    refine ⟨fun e' q hl off => ⟨⟨fun s es => by have := hm.ρnew s _ es; omega, fun dd jj u eu => ?_⟩, fun hlt => by omega⟩, fun e' hl dd jj eo => ?_⟩
    ·rcases hcases dd jj g u eu with ⟨_, eu⟩ | ⟨_, eu⟩
     ·obtain ⟨a', b', t1, t2⟩ := newTok_inv eu
      obtain ⟨rfl, rfl⟩ := h1.τinj _ _ _ _ _ _ _ t2 hg
      obtain rfl := toks_inj (rc.ls ++ outLs args) (cs ++ os) [] h4 jj j _ _ t1 ⟨_, _, hl, he, .inr ⟨e, xs, rfl⟩⟩
      rw [newTok_freed hl he] at eu
      cases eu
     ·have := (hm.τnew dd jj g u eu).2.1; omega
    ·cases eo
     have e1 : d.beq d = true := Nat.beq_refl d
     rw [Nat.zero_add]
     simp only [backMp, e1, cond_true, newTok, hl, he, hg]
   rw [Nat.zero_add]
   cases o' with
   | ro => cases hmine
   | full => exact .inl hown
   | tok a b =>
    rcases hown with hown | ⟨g, cur, f1, f2, f3, f4, f5, f6⟩
    ·exact .inl hown
    ·refine .inr ⟨g, cur, f1, by omega, ?_, f4, f5, f6⟩
     have e1 : d.beq d = true := Nat.beq_refl d
     simp only [backMp, e1, cond_true, newTok, he, hc, f3])
  refine ⟨backMp μ μc d (rc.ls ++ outLs args) (cs ++ os), ⟨hm.ρinj, fun s g h => Nat.lt_of_lt_of_le (hm.ρnew s g h) hB.size, fun d' j g u h => ?_, fun d' j d'' j' g u u' h h' => ?_⟩,
   ⟨hB.size, hcell, fun b o hb hst => ?_, fun _ _ _ h => h, hhb, fun d' j v hp h => ?_, fun d' j g u _ h => hht d' j g u h⟩, f1, f2, rfl, fun d' j h => ?_⟩
  ·rcases hcases d' j g u h with ⟨_, e⟩ | ⟨_, e⟩
   ·obtain ⟨f1, f2⟩ := hnew j g u e
    exact ⟨by omega, f2, fun s e => by have := (hm.ρnew s _ e); omega⟩
   ·obtain ⟨f1, f2, f3⟩ := hm.τnew d' j g u e
    exact ⟨f1, Nat.lt_of_lt_of_le f2 hB.size, f3⟩
  ·rcases hcases d' j g u h with ⟨e1, e⟩ | ⟨_, e⟩ <;> rcases hcases d'' j' g u' h' with ⟨e1', e'⟩ | ⟨_, e'⟩
   ·refine ⟨e1.trans e1'.symm, ?_⟩
    obtain ⟨a1, a2, a3, a4⟩ := newTok_inv e
    obtain ⟨b1, b2, b3, b4⟩ := newTok_inv e'
    obtain ⟨rfl, rfl⟩ := h1.τinj _ _ _ _ _ _ _ a4 b4
    exact toks_inj (rc.ls ++ outLs args) (cs ++ os) [] h4 j j' _ _ a3 b3
   ·have := (hnew j g u e).1; have := (hm.τnew d'' j' g u' e').2.1; omega
   ·have := (hnew j' g u' e').1; have := (hm.τnew d' j g u e).2.1; omega
   ·exact hm.τinj _ _ _ _ _ _ _ e e'
  ·obtain ⟨g1, g2⟩ := hst
   refine ⟨g1, fun d' j u e => ?_⟩
   rcases hcases d' j b u e with ⟨_, e⟩ | ⟨_, e⟩
   ·have := (hnew j b u e).1; omega
   ·exact g2 d' j u e
  ·simp only [backMp, hpf d' j hp, cond_false]; exact h
  ·cases hd : d.beq d' with
   | true => exact .inr (Nat.eq_of_beq_eq_true hd).symm
   | false => exact .inl (by simp only [backMp, hd, cond_false]; exact h)

theorem entRun_inv {R : Type} {d : Nat} {bx : Bx Γ} {args : List (AV Γ)} {f : Nat} {K : AV Γ → Eff Γ → Option R} {r : R} : ∀ {E : List (Ent Γ)}, entRun d bx args f K E = some r →
  ∃ e ∈ E, e.f = f ∧ ∃ cs x y, nodupB (inKeys e.args args) = true ∧ argsIn (viewBx (inKeys e.args args) bx) e.args (viewArgs (restBx (inKeys e.args args) bx) e.args args) = some cs ∧ decLeaves (e.args.flatMap VC.ls) cs = some x ∧ e.fn x = some y ∧
   K (resOf e.res (encLeaves (Own.tok d) 0 e.ol y)) (callEff e.res e.args (inKeys e.args args) (encLeaves (Own.tok d) 0 e.ol y)) = some r
 | [], h => by simp [entRun] at h
 | e :: E, h => by
  simp only [entRun] at h
  have hrest : entRun d bx args f K E = some r → ∃ e' ∈ e :: E, e'.f = f ∧ ∃ cs x y, nodupB (inKeys e'.args args) = true ∧ argsIn (viewBx (inKeys e'.args args) bx) e'.args (viewArgs (restBx (inKeys e'.args args) bx) e'.args args) = some cs ∧ decLeaves (e'.args.flatMap VC.ls) cs = some x ∧ e'.fn x = some y ∧
    K (resOf e'.res (encLeaves (Own.tok d) 0 e'.ol y)) (callEff e'.res e'.args (inKeys e'.args args) (encLeaves (Own.tok d) 0 e'.ol y)) = some r := fun h => by
   obtain ⟨e', he, hh⟩ := entRun_inv h
   exact ⟨e', List.mem_cons_of_mem _ he, hh⟩
  cases hf : Nat.beq e.f f with
  | false =>
   simp only [hf, cond_false] at h
   exact hrest h
  | true =>
   simp only [hf, cond_true] at h
   cases hnd : nodupB (inKeys e.args args) with
   | false => simp only [hnd, cond_false] at h; exact hrest h
   | true =>
    simp only [hnd, cond_true] at h
    split at h
    ·rename_i cs hcs
     split at h
     ·rename_i x hx
      obtain ⟨y, hy, hk⟩ := Option.bind_eq_some_iff.1 h
      exact ⟨e, List.mem_cons_self, Nat.eq_of_beq_eq_true hf, cs, x, y, hnd, hcs, hx, hy, hk⟩
     ·exact hrest h
    ·exact hrest h

theorem argIn_wr {bx : Bx Γ} {k T : Nat} {ls : List LC} {a : AV Γ} {cs : List (Cell Γ)} (h : argIn bx (.wr k T ls) a = some cs) : ∃ s, a = .p (.box s 0) ∧ bxGet bx s = some (T, cs) ∧ cs.length = ls.length := by
 cases a with
 | p q =>
  cases q with
  | box s o =>
   cases o with
   | zero =>
    simp only [argIn] at h
    split at h
    ·rename_i T' cs' hb
     cases hc : (T.beq T').and (cs'.length.beq ls.length) with
     | false => rw [hc] at h; cases h
     | true =>
      rw [hc] at h
      cases h
      simp only [Bool.and_eq_true] at hc
      rw [Nat.eq_of_beq_eq_true hc.1]
      exact ⟨s, rfl, hb, Nat.eq_of_beq_eq_true hc.2⟩
    ·cases h
   | succ o => simp [argIn] at h
  | _ => simp [argIn] at h
 | _ => simp [argIn] at h

theorem inKeys_mem {μ : Mp} {w : World} : ∀ {vs : List VC} {as : List (AV Γ)} {ys : List Value}, AVsRep base S μ w as ys → ∀ s ∈ inKeys vs as, ∃ g, μ.ρ s = some g
 | [], _, _, _, s, hs => by cases hs
 | v :: vs, [], ys, _, s, hs => by cases v <;> cases hs
 | v :: vs, a :: as, [], h, _, _ => h.elim
 | v :: vs, a :: as, y :: ys, h, s, hs => by
  have ih := fun hs => inKeys_mem (vs := vs) h.2 s hs
  unfold inKeys at hs
  split at hs
  ·rename_i e1 e2
   cases e1; cases e2
   rcases List.mem_cons.1 hs with rfl | hs
   ·obtain ⟨g, hg, _⟩ := h.1
    exact ⟨g, hg⟩
   ·exact ih hs
  ·rename_i e1 e2
   cases e1; cases e2
   exact ih hs
  ·cases hs

theorem viewArgs_rep {μ : Mp} {ks : List Nat} {w : World} {bx : Bx Γ} (hm : ∀ s s' g, μ.ρ s = some g → μ.ρ s' = some g → s = s') (hb : ∀ s T cs, bxGet bx s = some (T, cs) → hasKey ks s = false ∧ BoxRep base S μ w s T cs) : ∀ {vs : List VC} {as : List (AV Γ)} {ys : List Value}, AVsRep base S μ w as ys →
  (∀ s ∈ inKeys vs as, s ∈ ks) → (argsIn (Γ := Γ) (viewBx ks bx) [] [] = some []) → AVsRep w.heap.size (viewS base S μ) (μv μ ks) w (viewArgs bx vs as) ys ∨ ∀ bx', argsIn bx' vs (viewArgs bx vs as) = none
 | [], as, ys, h, _, _ => by
  left
  have : ∀ (as : List (AV Γ)) (ys : List Value), AVsRep base S μ w as ys → AVsRep w.heap.size (viewS base S μ) (μv μ ks) w (as.map (viewAV bx)) ys := by
   intro as
   induction as with
   | nil => intro ys h; cases ys with
    | nil => trivial
    | cons _ _ => exact h.elim
   | cons a as ih => intro ys h; cases ys with
    | nil => exact h.elim
    | cons y ys => exact ⟨viewAV_rep hm hb h.1, ih ys h.2⟩
  cases as <;> exact this _ _ h
 | v :: vs, [], [], _, _, _ => .inl (by cases v <;> trivial)
 | v :: vs, [], _ :: _, h, _, _ => h.elim
 | v :: vs, a :: as, [], h, _, _ => h.elim
 | v :: vs, a :: as, y :: ys, h, hs, hn => by
  cases v with
  | wr k T ls =>
   by_cases hp : ∃ s, a = .p (.box s 0)
   ·obtain ⟨s, rfl⟩ := hp
    have hs' : ∀ x ∈ inKeys vs as, x ∈ ks := fun x hx => hs x (List.mem_cons_of_mem _ hx)
    have hk : s ∈ ks := hs s List.mem_cons_self
    rcases viewArgs_rep hm hb h.2 hs' hn with ih | ih
    ·refine .inl ⟨?_, ih⟩
     obtain ⟨g, hg, e⟩ := h.1
     exact ⟨g, by simp only [μv, hasKey_mem.2 hk, cond_true]; exact hg, e⟩
    ·refine .inr fun bx' => ?_
     simp only [viewArgs, argsIn, ih]
     split <;> rfl
   ·refine .inr fun bx' => ?_
    have : argIn bx' (.wr k T ls) a = none := by
     cases hh : argIn bx' (.wr k T ls) a with
     | none => rfl
     | some cs => obtain ⟨s, e, _⟩ := argIn_wr hh; exact absurd ⟨s, e⟩ hp
    simp only [viewArgs, argsIn, this]
  | c l =>
   have hs' : ∀ x ∈ inKeys vs as, x ∈ ks := fun x hx => hs x (by simpa [inKeys] using hx)
   rcases viewArgs_rep hm hb h.2 hs' hn with ih | ih
   ·exact .inl ⟨viewAV_rep hm hb h.1, ih⟩
   ·refine .inr fun bx' => ?_
    simp only [viewArgs, argsIn, ih]
    split <;> rfl
  | agg l =>
   have hs' : ∀ x ∈ inKeys vs as, x ∈ ks := fun x hx => hs x (by simpa [inKeys] using hx)
   rcases viewArgs_rep hm hb h.2 hs' hn with ih | ih
   ·exact .inl ⟨viewAV_rep hm hb h.1, ih⟩
   ·refine .inr fun bx' => ?_
    simp only [viewArgs, argsIn, ih]
    split <;> rfl
  | clo f l =>
   have hs' : ∀ x ∈ inKeys vs as, x ∈ ks := fun x hx => hs x (by simpa [inKeys] using hx)
   rcases viewArgs_rep hm hb h.2 hs' hn with ih | ih
   ·exact .inl ⟨viewAV_rep hm hb h.1, ih⟩
   ·refine .inr fun bx' => ?_
    simp only [viewArgs, argsIn, ih]
    split <;> rfl
  | ref l =>
   have hs' : ∀ x ∈ inKeys vs as, x ∈ ks := fun x hx => hs x (by simpa [inKeys] using hx)
   rcases viewArgs_rep hm hb h.2 hs' hn with ih | ih
   ·exact .inl ⟨viewAV_rep hm hb h.1, ih⟩
   ·refine .inr fun bx' => ?_
    simp only [viewArgs, argsIn, ih]
    split <;> rfl

theorem bxGet_map (f : Cell Γ → Cell Γ) : ∀ (bx : Bx Γ) (s : Nat), bxGet (bx.map fun x => (x.1, x.2.1, x.2.2.map f)) s = (bxGet bx s).map fun x => (x.1, x.2.map f)
 | [], _ => rfl
 | (i, a) :: r, s => by
  simp only [List.map_cons, bxGet]
  cases Nat.beq i s with
  | true => rfl
  | false => exact bxGet_map f r s

theorem bxGet_filter (p : Nat → Bool) : ∀ (bx : Bx Γ) (s : Nat), bxGet (bx.filter fun x => !p x.1) s = bif p s then none else bxGet bx s
 | [], s => by cases p s <;> rfl
 | (i, a) :: r, s => by
  have ih := bxGet_filter p r s
  cases hp : p i with
  | true =>
   rw [List.filter_cons_of_neg (by simp [hp]), ih]
   simp only [bxGet]
   cases hi : Nat.beq i s with
   | true =>
    obtain rfl := Nat.eq_of_beq_eq_true hi
    simp [hp]
   | false => rfl
  | false =>
   rw [List.filter_cons_of_pos (by simp [hp])]
   simp only [bxGet]
   cases hi : Nat.beq i s with
   | true =>
    obtain rfl := Nat.eq_of_beq_eq_true hi
    simp [hp]
   | false => simpa using ih

theorem bxGet_viewBx (ks : List Nat) (bx : Bx Γ) (s : Nat) : bxGet (viewBx ks bx) s = bif hasKey ks s then (bxGet bx s).map (fun x => (x.1, x.2.map (roCell fun _ _ => true))) else none := by
 have := bxGet_filter (fun s => !hasKey ks s) bx s
 simp only [Bool.not_not] at this
 simp only [viewBx, bxGet_map, this]
 cases hasKey ks s <;> rfl

theorem bxGet_restBx (ks : List Nat) (bx : Bx Γ) (s : Nat) : bxGet (restBx ks bx) s = bif hasKey ks s then none else bxGet bx s := bxGet_filter (hasKey ks) bx s

theorem inKeys_cons {v : VC} {vs : List VC} {a : AV Γ} {as as' : List (AV Γ)} (h : inKeys vs as' = inKeys vs as) : inKeys (v :: vs) (a :: as') = inKeys (v :: vs) (a :: as) := by
 cases v with
 | wr k T ls =>
  cases a with
  | p q =>
   cases q with
   | box s o => cases o <;> simp [inKeys, h]
   | _ => simp [inKeys, h]
  | _ => simp [inKeys, h]
 | _ => simp [inKeys, h]

theorem inKeys_view (bx : Bx Γ) : ∀ (vs : List VC) (as : List (AV Γ)), inKeys vs (viewArgs bx vs as) = inKeys vs as
 | [], as => by cases as <;> rfl
 | v :: vs, [] => by cases v <;> rfl
 | v :: vs, a :: as => by
  have ih := inKeys_view bx vs as
  cases v with
  | wr k T ls => exact inKeys_cons ih
  | _ => simpa [viewArgs, inKeys] using ih

def InTs (bx : Bx Γ) : List (Nat × Nat × List LC) → List Nat → Prop
 | (_, T, _) :: r, s :: ks => (∀ T' cs, bxGet bx s = some (T', cs) → T' = T) ∧ InTs bx r ks
 | [], [] => True
 | _, _ => False

theorem inTs_of {ks : List Nat} {bx bx1 : Bx Γ} : ∀ {vs : List VC} {as : List (AV Γ)} {cs : List (Cell Γ)}, argsIn (viewBx ks bx) vs (viewArgs bx1 vs as) = some cs → InTs bx (mutsOf vs) (inKeys vs as)
 | [], as, _, h => by cases as <;> first | trivial | simp [viewArgs, argsIn] at h
 | v :: vs, [], _, h => by cases v <;> simp [viewArgs, argsIn] at h
 | v :: vs, a :: as, cs, h => by
  have hne : ∀ a', viewArgs bx1 (v :: vs) (a :: as) = a' :: viewArgs bx1 vs as → (∃ c, argIn (viewBx ks bx) v a' = some c) ∧ InTs bx (mutsOf vs) (inKeys vs as) := fun a' e => by
   rw [e] at h
   simp only [argsIn] at h
   split at h
   ·rename_i c1 h1
    split at h
    ·rename_i c2 h2; exact ⟨⟨c1, h1⟩, inTs_of h2⟩
    ·cases h
   ·cases h
  cases v with
  | wr k T ls =>
   obtain ⟨⟨c, h1⟩, h2⟩ := hne a rfl
   obtain ⟨s, rfl, h3, _⟩ := argIn_wr h1
   refine ⟨fun T' cs' e => ?_, h2⟩
   rw [bxGet_viewBx] at h3
   cases hk : hasKey ks s with
   | false => rw [hk] at h3; cases h3
   | true =>
    rw [hk, e] at h3
    cases h3
    rfl
  | c l => exact (hne _ rfl).2
  | agg l => exact (hne _ rfl).2
  | clo f l => exact (hne _ rfl).2
  | ref l => exact (hne _ rfl).2

theorem outs_any {μ : Mp} {w : World} (s : Nat) : ∀ {ms : List (Nat × Nat × List LC)} {ks : List Nat} {cs cs' : List (Cell Γ)}, OutBack base S μ w ms ks cs → ((outsOf ms ks cs').any fun x => x.1.beq s) = hasKey ks s
 | [], [], _, _, _ => rfl
 | (k, T, ls) :: ms, s' :: ks, cs, cs', h => by
  have ih := outs_any s (cs' := cs'.drop ls.length) h.2
  simp only [outsOf, List.any_cons, hasKey] at ih ⊢
  rw [ih]
  congr 1
  cases h1 : s'.beq s with
  | true => rw [Nat.eq_of_beq_eq_true h1, Nat.beq_refl]
  | false =>
   cases h2 : s.beq s' with
   | true => rw [Nat.eq_of_beq_eq_true h2, Nat.beq_refl] at h1; cases h1
   | false => rfl
 | [], _ :: _, _, _, h => h.elim
 | _ :: _, [], _, _, h => h.elim

theorem outs_box {μ : Mp} {w : World} {bx : Bx Γ} : ∀ {ms : List (Nat × Nat × List LC)} {ks : List Nat} {cs : List (Cell Γ)}, OutBack base S μ w ms ks cs → InTs bx ms ks → ∀ x ∈ outsOf ms ks cs, ∀ T old, bxGet bx x.1 = some (T, old) → BoxRep base S μ w x.1 T x.2
 | [], [], _, _, _, x, hx, _, _, _ => by cases hx
 | (k, T, ls) :: ms, s' :: ks, cs, h, ht, x, hx, T', old, hb => by
  simp only [outsOf] at hx
  rcases List.mem_cons.1 hx with rfl | hx
  ·obtain rfl := ht.1 T' old hb
   exact h.1
  ·exact outs_box h.2 ht.2 x hx T' old hb
 | [], _ :: _, _, h, _, _, _, _, _, _ => h.elim
 | _ :: _, [], _, h, _, _, _, _, _, _ => h.elim

theorem callEff_p {rc : RC} {vs : List VC} {ks : List Nat} {cs : List (Cell Γ)} {d : Nat} : pE (some d) (callEff rc vs ks cs) = pF d ((rc.ls ++ outLs vs).any LC.isRow) := by
 unfold callEff
 split
 ·rename_i h
  have : rc.ls ++ outLs vs = rc.ls := by simp [outLs, h]
  rw [this]
  cases rc.ls.any LC.isRow <;> rfl
 ·rfl
theorem callEff_q {rc : RC} {vs : List VC} {ks : List Nat} {cs : List (Cell Γ)} {d : Option Nat} : qE d (callEff rc vs ks cs) = no1 := by
 unfold callEff
 split
 ·cases rc.ls.any LC.isRow <;> rfl
 ·rfl
theorem callEff_i {rc : RC} {vs : List VC} {ks : List Nat} {cs cs' : List (Cell Γ)} {d : Option Nat} {μ : Mp} {w : World} (h : OutBack base S μ w (mutsOf vs) ks cs') : iE d (callEff rc vs ks cs) = hasKey ks := by
 funext s
 unfold callEff
 split
 ·rename_i hm
  rw [hm] at h
  cases ks with
  | nil => cases rc.ls.any LC.isRow <;> rfl
  | cons _ _ => exact h.elim
 ·exact outs_any s h

theorem sem_call {R : Type} {o : Oper} {tm : Tm Γ} {bx : Bx Γ} {c : Call} {E : List (Ent Γ)} (hE : ∀ e ∈ E, EntOK P e) (h : o.op = .call c) {f : Operand} (hc : c.callee = .value f) {g d : Nat} {caps : List (Pt Γ)} (hf : ev tm f = .clo g caps) (hd : o.dst = some d)
  {K : AV Γ → Eff Γ → Option R} {r : R} (hk : entRun d bx ((c.args.toList.map fun x => ev tm x) ++ caps.map fun q => .p q) g K E = some r) : ∃ v eff, K v eff = some r ∧ OpSem P o tm bx v eff := by
 obtain ⟨e, he, rfl, cs, x, y, hnd, h1, h2, h3, h4⟩ := entRun_inv hk
 refine ⟨_, _, h4, ?_⟩
 obtain ⟨hres, ⟨fn, hfn, hname, hbody⟩, hcalls⟩ := hE e he
 have hts := inTs_of h1
 generalize hargs_ : ((c.args.toList.map fun x => ev tm x) ++ caps.map fun q => (.p q : AV Γ)) = args at *
 generalize hks_ : inKeys e.args args = ks at *
 intro base S w0 a w μ hp next Q hn
 have hpf := hp.ops f (by rw [h]; simp [Op.operands, Call.operands, hc])
 rw [hf] at hpf
 obtain ⟨vs, ef, hvs⟩ := hpf
 have hargs0 : AVsRep base S μ w args ((c.args.map a.eval).toList ++ vs) := by
  rw [← hargs_]
  refine AVsRep.append ?_ ?_
  ·have : ∀ l : List Operand, (∀ x ∈ l, AVRep base S μ w (ev tm x) (a.eval x)) → AVsRep base S μ w (l.map fun x => ev tm x) (l.map a.eval) := by
    intro l
    induction l with
    | nil => intro _; trivial
    | cons x l ih => intro hh; exact ⟨hh x (by simp), ih fun y hy => hh y (by simp [hy])⟩
   rw [Array.toList_map]
   exact this _ fun x hx => hp.ops x (by rw [h]; simp [Op.operands, Call.operands, hc]; exact .inr (by simpa using hx))
  ·have : ∀ (qs : List (Pt Γ)) (vs : List Value), PtsRep base S μ w qs vs → AVsRep base S μ w (qs.map fun q => (.p q : AV Γ)) vs := by
    intro qs
    induction qs with
    | nil => intro vs hh; cases vs with
     | nil => trivial
     | cons _ _ => exact hh.elim
    | cons q qs ih => intro vs hh; cases vs with
     | nil => exact hh.elim
     | cons v vs => exact ⟨hh.1, ih vs hh.2⟩
   exact this caps vs hvs
 have hrest : ∀ s T cs, bxGet (restBx ks bx) s = some (T, cs) → hasKey ks s = false ∧ BoxRep base S μ w s T cs := fun s T cs e => by
  rw [bxGet_restBx] at e
  cases hk : hasKey ks s with
  | true => rw [hk] at e; cases e
  | false => rw [hk] at e; exact ⟨rfl, hp.bx s T cs e⟩
 have hargs : AVsRep w.heap.size (viewS base S μ) (μv μ ks) w (viewArgs (restBx ks bx) e.args args) ((c.args.map a.eval).toList ++ vs) := by
  rcases viewArgs_rep hp.maps.ρinj hrest hargs0 (vs := e.args) (fun s hs => by rw [← hks_]; exact hs) rfl with hv | hv
  ·exact hv
  ·rw [hv] at h1; cases h1
 have hbx : ∀ s T cs, bxGet (viewBx ks bx) s = some (T, cs) → BoxRep w.heap.size (viewS base S μ) (μv μ ks) w s T cs := fun s T cs e => by
  rw [bxGet_viewBx] at e
  cases hk : hasKey ks s with
  | false => rw [hk] at e; cases e
  | true =>
   rw [hk] at e
   obtain ⟨x, hx, ee⟩ := Option.map_eq_some_iff.1 e
   obtain ⟨T', cs'⟩ := x
   cases ee
   obtain ⟨g, cur, b1, b2, b3⟩ := hp.bx s _ cs' hx
   exact ⟨g, cur, by simp only [μv, hk, cond_true]; exact b1, b2, b3.view⟩
 have hin : InOK w (μv μ ks) ks := ⟨hnd, fun s s' g e e' => hp.maps.ρinj s s' g (μv_ρ e).2 (μv_ρ e').2, fun s g e => hp.maps.ρnew s g (μv_ρ e).2, fun s g e => (μv_ρ e).1, fun _ _ => rfl⟩
 have hcall := hcalls (viewS base S μ) w (μv μ ks) (viewBx ks bx) _ _ cs x y (by rw [inKeys_view, hks_]; exact hin) hbx h1 h2 h3 hargs
 rw [inKeys_view, hks_] at hcall
 have hexec : (execOp a.eval o).run P w = .ok (.enter e.f ((c.args.map a.eval).toList ++ vs).toArray) w := by
  have harr : (c.args.map a.eval) ++ vs.toArray = ((c.args.map a.eval).toList ++ vs).toArray := by simp
  simp only [execOp, h, resolve, hc, ef, Deferred.ofValue, Sem.run_bind, Sem.run_pure, Result.andThen_ok, invoke, callFunc, run_program, hfn, hname, hbody, Bool.false_eq_true, if_false, Array.empty_append, harr]
 unfold Oper.wp
 rw [hexec, Oper.upon_enter]
 refine hcall.mono fun en w' hh => ?_
 obtain ⟨v, rfl, hB, hr⟩ := hh
 obtain ⟨μ', g1, g2, g3, g4, g5, g6⟩ := res_back hres hp.maps hp.le hB hr d
 have hbel : Bel base w0 w' := ⟨hB.os.trans hp.below.os, hB.tape.trans hp.below.tape, hB.output.trans hp.below.output, Nat.le_trans hp.below.size hB.size, fun k hk hs => by
  refine (hB.block k (Nat.lt_of_lt_of_le hk hp.le) fun s es => ?_).trans (hp.below.block k hk hs)
  rcases hp.own s k (μv_ρ es).2 with ⟨_, e⟩ | e
  ·omega
  ·exact hs s e⟩
 refine hn v w' μ' ⟨g1, hbel, fun s g e => .inl (by rw [← g5]; exact e), ?_, g3, fun s hs => .inl (by rw [g5]; exact hs), fun d' j hn' => (g6 d' j hn').imp id fun e => by rw [hd, e], fun T cs' ee => ?_, fun s off cs' ee => ?_, fun fr l ee => ?_, fun _ _ _ _ _ ee => ?_⟩
 ·rw [hd, callEff_p, callEff_q, callEff_i g4]; exact g2
 ·unfold callEff at ee
  split at ee
  ·cases hh : e.res.ls.any LC.isRow <;> simp [hh] at ee
  ·cases ee
 ·unfold callEff at ee
  split at ee
  ·cases hh : e.res.ls.any LC.isRow <;> simp [hh] at ee
  ·cases ee
 ·unfold callEff at ee
  split at ee
  ·cases hh : e.res.ls.any LC.isRow <;> simp [hh] at ee
  ·cases ee
   exact outs_box g4 hts
 ·unfold callEff at ee
  split at ee
  ·cases hh : e.res.ls.any LC.isRow <;> simp [hh] at ee
  ·cases ee

end

section
variable {Γ : Ctx} {P : Program}

theorem sem_append (C : CtxOK P Γ) {o : Oper} {tm : Tm Γ} {bx : Bx Γ} {c : Call} (h : o.op = .call c) (hc : c.callee = .builtin .append) {x y : Operand} {t d e bytes : Nat} (ha : c.args.toList = [x, y]) (hT : c.argTypes.toList = [t, t]) (hd : o.dst = some d)
  (ht : Γ.td t = .sl e bytes) {xs ys : List (Γ.kd e).α} {ow ow' : Own} {tk : Option (Nat × Nat)} (hx : coerce t (ev tm x) = .f (.c (.row e xs ow))) (hy : coerce t (ev tm y) = .f (.c (.row e ys ow'))) (ho : tokO ow = some tk)
  (hb : (xs.length + ys.length) * bytes ≤ 140737488355328) : OpSem P o tm bx (.f (.c (.row e (xs ++ ys) (.tok d 0)))) (.app tk) := by
 have ea : c.args = #[x, y] := by simpa using congrArg List.toArray ha
 have et : c.argTypes = #[t, t] := by simpa using congrArg List.toArray hT
 obtain ⟨ii, ie, z, hu, hi1, _, _, hie, hiz, hsz, hby, hzs, hb0, _⟩ := td_sl C ht
 intro base S w0 a w μ hp next Q hn
 have h1 := coerce_rep (t := t) (hp.ops x (by rw [h]; simp [Op.operands, Call.operands, hc, ea]))
 have h2 := coerce_rep (t := t) (hp.ops y (by rw [h]; simp [Op.operands, Call.operands, hc, ea]))
 rw [hx] at h1
 rw [hy] at h2
 obtain ⟨v, w', nv, hr, H, hv⟩ := app_run (Γ := Γ) (P := P) (Γ.kd e).K hu hie hiz hsz hby hzs hb0 hp.maps hp.le ho h1 h2 hb d o.type
 have hexec : (execOp a.eval o).run P w = .ok (.value v) w' := by
  simp only [execOp, h, resolve, hc, ea, et, invoke, builtin, Sem.run_bind, Sem.run_pure, Result.andThen_ok, List.map_toArray, List.map_cons, List.map_nil, hr]
 unfold Oper.wp
 rw [hexec]
 refine hn v w' (mvTok μ d tk nv) ⟨H.maps hp.maps, hp.below.trans H.below, fun s g h => .inl h, ?_, hv, fun s hs => .inl hs, fun d' j' hn' => ?_, fun _ _ e => (by cases e), fun _ _ _ e => (by cases e), fun _ _ e => (by cases e), fun _ _ _ _ _ e => (by cases e)⟩
 ·rw [hd]
  exact H.ext
 ·cases he : (mvTok μ d tk nv).τ d' j' with
  | none => exact .inl rfl
  | some v =>
   rcases mv_cases (Γ := Γ) he with ⟨e1, _, _⟩ | ⟨_, e1⟩
   ·exact .inr (by rw [hd, e1])
   ·rw [hn'] at e1; cases e1

theorem appendAV_inv {R : Type} {d e0 bytes : Nat} (hb0 : 0 < bytes) {x y : AV Γ} {K : AV Γ → Eff Γ → Option R} {r : R} (h : appendAV d e0 bytes x y K = some r) :
  ∃ (xs ys : List (Γ.kd e0).α) (ow ow' : Own) (tk : Option (Nat × Nat)), x = .f (.c (.row e0 xs ow)) ∧ y = .f (.c (.row e0 ys ow')) ∧ tokO ow = some tk ∧ (xs.length + ys.length) * bytes ≤ 140737488355328 ∧ K (.f (.c (.row e0 (xs ++ ys) (.tok d 0)))) (.app tk) = some r := by
 unfold appendAV at h
 split at h
 ·rename_i e xs ow e' ys ow'
  cases he : e.beq e0 with
  | false => simp [he] at h
  | true =>
   obtain rfl := Nat.eq_of_beq_eq_true he
   simp only [he, Bool.not_true, cond_false] at h
   split at h
   ·rename_i hee
    subst hee
    split at h
    ·rename_i tk htk
     split at h
     ·rename_i b
      split at h
      ·rename_i hlt
       refine ⟨xs, [b], ow, ow', tk, rfl, rfl, htk, ?_, h⟩
       have := Nat.mul_le_of_le_div _ _ _ (show xs.length + 1 ≤ 140737488355328 / bytes from hlt)
       simpa using this
      ·cases h
     ·split at h
      ·rename_i hle
       exact ⟨xs, ys, ow, ow', tk, rfl, rfl, htk, Nat.mul_le_of_le_div _ _ _ hle, h⟩
      ·cases h
    ·cases h
   ·cases h
 ·cases h

theorem callAV_sound {R : Type} (C : CtxOK P Γ) {E : List (Ent Γ)} (hE : ∀ e ∈ E, EntOK P e) {o : Oper} {tm : Tm Γ} {bx : Bx Γ} {c : Call} (hop : o.op = .call c) {K : AV Γ → Eff Γ → Option R} {r : R} (h : callAV E tm bx o c K = some r) :
  ∃ v eff, K v eff = some r ∧ (effOK bx eff = true → OpSem P o tm bx v eff) := by
 unfold callAV at h
 split at h
 ·rename_i f hc
  split at h
  ·rename_i g caps hf
   split at h
   ·rename_i d hd
    obtain ⟨v, eff, h1, h2⟩ := sem_call hE hop hc hf hd h
    exact ⟨v, eff, h1, fun _ => h2⟩
   ·cases h
  ·cases h
 ·rename_i hc
  split at h
  ·rename_i x t ha hT
   obtain ⟨v, h1, h2⟩ := sem_len C hop hc ha hT h
   exact ⟨v, .none, h1, fun _ => h2⟩
  ·cases h
 ·rename_i hc
  split at h
  ·rename_i x y ha
   obtain ⟨v, h1, h2⟩ := sem_mm (mx := true) hop hc ha h
   exact ⟨v, .none, h1, fun _ => h2⟩
  ·cases h
 ·rename_i hc
  split at h
  ·rename_i x y ha
   obtain ⟨v, h1, h2⟩ := sem_mm (mx := false) hop hc ha h
   exact ⟨v, .none, h1, fun _ => h2⟩
  ·cases h
 ·rename_i hc
  split at h
  ·rename_i x y t t' d ha hT hd
   cases htt : t.beq t' with
   | false => simp [htt] at h
   | true =>
    obtain rfl := Nat.eq_of_beq_eq_true htt
    simp only [htt, cond_true] at h
    split at h
    ·rename_i e bytes htd
     obtain ⟨_, _, _, _, _, _, _, _, _, _, _, _, hb0, _⟩ := td_sl C htd
     obtain ⟨xs, ys, ow, ow', tk, e1, e2, e3, e4, e5⟩ := appendAV_inv hb0 h
     exact ⟨_, _, e5, fun _ => sem_append C hop hc ha hT hd htd e1 e2 e3 e4⟩
    ·cases h
  ·cases h
 ·cases h

theorem evalOp_sound {R : Type} (C : CtxOK P Γ) {E : List (Ent Γ)} (hE : ∀ e ∈ E, EntOK P e) {o : Oper} {tm : Tm Γ} {bx : Bx Γ} {K : AV Γ → Eff Γ → Option R} {r : R} (h : evalOp E tm bx o K = some r) :
  ∃ v eff, K v eff = some r ∧ (effOK bx eff = true → OpSem P o tm bx v eff) := by
 have h0 := h
 unfold evalOp at h
 split at h
 ·rename_i x hop; exact ⟨_, _, h, fun _ => sem_move (.inl hop)⟩
 ·rename_i x hop; exact ⟨_, _, h, fun _ => sem_move (.inr hop)⟩
 ·rename_i c x y hop
  obtain ⟨b, hb, hh⟩ := onBool_inv h
  refine ⟨if b = true then ev tm x else ev tm y, .none, ?_, fun _ => sem_pick hop hb⟩
  cases b <;> simpa using hh
 ·rename_i t hop
  split at h
  ·rename_i cs d hz hd; exact ⟨_, _, h, fun _ => sem_alloc C hop hd hz⟩
  ·cases h
 ·rename_i t x hop
  split at h
  ·rename_i fv d hx hd
   cases hok : fv.ok with
   | false => simp [hok] at h
   | true => simp only [hok, cond_true] at h; exact ⟨_, _, h, fun _ => sem_box hop hd hx hok⟩
  ·cases h
 ·rename_i t parts hop
  split at h
  ·rename_i sz zs fs htd
   split at h
   ·rename_i cs hf; exact ⟨_, _, h, fun _ => sem_build_st C hop htd hf⟩
   ·cases h
  ·rename_i n e esz zs htd
   split at h
   ·rename_i cs hf; exact ⟨_, _, h, fun _ => sem_build_ar C hop htd hf⟩
   ·cases h
  ·cases h
 ·rename_i t len parts hop
  split at h
  ·rename_i e b htd
   split at h
   ·rename_i cs hf
    split at h
    ·rename_i vs hv
     split at h
     ·rename_i xs hd
      cases hle : (len * (Γ.kd e).K.sz).ble 16777216 with
      | false => simp [hle] at h
      | true => simp only [hle, cond_true] at h; exact ⟨_, _, h, fun _ => sem_buildSlice C hop htd hf hv hd (Nat.le_of_ble_eq_true hle)⟩
     ·cases h
    ·cases h
   ·cases h
  ·cases h
 ·rename_i t x hop
  obtain ⟨v, h1, h2⟩ := sem_load C hop h0
  exact ⟨v, _, h1, fun _ => h2⟩
 ·rename_i t x y hop
  split at h
  ·rename_i s off fv hx hy
   cases hb : ((Γ.td t).known.and ((fvCells fv).all Cell.one)).and ((fvCells fv).length.beq (Γ.td t).size) with
   | false => simp [hb] at h
   | true =>
    simp only [hb, cond_true] at h
    simp only [Bool.and_eq_true] at hb
    exact ⟨_, _, h, fun heff => sem_store C hop hx hy hb.1.1 hb.1.2 (Nat.eq_of_beq_eq_true hb.2) heff⟩
  ·rename_i e xs d j i off fv hx hy
   cases hb : ((Γ.td t).known.and ((fvCells fv).all Cell.one)).and (((fvCells fv).length.beq (Γ.td t).size).and ((off + (fvCells fv).length).ble (Γ.kd e).K.sz)) with
   | false => simp [hb] at h
   | true =>
    simp only [hb, cond_true] at h
    simp only [Bool.and_eq_true] at hb
    split at h
    ·rename_i us hus
     split at h
     ·rename_i v hv
      exact ⟨_, _, h, fun _ => sem_put C hop hx hy hb.1.1 hb.1.2 (Nat.eq_of_beq_eq_true hb.2.1) (Nat.le_of_ble_eq_true hb.2.2) hus hv⟩
     ·cases h
    ·cases h
  ·cases h
 ·rename_i x hop
  split at h
  ·cases h
  ·rename_i q hun hx; exact ⟨_, _, h, fun _ => by have := sem_nilCheck (P := P) (bx := bx) hop (.inl ⟨q, hx⟩) (by rw [hx]; intro e; cases e; exact hun rfl); rwa [hx] at this⟩
  ·rename_i f caps hx; exact ⟨_, _, h, fun _ => by have := sem_nilCheck (P := P) (bx := bx) hop (.inr ⟨f, caps, hx⟩) (by rw [hx]; simp); rwa [hx] at this⟩
  ·cases h
 ·rename_i op t x y t' hop
  obtain ⟨v, h1, h2⟩ := sem_binOp C hop h
  exact ⟨v, _, h1, fun _ => h2⟩
 ·rename_i op t x hop
  obtain ⟨v, h1, h2⟩ := sem_unOp hop h
  exact ⟨v, _, h1, fun _ => h2⟩
 ·rename_i src dst x hop
  split at h
  ·rename_i e xs ow htd hx
   obtain ⟨v, h1, h2⟩ := sem_convert_str (P := P) (bx := bx) C hop htd hx (K := fun v => K v .none) h
   exact ⟨v, _, h1, fun _ => h2⟩
  ·rename_i k k' n htd hx
   split at h
   ·rename_i k'' hts
    exact ⟨_, _, h, fun _ => sem_convert_int C hop htd ⟨_, (td_int C hts).1⟩ hx⟩
   ·cases h
  ·cases h
 ·rename_i t x i hop
  split at h
  ·rename_i sz zs fs cs htd hx
   split at h
   ·rename_i f hf
    obtain ⟨v, h1, h2⟩ := sem_field C hop htd hx hf h
    exact ⟨v, _, h1, fun _ => h2⟩
   ·cases h
  ·cases h
 ·rename_i t x i hop
  split at h
  ·rename_i sz zs fs htd
   split at h
   ·rename_i f s o' hf hx; exact ⟨_, _, h, fun _ => sem_fieldAddr C hop htd hx hf (by simp) ptq_box⟩
   ·rename_i f cs hf hx; exact ⟨_, _, h, fun _ => sem_fieldAddr C hop htd hx hf (by simp) ptq_ref⟩
   ·rename_i f s o' e xs i hf hx; exact ⟨_, _, h, fun _ => sem_fieldAddr C hop htd hx hf (by simp) ptq_ix⟩
   ·rename_i f e xs d j i o' hf hx; exact ⟨_, _, h, fun _ => sem_fieldAddr C hop htd hx hf (by simp) ptq_el⟩
   ·cases h
  ·cases h
 ·rename_i t x i hop
  split at h
  ·rename_i e' b e xs ow n htd hx hi
   cases hee : e.beq e' with
   | false => simp [hee] at h
   | true =>
    simp only [hee, cond_true] at h
    by_cases h1 : 0 ≤ n
    ·by_cases h2 : n < (xs.length : Int)
     ·rw [if_pos h1, if_pos h2] at h; exact ⟨_, _, h, fun _ => sem_indexAddr_sl C hop htd hee hx hi h1 h2⟩
     ·rw [if_pos h1, if_neg h2] at h; cases h
    ·rw [if_neg h1] at h; cases h
  ·rename_i e' b e xs d j n htd hx hi
   cases hee : e.beq e' with
   | false => simp [hee] at h
   | true =>
    simp only [hee, cond_true] at h
    by_cases h1 : 0 ≤ n
    ·by_cases h2 : n < (xs.length : Int)
     ·rw [if_pos h1, if_pos h2] at h; exact ⟨_, _, h, fun _ => sem_indexAddr_own C hop htd hee hx hi h1 h2⟩
     ·rw [if_pos h1, if_neg h2] at h; cases h
    ·rw [if_neg h1] at h; cases h
  ·rename_i len e esz zs s off n htd hx hi
   split at h
   ·rename_i T cs hb
    cases hT : (Γ.td T).isArr with
    | false => simp [hT] at h
    | true =>
     simp only [hT, cond_true] at h
     split at h
     ·rename_i vs hv
      split at h
      ·rename_i xs hd
       by_cases h1 : 0 ≤ n
       ·by_cases h2 : n < (len : Int)
        ·rw [if_pos h1, if_pos h2] at h; exact ⟨_, _, h, fun _ => sem_indexAddr_ar C hop htd hx hi hb hT hv hd h1 h2⟩
        ·rw [if_pos h1, if_neg h2] at h; cases h
       ·rw [if_neg h1] at h; cases h
      ·cases h
     ·cases h
   ·cases h
  ·cases h
 ·rename_i t x i hop
  split at h
  ·rename_i s n htd hx hi
   by_cases h1 : 0 ≤ n
   ·by_cases h2 : n < (s.size : Int)
    ·rw [if_pos h1, if_pos h2] at h; exact ⟨_, _, h, fun _ => sem_index_str C hop htd hx hi h1 h2⟩
    ·rw [if_pos h1, if_neg h2] at h; cases h
   ·rw [if_neg h1] at h; cases h
  ·rename_i len e esz zs cs n htd hx hi
   split at h
   ·rename_i vs hv
    split at h
    ·rename_i xs hd
     by_cases h1 : 0 ≤ n
     ·by_cases h2 : n < (len : Int)
      ·rw [if_pos h1, if_pos h2] at h
       obtain ⟨v, e1, e2⟩ := sem_index_ar C hop htd hx hi hv hd h1 h2 h
       exact ⟨v, _, e1, fun _ => e2⟩
      ·rw [if_pos h1, if_neg h2] at h; cases h
     ·rw [if_neg h1] at h; cases h
    ·cases h
   ·cases h
  ·cases h
 ·rename_i t x lo hi mx hop
  split at h
  ·obtain ⟨v, h1, h2⟩ := sem_cut C hop h
   exact ⟨v, _, h1, fun _ => h2⟩
  ·cases h
 ·rename_i x i hop
  split at h
  ·rename_i l hx
   split at h
   ·rename_i v hv; exact ⟨_, _, h, fun _ => sem_extract hop hx hv⟩
   ·cases h
  ·cases h
 ·rename_i t l c hop
  split at h
  ·rename_i e bytes d n htd hd hlc hi
   by_cases h1 : 0 ≤ n
   ·by_cases h2 : n.toNat ≤ 281474976710656 / bytes
    ·rw [if_pos h1, if_pos h2] at h; exact ⟨_, _, h, fun _ => sem_makeSlice C hop htd hd hlc hi h1 h2⟩
    ·rw [if_pos h1, if_neg h2] at h; cases h
   ·rw [if_neg h1] at h; cases h
  ·cases h
 ·rename_i f first captured hop
  split at h
  ·rename_i qs hf hq; exact ⟨_, _, h, fun _ => sem_makeFunc hop hf hq⟩
  ·cases h
 ·rename_i c hop; exact callAV_sound C hE hop h
 ·cases h

end

end Go.Refl
