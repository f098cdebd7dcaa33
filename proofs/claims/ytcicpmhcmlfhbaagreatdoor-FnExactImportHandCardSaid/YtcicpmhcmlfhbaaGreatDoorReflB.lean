/- A pure interpreter of the code, and that the machine does what it tells (a text of this session). -/
import Derived.Test.YtcicpmhcmlfhbaaGreatDoorReflA
set_option autoImplicit false
set_option linter.unusedVariables false
set_option linter.unusedSimpArgs false
namespace Go.Refl
open Go.RowKit

section
variable {Γ : Ctx} {P : Program} {base : Nat} {S : Nat → Nat → Prop} {w0 : W0}

theorem cutB_inv {R : Type} {n : Int} {lo hi : Option (Option Int)} {K : Int → Int → Option R} {r : R} (hn : 0 ≤ n) (h : cutB n lo hi K = some r) :
  ∃ l m, K l m = some r ∧ 0 ≤ l ∧ l ≤ m ∧ m ≤ n ∧ ((lo = none ∧ l = 0) ∨ lo = some (some l)) ∧ ((hi = none ∧ m = n) ∨ hi = some (some m)) := by
 unfold cutB at h
 split at h
 ·exact ⟨0, n, h, by omega, by omega, by omega, .inl ⟨rfl, rfl⟩, .inl ⟨rfl, rfl⟩⟩
 ·rename_i l
  by_cases h0 : 0 ≤ l
  ·by_cases h1 : l ≤ n
   ·rw [if_pos h0, if_pos h1] at h; exact ⟨l, n, h, h0, h1, by omega, .inr rfl, .inl ⟨rfl, rfl⟩⟩
   ·rw [if_pos h0, if_neg h1] at h; cases h
  ·rw [if_neg h0] at h; cases h
 ·rename_i m
  by_cases h0 : 0 ≤ m
  ·by_cases h1 : m ≤ n
   ·rw [if_pos h0, if_pos h1] at h; exact ⟨0, m, h, by omega, h0, h1, .inl ⟨rfl, rfl⟩, .inr rfl⟩
   ·rw [if_pos h0, if_neg h1] at h; cases h
  ·rw [if_neg h0] at h; cases h
 ·rename_i l m
  by_cases h0 : 0 ≤ l
  ·by_cases h1 : l ≤ m
   ·by_cases h2 : m ≤ n
    ·rw [if_pos h0, if_pos h1, if_pos h2] at h; exact ⟨l, m, h, h0, h1, h2, .inr rfl, .inr rfl⟩
    ·rw [if_pos h0, if_pos h1, if_neg h2] at h; cases h
   ·rw [if_pos h0, if_neg h1] at h; cases h
  ·rw [if_neg h0] at h; cases h
 ·cases h

theorem run_bounds {w : World} {b : Bool} {len cap : Nat} {lo hi : Option Value} {l m : Int} (h0 : 0 ≤ l) (h1 : l ≤ m) (h2 : m ≤ len) (h3 : len ≤ cap)
  (hl : (lo = none ∧ l = 0) ∨ ∃ k, lo = some (.int k l)) (hm : (hi = none ∧ m = len) ∨ ∃ k, hi = some (.int k m)) :
  (Instr.sliceBounds b len cap lo hi none).run P w = .ok (l.toNat, m.toNat, cap) w := by
 have e : (m.toNat : Int) = m := Int.toNat_of_nonneg (by omega)
 rcases hl with ⟨rfl, rfl⟩ | ⟨k, rfl⟩ <;> rcases hm with ⟨rfl, rfl⟩ | ⟨k', rfl⟩
 ·simp [Instr.sliceBounds]
 ·have : m ≤ (cap : Int) := by omega
  simp [Instr.sliceBounds, run_sliceBound, this, show 0 ≤ m by omega]
 ·simp [Instr.sliceBounds, run_sliceBound, h0, show l ≤ (len : Int) by omega]
 ·have : m ≤ (cap : Int) := by omega
  simp [Instr.sliceBounds, run_sliceBound, this, show 0 ≤ m by omega, e, h0, h1]

theorem opt_rep {o : Oper} {tm : Tm Γ} {bx : Bx Γ} {a : Act} {w : World} {μ : Mp} (hp : OpPre base S w0 o tm bx a w μ) {lo : Option Operand} (hm : ∀ x, lo = some x → x ∈ o.op.operands) {l d : Int}
  (h : ((lo.map (ev tm)).map intOfAV = none ∧ l = d) ∨ (lo.map (ev tm)).map intOfAV = some (some l)) : (lo.map a.eval = none ∧ l = d) ∨ ∃ k, lo.map a.eval = some (.int k l) := by
 cases lo with
 | none =>
  rcases h with ⟨_, h⟩ | h
  ·exact .inl ⟨rfl, h⟩
  ·cases h
 | some x =>
  rcases h with ⟨h, _⟩ | h
  ·cases h
  ·simp at h
   obtain ⟨k, e⟩ := intOfAV_rep h (hp.ops x (hm x rfl))
   exact .inr ⟨k, by simp [e]⟩

theorem drop_flat {α : Type} (K : RK α) : ∀ (xs : List α) (n : Nat), (xs.drop n).flatMap K.enc = (xs.flatMap K.enc).drop (n * K.sz)
 | xs, 0 => by simp
 | [], n + 1 => by simp
 | x :: xs, n + 1 => by
  simp only [List.drop_succ_cons, List.flatMap_cons]
  rw [drop_flat K xs n, Nat.succ_mul, Nat.add_comm, ← List.drop_drop]
  congr 1
  have := K.len x
  rw [← this, List.drop_left]

theorem take_flat {α : Type} (K : RK α) : ∀ (xs : List α) (n : Nat), (xs.take n).flatMap K.enc = (xs.flatMap K.enc).take (n * K.sz)
 | xs, 0 => by simp
 | [], n + 1 => by simp
 | x :: xs, n + 1 => by
  simp only [List.take_succ_cons, List.flatMap_cons]
  have := K.len x
  rw [take_flat K xs n, Nat.succ_mul, Nat.add_comm, List.take_append, ← this]
  rw [List.take_of_length_le (l := K.enc x) (by omega), Nat.add_sub_cancel_left]

theorem sem_cut {R : Type} (C : CtxOK P Γ) {o : Oper} {tm : Tm Γ} {bx : Bx Γ} {t : Nat} {x : Operand} {lo hi : Option Operand} (h : o.op = .slice t x lo hi none) {K : AV Γ → Option R} {r : R}
  (hk : cutAV (Γ.td t) (ev tm x) (lo.map (ev tm)) (hi.map (ev tm)) K = some r) : ∃ v, K v = some r ∧ OpSem P o tm bx v .none := by
 have hlo : ∀ y, lo = some y → y ∈ o.op.operands := fun y e => by rw [h, e]; simp [Op.operands]
 have hhi : ∀ y, hi = some y → y ∈ o.op.operands := fun y e => by rw [h, e]; simp [Op.operands]
 unfold cutAV at hk
 split at hk
 ·rename_i s htd hx
  obtain ⟨l, m, h1, h2, h3, h4, h5, h6⟩ := cutB_inv (by omega) hk
  refine ⟨_, h1, sem_val fun base S w0 a w μ hp => ⟨.string (s.extract l.toNat m.toNat), ?_, rfl⟩⟩
  have hy := hp.ops x (by rw [h]; simp [Op.operands])
  rw [hx] at hy; change a.eval x = _ at hy
  obtain ⟨hu, _⟩ := td_str C htd
  have hb := run_bounds (P := P) (w := w) (b := false) (len := s.size) (cap := s.size) h2 h3 h4 (Nat.le_refl _) (opt_rep hp hlo h5) (opt_rep hp hhi h6)
  simp only [execOp, h, hy, Option.map_none, Instr.sliceAt, Sem.run_bind, run_underlying hu, Result.andThen_ok, Instr.slice, Option.isSome_none, Bool.false_eq_true, if_false, hb, Sem.run_pure]
 ·rename_i e' b e xs ow htd hx
  cases hee : e.beq e' with
  | false => simp [hee] at hk
  | true =>
   obtain rfl := Nat.eq_of_beq_eq_true hee
   simp only [hee, cond_true] at hk
   obtain ⟨l, m, h1, h2, h3, h4, h5, h6⟩ := cutB_inv (by omega) hk
   have hcut : cutRow xs (lo.map (ev tm)).isSome (hi.map (ev tm)).isSome l m = (xs.take m.toNat).drop l.toNat := by
    have hx : xs.take (xs.length : Int).toNat = xs := by simp
    cases lo with
    | none =>
     obtain rfl : l = 0 := by
      rcases h5 with ⟨_, h⟩ | h
      ·exact h
      ·cases h
     cases hi with
     | none =>
      obtain rfl : m = (xs.length : Int) := by
       rcases h6 with ⟨_, h⟩ | h
       ·exact h
       ·cases h
      simp [cutRow]
     | some y => simp [cutRow]
    | some x =>
     cases hi with
     | none =>
      obtain rfl : m = (xs.length : Int) := by
       rcases h6 with ⟨_, h⟩ | h
       ·exact h
       ·cases h
      simp [cutRow]
     | some y => simp [cutRow]
   refine ⟨_, h1, sem_val fun base S w0 a w μ hp => ?_⟩
   rw [hcut]
   have hy := hp.ops x (by rw [h]; simp [Op.operands])
   rw [hx] at hy
   obtain ⟨A, c, ey, hl1, hl2, hrd, _⟩ := hy
   obtain ⟨ii, ie, z, hu, hi1, _, _, hie, _, hsz, _⟩ := td_sl C htd
   have hb := run_bounds (P := P) (w := w) (b := true) (len := xs.length) (cap := c) h2 h3 h4 hl1 (opt_rep hp hlo h5) (opt_rep hp hhi h6)
   refine ⟨.slice (if c = l.toNat then A else A.map (·.add (l.toNat * (Γ.kd e).K.sz))) (m.toNat - l.toNat) (c - l.toNat), ?_, ?_⟩
   ·simp only [execOp, h, ey, Option.map_none, Instr.sliceAt, Sem.run_bind, run_underlying hu, Result.andThen_ok, Instr.slice, hb, run_sizeOf hie, hsz, Sem.run_pure]
   ·have hlen : ((xs.take m.toNat).drop l.toNat).length = m.toNat - l.toNat := by rw [List.length_drop, List.length_take]; omega
    refine ⟨_, c - l.toNat, by rw [hlen], by rw [hlen]; omega, by omega, fun hn => ?_, trivial⟩
    rw [hlen] at hn
    obtain ⟨b', off, rfl, hc⟩ := hrd (by omega)
    rw [if_neg (by omega)]
    refine ⟨b', off + l.toNat * (Γ.kd e).K.sz, by simp [add_plain'], fun j v hj => ?_⟩
    rw [drop_flat, take_flat, List.getElem?_drop, List.getElem?_take] at hj
    split at hj
    ·have := hc _ v hj
     rwa [← Nat.add_assoc] at this
    ·cases hj
 ·cases hk

theorem sem_convert_int (C : CtxOK P Γ) {o : Oper} {tm : Tm Γ} {bx : Bx Γ} {src dst : Nat} {x : Operand} (h : o.op = .convert src dst x) {k k' : IntKind} {n : Int} (ht : Γ.td dst = .int k) (hs : ∃ d, P.underlying src = some d) (hx : ev tm x = .f (.c (.v (.int k' n)))) :
  OpSem P o tm bx (.f (.c (.v (.int k (wrapK k n))))) .none := by
 obtain ⟨hu, _⟩ := td_int C ht
 obtain ⟨d, hs⟩ := hs
 refine sem_val fun base S w0 a w μ hp => ⟨.int k (k.wrap n), ?_, by rw [wrapK_eq]; rfl⟩
 have hy := hp.ops x (by rw [h]; simp [Op.operands])
 rw [hx] at hy; change a.eval x = _ at hy
 simp [execOp, h, hy, convert, run_underlying hu, run_underlying hs, Conv.intToInt, Result.andThen]

theorem row_bytes {e : Nat} (h : e = Γ.bk) (xs : List (Γ.kd e).α) : xs.flatMap (Γ.kd e).K.enc = (cast (bk_ty h) xs : List Int).map (fun n => Value.int .u8 n) := by
 subst h
 have key : ∀ (D : KD) (hD : D = ⟨Int, rkInt .u8⟩) (xs : List D.α) (q : List D.α = List Int), xs.flatMap D.K.enc = (cast q xs : List Int).map (fun n => Value.int .u8 n) := by
  intro D hD xs q
  subst hD
  show xs.flatMap (fun x => [Value.int .u8 x]) = xs.map _
  induction xs with
  | nil => rfl
  | cons x xs ih => exact congrArg (List.cons (Value.int .u8 x)) ih
 exact key _ Γ.bok xs _

theorem row_bytes_len {e : Nat} (h : e = Γ.bk) (xs : List (Γ.kd e).α) : (cast (bk_ty h) xs : List Int).length = xs.length := by
 subst h
 have key : ∀ (D : KD) (hD : D = ⟨Int, rkInt .u8⟩) (xs : List D.α) (q : List D.α = List Int), (cast q xs : List Int).length = xs.length := by
  intro D hD xs q
  subst hD
  rfl
 exact key _ Γ.bok xs _

theorem sem_convert_str {R : Type} (C : CtxOK P Γ) {o : Oper} {tm : Tm Γ} {bx : Bx Γ} {src dst e : Nat} {x : Operand} {xs : List (Γ.kd e).α} {ow : Own} (h : o.op = .convert src dst x) (hd : Γ.td dst = .str) (hx : ev tm x = .f (.c (.row e xs ow))) {K : AV Γ → Option R} {r : R} (hk : strAV (Γ.td src) e xs K = some r) :
  ∃ v, K v = some r ∧ OpSem P o tm bx v .none := by
 unfold strAV at hk
 split at hk
 ·rename_i e' b hs he
  cases hee : e.beq e' with
  | false => simp [hee] at hk
  | true =>
   simp only [hee, cond_true] at hk
   obtain rfl := Nat.eq_of_beq_eq_true hee
   split at hk
   ·rename_i hb
    refine ⟨_, hk, sem_val fun base S w0 a w μ hp => ⟨_, ?_, rfl⟩⟩
    have hy := hp.ops x (by rw [h]; simp [Op.operands])
    rw [hx] at hy
    obtain ⟨A, c, ey, h1, h2, h3, _⟩ := hy
    obtain ⟨ii, ie, z, hu, _⟩ := td_sl C hs
    obtain ⟨hue, _⟩ := td_int C he
    obtain ⟨hud, _⟩ := td_str C hd
    have hl := row_bytes_len hb xs
    have hrun : (convert src dst (a.eval x)).run P w = .ok (.string (strOfNums (cast (bk_ty hb) xs))) w := by
     rw [ey]
     cases hxs : (cast (bk_ty hb) xs : List Int) with
     | nil =>
      rw [hxs] at hl
      have hn : xs.length = 0 := hl.symm
      rw [hn]
      cases A with
      | none => rw [run_convert_bytes_nil w src e hu hue _ _ dst hud]; rfl
      | some ad =>
       rw [run_convert_bytes_string w src dst e _ _ _ hu hue hud, run_bytesToString w ad 0 c [] (by simpa using run_loadCells_list (P := P) w ad [] (fun j v hj => by simp at hj))]
       rfl
     | cons n ns =>
      have hpos : 0 < xs.length := by rw [← hl, hxs]; simp
      obtain ⟨bb, off, rfl, hc⟩ := h3 hpos
      rw [← hxs]
      refine run_convert_bytes_arg w src e hu hue bb off xs.length c _ hl (fun i hi => ?_) dst hud
      refine (hc i _ ?_).1
      rw [row_bytes hb xs, List.getElem?_map]
      have : i < (cast (bk_ty hb) xs : List Int).length := by rw [hl]; exact hi
      simp [List.getD_eq_getElem?_getD, this]
    simp only [execOp, h, hrun, Sem.run_bind, Sem.run_pure, Result.andThen_ok]
   ·cases hk
 ·cases hk

theorem sem_extract {o : Oper} {tm : Tm Γ} {bx : Bx Γ} {x : Operand} {i : Nat} (h : o.op = .extract x i) {l : List (FV Γ)} {v : FV Γ} (hx : ev tm x = .tup l) (hv : nthA l i = some v) : OpSem P o tm bx (.f v) .none := by
 refine sem_val fun base S w0 a w μ hp => ?_
 have hy := hp.ops x (by rw [h]; simp [Op.operands])
 rw [hx] at hy
 obtain ⟨vs, e, hr⟩ := hy
 have key : ∀ (l : List (FV Γ)) (vs : List Value) (i : Nat), FVsRep base S μ w l vs → nthA l i = some v → ∃ y, vs[i]? = some y ∧ FVRep base S μ w v y := by
  intro l
  induction l with
  | nil => intro vs i _ h; simp [nthA] at h
  | cons c l ih =>
   intro vs i hr hv
   cases vs with
   | nil => exact hr.elim
   | cons u vs =>
    cases i with
    | zero => cases hv; exact ⟨u, rfl, hr.1⟩
    | succ i => exact ih vs i hr.2 (by simpa [nthA] using hv)
 obtain ⟨y, e1, e2⟩ := key l vs i hr hv
 refine ⟨y, ?_, e2⟩
 have : vs.toArray[i]? = some y := by simpa using e1
 simp only [execOp, h, e, Instr.extract, this, Sem.run_bind, Sem.run_pure, Result.andThen_ok]

theorem allPts_rep {tm : Tm Γ} {a : Act} {w : World} {μ : Mp} : ∀ {xs : List Operand} {qs : List (Pt Γ)}, (∀ x ∈ xs, AVRep base S μ w (ev tm x) (a.eval x)) → allPts (xs.map (ev tm)) = some qs → PtsRep base S μ w qs (xs.map a.eval)
 | [], qs, _, h => by simp [allPts] at h; subst h; trivial
 | x :: xs, qs, hp, h => by
  simp only [List.map_cons] at h
  unfold allPts at h
  split at h
  ·rename_i heq; cases heq
  ·rename_i q r heq
   injection heq with h1 h2
   split at h
   ·rename_i qs' hq
    injection h with h
    subst h
    subst h2
    have hx := hp x (by simp)
    rw [h1] at hx
    exact ⟨hx, allPts_rep (fun y hy => hp y (by simp [hy])) hq⟩
   ·cases h
  ·cases h

theorem sem_makeFunc {o : Oper} {tm : Tm Γ} {bx : Bx Γ} {f : Nat} {first captured : Array Operand} (h : o.op = .makeFunc (.func f) first captured) {qs : List (Pt Γ)} (hf : first.toList = []) (hq : allPts (captured.toList.map (ev tm)) = some qs) :
  OpSem P o tm bx (.clo f qs) .none := by
 have hf' : first = #[] := by simpa using congrArg List.toArray hf
 subst hf'
 refine sem_val fun base S w0 a w μ hp => ⟨.func (.func f) #[] (captured.map a.eval), ?_, (captured.map a.eval).toList, by rw [Array.toArray_toList], ?_⟩
 ·simp [execOp, h, Instr.makeFunc]
 ·have := allPts_rep (fun x hx => hp.ops x (by rw [h]; simp [Op.operands]; exact Array.mem_def.2 hx)) hq
  simpa using this

theorem sem_nilCheck {o : Oper} {tm : Tm Γ} {bx : Bx Γ} {x : Operand} (h : o.op = .nilCheck x) (hx : (∃ q, ev tm x = .p q) ∨ ∃ f qs, ev tm x = .clo f qs) (hun : ev tm x ≠ .p .un) : OpSem P o tm bx (ev tm x) .none := by
 refine sem_val fun base S w0 a w μ hp => ?_
 have hy := hp.ops x (by rw [h]; simp [Op.operands])
 refine ⟨a.eval x, ?_, hy⟩
 rcases hx with ⟨q, hx⟩ | ⟨f, qs, hx⟩
 ·rw [hx] at hy
  have : ∃ ad, a.eval x = .pointer (some ad) := by
   cases q with
   | box s o => obtain ⟨g, _, e⟩ := hy; exact ⟨_, e⟩
   | ref cs => obtain ⟨b, off, e, _⟩ := hy; exact ⟨_, e⟩
   | ix s o e xs n => obtain ⟨b, off, _, _, _, _, _, e, _⟩ := hy; exact ⟨_, e⟩
   | el e xs d j i o => obtain ⟨_, _, _, _, _, _, _, e⟩ := hy; exact ⟨_, e⟩
   | un => exact absurd hx hun
  obtain ⟨ad, e⟩ := this
  simp [execOp, h, e]
 ·rw [hx] at hy
  obtain ⟨vs, e, _⟩ := hy
  simp [execOp, h, e]


theorem overV_nil : ∀ (vs : List Value) (o : Nat), overV vs o [] = vs
 | [], o => by cases o <;> rfl
 | _ :: _, 0 => rfl
 | v :: vs, o + 1 => by simp [overV, overV_nil vs o]

theorem overV_cons : ∀ (vs : List Value) (o : Nat) (n : Value) (ns : List Value), overV vs o (n :: ns) = overV (vs.set o n) (o + 1) ns
 | [], o, n, ns => by cases o <;> cases ns <;> rfl
 | v :: vs, 0, n, ns => by
  simp only [overV, List.set_cons_zero]
 | v :: vs, o + 1, n, ns => by
  have := overV_cons vs o n ns
  simp only [List.set_cons_succ]
  cases ns <;> simp only [overV] at this ⊢ <;> rw [this]

theorem fold_over (off : Nat) : ∀ (l : List Value) (k : Nat) (cur : Array Value), ((l.zipIdx k).foldl (fun cs (x : Value × Nat) => cs.setIfInBounds (off + x.2) x.1) cur).toList = overV cur.toList (off + k) l
 | [], k, cur => by simp [overV_nil]
 | v :: l, k, cur => by
  simp only [List.zipIdx_cons, List.foldl_cons]
  rw [fold_over off l (k + 1), overV_cons]
  simp [Nat.add_assoc]

theorem fill_rep {place : Nat → Option (Nat × Nat)} {at_ : Nat → Option (Nat × Nat)} (hat : ∀ i off sz, at_ i = some (off, sz) → place i = some (off, sz)) {μ : Mp} {w : World} :
  ∀ (ps : List (Nat × AV Γ)) (us : List (Nat × Value)) (cs cs' : List (Cell Γ)) (cur : Array Value), ps.map (·.1) = us.map (·.1) → (∀ (j : Nat) (p : Nat × AV Γ) (u : Nat × Value), ps[j]? = some p → us[j]? = some u → AVRep base S μ w p.2 u.2) →
   CellsRep base S μ w cs cur.toList → fillCells at_ cs ps = some cs' → ∃ cur', Instr.fill place cur us = some cur' ∧ CellsRep base S μ w cs' cur'.toList
 | [], [], cs, cs', cur, _, _, hc, h => by simp [fillCells] at h; subst h; exact ⟨cur, rfl, hc⟩
 | [], _ :: _, _, _, _, h, _, _, _ => by simp at h
 | _ :: _, [], _, _, _, h, _, _, _ => by simp at h
 | (i, av) :: ps, (i', u) :: us, cs, cs', cur, hm, hr, hc, h => by
  simp only [List.map_cons, List.cons.injEq] at hm
  obtain ⟨rfl, hm⟩ := hm
  have h0 := hr 0 _ _ rfl rfl
  have hr' : ∀ (j : Nat) (p : Nat × AV Γ) (u : Nat × Value), ps[j]? = some p → us[j]? = some u → AVRep base S μ w p.2 u.2 := fun j p u e1 e2 => hr (j + 1) p u (by simpa using e1) (by simpa using e2)
  cases av with
  | f x =>
   unfold fillCells at h
   split at h
   ·rename_i off sz hp
    cases hb : ((x.ok.and ((fvCells x).length.beq sz)).and ((off + sz).ble cs.length)) with
    | false => simp [hb] at h
    | true =>
     simp only [hb, cond_true] at h
     simp only [Bool.and_eq_true] at hb
     obtain ⟨⟨hok, hsz⟩, hle⟩ := hb
     have hsz' := Nat.eq_of_beq_eq_true hsz
     have hle' := Nat.le_of_ble_eq_true hle
     have hcu := FVRep.cells h0 hok
     have hlu := hcu.length
     have hlc := hc.length
     have e1 : u.cells.size = sz := by rw [← hsz', hlu]; simp
     have hnext := hc.over off hcu
     have hfold := fold_over off u.cells.toList 0 cur
     simp only [Nat.add_zero] at hfold
     have hfa : (u.cells.zipIdx.foldl (fun cs (x : Value × Nat) => cs.setIfInBounds (off + x.2) x.1) cur) = (u.cells.toList.zipIdx.foldl (fun cs (x : Value × Nat) => cs.setIfInBounds (off + x.2) x.1) cur) := by
      rw [← Array.foldl_toList]
      congr 1
      simp
     rw [← hfold, ← hfa] at hnext
     obtain ⟨cur', e2, e3⟩ := fill_rep hat ps us _ cs' _ hm hr' hnext h
     refine ⟨cur', ?_, e3⟩
     rw [Instr.fill, hat _ _ _ hp]
     have hcs : cs.length = cur.size := by simpa using hlc
     have : ¬ ((decide (u.cells.size ≠ sz) || decide (off + u.cells.size > cur.size)) = true) := by
      simp [e1]; omega
     simp only [this, if_false, Bool.false_eq_true]
     exact e2
   ·cases h
  | _ => simp [fillCells] at h

theorem parts_rep {o : Oper} {tm : Tm Γ} {bx : Bx Γ} {a : Act} {w : World} {μ : Mp} (hp : OpPre base S w0 o tm bx a w μ) {parts : Array (Nat × Operand)} (hm : ∀ p ∈ parts, p.2 ∈ o.op.operands) :
  (parts.toList.map fun p => (p.1, ev tm p.2)).map (·.1) = ((parts.map fun (i, x) => (i, a.eval x)).toList).map (·.1) ∧
  ∀ (j : Nat) (p : Nat × AV Γ) (u : Nat × Value), (parts.toList.map fun p => (p.1, ev tm p.2))[j]? = some p → ((parts.map fun (i, x) => (i, a.eval x)).toList)[j]? = some u → AVRep base S μ w p.2 u.2 := by
 refine ⟨by simp, fun j p u h1 h2 => ?_⟩
 rw [List.getElem?_map] at h1
 obtain ⟨x, hx, rfl⟩ := Option.map_eq_some_iff.1 h1
 simp only [Array.toList_map, List.getElem?_map, hx, Option.map_some, Option.some.injEq] at h2
 subst h2
 exact hp.ops _ (hm x (by simpa using List.mem_of_getElem? hx))

theorem zc_rep {μ : Mp} {w : World} : ∀ (zs : List Zc), CellsRep (Γ := Γ) base S μ w (zs.map zCell) (zs.map zcVal)
 | [] => trivial
 | .v x :: zs => ⟨rfl, zc_rep zs⟩
 | .row e :: zs => ⟨⟨none, 0, rfl, Nat.le_refl _, Nat.zero_le _, fun hn => by simp at hn, rfl, rfl, rfl⟩, zc_rep zs⟩

theorem run_places {fields : Array Field} {fs : List Fd} (h : FdsOK P fs fields.toList) (w : World) :
  (fields.mapM fun f => do pure (f.offset, ← sizeOf f.type) : Sem (Array (Nat × Nat))).run P w = .ok (fs.map fun f => (f.off, f.sz)).toArray w := by
 have key : ∀ (fs : List Fd) (gs : List Field), FdsOK P fs gs → (gs.mapM fun f => do pure (f.offset, ← sizeOf f.type) : Sem (List (Nat × Nat))).run P w = .ok (fs.map fun f => (f.off, f.sz)) w := by
  intro fs
  induction fs with
  | nil => intro gs h; cases gs with
   | nil => rfl
   | cons _ _ => exact h.elim
  | cons f fs ih => intro gs h; cases gs with
   | nil => exact h.elim
   | cons g gs =>
    obtain ⟨⟨h1, h2, h3, _⟩, hr⟩ := h
    obtain ⟨i, hi, hs⟩ := info_size h3
    simp only [List.mapM_cons, Sem.run_bind, run_sizeOf hi, Result.andThen_ok, Sem.run_pure, ih gs hr, List.map_cons, h1, hs]
 rw [Array.mapM_eq_mapM_toList]
 simp only [Sem.run_map, key fs fields.toList h, Result.andThen_ok]

theorem sem_build_st (C : CtxOK P Γ) {o : Oper} {tm : Tm Γ} {bx : Bx Γ} {t sz : Nat} {zs : List Zc} {fs : List Fd} {parts : Array (Nat × Operand)} (h : o.op = .build t parts) (ht : Γ.td t = .st sz zs fs) {cs : List (Cell Γ)}
  (hf : fillCells (fun i => (nth fs i).map fun f => (f.off, f.sz)) (zs.map zCell) (parts.toList.map fun p => (p.1, ev tm p.2)) = some cs) : OpSem P o tm bx (.f (.agg cs)) .none := by
 obtain ⟨fields, inf, hu, hi, hsz, hz, _, hfs, _⟩ := td_st C ht
 refine sem_val fun base S w0 a w μ hp => ?_
 obtain ⟨e1, e2⟩ := parts_rep hp (parts := parts) (fun p hm => by rw [h]; simp [Op.operands]; exact ⟨p.1, by simpa using hm⟩)
 have hat : ∀ i off sz, ((nth fs i).map fun f => (f.off, f.sz)) = some (off, sz) → ((fs.map fun f => (f.off, f.sz)).toArray[i]?) = some (off, sz) := by
  intro i off sz hi
  have : ∀ (fs : List Fd) (i : Nat), nth fs i = fs[i]? := by
   intro fs
   induction fs with
   | nil => intro i; simp [nth]
   | cons f fs ih => intro i; cases i <;> simp [nth, ih]
  rw [this] at hi
  simpa using hi
 obtain ⟨cur', e3, e4⟩ := fill_rep (base := base) (S := S) (μ := μ) (w := w) hat _ _ (zs.map zCell) cs (zs.map zcVal).toArray e1 e2 (by simpa using zc_rep zs) hf
 refine ⟨.agg cur', ?_, cur'.toList, by simp, e4⟩
 simp only [execOp, h, Instr.build, Sem.run_bind, zeroValue, typeInfo, run_program, Result.andThen_ok, hi, hz, Sem.run_pure, run_underlying hu, run_places hfs, Value.cells, e3]

theorem sem_build_ar (C : CtxOK P Γ) {o : Oper} {tm : Tm Γ} {bx : Bx Γ} {t n e esz : Nat} {zs : List Zc} {parts : Array (Nat × Operand)} (h : o.op = .build t parts) (ht : Γ.td t = .ar n e esz zs) {cs : List (Cell Γ)}
  (hf : fillCells (fun i => some (i * esz, esz)) (zs.map zCell) (parts.toList.map fun p => (p.1, ev tm p.2)) = some cs) : OpSem P o tm bx (.f (.agg cs)) .none := by
 obtain ⟨inf, ie, hu, hi, hsz, hz, _, hie, hes, _⟩ := td_ar C ht
 refine sem_val fun base S w0 a w μ hp => ?_
 obtain ⟨e1, e2⟩ := parts_rep hp (parts := parts) (fun p hm => by rw [h]; simp [Op.operands]; exact ⟨p.1, by simpa using hm⟩)
 obtain ⟨cur', e3, e4⟩ := fill_rep (base := base) (S := S) (μ := μ) (w := w) (place := fun i => some (i * esz, esz)) (fun _ _ _ h => h) _ _ (zs.map zCell) cs (zs.map zcVal).toArray e1 e2 (by simpa using zc_rep zs) hf
 refine ⟨.agg cur', ?_, cur'.toList, by simp, e4⟩
 simp only [execOp, h, Instr.build, Sem.run_bind, zeroValue, typeInfo, run_program, Result.andThen_ok, hi, hz, Sem.run_pure, run_underlying hu, run_sizeOf hie, hes, Value.cells, e3]

end

section
variable {Γ : Ctx} {P : Program} {base : Nat} {S : Nat → Nat → Prop} {w0 : W0}

theorem stable_new {μ : Mp} {w : World} (hm : MapsOK base μ w) (o : Nat) : Stable base μ w.heap.size o := by
 exact ⟨fun s hs => by have := (hm.ρnew s _ hs); omega, fun d j u ht => by have := (hm.τnew d j _ u ht).1; omega⟩

theorem row_new {α : Type} {K : RK α} {e : Nat} {xs : List α} {μ : Mp} {w w1 : World} {cur : Array Value} (hm : MapsOK base μ w) (hb : base ≤ w.heap.size) (hw : w1.heap.size = w.heap.size) (hc : xs.flatMap K.enc = cur.toList) (hl : xs.length ≤ maxLen) :
  RowRep base S μ (w1.alloc (.cells cur e)) K e xs .full (.slice (some ⟨w.heap.size, 0, none⟩) xs.length xs.length) := by
 refine ⟨_, _, rfl, Nat.le_refl _, hl, fun _ => ⟨w.heap.size, 0, rfl, fun j v hj => ⟨?_, stable_new hm _, fun h => by omega⟩⟩, rfl⟩
 rw [hc] at hj
 rw [← hw, Nat.zero_add, World.cell?_alloc_new]
 simpa using hj

theorem repU {μ : Mp} {w : World} : ∀ (vs : List Value), CellsRep (Γ := Γ) base S μ w (List.replicate vs.length .u) vs
 | [] => trivial
 | _ :: vs => ⟨trivial, repU vs⟩

theorem sem_buildSlice (C : CtxOK P Γ) {o : Oper} {tm : Tm Γ} {bx : Bx Γ} {t e b len : Nat} {parts : Array (Nat × Operand)} (h : o.op = .buildSlice t len parts) (ht : Γ.td t = .sl e b) {cs : List (Cell Γ)} {vs : List Value} {xs : List (Γ.kd e).α}
  (hf : fillCells (fun i => some (i * (Γ.kd e).K.sz, (Γ.kd e).K.sz)) (List.replicate (len * (Γ.kd e).K.sz) .u) (parts.toList.map fun p => (p.1, ev tm p.2)) = some cs)
  (hv : cellVals cs = some vs) (hd : decRow (Γ.kd e).K len vs = some xs) (hle : len * (Γ.kd e).K.sz ≤ 16777216) : OpSem P o tm bx (.f (.c (.row e xs .full))) .none := by
 obtain ⟨ii, ie, z, hu, hi1, _, _, hie, hiz, hsz, _⟩ := td_sl C ht
 refine sem_grow fun base S w0 a w μ hp => ?_
 obtain ⟨e1, e2⟩ := parts_rep hp (parts := parts) (fun p hm => by rw [h]; simp [Op.operands]; exact ⟨p.1, by simpa using hm⟩)
 obtain ⟨hfl, hl⟩ := decRow_flat _ _ _ _ hd
 obtain ⟨zs, hz⟩ : ∃ zs : Array Value, zs = if len * (Γ.kd e).K.sz = 0 then #[] else z.cells := ⟨_, rfl⟩
 obtain ⟨cur', e3, e4⟩ := fill_rep (base := base) (S := S) (μ := μ) (w := w) (place := fun i => some (i * (Γ.kd e).K.sz, (Γ.kd e).K.sz)) (fun _ _ _ h => h) _ _ (List.replicate (len * (Γ.kd e).K.sz) .u) cs
  ((Array.range (len * (Γ.kd e).K.sz)).map (zs[· % zs.size]!)) e1 e2 (by
   have := repU (Γ := Γ) (base := base) (S := S) (μ := μ) (w := w) ((Array.range (len * (Γ.kd e).K.sz)).map (zs[· % zs.size]!)).toList
   simpa using this) hf
 have hvs := cellVals_eq hv e4
 have hpos := (Γ.kd e).K.pos
 have hlen : len ≤ len * (Γ.kd e).K.sz := Nat.le_mul_of_pos_right _ hpos
 refine ⟨.slice (some ⟨w.heap.size, 0, none⟩) len len, w.alloc (.cells cur' e), ?_, (Below.refl _ _).alloc (Nat.le_refl _) _, ?_⟩
 ·have : ¬ (16777216 < len * (Γ.kd e).K.sz) := by omega
  simp only [execOp, h, Instr.buildSlice, Sem.run_bind, run_underlying hu, Result.andThen_ok, run_sizeOf hie, hsz]
  simp only [show (2 : Nat) ^ 24 = 16777216 from rfl, gt_iff_lt, this, if_false, Sem.run_bind, Sem.run_pure, Result.andThen_ok]
  by_cases h0 : len * (Γ.kd e).K.sz = 0
  ·rw [if_pos h0] at hz
   subst hz
   simp only [h0, if_true, Sem.run_bind, Sem.run_pure, Result.andThen_ok] at e3 ⊢
   simp only [e3, newRow, Sem.run_bind, run_newObj, Sem.run_pure, Result.andThen_ok]
   rfl
  ·rw [if_neg h0] at hz
   subst hz
   simp only [h0, if_false, Sem.run_bind, Sem.run_pure, Result.andThen_ok, zeroValue, typeInfo, run_program, hie, hiz]
   simp only [e3, newRow, Sem.run_bind, run_newObj, Sem.run_pure, Result.andThen_ok]
   rfl
 ·have := row_new (S := S) (K := (Γ.kd e).K) (e := e) (xs := xs) (μ := μ) (w := w) (w1 := w) (cur := cur') hp.maps hp.le rfl (hfl.trans hvs.symm) (by simp only [maxLen]; omega)
  rw [hl] at this
  show RowRep base S μ (w.alloc (.cells cur' e)) (Γ.kd e).K e xs .full _
  exact this

theorem sem_box {o : Oper} {tm : Tm Γ} {bx : Bx Γ} {t d : Nat} {x : Operand} (h : o.op = .box t x) (hd : o.dst = some d) {fv : FV Γ} (hx : cloFn (coerce t (ev tm x)) = .f fv) (hok : fv.ok = true) : OpSem P o tm bx (.p (.box d 0)) (.new t (fvCells fv)) := by
 refine sem_new hd fun base S w0 a w μ hp => ⟨(a.eval x).cells, ?_, ?_⟩
 ·simp only [execOp, h, Instr.box, newVar, newRow, Sem.run_bind, run_newObj, Sem.run_pure, Result.andThen_ok]
  rfl
 ·have hy := cloFn_rep (coerce_rep (t := t) (hp.ops x (by rw [h]; simp [Op.operands])))
  rw [hx] at hy
  exact FVRep.cells hy hok

theorem zero_rep (C : CtxOK P Γ) {t : Nat} {cs : List (Cell Γ)} (h : zeroCells (Γ.td t) = some cs) : ∃ i z, P.info? t = some i ∧ i.zero = some z ∧ ∀ base S μ w, CellsRep base S μ w cs z.cells.toList := by
 have ht := C.td t
 cases hd : Γ.td t with
 | st sz zs fs =>
  rw [hd] at ht h; obtain ⟨fields, i, h1, h2, h3, h4, _⟩ := ht
  cases h
  exact ⟨i, _, h2, h4, fun base S μ w => by simpa [Value.cells] using zc_rep zs⟩
 | ar n e esz zs =>
  rw [hd] at ht h; obtain ⟨i, ie, h1, h2, h3, h4, _⟩ := ht
  cases h
  exact ⟨i, _, h2, h4, fun base S μ w => by simpa [Value.cells] using zc_rep zs⟩
 | sl e b =>
  rw [hd] at ht h; obtain ⟨i, ie, z, h1, h2, h3, h4, _⟩ := ht
  cases h
  exact ⟨i, _, h2, h4, fun base S μ w => ⟨⟨none, 0, rfl, Nat.le_refl _, Nat.zero_le _, fun hn => by simp at hn, rfl, rfl, rfl⟩, trivial⟩⟩
 | int k => rw [hd] at ht h; obtain ⟨h1, i, h2, h3, h4⟩ := ht; cases h; exact ⟨i, _, h2, h4, fun base S μ w => ⟨rfl, trivial⟩⟩
 | str => rw [hd] at ht h; obtain ⟨h1, i, h2, h3, h4⟩ := ht; cases h; exact ⟨i, _, h2, h4, fun base S μ w => ⟨rfl, trivial⟩⟩
 | bool => rw [hd] at ht h; obtain ⟨h1, i, h2, h3, h4⟩ := ht; cases h; exact ⟨i, _, h2, h4, fun base S μ w => ⟨rfl, trivial⟩⟩
 | fn => rw [hd] at h; cases h
 | ot => rw [hd] at h; cases h

theorem sem_alloc (C : CtxOK P Γ) {o : Oper} {tm : Tm Γ} {bx : Bx Γ} {t d : Nat} (h : o.op = .alloc t) (hd : o.dst = some d) {cs : List (Cell Γ)} (hz : zeroCells (Γ.td t) = some cs) : OpSem P o tm bx (.p (.box d 0)) (.new t cs) := by
 obtain ⟨i, z, h1, h2, h3⟩ := zero_rep C hz
 refine sem_new hd fun base S w0 a w μ hp => ⟨z.cells, ?_, h3 _ _ _ _⟩
 simp only [execOp, h, Instr.alloc, newVar, newRow, Sem.run_bind, run_newObj, Sem.run_pure, Result.andThen_ok, zeroValue, typeInfo, run_program, h1, h2]
 rfl

theorem overV_eq : ∀ (vs : List Value) (o : Nat) (ns : List Value), o + ns.length ≤ vs.length → overV vs o ns = vs.take o ++ ns ++ vs.drop (o + ns.length)
 | [], o, ns, h => by
  simp at h
  obtain ⟨rfl, rfl⟩ := h
  rfl
 | v :: vs, 0, [], _ => rfl
 | v :: vs, 0, n :: ns, h => by
  simp only [overV, overV_eq vs 0 ns (by simp at h ⊢; omega)]
  simp [Nat.add_comm]
 | v :: vs, o + 1, ns, h => by
  have := overV_eq vs o ns (by simp at h ⊢; omega)
  have e : o + 1 + ns.length = (o + ns.length) + 1 := by omega
  rw [e]
  cases ns <;> simp [overV, this]

theorem setRow_cell {w : World} {g b o : Nat} {cs : Array Value} (h : b ≠ g) : (w.setRow g cs).cell? ⟨b, o, none⟩ = w.cell? ⟨b, o, none⟩ := by
 simp only [World.cell?, setRow_other w g b cs h]

theorem sem_store (C : CtxOK P Γ) {o : Oper} {tm : Tm Γ} {bx : Bx Γ} {t s off : Nat} {x y : Operand} (h : o.op = .store t x y) {fv : FV Γ} (hx : ev tm x = .p (.box s off)) (hy : cloFn (coerce t (ev tm y)) = .f fv)
  (hk : (Γ.td t).known = true) (h1 : (fvCells fv).all Cell.one = true) (hsz : (fvCells fv).length = (Γ.td t).size) (heff : effOK bx (.set s off (fvCells fv)) = true) : OpSem P o tm bx .u (.set s off (fvCells fv)) := by
 obtain ⟨i, d, hi, his, hu, hd⟩ := known_size C hk
 intro base S w0 a w μ hp next Q hn
 have hpx := hp.ops x (by rw [h]; simp [Op.operands])
 rw [hx] at hpx
 obtain ⟨g, hg, ex⟩ := hpx
 have hpy := cloFn_rep (coerce_rep (t := t) (hp.ops y (by rw [h]; simp [Op.operands])))
 rw [hy] at hpy
 have hok : fv.ok = true := by
  cases fv with
  | agg cs => rfl
  | c x => simpa [fvCells, FV.ok] using h1
 have hcr := FVRep.cells hpy hok
 simp only [effOK] at heff
 cases hb : bxGet bx s with
 | none => rw [hb] at heff; cases heff
 | some Told =>
  obtain ⟨T, old⟩ := Told
  rw [hb] at heff
  have hle := Nat.le_of_ble_eq_true heff
  obtain ⟨g', cur, hg', hh, hold⟩ := hp.bx s T old hb
  obtain rfl : g = g' := by rw [hg] at hg'; injection hg'
  have hlo := hold.length
  have hlc := hcr.length
  have hrun := run_storeCells_at P g off T (a.eval y).cells.toList 0 cur w hh (by simp at hlo hlc ⊢; omega) (cells_one hcr h1)
  simp only [Nat.add_zero] at hrun
  rw [← overV_eq _ _ _ (by simp at hlo hlc ⊢; omega)] at hrun
  have hsize : ¬ ((a.eval y).cells.size ≠ i.size) := by simp at hlc ⊢; omega
  have hexec : (execOp a.eval o).run P w = .ok .skip (w.setRow g (overV cur.toList off (a.eval y).cells.toList).toArray) := by
   simp only [execOp, h, ex, Instr.storeAt, Instr.sureAddr, storeVar, Sem.run_bind, Sem.run_pure, Result.andThen_ok, run_sizeOf hi, hsize, if_false, Sem.run_ite, hrun]
  have hsz' : (w.setRow g (overV cur.toList off (a.eval y).cells.toList).toArray).heap.size = w.heap.size := by simp
  have hne : ∀ b oo, Stable base μ b oo → b ≠ g := by
   intro b oo hs e
   subst e
   exact hs.1 s hg
  have hext : Ext base no2 no1 (fun z => s.beq z) μ w μ (w.setRow g (overV cur.toList off (a.eval y).cells.toList).toArray) := by
   refine ⟨by rw [hsz']; exact Nat.le_refl _, fun b oo _ hs => setRow_cell (hne b oo hs), fun _ _ _ h => h, fun _ _ _ h => h, fun s' g' _ hi' hs' => ?_, fun _ _ _ _ h => h, fun dd j g' u _ ht => ?_⟩
   ·refine setRow_other w g g' _ fun e => ?_
    subst e
    have := hp.maps.ρinj s s' g' hg hs'
    subst this
    simp at hi'
   ·exact setRow_other w g g' _ fun e => (hp.maps.τnew dd j g' u ht).2 s (by rw [e]; exact hg)
  unfold Oper.wp
  rw [hexec]
  have e1 : (pE o.dst (.set s off (fvCells fv) : Eff Γ)) = no2 := rfl
  have e2 : (qE o.dst (.set s off (fvCells fv) : Eff Γ)) = no1 := rfl
  have e3 : (iE o.dst (.set s off (fvCells fv) : Eff Γ)) = fun z => s.beq z := rfl
  refine hn _ _ μ ⟨⟨hp.maps.ρinj, fun s g h => by rw [hsz']; exact hp.maps.ρnew s g h, fun d j g u h => by rw [hsz']; exact hp.maps.τnew d j g u h, hp.maps.τinj⟩, ?_, fun _ _ h => .inl h, hp.town, by rw [e1, e2, e3]; exact hext, trivial, fun s hs => .inl hs, fun _ _ h => .inl h, fun _ _ e => (by cases e), fun s' off' cs' e T' old' hb' => ?_, fun _ _ e => (by cases e), fun _ _ _ _ _ e => (by cases e), fun _ _ e => (by cases e)⟩
  ·refine ⟨hp.below.os, hp.below.tape, hp.below.output, by rw [hsz']; exact hp.below.size, fun k hk hs hh => ?_⟩
   rw [setRow_other w g k _ fun e => ?_]
   ·exact hp.below.block k hk hs hh
   ·subst e
    rcases hp.own s k hg with ⟨_, h⟩ | h | ⟨_, s', h⟩
    ·omega
    ·exact hs s h
    ·exact hs s' h
  ·cases e
   rw [hb] at hb'
   cases hb'
   refine ⟨g, _, hg, setRow_heap w g cur _ T _ hh, ?_⟩
   have := (hold.over off hcr).ext hext
   rw [roCells_no] at this
   simpa using this


theorem flat_len {α : Type} (K : RK α) : ∀ (xs : List α), (xs.flatMap K.enc).length = xs.length * K.sz
 | [] => by simp
 | x :: xs => by
  have := flat_len K xs
  simp only [List.flatMap_cons, List.length_append, K.len, this, List.length_cons, Nat.succ_mul]
  omega

theorem flat_rep {α : Type} (K : RK α) : ∀ (n : Nat) (zs : Array Value), zs.toList = K.enc K.d → ((Array.range (n * K.sz)).map (zs[· % zs.size]!)).toList = (List.replicate n K.d).flatMap K.enc
 | 0, zs, _ => by simp
 | n + 1, zs, h => by
  have ih := flat_rep K n zs h
  have hz : zs.size = K.sz := by rw [← Array.length_toList, h, K.len]
  have hpos := K.pos
  simp only [Array.toList_map, Array.toList_range] at ih ⊢
  rw [show (n + 1) * K.sz = n * K.sz + K.sz by rw [Nat.succ_mul], List.range_add, List.map_append, ih, List.replicate_succ', List.flatMap_append]
  congr 1
  simp only [List.flatMap_cons, List.flatMap_nil, List.append_nil, List.map_map]
  apply List.ext_getElem?
  intro k
  rw [List.getElem?_map]
  rcases Nat.lt_or_ge k K.sz with hk | hk
  ·rw [List.getElem?_range hk]
   simp only [Option.map_some, Function.comp]
   have e : (n * K.sz + k) % zs.size = k := by rw [hz, Nat.add_comm, Nat.add_mul_mod_self_right, Nat.mod_eq_of_lt hk]
   rw [e, ← h]
   have hk2 : k < zs.size := by rw [hz]; exact hk
   simp [hk2]
  ·rw [List.getElem?_eq_none (by simpa using hk), List.getElem?_eq_none (by rw [K.len]; exact hk)]
   rfl

theorem sem_makeSlice (C : CtxOK P Γ) {o : Oper} {tm : Tm Γ} {bx : Bx Γ} {t e bytes d : Nat} {l c : Operand} (h : o.op = .makeSlice t l c) (ht : Γ.td t = .sl e bytes) (hd : o.dst = some d) (hlc : sameOp l c = true) {n : Int} (hi : intOfAV (ev tm l) = some n)
  (h0 : 0 ≤ n) (h1 : n.toNat ≤ 281474976710656 / bytes) : OpSem P o tm bx (.f (.c (.own e (List.replicate n.toNat (Γ.kd e).K.d) d 0))) .fresh := by
 obtain ⟨ii, ie, z, hu, hi1, _, _, hie, hiz, hsz, hby, hzs, hb0, hzd⟩ := td_sl C ht
 have hle : bytes * n.toNat ≤ 281474976710656 := by rw [Nat.mul_comm]; exact Nat.mul_le_of_le_div _ _ _ h1
 have hn48 : n.toNat ≤ 281474976710656 := Nat.le_trans (Nat.le_mul_of_pos_left _ hb0) hle
 intro base S w0 a w μ hp next Q hn
 have hlc' : l = c := by
  unfold sameOp at hlc
  split at hlc
  ·rw [Nat.eq_of_beq_eq_true hlc]
  ·cases hlc
 subst hlc'
 obtain ⟨k, ei⟩ := intOfAV_rep hi (hp.ops l (by rw [h]; simp [Op.operands]))
 have hbn : (ie.bytes : Int) * n ≤ 281474976710656 := by
  rw [hby]
  have : ((bytes * n.toNat : Nat) : Int) ≤ 281474976710656 := by omega
  rw [Int.natCast_mul] at this
  rwa [Int.toNat_of_nonneg h0] at this
 have hrun := run_make (P := P) w t e ie z hu hie hiz k k n n h0 (Int.le_refl _) hbn (by omega)
 have hexec : (execOp a.eval o).run P w = .ok (.value (.slice (some ⟨w.heap.size, 0, none⟩) n.toNat n.toNat)) (w.alloc (.cells (madeCells z.cells (n.toNat * ie.size)) e)) := by
  simp only [execOp, h, ei, hrun, Sem.run_bind, Sem.run_pure, Result.andThen_ok]
 unfold Oper.wp
 rw [hexec]
 have hB : Below w.heap.size w (w.alloc (.cells (madeCells z.cells (n.toNat * ie.size)) e)) := (Below.refl _ _).alloc (Nat.le_refl _) _
 let μ' : Mp := ⟨μ.ρ, fun d' j => bif d.beq d' then (bif j.beq 0 then some (w.heap.size, 0) else none) else μ.τ d' j⟩
 have hcases : ∀ d' j v, μ'.τ d' j = some v → (d' = d ∧ j = 0 ∧ v = (w.heap.size, 0)) ∨ (d.beq d' = false ∧ μ.τ d' j = some v) := fun d' j v hv => by
  simp only [μ'] at hv
  cases hb : d.beq d' with
  | true =>
   rw [hb] at hv
   cases hj : j.beq 0 with
   | true => rw [hj] at hv; cases hv; exact .inl ⟨(Nat.eq_of_beq_eq_true hb).symm, Nat.eq_of_beq_eq_true hj, rfl⟩
   | false => rw [hj] at hv; cases hv
  | false => rw [hb] at hv; exact .inr ⟨rfl, hv⟩
 have hext : Ext base (pE o.dst (.fresh : Eff Γ)) (qE o.dst (.fresh : Eff Γ)) (iE o.dst (.fresh : Eff Γ)) μ w μ' (w.alloc (.cells (madeCells z.cells (n.toNat * ie.size)) e)) := by
  have hpe : ∀ d' j, pE o.dst (.fresh : Eff Γ) d' j = d.beq d' := fun d' j => by simp only [pE, isTok, hd]
  refine ⟨hB.size, fun b oo hb _ => hB.cell (p := ⟨b, oo, none⟩) hb, fun b oo hb hs => ⟨hs.1, fun d' j u hu => ?_⟩, fun s g _ hs => hs, fun s g _ _ hs => hB.block g (hp.maps.ρnew s g hs), fun d' j v hpp ht' => ?_, fun d' j g u _ ht' => hB.block g (hp.maps.τnew d' j g u ht').1⟩
  ·rcases hcases d' j _ hu with ⟨_, _, e⟩ | ⟨_, e⟩
   ·cases e; omega
   ·exact hs.2 d' j u e
  ·rw [hpe] at hpp
   simp only [μ', hpp, cond_false]
   exact ht'
 refine hn _ _ μ' ⟨⟨hp.maps.ρinj, fun s g hs => Nat.lt_of_lt_of_le (hp.maps.ρnew s g hs) hB.size, fun d' j g u hu => ?_, fun d' j d'' j' g u u' hu hu' => ?_⟩, hp.below.trans (hB.mono hp.le), fun s g hs => .inl hs, fun d' j g u hu => by
  rcases hcases d' j _ hu with ⟨_, _, ee⟩ | ⟨_, ee⟩
  ·cases ee; exact .inl hp.le
  ·exact hp.town d' j g u ee, hext, ?_, fun s hs => .inl hs, fun d' j hnn => ?_, fun _ _ ee => (by cases ee), fun _ _ _ ee => (by cases ee), fun _ _ ee => (by cases ee), fun _ _ _ _ _ ee => (by cases ee), fun _ _ ee => (by cases ee)⟩
 ·rcases hcases d' j _ hu with ⟨_, _, ee⟩ | ⟨_, ee⟩
  ·cases ee
   exact ⟨by simp, fun s hs => by have := hp.maps.ρnew s _ hs; omega⟩
  ·obtain ⟨q2, q3⟩ := hp.maps.τnew d' j g u ee
   exact ⟨Nat.lt_of_lt_of_le q2 hB.size, q3⟩
 ·rcases hcases d' j _ hu with ⟨e1, e2, ee⟩ | ⟨_, ee⟩ <;> rcases hcases d'' j' _ hu' with ⟨e1', e2', ee'⟩ | ⟨_, ee'⟩
  ·exact ⟨e1.trans e1'.symm, e2.trans e2'.symm⟩
  ·cases ee; have := (hp.maps.τnew _ _ _ _ ee').1; omega
  ·cases ee'; have := (hp.maps.τnew _ _ _ _ ee).1; omega
  ·exact hp.maps.τinj _ _ _ _ _ _ _ ee ee'
 ·refine .inr ⟨w.heap.size, madeCells z.cells (n.toNat * ie.size), by simp [μ'], heap_alloc_new w _, ⟨[], ?_⟩, by simp only [List.length_replicate, maxLen]; omega, n.toNat, by simp, by simp, by simp only [maxLen]; omega, ?_⟩
  rotate_left
  ·have hfl := congrArg List.length (flat_rep (Γ.kd e).K n.toNat z.cells hzd)
   rw [flat_len, List.length_replicate] at hfl
   rw [← hfl, ← hsz]; simp [madeCells]
  rw [hsz, List.append_nil]
  exact flat_rep (Γ.kd e).K n.toNat z.cells hzd
 ·simp only [μ']
  cases hb : d.beq d' with
  | true => exact .inr (by rw [hd, Nat.eq_of_beq_eq_true hb])
  | false => exact .inl hnn

theorem over_nil : ∀ (X : List Value) (o : Nat), overV X o [] = X
 | [], o => by cases o <;> rfl
 | x :: X, 0 => rfl
 | x :: X, o + 1 => by simp only [overV, over_nil X o]

theorem over_app : ∀ (B C us : List Value) (o : Nat), o + us.length ≤ B.length → overV (B ++ C) o us = overV B o us ++ C
 | [], C, us, o, h => by
  simp at h
  obtain ⟨rfl, rfl⟩ := h
  rw [over_nil, over_nil]
 | b :: B, C, [], o, _ => by rw [over_nil, over_nil]
 | b :: B, C, u :: us, 0, h => by
  simp only [List.cons_append, overV]
  rw [over_app B C us 0 (by simp at h ⊢; omega)]
 | b :: B, C, u :: us, o + 1, h => by
  simp only [List.cons_append, overV]
  rw [over_app B C (u :: us) o (by simp at h ⊢; omega)]

theorem over_skip : ∀ (A X us : List Value) (o : Nat), overV (A ++ X) (A.length + o) us = A ++ overV X o us
 | [], X, us, o => by simp
 | a :: A, X, us, o => by
  rw [show (a :: A).length + o = (A.length + o) + 1 by simp; omega]
  simp only [List.cons_append, overV]
  rw [over_skip A X us o]

theorem flat_over {α : Type} (K : RK α) (xs : List α) (i : Nat) (hi : i < xs.length) (o : Nat) (us : List Value) (ho : o + us.length ≤ K.sz) (x : α) (hx : K.enc x = overV (K.enc xs[i]) o us) :
  overV (xs.flatMap K.enc) (i * K.sz + o) us = (xs.set i x).flatMap K.enc := by
 have hsplit : xs.flatMap K.enc = (xs.take i).flatMap K.enc ++ (K.enc xs[i] ++ (xs.drop (i + 1)).flatMap K.enc) := by
  conv => lhs; rw [← List.take_append_drop i xs, List.drop_eq_getElem_cons hi]
  rw [List.flatMap_append, List.flatMap_cons]
 have hlt : ((xs.take i).flatMap K.enc).length = i * K.sz := by rw [flat_len, List.length_take, Nat.min_eq_left (by omega)]
 rw [List.set_eq_take_append_cons_drop, if_pos hi, List.flatMap_append, List.flatMap_cons, hx, hsplit, ← hlt, over_skip, over_app _ _ _ _ (by rw [K.len]; exact ho)]

theorem flat_inj {α : Type} (K : RK α) : ∀ (xs ys : List α) (i : Nat) (hi : i < xs.length) (hj : i < ys.length), xs.flatMap K.enc = ys.flatMap K.enc → K.enc xs[i] = K.enc ys[i]
 | x :: xs, y :: ys, 0, _, _, h => by
  simp only [List.flatMap_cons] at h
  exact (List.append_inj h (by rw [K.len, K.len])).1
 | x :: xs, y :: ys, i + 1, hi, hj, h => by
  simp only [List.flatMap_cons] at h
  exact flat_inj K xs ys i (by simpa using hi) (by simpa using hj) (List.append_inj h (by rw [K.len, K.len])).2

theorem flat_inj2 {α : Type} (K : RK α) : ∀ (xs ys : List α) (r s : List Value) (i : Nat) (hi : i < xs.length) (hj : i < ys.length), xs.flatMap K.enc ++ r = ys.flatMap K.enc ++ s → K.enc xs[i] = K.enc ys[i]
 | x :: xs, y :: ys, r, s, 0, _, _, h => by
  simp only [List.flatMap_cons, List.append_assoc] at h
  exact (List.append_inj h (by rw [K.len, K.len])).1
 | x :: xs, y :: ys, r, s, i + 1, hi, hj, h => by
  simp only [List.flatMap_cons, List.append_assoc] at h
  exact flat_inj2 K xs ys r s i (by simpa using hi) (by simpa using hj) (List.append_inj h (by rw [K.len, K.len])).2

theorem sem_put (C : CtxOK P Γ) {o : Oper} {tm : Tm Γ} {bx : Bx Γ} {t e d j off : Nat} {xs : List (Γ.kd e).α} {i : Int} {x y : Operand} (h : o.op = .store t x y) {fv : FV Γ} (hx : ev tm x = .p (.el e xs d j i off)) (hy : cloFn (coerce t (ev tm y)) = .f fv)
  (hk : (Γ.td t).known = true) (h1 : (fvCells fv).all Cell.one = true) (hsz : (fvCells fv).length = (Γ.td t).size) (hoff : off + (fvCells fv).length ≤ (Γ.kd e).K.sz) {us : List Value} (hus : cellVals (fvCells fv) = some us) {v : (Γ.kd e).α} (hv : (Γ.kd e).K.dec (overV ((Γ.kd e).K.enc (rdK (Γ.kd e).K xs i)) off us) = some v) :
  OpSem P o tm bx .u (.put d j e i v) := by
 obtain ⟨ii, dd, hi, his, hu, hdd⟩ := known_size C hk
 intro base S w0 a w μ hp next Q hn
 have hpx := hp.ops x (by rw [h]; simp [Op.operands])
 rw [hx] at hpx
 obtain ⟨g, cur, hg, hh, ⟨rest, hcur⟩, hi0, hi1, ex⟩ := hpx
 have hpy := cloFn_rep (coerce_rep (t := t) (hp.ops y (by rw [h]; simp [Op.operands])))
 rw [hy] at hpy
 have hok : fv.ok = true := by
  cases fv with
  | agg cs => rfl
  | c x => simpa [fvCells, FV.ok] using h1
 have hcr := FVRep.cells hpy hok
 have hvals := cellVals_eq hus hcr
 have hlen := hcr.length
 have hlu : us.length = (fvCells fv).length := by rw [← hvals]; exact hlen.symm
 have hnat : i.toNat < xs.length := by omega
 have hsize := flat_len (Γ.kd e).K xs
 have hcs : xs.length * (Γ.kd e).K.sz ≤ cur.size := by rw [← Array.length_toList, hcur, List.length_append, hsize]; omega
 have hle : (i.toNat + 1) * (Γ.kd e).K.sz ≤ xs.length * (Γ.kd e).K.sz := Nat.mul_le_mul_right _ hnat
 rw [Nat.succ_mul] at hle
 have hrun := run_storeCells_at P g (i.toNat * (Γ.kd e).K.sz + off) e us 0 cur w hh (by omega) (by rw [← hvals]; exact cells_one hcr h1)
 simp only [Nat.add_zero] at hrun
 rw [← overV_eq cur.toList (i.toNat * (Γ.kd e).K.sz + off) us (by have := Array.length_toList (xs := cur); omega)] at hrun
 have hysz : ¬ ((a.eval y).cells.size ≠ ii.size) := by
  rw [his, ← hsz, hlen]; simp
 have hexec : (execOp a.eval o).run P w = .ok .skip (w.setRow g (overV cur.toList (i.toNat * (Γ.kd e).K.sz + off) us).toArray) := by
  simp only [execOp, h, ex, Instr.storeAt, Instr.sureAddr, storeVar, Sem.run_bind, Sem.run_pure, Result.andThen_ok, run_sizeOf hi, hysz, if_false, Sem.run_ite, hvals, hrun]
 have hsz' : (w.setRow g (overV cur.toList (i.toNat * (Γ.kd e).K.sz + off) us).toArray).heap.size = w.heap.size := by simp
 have hdec := (Γ.kd e).K.de _ _ hv
 have hrd : rdK (Γ.kd e).K xs i = xs[i.toNat] := by simp [rdK, List.getD_eq_getElem?_getD, hnat]
 rw [hrd] at hdec
 have hne : ∀ b oo, Stable base μ b oo → b ≠ g := by
  intro b oo hs ee
  subst ee
  have := hs.2 d j 0 hg
  omega
 have hp' : (pE o.dst (.put d j e i v : Eff Γ)) = sameTok (d, j) := rfl
 have hext : Ext base (sameTok (d, j)) no1 no1 μ w μ (w.setRow g (overV cur.toList (i.toNat * (Γ.kd e).K.sz + off) us).toArray) := by
  refine ⟨by rw [hsz']; exact Nat.le_refl _, fun b oo _ hs => setRow_cell (hne b oo hs), fun _ _ _ h => h, fun _ _ _ h => h, fun s' g' _ _ hs' => setRow_other w g g' _ fun ee => ?_, fun _ _ _ _ h => h, fun d' j' g' u hpp ht => setRow_other w g g' _ fun ee => ?_⟩
  ·subst ee; exact (hp.maps.τnew d j g' 0 hg).2 s' hs'
  ·subst ee
   obtain ⟨rfl, rfl⟩ := hp.maps.τinj _ _ _ _ _ _ _ hg ht
   simp [sameTok, Nat.beq_refl] at hpp
 unfold Oper.wp
 rw [hexec]
 have hover : ∀ (xs' : List (Γ.kd e).α) (rest' : List Value), cur.toList = xs'.flatMap (Γ.kd e).K.enc ++ rest' → ∃ rest, overV cur.toList (i.toNat * (Γ.kd e).K.sz + off) us = (xs'.set i.toNat v).flatMap (Γ.kd e).K.enc ++ rest := by
  intro xs' rest' q3
  have hs3 := flat_len (Γ.kd e).K xs'
  rcases Nat.lt_or_ge i.toNat xs'.length with hlt | hge
  ·have he : (Γ.kd e).K.enc xs'[i.toNat] = (Γ.kd e).K.enc xs[i.toNat] := flat_inj2 _ _ _ _ _ _ hlt hnat (by rw [← q3, hcur])
   have := flat_over (Γ.kd e).K xs' i.toNat hlt off us (by omega) v (by rw [he]; exact hdec)
   refine ⟨rest', ?_⟩
   have hb : i.toNat * (Γ.kd e).K.sz + off + us.length ≤ (xs'.flatMap (Γ.kd e).K.enc).length := by
    rw [hs3]
    have : (i.toNat + 1) * (Γ.kd e).K.sz ≤ xs'.length * (Γ.kd e).K.sz := Nat.mul_le_mul_right _ hlt
    rw [Nat.succ_mul] at this
    omega
   rw [q3, over_app _ _ _ _ hb, this]
  ·rw [List.set_eq_of_length_le hge]
   refine ⟨overV rest' (i.toNat * (Γ.kd e).K.sz + off - (xs'.flatMap (Γ.kd e).K.enc).length) us, ?_⟩
   have hb : (xs'.flatMap (Γ.kd e).K.enc).length ≤ i.toNat * (Γ.kd e).K.sz := by rw [hs3]; exact Nat.mul_le_mul_right _ hge
   rw [q3, ← over_skip]
   show overV _ _ _ = _
   rw [show (xs'.flatMap (Γ.kd e).K.enc).length + (i.toNat * (Γ.kd e).K.sz + off - (xs'.flatMap (Γ.kd e).K.enc).length) = i.toNat * (Γ.kd e).K.sz + off by omega]
 have hosz : (overV cur.toList (i.toNat * (Γ.kd e).K.sz + off) us).toArray.size = cur.size := by
  rw [overV_eq cur.toList (i.toNat * (Γ.kd e).K.sz + off) us (by have := Array.length_toList (xs := cur); omega)]
  have := Array.length_toList (xs := cur)
  simp only [List.size_toArray, List.length_append, List.length_take, List.length_drop]
  omega
 refine hn _ _ μ ⟨⟨hp.maps.ρinj, fun s g h => by rw [hsz']; exact hp.maps.ρnew s g h, fun d j g u h => by rw [hsz']; exact hp.maps.τnew d j g u h, hp.maps.τinj⟩, ?_, fun _ _ h => .inl h, hp.town, by rw [hp']; exact hext, trivial, fun s hs => .inl hs, fun _ _ h => .inl h, fun _ _ ee => (by cases ee), fun _ _ _ ee => (by cases ee), fun _ _ ee => (by cases ee), fun d' j' e' i' v' ee => ⟨fun c z hc => ?_, fun q z hq => ?_⟩, fun _ _ ee => (by cases ee)⟩
 ·refine ⟨hp.below.os, hp.below.tape, hp.below.output, by rw [hsz']; exact hp.below.size, fun k hkk hs hnh => ?_⟩
  rw [setRow_other w g k _ fun ee => ?_]
  ·exact hp.below.block k hkk hs hnh
  ·subst ee
   rcases hp.town d j k 0 hg with h | h
   ·omega
   ·exact hnh h
 ·cases ee
  cases c with
  | own e' xs' d' j' =>
   rcases hc with ⟨rfl, rfl⟩ | ⟨g', cur', q1, q2, ⟨rest', q3⟩, q4, cc, q5, q6, q7, q8⟩
   ·simp only [elCell]
    cases hs : sameTok (d, j) d' j' with
    | false => exact .inl ⟨rfl, rfl⟩
    | true =>
     simp only [cond_true]
     split
     ·rename_i he
      subst he
      exact .inl ⟨rfl, rfl⟩
     ·trivial
   simp only [elCell]
   cases hs : sameTok (d, j) d' j' with
   | true =>
    simp only [cond_true]
    simp only [sameTok, Bool.and_eq_true] at hs
    obtain rfl := Nat.eq_of_beq_eq_true hs.1
    obtain rfl := Nat.eq_of_beq_eq_true hs.2
    have eg : (g, 0) = (g', 0) := by rw [hg] at q1; injection q1
    cases eg
    rw [hh] at q2
    injection q2 with q2
    injection q2 with q2 q2'
    subst q2 q2'
    simp only [dif_pos]
    exact .inr ⟨g, _, hg, setRow_heap w g cur _ e _ hh, by simpa using hover xs' rest' q3, by rw [List.length_set]; exact q4, cc, by rw [List.length_set]; exact q5, by rw [List.length_set]; exact q6, q7, by rw [hosz]; exact q8⟩
   | false =>
    simp only [cond_false]
    refine .inr ⟨g', cur', q1, (setRow_other w g g' _ fun ee => ?_).trans q2, ⟨rest', q3⟩, q4, cc, q5, q6, q7, q8⟩
    subst ee
    obtain ⟨rfl, rfl⟩ := hp.maps.τinj _ _ _ _ _ _ _ hg q1
    simp [sameTok, Nat.beq_refl] at hs
  | u => exact CellRep.ext (c := .u) hext hc
  | v x => exact CellRep.ext (c := .v x) hext hc
  | bb b q i' hh' => exact CellRep.ext (c := .bb b q i' hh') hext hc
  | nb b q i' hh' => exact CellRep.ext (c := .nb b q i' hh') hext hc
  | row e' xs' o' => exact CellRep.ext (c := .row e' xs' o') hext hc
  | fn f => exact CellRep.ext (c := .fn f) hext hc
 ·cases ee
  cases q with
  | el e' xs' d' j' i' o' =>
   obtain ⟨g', cur', q1, q2, ⟨rest', q3⟩, q4, q5, q6⟩ := hq
   simp only [elPt]
   cases hs : sameTok (d, j) d' j' with
   | true =>
    simp only [cond_true]
    simp only [sameTok, Bool.and_eq_true] at hs
    obtain rfl := Nat.eq_of_beq_eq_true hs.1
    obtain rfl := Nat.eq_of_beq_eq_true hs.2
    have eg : (g, 0) = (g', 0) := by rw [hg] at q1; injection q1
    cases eg
    rw [hh] at q2
    injection q2 with q2
    injection q2 with q2 q2'
    subst q2 q2'
    simp only [dif_pos]
    exact ⟨g, _, hg, setRow_heap w g cur _ e _ hh, by simpa using hover xs' rest' q3, q4, by rw [List.length_set]; exact q5, q6⟩
   | false =>
    simp only [cond_false]
    refine ⟨g', cur', q1, (setRow_other w g g' _ fun ee => ?_).trans q2, ⟨rest', q3⟩, q4, q5, q6⟩
    subst ee
    obtain ⟨rfl, rfl⟩ := hp.maps.τinj _ _ _ _ _ _ _ hg q1
    simp [sameTok, Nat.beq_refl] at hs
  | box s' o' => exact PtRep.ext (x := .box s' o') hext (fun s h => h) rfl hq
  | ref cs => exact PtRep.ext (x := .ref cs) hext (fun s h => h) rfl hq
  | ix s' o' e' xs' i' => exact PtRep.ext (x := .ix s' o' e' xs' i') hext (fun s h => h) rfl hq
  | un => trivial


theorem sem_len {R : Type} (C : CtxOK P Γ) {o : Oper} {tm : Tm Γ} {bx : Bx Γ} {c : Call} (h : o.op = .call c) (hc : c.callee = .builtin .len) {x : Operand} {t : Nat} (ha : c.args.toList = [x]) (hT : c.argTypes.toList = [t]) {K : AV Γ → Option R} {r : R}
  (hk : lenAV (Γ.td t) (ev tm x) K = some r) : ∃ v, K v = some r ∧ OpSem P o tm bx v .none := by
 have ea : c.args = #[x] := by simpa using congrArg List.toArray ha
 have et : c.argTypes = #[t] := by simpa using congrArg List.toArray hT
 have hmem : x ∈ o.op.operands := by rw [h]; simp [Op.operands, Call.operands, hc, ea]
 have hrun : ∀ (a : Act) (w : World) (z : Value), (Builtin.len_ #[t] o.type #[a.eval x]).run P w = .ok z w → (execOp a.eval o).run P w = .ok (.value z) w := fun a w z hz => by
  simp [execOp, h, resolve, hc, ea, et, invoke, builtin, hz, Result.andThen]
 unfold lenAV at hk
 split at hk
 ·rename_i s htd hx
  refine ⟨_, hk, sem_val fun base S w0 a w μ hp => ⟨.int .i64 s.size, hrun a w _ ?_, rfl⟩⟩
  have hy := hp.ops x hmem
  rw [hx] at hy; change a.eval x = _ at hy
  obtain ⟨hu, _⟩ := td_str C htd
  simp [Builtin.len_, hy, run_underlying hu, goInt, Result.andThen]
 ·rename_i e' b e xs ow htd hx
  refine ⟨_, hk, sem_val fun base S w0 a w μ hp => ⟨.int .i64 xs.length, hrun a w _ ?_, rfl⟩⟩
  have hy := hp.ops x hmem
  rw [hx] at hy
  obtain ⟨A, c, ey, _⟩ := hy
  obtain ⟨ii, ie, z, hu, _⟩ := td_sl C htd
  simp [Builtin.len_, ey, run_underlying hu, goInt, Result.andThen]
 ·rename_i e' b e xs d j htd hx
  refine ⟨_, hk, sem_val fun base S w0 a w μ hp => ⟨.int .i64 xs.length, hrun a w _ ?_, rfl⟩⟩
  have hy := hp.ops x hmem
  rw [hx] at hy
  obtain ⟨ii, ie, z, hu, _⟩ := td_sl C htd
  rcases hy with ⟨rfl, ey⟩ | ⟨_, _, _, _, _, _, _, _, ey, _⟩
  ·simp [Builtin.len_, ey, run_underlying hu, goInt, Result.andThen]
  simp [Builtin.len_, ey, run_underlying hu, goInt, Result.andThen]
 ·rename_i e' b htd hx
  refine ⟨_, hk, sem_val fun base S w0 a w μ hp => ⟨.int .i64 0, hrun a w _ ?_, rfl⟩⟩
  have hy := hp.ops x hmem
  rw [hx] at hy; change a.eval x = _ at hy
  obtain ⟨ii, ie, z, hu, _⟩ := td_sl C htd
  simp [Builtin.len_, hy, run_underlying hu, goInt, Result.andThen]
 ·cases hk

theorem sem_mm {R : Type} {o : Oper} {tm : Tm Γ} {bx : Bx Γ} {c : Call} (h : o.op = .call c) {mx : Bool} (hc : c.callee = .builtin (bif mx then .max else .min)) {x y : Operand} (ha : c.args.toList = [x, y]) {K : AV Γ → Option R} {r : R}
  (hk : mmAV mx (ev tm x) (ev tm y) K = some r) : ∃ v, K v = some r ∧ OpSem P o tm bx v .none := by
 have ea : c.args = #[x, y] := by simpa using congrArg List.toArray ha
 unfold mmAV at hk
 split at hk
 ·rename_i k m k' n hx hy
  split at hk
  ·rename_i he
   subst he
   refine ⟨_, hk, sem_val fun base S w0 a w μ hp => ⟨_, ?_, rfl⟩⟩
   have h1 := hp.ops x (by rw [h]; cases mx <;> simp [Op.operands, Call.operands, hc, ea])
   have h2 := hp.ops y (by rw [h]; cases mx <;> simp [Op.operands, Call.operands, hc, ea])
   rw [hx] at h1; change a.eval x = _ at h1
   rw [hy] at h2; change a.eval y = _ at h2
   cases mx <;> simp [execOp, h, resolve, hc, ea, invoke, builtin, Builtin.max_, Builtin.min_, Builtin.max2, Builtin.min2, h1, h2, Result.andThen]
  ·cases hk
 ·cases hk

end

section
variable {Γ : Ctx} {P : Program} {base : Nat} {S : Nat → Nat → Prop} {w0 : W0}

theorem eqLeaf_run (C : CtxOK P Γ) {t : Nat} {a b : Cell Γ} {r : Bool} (h : eqLeaf (Γ.td t) a b = some r) {μ : Mp} {w : World} {u v : Value} (ha : CellRep base S μ w a u) (hb : CellRep base S μ w b v) (D : Nat) (w' : World) :
  (Op.equalIn (D + 1) t u v).run P w' = .ok r w' := by
 unfold eqLeaf at h
 split at h
 ·rename_i k a k' b htd
  split at h
  ·rename_i hk; subst hk; cases h; cases ha; cases hb
   exact run_equalIn_int w' D t _ _ _ _ (td_int C htd).1
  ·cases h
 ·rename_i a b htd; cases h; cases ha; cases hb; exact run_equalIn_bool' w' D t _ _ (td_bool C htd).1
 ·rename_i a q i hh b htd; cases h; cases ha; cases hb; exact run_equalIn_bool' w' D t _ _ (td_bool C htd).1
 ·rename_i a q i hh b htd; cases h; cases ha; cases hb; exact run_equalIn_bool' w' D t _ _ (td_bool C htd).1
 ·rename_i a b htd; cases h; cases ha; cases hb; exact run_equalIn_string w' D t _ _ (td_str C htd).1
 ·cases h

theorem allB_cons (b : Bool) (l : List Bool) : allB (b :: l) = (b && allB l) := by
 cases l with
 | nil => simp [allB]
 | cons c l => rfl

theorem eq_run (C : CtxOK P Γ) {μ : Mp} {w : World} : ∀ n : Nat,
  (∀ (t : Nat) (as bs : List (Cell Γ)) (us vs : List Value) (b : Bool), eqTy n true t as bs = some b → CellsRep base S μ w as us → CellsRep base S μ w bs vs → ∀ (D : Nat) (w' : World), n ≤ D →
   (Op.equalIn D t (.agg (us.take (Γ.td t).size).toArray) (.agg (vs.take (Γ.td t).size).toArray)).run P w' = .ok b w') ∧
  (∀ (fs : List Fd) (gs : List Field) (as bs : List (Cell Γ)) (us vs : List Value) (l : List Bool), eqFs n fs as bs = some l → FdsOK P fs gs → CellsRep base S μ w as us → CellsRep base S μ w bs vs → ∀ (D : Nat) (w' : World), n ≤ D →
   (Op.eqFields D us.toArray vs.toArray gs).run P w' = .ok (allB l) w') := by
 intro n
 induction n with
 | zero =>
  refine ⟨fun t as bs us vs b h => ?_, fun fs gs as bs us vs l h => ?_⟩
  ·simp [eqTy] at h
  ·simp [eqFs] at h
 | succ n ih =>
  obtain ⟨ih1, ih2⟩ := ih
  refine ⟨fun t as bs us vs b h ha hb D w' hD => ?_, fun fs gs as bs us vs l h hfs ha hb D w' hD => ?_⟩
  ·obtain ⟨D, rfl⟩ : ∃ m, D = m + 1 := ⟨D - 1, by omega⟩
   unfold eqTy at h
   cases htd : Γ.td t with
   | st sz zs fs =>
    rw [htd] at h
    simp only at h
    obtain ⟨l, hl, rfl⟩ := Option.map_eq_some_iff.1 h
    obtain ⟨fields, inf, hu, hi, hsz, _, _, hfs, hst, _⟩ := td_st C htd
    have hfo : P.fieldsOf t = fields := by simp [Program.fieldsOf, hu]
    rw [run_equalIn_struct w' D t _ _ (by rw [hfo]; exact hu) hst, hfo]
    exact ih2 fs fields.toList _ _ _ _ l hl hfs (ha.take sz) (hb.take sz) D w' (by omega)
   | _ => rw [htd] at h; cases h
  ·obtain ⟨D, rfl⟩ : ∃ m, D = m + 1 := ⟨D - 1, by omega⟩
   cases fs with
   | nil =>
    cases gs with
    | nil => simp [eqFs] at h; subst h; rfl
    | cons _ _ => exact hfs.elim
   | cons f fs =>
    cases gs with
    | nil => exact hfs.elim
    | cons g gs =>
     unfold eqFs at h
     split at h
     ·rename_i b hb1
      split at h
      ·rename_i r hr
       cases h
       obtain ⟨⟨h1, h2, h3, h4, h5, h6⟩, hgs⟩ := hfs
       obtain ⟨i, hi, hs⟩ := info_size h3
       obtain ⟨d, hu, hd⟩ := Option.map_eq_some_iff.1 h5
       have hrest := ih2 fs gs as bs us vs r hr hgs ha hb (D + 1) w' (by omega)
       have hpart : ∃ x y, (part g.type us.toArray g.offset).run P w' = .ok x w' ∧ (part g.type vs.toArray g.offset).run P w' = .ok y w' ∧ (Op.equalIn (D + 1) g.type x y).run P w' = .ok b w' := by
        cases hag : f.agg with
        | true =>
         rw [hag] at hb1 hd
         have hp : ∀ zs : List Value, (part g.type zs.toArray g.offset).run P w' = .ok (.agg ((zs.drop f.off).take f.sz).toArray) w' := fun zs => by
          unfold part
          rw [Sem.run_bind, run_isAgg hu, Result.andThen_ok, hd, h1]
          simp only [if_true, Sem.run_bind, run_sizeOf hi, Result.andThen_ok, Sem.run_pure, hs]
          congr 2
          simp [List.drop_take]
         refine ⟨_, _, hp us, hp vs, ?_⟩
         have := ih1 f.ty _ _ _ _ b hb1 (ha.drop f.off) (hb.drop f.off) (D + 1) w' (by omega)
         have hsz : (Γ.td f.ty).size = f.sz := by
          cases hk : (Γ.td f.ty).known with
          | true =>
           obtain ⟨i', d', e1, e2, _, _⟩ := known_size C hk
           rw [← h2, hi] at e1
           injection e1 with e1
           rw [← e2, ← e1, hs]
          | false =>
           cases n with
           | zero => simp [eqTy] at hb1
           | succ n =>
            unfold eqTy at hb1
            cases htd : Γ.td f.ty <;> rw [htd] at hk hb1 <;> first | (cases hk; done) | (simp at hb1; done)
         rw [hsz, ← h2] at this
         exact this
        | false =>
         rw [hag] at hb1 hd
         cases n with
         | zero => simp [eqTy] at hb1
         | succ n =>
          cases hx1 : as.drop f.off with
          | nil => rw [hx1] at hb1; simp [eqTy] at hb1
          | cons x xs =>
          cases hy1 : bs.drop f.off with
          | nil => rw [hx1, hy1] at hb1; simp [eqTy] at hb1
          | cons y ys =>
           rw [hx1, hy1] at hb1
           simp only [eqTy] at hb1
           have ga := (ha.drop f.off).get 0 (c := x) (by rw [hx1]; rfl)
           have gb := (hb.drop f.off).get 0 (c := y) (by rw [hy1]; rfl)
           obtain ⟨u, hu1, hu2⟩ := ga
           obtain ⟨v, hv1, hv2⟩ := gb
           rw [List.getElem?_drop] at hu1 hv1
           have hp : ∀ (zs : List Value) (z : Value), zs[f.off + 0]? = some z → (part g.type zs.toArray g.offset).run P w' = .ok z w' := fun zs z hz => by
            unfold part
            rw [Sem.run_bind, run_isAgg hu, Result.andThen_ok, hd, h1]
            have : zs.toArray[f.off]? = some z := by simpa using hz
            simp only [Bool.false_eq_true, if_false, this, Sem.run_pure]
           refine ⟨u, v, hp us u hu1, hp vs v hv1, ?_⟩
           rw [h2]
           exact eqLeaf_run C hb1 hu2 hv2 D w'
       obtain ⟨x, y, p1, p2, p3⟩ := hpart
       rw [allB_cons, Op.eqFields]
       simp only [h6, ne_eq, not_false_eq_true, if_true, Sem.run_bind, p1, p2, p3, Result.andThen_ok, Sem.run_ite]
       cases b with
       | false => simp
       | true => simpa using hrest
      ·cases h
     ·cases h

theorem plainB_rep {base : Nat} {S : Nat → Nat → Prop} {μ : Mp} {w : World} {x : AV Γ} {y : Value} (h : AVRep base S μ w x y) : AVRep base S μ w (plainB x) y := by
 unfold plainB
 split
 ·exact h
 ·exact h
 ·exact h

theorem sem_binOp {R : Type} (C : CtxOK P Γ) {o : Oper} {tm : Tm Γ} {bx : Bx Γ} {op : BinOp} {t t' : Nat} {x y : Operand} (h : o.op = .binOp op t x y t') {K : AV Γ → Option R} {r : R} (hk : binAV op t x y (plainB (ev tm x)) (plainB (ev tm y)) K = some r) :
  ∃ v, K v = some r ∧ OpSem P o tm bx v .none := by
 have hmx : x ∈ o.op.operands := by rw [h]; simp [Op.operands]
 have hmy : y ∈ o.op.operands := by rw [h]; simp [Op.operands]
 unfold binAV at hk
 split at hk
 ·rename_i k m k' n hx hy
  obtain ⟨v, hv, z, h1, h2, h3⟩ := intBin2_inv hk
  refine ⟨v, hv, sem_val fun base S w0 a w μ hp => ⟨z, ?_, h3 _ _ _ _⟩⟩
  have ex := plainB_rep (hp.ops x hmx)
  have ey := plainB_rep (hp.ops y hmy)
  rw [hx] at ex; change a.eval x = _ at ex
  rw [hy] at ey; change a.eval y = _ at ey
  exact run_binOp h (by rw [ex, ey]; exact h2 w t x y) (by rw [ex, ey]; exact h1 w t)
 ·rename_i m n hx hy
  obtain ⟨v, hv, z, h1, h2, h3⟩ := strBin_inv hk
  refine ⟨v, hv, sem_val fun base S w0 a w μ hp => ⟨z, ?_, h3 _ _ _ _⟩⟩
  have ex := plainB_rep (hp.ops x hmx)
  have ey := plainB_rep (hp.ops y hmy)
  rw [hx] at ex; change a.eval x = _ at ex
  rw [hy] at ey; change a.eval y = _ at ey
  exact run_binOp h (by rw [ex, ey]; exact h2 w t x y) (by rw [ex, ey]; exact h1 w t)
 ·rename_i m n hx hy
  have key : ∀ (v : AV Γ) (z : Bool), (Γ.td t = .bool) → (∀ w : World, (binOp op t (.bool m) (.bool n)).run P w = .ok (.bool z) w) → (∀ base S μ w, AVRep (Γ := Γ) base S μ w v (.bool z)) → OpSem P o tm bx v .none := by
   intro v z ht h1 h3
   refine sem_val fun base S w0 a w μ hp => ⟨.bool z, ?_, h3 _ _ _ _⟩
   have ex := plainB_rep (hp.ops x hmx)
   have ey := plainB_rep (hp.ops y hmy)
   rw [hx] at ex; change a.eval x = _ at ex
   rw [hy] at ey; change a.eval y = _ at ey
   exact run_binOp h (by rw [ex, ey]; cases op <;> simp [eqGuard]) (by rw [ex, ey]; exact h1 w)
  split at hk
  ·rename_i htd
   refine ⟨_, hk, key _ (m == n) htd (fun w => ?_) fun _ _ _ _ => rfl⟩
   simp [binOp, Op.equal, Op.maxDepth, run_equalIn_bool' w 9999 t m n (td_bool C htd).1]
  ·rename_i htd
   refine ⟨_, hk, key _ (!(m == n)) htd (fun w => ?_) fun _ _ _ _ => rfl⟩
   simp [binOp, Op.equal, Op.maxDepth, run_equalIn_bool' w 9999 t m n (td_bool C htd).1]
  ·cases hk
 ·rename_i as bs hx hy
  cases hl : (as.length.beq (Γ.td t).size).and (bs.length.beq (Γ.td t).size) with
  | false => simp [hl] at hk
  | true =>
   simp only [hl, cond_true] at hk
   simp only [Bool.and_eq_true] at hl
   have hla := Nat.eq_of_beq_eq_true hl.1
   have hlb := Nat.eq_of_beq_eq_true hl.2
   split at hk
   ·rename_i b hb
    have key : ∀ (v : AV Γ) (z : Bool), (∀ (w : World) (us vs : Array Value), (Op.equalIn 10000 t (.agg us) (.agg vs)).run P w = .ok b w → (binOp op t (.agg us) (.agg vs)).run P w = .ok (.bool z) w) → (∀ base S μ w, AVRep (Γ := Γ) base S μ w v (.bool z)) → OpSem P o tm bx v .none := by
     intro v z h1 h3
     refine sem_val fun base S w0 a w μ hp => ⟨.bool z, ?_, h3 _ _ _ _⟩
     have ex := plainB_rep (hp.ops x hmx)
     have ey := plainB_rep (hp.ops y hmy)
     rw [hx] at ex
     rw [hy] at ey
     obtain ⟨us, e1, e2⟩ := ex
     obtain ⟨vs, e3, e4⟩ := ey
     have hrun := (eq_run (P := P) C 20).1 t as bs us vs b hb e2 e4 10000 w (by omega)
     rw [List.take_of_length_le (by rw [← e2.length]; omega), List.take_of_length_le (by rw [← e4.length]; omega)] at hrun
     have hgu : P.eqGuardType P.depth t = false := by
      unfold eqTy at hb
      cases htd : Γ.td t with
      | st sz zs fs => obtain ⟨_, _, _, _, _, _, _, _, _, hh⟩ := td_st C htd; exact hh
      | _ => rw [htd] at hb; simp at hb
     exact run_binOp h (by rw [e1, e3]; exact run_eqGuard_agg w op t x y _ _ hgu) (by rw [e1, e3]; exact h1 w _ _ hrun)
    split at hk
    ·exact ⟨_, hk, key _ b (fun w us vs hh => by rw [run_eql_struct, hh]; rfl) fun _ _ _ _ => rfl⟩
    ·exact ⟨_, hk, key _ (!b) (fun w us vs hh => by rw [run_neq_struct, hh]; rfl) fun _ _ _ _ => rfl⟩
    ·cases hk
   ·cases hk
 ·cases hk

end

section
variable {Γ : Ctx} {P : Program} {base : Nat} {S : Nat → Nat → Prop} {w0 : W0}

def mvTok (μ : Mp) (d : Nat) (t : Option (Nat × Nat)) (nv : Option (Nat × Nat)) : Mp :=
 ⟨μ.ρ, fun d' j' => bif d.beq d' then (bif j'.beq 0 then nv else none) else (bif hitTok t d' j' then none else μ.τ d' j')⟩

theorem mv_tok {μ : Mp} {d : Nat} {t nv : Option (Nat × Nat)} {d' j' : Nat} (h : pE (some d) (.app t : Eff Γ) d' j' = false) : (mvTok μ d t nv).τ d' j' = μ.τ d' j' := by
 simp only [pE, isTok, Bool.or_eq_false_iff] at h
 simp only [mvTok, h.1, h.2, cond_false]

theorem mv_new {μ : Mp} {d : Nat} {t nv : Option (Nat × Nat)} : (mvTok μ d t nv).τ d 0 = nv := by
 have e1 : d.beq d = true := Nat.beq_refl d
 simp [mvTok, e1]

theorem mv_cases {μ : Mp} {d : Nat} {t nv : Option (Nat × Nat)} {d' j' : Nat} {v : Nat × Nat} (h : (mvTok μ d t nv).τ d' j' = some v) :
  (d' = d ∧ j' = 0 ∧ nv = some v) ∨ (pE (some d) (.app t : Eff Γ) d' j' = false ∧ μ.τ d' j' = some v) := by
 simp only [mvTok] at h
 cases hd : d.beq d' with
 | true =>
  simp only [hd, cond_true] at h
  cases hj : j'.beq 0 with
  | true =>
   simp only [hj, cond_true] at h
   exact .inl ⟨(Nat.eq_of_beq_eq_true hd).symm, Nat.eq_of_beq_eq_true hj, h⟩
  | false => simp [hj] at h
 | false =>
  simp only [hd, cond_false] at h
  cases ht : hitTok t d' j' with
  | true => simp [ht] at h
  | false =>
   simp only [ht, cond_false] at h
   exact .inr ⟨by simp only [pE, isTok, hd, ht]; rfl, h⟩

structure AppW (base : Nat) (μ : Mp) (w w' : World) (d : Nat) (t nv : Option (Nat × Nat)) : Prop where
 size : w.heap.size ≤ w'.heap.size
 below : ∀ w0 : W0, Bel base w0 w → (∀ d j g u, μ.τ d j = some (g, u) → OwnTok base w0 g) → Bel base w0 w'
 cell : ∀ b o, b < w.heap.size → Stable base μ b o → w'.cell? ⟨b, o, none⟩ = w.cell? ⟨b, o, none⟩
 box : ∀ s g, μ.ρ s = some g → w'.heap[g]? = w.heap[g]?
 tok : ∀ d' j' g u, (pE (Γ := Γ) (some d) (.app t) d' j') = false → μ.τ d' j' = some (g, u) → w'.heap[g]? = w.heap[g]?
 nv : ∀ g u, nv = some (g, u) → (base ≤ g ∨ ∃ d' j' u', μ.τ d' j' = some (g, u')) ∧ g < w'.heap.size ∧ (∀ s, μ.ρ s ≠ some g) ∧ (∀ d' j' u', pE (Γ := Γ) (some d) (.app t) d' j' = false → μ.τ d' j' ≠ some (g, u')) ∧ (∀ b o, b < w.heap.size → Stable base μ b o → b = g → o < u)

theorem AppW.stab {μ : Mp} {w w' : World} {d : Nat} {t nv : Option (Nat × Nat)} (H : AppW (Γ := Γ) base μ w w' d t nv) : ∀ b o, b < w.heap.size → Stable base μ b o → Stable base (mvTok μ d t nv) b o := by
 intro b o hb h
 have ⟨h1, h2⟩ := h
 refine ⟨h1, fun d' j' u hu => ?_⟩
 rcases mv_cases (Γ := Γ) hu with ⟨_, _, e⟩ | ⟨_, e⟩
 ·exact (H.nv b u e).2.2.2.2 b o hb h rfl
 ·exact h2 d' j' u e

theorem AppW.ext {μ : Mp} {w w' : World} {d : Nat} {t nv : Option (Nat × Nat)} (H : AppW (Γ := Γ) base μ w w' d t nv) : Ext base (pE (some d) (.app t : Eff Γ)) no1 no1 μ w (mvTok μ d t nv) w' :=
 ⟨H.size, H.cell, H.stab, fun _ _ _ h => h, fun s g _ _ h => H.box s g h, fun d' j' v hp h => by rw [mv_tok hp]; exact h, fun d' j' g u hp h => H.tok d' j' g u hp h⟩

theorem AppW.maps {μ : Mp} {w w' : World} {d : Nat} {t nv : Option (Nat × Nat)} (H : AppW (Γ := Γ) base μ w w' d t nv) (hm : MapsOK base μ w) : MapsOK base (mvTok μ d t nv) w' where
 ρinj := hm.ρinj
 ρnew s g h := Nat.lt_of_lt_of_le (hm.ρnew s g h) H.size
 τnew d' j' g u h := by
  rcases mv_cases (Γ := Γ) h with ⟨_, _, e⟩ | ⟨_, e⟩
  ·obtain ⟨_, h2, h3, _⟩ := H.nv g u e; exact ⟨h2, h3⟩
  ·obtain ⟨h2, h3⟩ := hm.τnew d' j' g u e; exact ⟨Nat.lt_of_lt_of_le h2 H.size, h3⟩
 τinj d' j' d'' j'' g u u' h h' := by
  rcases mv_cases (Γ := Γ) h with ⟨e1, e2, e⟩ | ⟨hp, e⟩ <;> rcases mv_cases (Γ := Γ) h' with ⟨e1', e2', e'⟩ | ⟨hp', e'⟩
  ·exact ⟨e1.trans e1'.symm, e2.trans e2'.symm⟩
  ·exact absurd e' ((H.nv g u e).2.2.2.1 _ _ _ hp')
  ·exact absurd e ((H.nv g u' e').2.2.2.1 _ _ _ hp)
  ·exact hm.τinj _ _ _ _ _ _ _ e e'

theorem AppW.town {μ : Mp} {w w' : World} {d : Nat} {t nv : Option (Nat × Nat)} (H : AppW (Γ := Γ) base μ w w' d t nv) (ht : ∀ d j g u, μ.τ d j = some (g, u) → OwnTok base w0 g) : ∀ d' j g u, (mvTok μ d t nv).τ d' j = some (g, u) → OwnTok base w0 g := by
 intro d' j g u h
 rcases mv_cases (Γ := Γ) h with ⟨_, _, e⟩ | ⟨_, e⟩
 ·rcases (H.nv g u e).1 with h1 | ⟨_, _, _, h1⟩
  ·exact .inl h1
  ·exact ht _ _ _ _ h1
 ·exact ht _ _ _ _ e

theorem own_cases {μ : Mp} {w : World} {e sz n c : Nat} {A : Option Addr} {o : Own} {t : Option (Nat × Nat)} (ht : tokO o = some t) (h : OwnRep base μ w e sz A n c o) :
  n = c ∨ ∃ d j g cur, t = some (d, j) ∧ A = some ⟨g, 0, none⟩ ∧ base ≤ g ∧ μ.τ d j = some (g, n * sz) ∧ w.heap[g]? = some (.cells cur e (0, 0)) ∧ c ≤ maxLen ∧ cur.size = c * sz := by
 cases o with
 | ro => cases ht
 | full => exact .inl h
 | nil => exact .inl (h.2.1.trans h.2.2.symm)
 | tok d j =>
  rcases h with h | ⟨g, cur, h⟩
  ·exact .inl h
  ·cases ht; exact .inr ⟨d, j, g, cur, rfl, h⟩

theorem flat_length {α : Type} (K : RK α) : ∀ xs : List α, (xs.flatMap K.enc).length = xs.length * K.sz
 | [] => by simp
 | x :: xs => by simp [flat_length K xs, K.len, Nat.succ_mul, Nat.add_comm]

theorem flat_one {α : Type} (K : RK α) (xs : List α) : ∀ v ∈ xs.flatMap K.enc, v.oneCell' = true := by
 intro v hv
 obtain ⟨x, _, h⟩ := List.mem_flatMap.1 hv
 exact K.one x v h

theorem app_run {α : Type} (K : RK α) {t e bytes : Nat} {i : TypeInfo} {z : Value} (hu : P.underlying t = some (.slice e)) (hi : P.info? e = some i) (hz : i.zero = some z) (hsz : i.size = K.sz) (hby : i.bytes = bytes) (hzs : z.cells.size = i.size) (hb0 : 0 < bytes)
  {μ : Mp} {w : World} (hm : MapsOK base μ w) (hle : base ≤ w.heap.size) {xs ys : List α} {o o' : Own} {tk : Option (Nat × Nat)} (ht : tokO o = some tk) {x y : Value} (hx : RowRep base S μ w K e xs o x) (hy : RowRep base S μ w K e ys o' y)
  (hb : (xs.length + ys.length) * bytes ≤ 140737488355328) (d ty : Nat) :
  ∃ v w' nv, (Builtin.append_ #[t, t] ty #[x, y]).run P w = .ok v w' ∧ AppW (Γ := Γ) base μ w w' d tk nv ∧ RowRep base S (mvTok μ d tk nv) w' K e (xs ++ ys) (.tok d 0) v := by
 obtain ⟨A, c, rfl, hl1, hl2, hrd, hown⟩ := hx
 obtain ⟨A2, c2, rfl, hl3, hl4, hrd2, hown2⟩ := hy
 have hn63 : xs.length + ys.length ≤ 140737488355328 := Nat.le_trans (Nat.le_mul_of_pos_right _ hb0) hb
 have hpos := K.pos
 have hcases := own_cases ht hown
 rcases Nat.eq_zero_or_pos ys.length with hm0 | hm0
 ·-- nothing is appended
  have hys : ys = [] := List.eq_nil_of_length_eq_zero hm0
  subst hys
  have hr : (Builtin.append_ #[t, t] ty #[.slice A xs.length c, .slice A2 0 c2]).run P w = .ok (.slice A xs.length c) w := by
   have e1 : (Builtin.firstCells i.size 0 (.slice A2 0 c2)).run P w = .ok #[] w := by
    cases A2 <;> simp [Builtin.firstCells, loadCells, loadCellsFrom]
   cases A <;> simp [Builtin.append_, run_underlying hu, sizeOf, typeInfo, hi, Builtin.lenOf, hl1, e1, storeCells, Result.andThen]
  have nvx : ∃ nv : Option (Nat × Nat), (xs.length = c ∧ nv = none) ∨ (∃ dd j g cur, tk = some (dd, j) ∧ A = some ⟨g, 0, none⟩ ∧ base ≤ g ∧ μ.τ dd j = some (g, xs.length * K.sz) ∧ w.heap[g]? = some (.cells cur e (0, 0)) ∧ c ≤ maxLen ∧ cur.size = c * K.sz ∧ nv = some (g, xs.length * K.sz)) := by
   rcases hcases with h | ⟨dd, j, g, cur, h1, h2, h3, h4, h5, h6, h7⟩
   ·exact ⟨none, .inl ⟨h, rfl⟩⟩
   ·exact ⟨_, .inr ⟨dd, j, g, cur, h1, h2, h3, h4, h5, h6, h7, rfl⟩⟩
  obtain ⟨nv, hnv⟩ := nvx
  have H : AppW (Γ := Γ) base μ w w d tk nv := by
   refine ⟨Nat.le_refl _, fun _ hB _ => hB, fun _ _ _ _ => rfl, fun _ _ _ => rfl, fun _ _ _ _ _ _ => rfl, fun g u e => ?_⟩
   rcases hnv with ⟨_, rfl⟩ | ⟨dd, j, g', cur, h1, h2, h3, h4, h5, h6, h7, rfl⟩
   ·cases e
   ·cases e
    obtain ⟨f2, f3⟩ := hm.τnew dd j g _ h4
    refine ⟨.inl h3, f2, f3, fun d' j' u' hp he => ?_, fun b oo _ hs e => ?_⟩
    ·obtain ⟨rfl, rfl⟩ := hm.τinj _ _ _ _ _ _ _ he h4
     subst h1
     have : sameTok (d', j') d' j' = true := by simp [sameTok, Nat.beq_refl]
     simp [pE, hitTok, this] at hp
    ·subst e; exact hs.2 dd j _ h4
  refine ⟨_, w, nv, hr, H, A, c, by simp, by simpa using hl1, by simpa using hl2, fun hn => ?_, ?_⟩
  ·rw [List.append_nil] at hn
   obtain ⟨b, off, rfl, hc⟩ := hrd hn
   refine ⟨b, off, rfl, fun j v hj => ?_⟩
   rw [List.append_nil] at hj
   obtain ⟨f1, f2, f3⟩ := hc j v hj
   exact ⟨f1, H.stab b _ (lt_of_cell f1) f2, f3⟩
  ·rcases hnv with ⟨h, _⟩ | ⟨dd, j, g', cur, h1, h2, h3, h4, h5, h6, h7, rfl⟩
   ·exact .inl (by simpa using h)
   ·exact .inr ⟨g', cur, h2, h3, by rw [mv_new]; simp, h5, h6, h7⟩
 ·-- the new elements are read
  obtain ⟨b2, off2, rfl, hc2⟩ := hrd2 hm0
  have hnews : ∀ j v, (ys.flatMap K.enc)[j]? = some v → w.cell? ((⟨b2, off2, none⟩ : Addr).add j) = some v := fun j v hj => by rw [add_plain']; exact (hc2 j v hj).1
  have hnl : (ys.flatMap K.enc).length = ys.length * i.size := by rw [flat_length, hsz]
  have holds : ∀ (ad : Addr), A = some ad → ∀ j v, (xs.flatMap K.enc)[j]? = some v → w.cell? (ad.add j) = some v := fun ad e j v hj => by
   have : 0 < xs.length := by
    rcases Nat.eq_zero_or_pos xs.length with h | h
    ·have : xs = [] := List.eq_nil_of_length_eq_zero h
     subst this; simp at hj
    ·exact h
   obtain ⟨b, off, e', hc⟩ := hrd this
   rw [e] at e'; injection e' with e'; subst e'
   rw [add_plain']; exact (hc j v hj).1
  have hol : (xs.flatMap K.enc).length = xs.length * i.size := by rw [flat_length, hsz]
  have grown : ∀ old : Nat, old < xs.length + ys.length → ∀ w' : World, w' = w.drew.alloc (.cells ((xs.flatMap K.enc).toArray ++ (ys.flatMap K.enc).toArray ++ Builtin.zeroCells z.cells (grownCap w (xs.length + ys.length) old e - (xs.length + ys.length))) e) →
    ∃ nv, AppW (Γ := Γ) base μ w w' d tk nv ∧ RowRep base S (mvTok μ d tk nv) w' K e (xs ++ ys) (.tok d 0) (.slice (some ⟨w.heap.size, 0, none⟩) (xs.length + ys.length) (grownCap w (xs.length + ys.length) old e)) := by
   rintro old ho w' rfl
   have hge := grownCap_ge w (xs.length + ys.length) old e
   have hcm : grownCap w (xs.length + ys.length) old e ≤ maxLen := grownCap_le_maxLen w _ old e (by simp only [maxLen]; omega)
   have hB : Below w.heap.size w (w.drew.alloc (.cells ((xs.flatMap K.enc).toArray ++ (ys.flatMap K.enc).toArray ++ Builtin.zeroCells z.cells (grownCap w (xs.length + ys.length) old e - (xs.length + ys.length))) e)) :=
    (Below.refl _ _).drew.alloc (Nat.le_refl _) _
   have H : AppW (Γ := Γ) base μ w (w.drew.alloc (.cells ((xs.flatMap K.enc).toArray ++ (ys.flatMap K.enc).toArray ++ Builtin.zeroCells z.cells (grownCap w (xs.length + ys.length) old e - (xs.length + ys.length))) e)) d tk (some (w.heap.size, (xs.length + ys.length) * K.sz)) := by
    refine ⟨hB.size, fun _ h _ => h.trans (hB.mono hle), fun b o hb _ => hB.cell (p := ⟨b, o, none⟩) hb, fun s g h => hB.block g (hm.ρnew s g h), fun d' j' g u _ h => hB.block g (hm.τnew d' j' g u h).1, fun g u e => ?_⟩
    cases e
    exact ⟨.inl hle, by simp, fun s hs => by have := (hm.ρnew s _ hs); omega, fun d' j' u' _ h => by have := (hm.τnew d' j' _ u' h).1; omega, fun b o hb _ e => by omega⟩
   refine ⟨_, H, some ⟨w.heap.size, 0, none⟩, grownCap w (xs.length + ys.length) old e, by simp, by simpa using hge, by simp only [List.length_append, maxLen]; omega, fun _ => ⟨w.heap.size, 0, rfl, fun j v hj => ⟨?_, ?_, fun h => by omega⟩⟩, .inr ⟨w.heap.size, _, rfl, hle, by rw [mv_new]; simp, heap_alloc_new w.drew _, hcm, ?_⟩⟩
   ·rw [Nat.zero_add]
    have h1 : (w.drew.alloc (.cells ((xs.flatMap K.enc).toArray ++ (ys.flatMap K.enc).toArray ++ Builtin.zeroCells z.cells (grownCap w (xs.length + ys.length) old e - (xs.length + ys.length))) e)).cell? ⟨w.heap.size, j, none⟩ = _ := World.cell?_alloc_new w.drew _ _ j
    rw [h1]
    rw [List.flatMap_append] at hj
    have hjl := (List.getElem?_eq_some_iff.1 hj).1
    rw [Array.getElem?_append_left (by simpa using hjl)]
    simpa using hj
   ·refine ⟨fun s hs => by have := (hm.ρnew s _ hs); omega, fun d' j' u hu => ?_⟩
    rcases mv_cases (Γ := Γ) hu with ⟨_, _, e⟩ | ⟨_, e⟩
    ·cases e
     have hjl := (List.getElem?_eq_some_iff.1 hj).1
     rw [flat_length, List.length_append] at hjl
     omega
    ·have := (hm.τnew d' j' _ u e).1; omega
   ·simp only [Array.size_append, List.size_toArray, size_zeroCells, hzs, hsz, flat_length, ← Nat.add_mul]
    congr 1
    omega
  have viaGrow : c < xs.length + ys.length → ∃ v w' nv, (Builtin.append_ #[t, t] ty #[.slice A xs.length c, .slice (some ⟨b2, off2, none⟩) ys.length c2]).run P w = .ok v w' ∧ AppW (Γ := Γ) base μ w w' d tk nv ∧ RowRep base S (mvTok μ d tk nv) w' K e (xs ++ ys) (.tok d 0) v := by
   intro hlt
   cases A with
   | none =>
    have hx0 : xs.length = 0 := by
     rcases Nat.eq_zero_or_pos xs.length with h | h
     ·exact h
     ·obtain ⟨b, off, e, _⟩ := hrd h; cases e
    have hc0 : c = 0 := by
     rcases hcases with h | ⟨_, _, g, _, _, h, _⟩
     ·omega
     ·cases h
    have hxs : xs = [] := List.eq_nil_of_length_eq_zero hx0
    subst hxs
    subst hc0
    have hr := run_append_nil (P := P) w t ty e i z hu hi hz ⟨b2, off2, none⟩ ys.length c2 (ys.flatMap K.enc) hnl hnews hm0 (by simp at hn63; omega) (by rw [hby]; simp at hb; omega)
    obtain ⟨nv, H1, H2⟩ := grown 0 (by simpa using hm0) _ rfl
    simp only [List.flatMap_nil, List.length_nil, Nat.zero_add, Array.empty_append, List.nil_append] at H1 H2
    exact ⟨_, _, nv, hr, H1, H2⟩
   | some ad =>
    have hr := run_append_grow (P := P) w t ty e i z hu hi hz ad xs.length c (xs.flatMap K.enc) hol (holds ad rfl) ⟨b2, off2, none⟩ ys.length c2 (ys.flatMap K.enc) hnl hnews hlt (by omega) (growslice_fits hlt (by rw [hby]; exact hb))
    obtain ⟨nv, H1, H2⟩ := grown c hlt _ rfl
    exact ⟨_, _, nv, hr, H1, H2⟩
  rcases Nat.lt_or_ge c (xs.length + ys.length) with hlt | hroom
  ·exact viaGrow hlt
  ·rcases hcases with h | ⟨dd, j, g, cur, rfl, rfl, h3, h4, h5, h6, h7⟩
   ·omega
   ·-- in place
    have hfit : xs.length * i.size + (ys.flatMap K.enc).length ≤ cur.size := by rw [hnl, h7, hsz, ← Nat.add_mul]; exact Nat.mul_le_mul_right _ hroom
    have hr := run_append_room (P := P) w t ty e i hu hi g xs.length c cur h5 ⟨b2, off2, none⟩ ys.length c2 (ys.flatMap K.enc) hnl hnews (flat_one K ys) hroom hfit
    obtain ⟨f2, f3⟩ := hm.τnew dd j g _ h4
    have hcell : ∀ o, o < xs.length * K.sz → (w.setRow g (cur.toList.take (xs.length * i.size) ++ ys.flatMap K.enc ++ cur.toList.drop (xs.length * i.size + (ys.flatMap K.enc).length)).toArray).cell? ⟨g, o, none⟩ = w.cell? ⟨g, o, none⟩ := by
     intro oo ho
     rw [cell_setRow_same w g oo cur _ e (0, 0) h5, cell_of_row w g oo cur e (0, 0) h5]
     have hlc : xs.length * K.sz ≤ c * K.sz := Nat.mul_le_mul_right _ (by omega)
     have hcl : cur.toList.length = c * K.sz := by rw [← h7]; simp
     rw [hsz, List.append_assoc]
     simp only [List.getElem?_toArray]
     rw [List.getElem?_append_left (by rw [List.length_take, hcl]; exact Nat.lt_min.2 ⟨ho, Nat.lt_of_lt_of_le ho hlc⟩), List.getElem?_take, if_pos ho]
     simp
    have H : AppW (Γ := Γ) base μ w (w.setRow g (cur.toList.take (xs.length * i.size) ++ ys.flatMap K.enc ++ cur.toList.drop (xs.length * i.size + (ys.flatMap K.enc).length)).toArray) d (some (dd, j)) (some (g, (xs.length + ys.length) * K.sz)) := by
     refine ⟨by simp, fun _ hB _ => hB.trans ⟨rfl, rfl, rfl, by simp, fun k hk => setRow_other w g k _ fun e => by omega⟩, fun b oo hb hs => ?_, fun s g' h => setRow_other w g g' _ fun e => f3 s (by rw [h, e]), fun d' j' g' u hp h => setRow_other w g g' _ fun e => ?_, fun g' u e => ?_⟩
     ·by_cases e : b = g
      ·subst e
       exact hcell oo (hs.2 dd j _ h4)
      ·exact setRow_cell e
     ·subst e
      obtain ⟨rfl, rfl⟩ := hm.τinj _ _ _ _ _ _ _ h h4
      have : sameTok (d', j') d' j' = true := by simp [sameTok, Nat.beq_refl]
      simp [pE, hitTok, this] at hp
     ·cases e
      refine ⟨.inl h3, by simpa using f2, f3, fun d' j' u' hp h => ?_, fun b oo hb hs e => ?_⟩
      ·obtain ⟨rfl, rfl⟩ := hm.τinj _ _ _ _ _ _ _ h h4
       have : sameTok (d', j') d' j' = true := by simp [sameTok, Nat.beq_refl]
       simp [pE, hitTok, this] at hp
      ·subst e
       have := hs.2 dd j _ h4
       rw [Nat.add_mul]; omega
    refine ⟨_, _, _, hr, H, some ⟨g, 0, none⟩, c, by simp, by simpa using hroom, by simp only [List.length_append, maxLen]; omega, fun _ => ⟨g, 0, rfl, fun jj v hj => ⟨?_, ?_, fun h => by omega⟩⟩, .inr ⟨g, _, rfl, h3, by rw [mv_new]; simp, setRow_heap w g cur _ e _ h5, h6, ?_⟩⟩
    ·rw [Nat.zero_add]
     rw [List.flatMap_append] at hj
     rw [cell_setRow_same w g jj cur _ e (0, 0) h5]
     have htake : cur.toList.take (xs.length * i.size) = xs.flatMap K.enc := by
      apply List.ext_getElem?
      intro q
      rw [List.getElem?_take]
      by_cases hq : q < xs.length * i.size
      ·rw [if_pos hq]
       have hq' : q < (xs.flatMap K.enc).length := by rw [hol]; exact hq
       have := holds ⟨g, 0, none⟩ rfl q _ (List.getElem?_eq_getElem hq')
       rw [add_plain', Nat.zero_add, cell_of_row w g q cur e (0, 0) h5] at this
       rw [List.getElem?_eq_getElem hq', ← this]
       simp
      ·rw [if_neg hq, List.getElem?_eq_none (by rw [hol]; omega)]
     rw [htake]
     have hjl := (List.getElem?_eq_some_iff.1 hj).1
     simp only [List.getElem?_toArray]
     rw [List.getElem?_append_left hjl]
     exact hj
    ·refine ⟨f3, fun d' j' u hu => ?_⟩
     rcases mv_cases (Γ := Γ) hu with ⟨_, _, e⟩ | ⟨hp, e⟩
     ·cases e
      have hjl := (List.getElem?_eq_some_iff.1 hj).1
      rw [flat_length, List.length_append] at hjl
      omega
     ·obtain ⟨rfl, rfl⟩ := hm.τinj _ _ _ _ _ _ _ e h4
      have : sameTok (d', j') d' j' = true := by simp [sameTok, Nat.beq_refl]
      simp [pE, hitTok, this] at hp
    ·simp only [List.size_toArray, List.length_append, List.length_take, List.length_drop, Array.length_toList]
     rw [← h7]
     omega

theorem app_own {t e bytes : Nat} {i : TypeInfo} {z : Value} (hu : P.underlying t = some (.slice e)) (hi : P.info? e = some i) (hz : i.zero = some z) (hsz : i.size = (Γ.kd e).K.sz) (hby : i.bytes = bytes) (hzs : z.cells.size = i.size) (hb0 : 0 < bytes)
  {μ : Mp} {w : World} (hm : MapsOK base μ w) (hle : base ≤ w.heap.size) {xs ys : List (Γ.kd e).α} {o' : Own} {dd j : Nat} {x y : Value} (hx : CellRep base S μ w (.own e xs dd j : Cell Γ) x) (hy : RowRep base S μ w (Γ.kd e).K e ys o' y)
  (hb : (xs.length + ys.length) * bytes ≤ 140737488355328) (d ty : Nat) :
  ∃ v w' nv, (Builtin.append_ #[t, t] ty #[x, y]).run P w = .ok v w' ∧ AppW (Γ := Γ) base μ w w' d (some (dd, j)) nv ∧ CellRep base S (mvTok μ d (some (dd, j)) nv) w' (.own e (xs ++ ys) d 0 : Cell Γ) v := by
 obtain ⟨A2, c2, rfl, hl3, hl4, hrd2, hown2⟩ := hy
 have hn63 : xs.length + ys.length ≤ 140737488355328 := Nat.le_trans (Nat.le_mul_of_pos_right _ hb0) hb
 have hpos := (Γ.kd e).K.pos
 have hself : ∀ d' j', pE (Γ := Γ) (some d) (.app (some (dd, j))) d' j' = false → ¬ (d' = dd ∧ j' = j) := fun d' j' hp e => by
  obtain ⟨rfl, rfl⟩ := e
  have : sameTok (d', j') d' j' = true := by simp [sameTok, Nat.beq_refl]
  simp [pE, hitTok, this] at hp
 -- nothing new is laid
 have same : ∀ nv : Option (Nat × Nat), (∀ g u, nv = some (g, u) → u = 0 ∧ μ.τ dd j = some (g, 0)) → AppW (Γ := Γ) base μ w w d (some (dd, j)) nv := by
  intro nv hnv
  refine ⟨Nat.le_refl _, fun _ hB _ => hB, fun _ _ _ _ => rfl, fun _ _ _ => rfl, fun _ _ _ _ _ _ => rfl, fun g u e => ?_⟩
  obtain ⟨rfl, h4⟩ := hnv g u e
  obtain ⟨f2, f3⟩ := hm.τnew dd j g _ h4
  refine ⟨.inr ⟨dd, j, 0, h4⟩, f2, f3, fun d' j' u' hp he => hself d' j' hp (hm.τinj _ _ _ _ _ _ _ he h4), fun b oo _ hs e => ?_⟩
  subst e; exact hs.2 dd j _ h4
 rcases Nat.eq_zero_or_pos ys.length with hm0 | hm0
 ·have hys : ys = [] := List.eq_nil_of_length_eq_zero hm0
  subst hys
  have hr : ∀ (A : Option Addr) (n c : Nat), n ≤ c → (Builtin.append_ #[t, t] ty #[.slice A n c, .slice A2 0 c2]).run P w = .ok (.slice A n c) w := by
   intro A n c hl1
   have e1 : (Builtin.firstCells i.size 0 (.slice A2 0 c2)).run P w = .ok #[] w := by
    cases A2 <;> simp [Builtin.firstCells, loadCells, loadCellsFrom]
   cases A <;> simp [Builtin.append_, run_underlying hu, sizeOf, typeInfo, hi, Builtin.lenOf, hl1, e1, storeCells, Result.andThen]
  rw [List.append_nil]
  rcases hx with ⟨rfl, rfl⟩ | ⟨g, cur, h1, h2, h3, h4, c, h5, rfl, h6⟩
  ·exact ⟨_, w, none, hr none 0 0 (Nat.le_refl _), same none (fun g u e => by cases e), .inl ⟨rfl, rfl⟩⟩
  ·exact ⟨_, w, some (g, 0), hr _ _ c h5, same _ (fun g' u e => by cases e; exact ⟨rfl, h1⟩), .inr ⟨g, cur, by rw [mv_new], h2, h3, h4, c, h5, rfl, h6⟩⟩
 ·obtain ⟨b2, off2, rfl, hc2⟩ := hrd2 hm0
  have hnews : ∀ j v, (ys.flatMap (Γ.kd e).K.enc)[j]? = some v → w.cell? ((⟨b2, off2, none⟩ : Addr).add j) = some v := fun j v hj => by rw [add_plain']; exact (hc2 j v hj).1
  have hnl : (ys.flatMap (Γ.kd e).K.enc).length = ys.length * i.size := by rw [flat_length, hsz]
  have hol : (xs.flatMap (Γ.kd e).K.enc).length = xs.length * i.size := by rw [flat_length, hsz]
  have grown : ∀ old : Nat, old < xs.length + ys.length → ∀ w' : World, w' = w.drew.alloc (.cells ((xs.flatMap (Γ.kd e).K.enc).toArray ++ (ys.flatMap (Γ.kd e).K.enc).toArray ++ Builtin.zeroCells z.cells (grownCap w (xs.length + ys.length) old e - (xs.length + ys.length))) e) →
    ∃ nv, AppW (Γ := Γ) base μ w w' d (some (dd, j)) nv ∧ CellRep base S (mvTok μ d (some (dd, j)) nv) w' (.own e (xs ++ ys) d 0 : Cell Γ) (.slice (some ⟨w.heap.size, 0, none⟩) (xs.length + ys.length) (grownCap w (xs.length + ys.length) old e)) := by
   rintro old ho w' rfl
   have hge := grownCap_ge w (xs.length + ys.length) old e
   have hcm : grownCap w (xs.length + ys.length) old e ≤ maxLen := grownCap_le_maxLen w _ old e (by simp only [maxLen]; omega)
   have hB : Below w.heap.size w (w.drew.alloc (.cells ((xs.flatMap (Γ.kd e).K.enc).toArray ++ (ys.flatMap (Γ.kd e).K.enc).toArray ++ Builtin.zeroCells z.cells (grownCap w (xs.length + ys.length) old e - (xs.length + ys.length))) e)) :=
    (Below.refl _ _).drew.alloc (Nat.le_refl _) _
   refine ⟨some (w.heap.size, 0), ?_, ?_⟩
   ·refine ⟨hB.size, fun _ h _ => h.trans (hB.mono hle), fun b o hb _ => hB.cell (p := ⟨b, o, none⟩) hb, fun s g h => hB.block g (hm.ρnew s g h), fun d' j' g u _ h => hB.block g (hm.τnew d' j' g u h).1, fun g u e => ?_⟩
    cases e
    exact ⟨.inl hle, by simp, fun s hs => by have := (hm.ρnew s _ hs); omega, fun d' j' u' _ h => by have := (hm.τnew d' j' _ u' h).1; omega, fun b o hb _ e => by omega⟩
   ·refine .inr ⟨w.heap.size, _, by rw [mv_new], heap_alloc_new w.drew _, ⟨(Builtin.zeroCells z.cells (grownCap w (xs.length + ys.length) old e - (xs.length + ys.length))).toList, ?_⟩, by simp only [List.length_append, maxLen]; omega, grownCap w (xs.length + ys.length) old e, by simpa using hge, by simp, hcm, ?_⟩
    ·simp [List.flatMap_append]
    ·simp only [Array.size_append, List.size_toArray, size_zeroCells, hzs, hsz, flat_length, ← Nat.add_mul]
     congr 1
     omega
  rcases hx with ⟨rfl, rfl⟩ | ⟨g, cur, h1, h2, ⟨rest, h3⟩, h4, c, h5, rfl, h6, h7⟩
  ·have hr := run_append_nil (P := P) w t ty e i z hu hi hz ⟨b2, off2, none⟩ ys.length c2 (ys.flatMap (Γ.kd e).K.enc) hnl hnews hm0 (by simp at hn63; omega) (by rw [hby]; simp at hb; omega)
   obtain ⟨nv, H1, H2⟩ := grown 0 (by simpa using hm0) _ rfl
   simp only [List.flatMap_nil, List.length_nil, Nat.zero_add, Array.empty_append, List.nil_append] at H1 H2
   exact ⟨_, _, nv, hr, H1, H2⟩
  ·have holds : ∀ j v, (xs.flatMap (Γ.kd e).K.enc)[j]? = some v → w.cell? ((⟨g, 0, none⟩ : Addr).add j) = some v := fun j v hj => by
    rw [add_plain', Nat.zero_add, cell_of_row w g j cur e (0, 0) h2]
    have hjl := (List.getElem?_eq_some_iff.1 hj).1
    have := congrArg (fun l => l[j]?) h3
    simp only [List.getElem?_append_left hjl, hj] at this
    simpa using this
   rcases Nat.lt_or_ge c (xs.length + ys.length) with hlt | hroom
   ·have hr := run_append_grow (P := P) w t ty e i z hu hi hz ⟨g, 0, none⟩ xs.length c (xs.flatMap (Γ.kd e).K.enc) hol holds ⟨b2, off2, none⟩ ys.length c2 (ys.flatMap (Γ.kd e).K.enc) hnl hnews hlt (by omega) (growslice_fits hlt (by rw [hby]; exact hb))
    obtain ⟨nv, H1, H2⟩ := grown c hlt _ rfl
    exact ⟨_, _, nv, hr, H1, H2⟩
   ·-- in place
    have hfit : xs.length * i.size + (ys.flatMap (Γ.kd e).K.enc).length ≤ cur.size := by rw [hnl, h7, hsz, ← Nat.add_mul]; exact Nat.mul_le_mul_right _ hroom
    have hr := run_append_room (P := P) w t ty e i hu hi g xs.length c cur h2 ⟨b2, off2, none⟩ ys.length c2 (ys.flatMap (Γ.kd e).K.enc) hnl hnews (flat_one (Γ.kd e).K ys) hroom hfit
    obtain ⟨f2, f3⟩ := hm.τnew dd j g _ h1
    have htake : cur.toList.take (xs.length * i.size) = xs.flatMap (Γ.kd e).K.enc := by rw [h3, ← hol, List.take_left']; rfl
    refine ⟨_, _, some (g, 0), hr, ⟨by simp, fun w0 hB ht => ?_, fun b oo hb hs => setRow_cell fun e => ?_, fun s g' h => setRow_other w g g' _ fun e => f3 s (by rw [h, e]), fun d' j' g' u hp h => setRow_other w g g' _ fun e => ?_, fun g' u e => ?_⟩, .inr ⟨g, _, by rw [mv_new], setRow_heap w g cur _ e _ h2, ⟨cur.toList.drop (xs.length * i.size + (ys.flatMap (Γ.kd e).K.enc).length), ?_⟩, by simp only [List.length_append, maxLen]; omega, c, by simpa using hroom, by simp, h6, ?_⟩⟩
    ·refine ⟨hB.os, hB.tape, hB.output, by simpa using hB.size, fun k hk hs hh => ?_⟩
     rw [setRow_other w g k _ fun e => ?_]
     ·exact hB.block k hk hs hh
     ·subst e
      rcases ht dd j k 0 h1 with h | h
      ·omega
      ·exact hh h
    ·subst e
     have := hs.2 dd j _ h1
     omega
    ·subst e
     exact hself d' j' hp (hm.τinj _ _ _ _ _ _ _ h h1)
    ·cases e
     refine ⟨.inr ⟨dd, j, 0, h1⟩, by simpa using f2, f3, fun d' j' u' hp h => hself d' j' hp (hm.τinj _ _ _ _ _ _ _ h h1), fun b oo hb hs e => ?_⟩
     subst e
     exact hs.2 dd j _ h1
    ·simp only [htake, List.flatMap_append, List.append_assoc]
    ·simp only [List.size_toArray, List.length_append, List.length_take, List.length_drop, Array.length_toList]
     rw [← h7]
     omega

end

section
variable {Γ : Ctx} {P : Program} {base : Nat} {S : Nat → Nat → Prop} {w0 : W0}

def μ0 : Mp := ⟨fun _ => none, fun _ _ => none⟩

def AVsRep (base : Nat) (S : Nat → Nat → Prop) (μ : Mp) (w : World) : List (AV Γ) → List Value → Prop
 | [], [] => True
 | a :: as, y :: ys => AVRep base S μ w a y ∧ AVsRep base S μ w as ys
 | _, _ => False

def resVal : RC → List Value → Value
 | .one _, ys => ys.headD undef
 | .tup _, ys => .tuple ys.toArray

def OutRep (base : Nat) (S : Nat → Nat → Prop) (ρ : Nat → Option Nat) (μc : Mp) (w' : World) : List (Nat × Nat × List LC) → List Nat → List (Cell Γ) → Prop
 | [], [], os => os = []
 | (_, T, ls) :: r, s :: ks, os => (∃ g cur, ρ s = some g ∧ w'.heap[g]? = some (.cells cur T (0, 0)) ∧ CellsRep base S μc w' (os.take ls.length) cur.toList ∧ (os.take ls.length).length = ls.length) ∧ OutRep base S ρ μc w' r ks (os.drop ls.length)
 | _, _, _ => False

def rowIn : List VC → List (AV Γ) → List Value → List (Nat × Nat × Value)
 | .mrow _ :: vs, .f (.c (.own _ _ d j)) :: as, y :: ys => (d, j, y) :: rowIn vs as ys
 | _ :: vs, _ :: as, _ :: ys => rowIn vs as ys
 | _, _, _ => []

def handTok (l : List (Nat × Nat × Value)) (d j : Nat) : Bool := l.any fun x => ((x.1.beq d).and (x.2.1.beq j)).and (match x.2.2 with
 | .slice (some _) _ _ => true
 | _ => false)

def RowOut (base : Nat) (S : Nat → Nat → Prop) (μ μc : Mp) (w' : World) : List VC → List (AV Γ) → List Value → List (Cell Γ) → Prop
 | [], _, _, us => us = []
 | .mrow e :: vs, .f (.c (.own _ _ d j)) :: as, y :: ys, us => (∃ zs a b rest, us = .own e zs a b :: rest ∧ CellRep base S μc w' (.own e zs a b : Cell Γ) y ∧ CellRep base S μ w' (.own e zs d j : Cell Γ) y ∧ RowOut base S μ μc w' vs as ys rest)
 | .mrow _ :: _, _, _, _ => False
 | _ :: vs, _ :: as, _ :: ys, us => RowOut base S μ μc w' vs as ys us
 | _, _, _, _ => False

def handOf (μ : Mp) (g : Nat) : Prop := ∃ d j u, μ.τ d j = some (g, u)

def ResOK (Γ : Ctx) (S : Nat → Nat → Prop) (μi : Mp) (ks : List Nat) (w w' : World) (rc : RC) (args : List VC) (ins : List (AV Γ)) (vals : List Value) (y : PT Γ (rc.ls ++ outLs args)) (v : Value) : Prop :=
 ∃ (μ : Mp) (avs : List (AV Γ)) (ys : List Value) (cs os us : List (Cell Γ)), MapsOK w.heap.size μ w' ∧ (∀ d j g u, μ.τ d j = some (g, u) → w.heap.size ≤ g ∨ handOf μi g) ∧ AVsRep w.heap.size S μ w' avs ys ∧ argCells rc.vcs avs = some cs ∧ OutRep w.heap.size S μi.ρ μ w' (mutsOf args) ks os ∧ RowOut w.heap.size S μi μ w' args ins vals us ∧
  toksOK (rc.ls ++ outLs args) (cs ++ (os ++ us)) [] = true ∧ decLeaves (rc.ls ++ outLs args) (cs ++ (os ++ us)) = some y ∧ v = resVal rc ys

structure InOK (w : World) (μ : Mp) (ks : List Nat) (ts : List (Nat × Nat)) (l : List (Nat × Nat × Value)) : Prop where
 nodup : nodupB ks = true
 nodupT : nodupT ts = true
 ρinj : ∀ s s' g, μ.ρ s = some g → μ.ρ s' = some g → s = s'
 ρlt : ∀ s g, μ.ρ s = some g → g < w.heap.size
 ρin : ∀ s g, μ.ρ s = some g → s ∈ ks
 τlt : ∀ d j g u, μ.τ d j = some (g, u) → g < w.heap.size ∧ ∀ s, μ.ρ s ≠ some g
 τinj : ∀ d j d' j' g u u', μ.τ d j = some (g, u) → μ.τ d' j' = some (g, u') → d = d' ∧ j = j'
 τin : ∀ d j v, μ.τ d j = some v → handTok l d j = true

structure LwOK (Γ : Ctx) (w : World) (μ : Mp) : Prop where
 lw : Γ.lw w
 ρ : ∀ s g, μ.ρ s = some g → Γ.n0 ≤ g
 τ : ∀ d j g u, μ.τ d j = some (g, u) → Γ.n0 ≤ g

structure EntOK (P : Program) (e : Ent Γ) : Prop where
 res : e.res.ok = true
 fn : ∃ fn, P.funcs[e.f]? = some fn ∧ (fn.name == "runtime.NumGoroutine") = false ∧ fn.body.isNone = false
 calls : ∀ (S : Nat → Nat → Prop) (w : World) (μ : Mp) (bx : Bx Γ) (avs : List (AV Γ)) (vals : List Value) (cs : List (Cell Γ)) (x : PT Γ (e.args.flatMap VC.ls)) (y : PT Γ e.ol), LwOK Γ w μ → InOK w μ (inKeys e.args avs) (inToks e.args avs) (rowIn e.args avs vals) →
  (∀ s T cs, bxGet bx s = some (T, cs) → BoxRep w.heap.size S μ w s T cs) → argsIn bx e.args avs = some cs → noOwnRow (e.args.flatMap VC.ls) cs = true → decLeaves (e.args.flatMap VC.ls) cs = some x → e.fn x = some y →
  AVsRep w.heap.size S μ w avs vals → Calls P e.f vals.toArray w fun en w' => ∃ v, en = .returned v ∧ Bel w.heap.size ⟨w, μ.ρ, handOf μ, fun _ => none⟩ w' ∧ ResOK Γ S μ (inKeys e.args avs) w w' e.res e.args avs vals y v


def viewS (fl : Bool) (base : Nat) (S : Nat → Nat → Prop) (μ : Mp) (b o : Nat) : Prop := fl = false → (b < base → S b o) ∧ Stable base μ b o

def μv (μ : Mp) (ks : List Nat) (l : List (Nat × Nat × Value)) : Mp := ⟨fun s => bif hasKey ks s then μ.ρ s else none, fun d j => bif handTok l d j then μ.τ d j else none⟩

theorem hasKey_mem {ks : List Nat} {s : Nat} : hasKey ks s = true ↔ s ∈ ks := by
 induction ks with
 | nil => simp [hasKey]
 | cons x ks ih =>
  simp only [hasKey, List.any_cons, Bool.or_eq_true, List.mem_cons] at ih ⊢
  rw [ih]
  constructor
  ·rintro (h | h)
   ·exact .inl (Nat.eq_of_beq_eq_true h)
   ·exact .inr h
  ·rintro (h | h)
   ·exact .inl (by rw [h, Nat.beq_refl])
   ·exact .inr h

theorem μv_ρ {μ : Mp} {ks : List Nat} {l : List (Nat × Nat × Value)} {s g : Nat} (h : (μv μ ks l).ρ s = some g) : s ∈ ks ∧ μ.ρ s = some g := by
 simp only [μv] at h
 cases hk : hasKey ks s with
 | false => rw [hk] at h; cases h
 | true => rw [hk] at h; exact ⟨hasKey_mem.1 hk, h⟩

theorem μv_τ {μ : Mp} {ks : List Nat} {l : List (Nat × Nat × Value)} {d j : Nat} {v : Nat × Nat} (h : (μv μ ks l).τ d j = some v) : handTok l d j = true ∧ μ.τ d j = some v := by
 simp only [μv] at h
 cases hk : handTok l d j with
 | false => rw [hk] at h; cases h
 | true => rw [hk] at h; exact ⟨rfl, h⟩

theorem Stable.view {n : Nat} {μ : Mp} {ks : List Nat} {l : List (Nat × Nat × Value)} {b o : Nat} (h : Stable base μ b o) : Stable n (μv μ ks l) b o :=
 ⟨fun s e => h.1 s (μv_ρ e).2, fun d j u e => h.2 d j u (μv_τ e).2⟩

theorem CellRep.view {fl : Bool} {μ : Mp} {ks : List Nat} {l : List (Nat × Nat × Value)} (hl : fl = true → l = []) {w : World} (hm : MapsOK base μ w) {c : Cell Γ} {y : Value} (h : CellRep base S μ w c y) : CellRep w.heap.size (viewS fl base S μ) (μv μ ks l) w (viewCell fl c) y := by
 have key : ∀ (e : Nat) (xs : List (Γ.kd e).α) (o o' : Own), (∀ A c, OwnRep base μ w e (Γ.kd e).K.sz A xs.length c o → OwnRep w.heap.size (μv μ ks l) w e (Γ.kd e).K.sz A xs.length c o') → RowRep base S μ w (Γ.kd e).K e xs o y → RowRep w.heap.size (viewS fl base S μ) (μv μ ks l) w (Γ.kd e).K e xs o' y := by
  rintro e xs o o' ho ⟨A, c, rfl, h1, h2, h3, h4⟩
  refine ⟨A, c, rfl, h1, h2, fun hn => ?_, ho A c h4⟩
  obtain ⟨b, off, rfl, hc⟩ := h3 hn
  refine ⟨b, off, rfl, fun j v hj => ?_⟩
  obtain ⟨f1, f2, f3⟩ := hc j v hj
  exact ⟨f1, f2.view, fun _ _ => ⟨f3, f2⟩⟩
 cases c with
 | u => trivial
 | v x => exact h
 | bb b q i hh => exact h
 | nb b q i hh => exact h
 | fn f => exact h
 | own e xs d j =>
  cases fl with
  | false => trivial
  | true =>
   obtain rfl := hl rfl
   rcases h with ⟨rfl, rfl⟩ | ⟨g, cur, h1, h2, ⟨rest, h3⟩, h4, c, h5, rfl, h6⟩
   ·exact ⟨none, 0, rfl, Nat.le_refl _, Nat.zero_le _, fun hn => by simp at hn, trivial⟩
   ·refine ⟨_, c, rfl, h5, h4, fun hn => ⟨g, 0, rfl, fun jj v hj => ⟨?_, ⟨fun s e => ?_, fun d' j' u e => ?_⟩, fun _ e => by cases e⟩⟩, trivial⟩
    ·rw [cell_of_row w g _ cur e (0, 0) h2, Nat.zero_add, ← Array.getElem?_toList, h3]
     rw [List.getElem?_append_left (List.getElem?_eq_some_iff.1 hj).1]; exact hj
    ·exact (hm.τnew d j g 0 h1).2 s (μv_ρ e).2
    ·have := (μv_τ e).1
     cases this
 | row e xs o =>
  cases o with
  | ro => exact key e xs .ro .ro (fun _ _ _ => trivial) h
  | full => exact key e xs .full .full (fun _ _ h => h) h
  | nil => exact key e xs .nil .nil (fun _ _ h => h) h
  | tok d j => exact key e xs (.tok d j) .ro (fun _ _ _ => trivial) h

theorem CellRep.hand {fl : Bool} {μ : Mp} {ks : List Nat} {l : List (Nat × Nat × Value)} {w : World} {c : Cell Γ} {y : Value} (h : CellRep base S μ w c y) : CellRep w.heap.size (viewS fl base S μ) (μv μ ks l) w (roCell (fun _ _ => true) c) y := by
 have key : ∀ (e : Nat) (xs : List (Γ.kd e).α) (o o' : Own), (∀ A c, OwnRep base μ w e (Γ.kd e).K.sz A xs.length c o → OwnRep w.heap.size (μv μ ks l) w e (Γ.kd e).K.sz A xs.length c o') → RowRep base S μ w (Γ.kd e).K e xs o y → RowRep w.heap.size (viewS fl base S μ) (μv μ ks l) w (Γ.kd e).K e xs o' y := by
  rintro e xs o o' ho ⟨A, c, rfl, h1, h2, h3, h4⟩
  refine ⟨A, c, rfl, h1, h2, fun hn => ?_, ho A c h4⟩
  obtain ⟨b, off, rfl, hc⟩ := h3 hn
  refine ⟨b, off, rfl, fun j v hj => ?_⟩
  obtain ⟨f1, f2, f3⟩ := hc j v hj
  exact ⟨f1, f2.view, fun _ _ => ⟨f3, f2⟩⟩
 cases c with
 | u => trivial
 | v x => exact h
 | bb b q i hh => exact h
 | nb b q i hh => exact h
 | fn f => exact h
 | own e xs d j => trivial
 | row e xs o =>
  cases o with
  | ro => exact key e xs .ro .ro (fun _ _ _ => trivial) h
  | full => exact key e xs .full .full (fun _ _ h => h) h
  | nil => exact key e xs .nil .nil (fun _ _ h => h) h
  | tok d j => exact key e xs (.tok d j) .ro (fun _ _ _ => trivial) h

theorem CellsRep.hand {fl : Bool} {μ : Mp} {ks : List Nat} {l : List (Nat × Nat × Value)} {w : World} : ∀ {cs : List (Cell Γ)} {vs : List Value}, CellsRep base S μ w cs vs → CellsRep w.heap.size (viewS fl base S μ) (μv μ ks l) w (cs.map (roCell fun _ _ => true)) vs
 | [], [], _ => trivial
 | _ :: _, _ :: _, h => ⟨h.1.hand, CellsRep.hand h.2⟩
 | [], _ :: _, h => h.elim
 | _ :: _, [], h => h.elim

section
variable {fl : Bool} {μ : Mp} {ks : List Nat} {l : List (Nat × Nat × Value)} (hl : fl = true → l = []) {w : World} (hmm : MapsOK base μ w)
include hl hmm

theorem CellsRep.view : ∀ {cs : List (Cell Γ)} {vs : List Value}, CellsRep base S μ w cs vs → CellsRep w.heap.size (viewS fl base S μ) (μv μ ks l) w (cs.map (viewCell fl)) vs
 | [], [], _ => trivial
 | _ :: _, _ :: _, h => ⟨h.1.view hl hmm, CellsRep.view h.2⟩
 | [], _ :: _, h => h.elim
 | _ :: _, [], h => h.elim

theorem FVRep.view {x : FV Γ} {y : Value} (h : FVRep base S μ w x y) : FVRep w.heap.size (viewS fl base S μ) (μv μ ks l) w (viewFV fl x) y := by
 cases x with
 | c x => exact CellRep.view hl hmm h
 | agg cs => obtain ⟨vs, rfl, h⟩ := h; exact ⟨vs, rfl, h.view hl hmm⟩

theorem FVsRep.view : ∀ {cs : List (FV Γ)} {vs : List Value}, FVsRep base S μ w cs vs → FVsRep w.heap.size (viewS fl base S μ) (μv μ ks l) w (cs.map (viewFV fl)) vs
 | [], [], _ => trivial
 | _ :: _, _ :: _, h => ⟨h.1.view hl hmm, FVsRep.view h.2⟩
 | [], _ :: _, h => h.elim
 | _ :: _, [], h => h.elim

theorem viewPt_rep {bx : Bx Γ} (hm : ∀ s s' g, μ.ρ s = some g → μ.ρ s' = some g → s = s') (hb : ∀ s T cs, bxGet bx s = some (T, cs) → hasKey ks s = false ∧ BoxRep base S μ w s T cs) {q r : Pt Γ} {y : Value} (h : PtRep base S μ w q y) (hr : viewPt fl bx q = some r) : PtRep w.heap.size (viewS fl base S μ) (μv μ ks l) w r y := by
 cases q with
 | box s o =>
  obtain ⟨g, hg, rfl⟩ := h
  simp only [viewPt] at hr
  split at hr
  ·rename_i T cs he
   cases hr
   obtain ⟨hk, hbr⟩ := hb s T cs he
   obtain ⟨g', hg', hc⟩ := hbr.cells o
   obtain rfl : g = g' := by rw [hg] at hg'; injection hg'
   refine ⟨g, o, rfl, fun j c hj => ?_⟩
   rw [List.getElem?_map] at hj
   obtain ⟨c', hc', rfl⟩ := Option.map_eq_some_iff.1 hj
   obtain ⟨v, f1, f2⟩ := hc j c' hc'
   refine ⟨v, f1, f2.view hl hmm, ⟨fun s' e => ?_, fun d j u e => absurd hg ((hmm.τnew d j g u (μv_τ e).2).2 s)⟩, lt_of_cell f1⟩
   obtain ⟨e1, e2⟩ := μv_ρ e
   obtain rfl := hm s s' g hg e2
   rw [hasKey_mem.2 e1] at hk
   cases hk
  ·cases hr
 | ref cs =>
  obtain ⟨b, off, rfl, hc⟩ := h
  cases hr
  refine ⟨b, off, rfl, fun j c hj => ?_⟩
  rw [List.getElem?_map] at hj
  obtain ⟨c', hc', rfl⟩ := Option.map_eq_some_iff.1 hj
  obtain ⟨v, f1, f2, f3, f4⟩ := hc j c' hc'
  exact ⟨v, f1, f2.view hl hmm, f3.view, f4⟩
 | ix s o e xs n => cases hr
 | el e xs d j i o => cases hr
 | un => cases hr

theorem viewPts_rep {bx : Bx Γ} (hm : ∀ s s' g, μ.ρ s = some g → μ.ρ s' = some g → s = s') (hb : ∀ s T cs, bxGet bx s = some (T, cs) → hasKey ks s = false ∧ BoxRep base S μ w s T cs) : ∀ {qs rs : List (Pt Γ)} {ys : List Value}, PtsRep base S μ w qs ys → viewPts fl bx qs = some rs → PtsRep w.heap.size (viewS fl base S μ) (μv μ ks l) w rs ys
 | [], rs, [], _, h => by cases h; trivial
 | q :: qs, rs, y :: ys, hp, h => by
  simp only [viewPts] at h
  split at h
  ·rename_i r hr
   split at h
   ·rename_i rs' hrs
    cases h
    exact ⟨viewPt_rep hl hmm hm hb hp.1 hr, viewPts_rep hm hb hp.2 hrs⟩
   ·cases h
  ·cases h
 | [], _, _ :: _, hp, _ => hp.elim
 | _ :: _, _, [], hp, _ => hp.elim

theorem viewAV_rep {bx : Bx Γ} (hm : ∀ s s' g, μ.ρ s = some g → μ.ρ s' = some g → s = s') (hb : ∀ s T cs, bxGet bx s = some (T, cs) → hasKey ks s = false ∧ BoxRep base S μ w s T cs) {a : AV Γ} {y : Value} (h : AVRep base S μ w a y) : AVRep w.heap.size (viewS fl base S μ) (μv μ ks l) w (viewAV fl bx a) y := by
 cases a with
 | u => trivial
 | f x => exact FVRep.view hl hmm h
 | tup z => obtain ⟨vs, rfl, h⟩ := h; exact ⟨vs, rfl, h.view hl hmm⟩
 | p q =>
  simp only [viewAV]
  split
  ·rename_i r hr; exact viewPt_rep hl hmm hm hb h hr
  ·trivial
 | clo f qs =>
  simp only [viewAV]
  split
  ·rename_i rs hr; obtain ⟨vs, rfl, h⟩ := h; exact ⟨vs, rfl, viewPts_rep hl hmm hm hb h hr⟩
  ·trivial

end

theorem AVsRep.append {μ : Mp} {w : World} : ∀ {as as' : List (AV Γ)} {ys ys' : List Value}, AVsRep base S μ w as ys → AVsRep base S μ w as' ys' → AVsRep base S μ w (as ++ as') (ys ++ ys')
 | [], _, [], _, _, h => h
 | _ :: _, _, _ :: _, _, h, h' => ⟨h.1, AVsRep.append h.2 h'⟩
 | [], _, _ :: _, _, h, _ => h.elim
 | _ :: _, _, [], _, h, _ => h.elim


def valsOf : List VC → List Value → List Value
 | [], _ => []
 | .c _ :: r, v :: vs => v :: valsOf r vs
 | .c _ :: _, [] => []
 | v :: r, vs => .agg (vs.take v.n).toArray :: valsOf r (vs.drop v.n)

theorem avCells_c {l : LC} {a : AV Γ} {cs : List (Cell Γ)} (h : avCells (.c l) a = some cs) : ∃ x, a = .f (.c x) ∧ cs = [x] := by
 cases a with
 | f x =>
  cases x with
  | c x => simp [avCells] at h; exact ⟨x, rfl, h.symm⟩
  | agg cs => simp [avCells] at h
 | _ => simp [avCells] at h

theorem avCells_agg {ls : List LC} {a : AV Γ} {cs : List (Cell Γ)} (h : avCells (.agg ls) a = some cs) : a = .f (.agg cs) ∧ cs.length = ls.length := by
 cases a with
 | f x =>
  cases x with
  | c x => simp [avCells] at h
  | agg cs' =>
   simp only [avCells] at h
   cases hl : cs'.length.beq ls.length with
   | false => simp [hl] at h
   | true =>
    simp only [hl, cond_true] at h
    cases h
    exact ⟨rfl, Nat.eq_of_beq_eq_true hl⟩
 | _ => simp [avCells] at h

theorem args_cells {μ : Mp} {w : World} : ∀ (vcs : List VC) (avs : List (AV Γ)) (ys : List Value) (cs : List (Cell Γ)), vcs.all VC.plain = true → argCells vcs avs = some cs → AVsRep base S μ w avs ys →
  ∃ vs, CellsRep base S μ w cs vs ∧ ys = valsOf vcs vs ∧ cs.length = (vcs.flatMap VC.ls).length
 | [], [], [], cs, _, h, _ => by simp [argCells] at h; subst h; exact ⟨[], trivial, rfl, rfl⟩
 | v :: vcs, a :: avs, y :: ys, cs, hp, h, hr => by
  simp only [List.all_cons, Bool.and_eq_true] at hp
  simp only [argCells] at h
  split at h
  ·rename_i cs1 h1
   split at h
   ·rename_i cs2 h2
    cases h
    obtain ⟨vs2, e1, e2, e3⟩ := args_cells vcs avs ys cs2 hp.2 h2 hr.2
    cases v with
    | c l =>
     obtain ⟨x, rfl, rfl⟩ := avCells_c h1
     exact ⟨y :: vs2, ⟨hr.1, e1⟩, by simp only [valsOf, e2], by simp [VC.ls, e3, Nat.add_comm]⟩
    | agg ls =>
     obtain ⟨rfl, hlen⟩ := avCells_agg h1
     obtain ⟨us, rfl, hc⟩ := hr.1
     have hlu := hc.length
     refine ⟨us ++ vs2, hc.append e1, ?_, by simp [VC.ls, e3, hlen]⟩
     simp only [valsOf, VC.n]
     rw [List.take_left' (by omega), List.drop_left' (by omega), e2]
    | clo f caps => simp [VC.plain] at hp
    | ref ls => simp [VC.plain] at hp
    | wr k T ls => simp [VC.plain] at hp
    | mrow e => simp [VC.plain] at hp
   ·cases h
  ·cases h
 | [], _ :: _, _, _, _, h, _ => by simp [argCells] at h
 | _ :: _, [], _, _, _, h, _ => by simp [argCells] at h
 | [], [], _ :: _, _, _, _, hr => hr.elim
 | _ :: _, _ :: _, [], _, _, _, hr => hr.elim

theorem fvs_rep {μ : Mp} {w : World} : ∀ (vcs : List VC) (cs : List (Cell Γ)) (vs : List Value), vcs.all VC.plain = true → CellsRep base S μ w cs vs → (vcs.flatMap VC.ls).length ≤ cs.length → FVsRep base S μ w (fvsOf vcs cs) (valsOf vcs vs)
 | [], _, _, _, _, _ => trivial
 | .c l :: vcs, c :: cs, v :: vs, hp, h, hl => by
  simp only [List.all_cons, Bool.and_eq_true] at hp
  exact ⟨h.1, fvs_rep vcs cs vs hp.2 h.2 (by rw [List.flatMap_cons, List.length_append, List.length_cons] at hl; simp only [VC.ls, List.length_cons, List.length_nil] at hl; omega)⟩
 | .c l :: vcs, [], _, _, _, hl => by rw [List.flatMap_cons, List.length_append] at hl; simp only [VC.ls, List.length_cons, List.length_nil] at hl; omega
 | .c l :: vcs, _ :: _, [], _, h, _ => h.elim
 | .agg ls :: vcs, cs, vs, hp, h, hl => by
  simp only [List.all_cons, Bool.and_eq_true] at hp
  refine ⟨⟨vs.take ls.length, rfl, h.take _⟩, fvs_rep vcs _ _ hp.2 (h.drop _) ?_⟩
  rw [List.flatMap_cons, List.length_append] at hl; simp only [VC.ls, VC.n, List.length_drop] at hl ⊢; omega
 | .clo _ _ :: _, _, _, hp, _, _ => by simp [VC.plain] at hp
 | .ref _ :: _, _, _, hp, _, _ => by simp [VC.plain] at hp
 | .wr _ _ _ :: _, _, _, hp, _, _ => by simp [VC.plain] at hp
 | .mrow _ :: _, _, _, hp, _, _ => by simp [VC.plain] at hp

theorem valsOf_append : ∀ (vcs : List VC) (vs us : List Value), vcs.all VC.plain = true → vs.length = (vcs.flatMap VC.ls).length → valsOf vcs (vs ++ us) = valsOf vcs vs
 | [], _, _, _, _ => rfl
 | .c l :: vcs, v :: vs, us, hp, hl => by
  simp only [List.all_cons, Bool.and_eq_true] at hp
  simp only [List.cons_append, valsOf]
  rw [valsOf_append vcs vs us hp.2 (by rw [List.flatMap_cons, List.length_append, List.length_cons] at hl; simp only [VC.ls, List.length_cons, List.length_nil] at hl; omega)]
 | .c l :: vcs, [], _, _, hl => by rw [List.flatMap_cons, List.length_append] at hl; simp only [VC.ls, List.length_cons, List.length_nil] at hl; omega
 | .agg ls :: vcs, vs, us, hp, hl => by
  simp only [List.all_cons, Bool.and_eq_true] at hp
  rw [List.flatMap_cons, List.length_append] at hl
  simp only [VC.ls] at hl
  simp only [valsOf, VC.n]
  rw [List.take_append_of_le_length (by omega), List.drop_append_of_le_length (by omega), valsOf_append vcs _ us hp.2 (by simp only [List.length_drop]; omega)]
 | .clo _ _ :: _, _, _, hp, _ => by simp [VC.plain] at hp
 | .ref _ :: _, _, _, hp, _ => by simp [VC.plain] at hp
 | .wr _ _ _ :: _, _, _, hp, _ => by simp [VC.plain] at hp

def OutBack (base : Nat) (S : Nat → Nat → Prop) (μ : Mp) (w : World) : List (Nat × Nat × List LC) → List Nat → List (Cell Γ) → Prop
 | [], [], _ => True
 | (_, T, ls) :: r, s :: ks, cs => BoxRep base S μ w s T (cs.take ls.length) ∧ OutBack base S μ w r ks (cs.drop ls.length)
 | _, _, _ => False

theorem out_cells {base' : Nat} {S' : Nat → Nat → Prop} {ρ : Nat → Option Nat} {μc : Mp} {w' : World} : ∀ {ms : List (Nat × Nat × List LC)} {ks : List Nat} {os : List (Cell Γ)}, OutRep base' S' ρ μc w' ms ks os →
  ∃ us, CellsRep base' S' μc w' os us ∧ os.length = (ms.flatMap fun x => x.2.2).length ∧ ∀ (μ : Mp) (cs2 : List (Cell Γ)), (∀ s g, ρ s = some g → μ.ρ s = some g) → CellsRep base S μ w' cs2 us → OutBack base S μ w' ms ks cs2
 | [], [], os, h => by
  obtain rfl : os = [] := h
  exact ⟨[], trivial, rfl, fun _ _ _ _ => trivial⟩
 | (k, T, ls) :: ms, s :: ks, os, h => by
  obtain ⟨⟨g, cur, h1, h2, h3, h4⟩, h5⟩ := h
  obtain ⟨us, g1, g2, g3⟩ := out_cells h5
  refine ⟨cur.toList ++ us, ?_, ?_, fun μ cs2 hρ hc => ?_⟩
  ·have := h3.append g1
   rwa [List.take_append_drop] at this
  ·simp only [List.flatMap_cons, List.length_append, ← g2, List.length_drop]
   have : ls.length ≤ os.length := by rw [List.length_take] at h4; omega
   omega
  ·have hl : cur.toList.length = ls.length := by rw [← h3.length, h4]
   have ht := hc.take ls.length
   have hd := hc.drop ls.length
   rw [List.take_left' hl] at ht
   rw [List.drop_left' hl] at hd
   exact ⟨⟨g, cur, hρ s g h1, h2, ht⟩, g3 μ _ hρ hd⟩
 | [], _ :: _, _, h => h.elim
 | _ :: _, [], _, h => h.elim

def newTok (μc : Mp) (ls : List LC) (cs : List (Cell Γ)) (j : Nat) : Option (Nat × Nat) :=
 match ls[j]?, cs[j]? with
 | some (.row _ true), some (.row _ _ (.tok a b)) => μc.τ a b
 | some (.own _), some (.own _ _ a b) => μc.τ a b
 | _, _ => none

def backMp (μ μc : Mp) (d : Nat) (ls : List LC) (cs : List (Cell Γ)) : Mp := ⟨μ.ρ, fun d' j' => bif d.beq d' then newTok μc ls cs j' else μ.τ d' j'⟩

def Tok1 (l : LC) (c : Cell Γ) (a b : Nat) : Prop := (∃ (e e' : Nat) (xs : List (Γ.kd e').α), l = .row e true ∧ c = .row e' xs (.tok a b)) ∨ ∃ (e : Nat) (xs : List (Γ.kd e).α), c = .own e xs a b

def TokAt (ls : List LC) (cs : List (Cell Γ)) (j a b : Nat) : Prop := ∃ l c, ls[j]? = some l ∧ cs[j]? = some c ∧ Tok1 l c a b

theorem newTok_inv {μc : Mp} {ls : List LC} {cs : List (Cell Γ)} {j : Nat} {v : Nat × Nat} (h : newTok μc ls cs j = some v) : ∃ a b, TokAt ls cs j a b ∧ μc.τ a b = some v := by
 unfold newTok at h
 split at h
 ·rename_i e e' xs a b h1 h2; exact ⟨a, b, ⟨_, _, h1, h2, .inl ⟨e, e', xs, rfl, rfl⟩⟩, h⟩
 ·rename_i e e' xs a b h1 h2; exact ⟨a, b, ⟨_, _, h1, h2, .inr ⟨e', xs, rfl⟩⟩, h⟩
 ·cases h

theorem newTok_freed {μc : Mp} {ls : List LC} {cs : List (Cell Γ)} {j e e' a b : Nat} {q : Bool} {xs : List (Γ.kd e').α} (h1 : ls[j]? = some (.row e q)) (h2 : cs[j]? = some (.own e' xs a b)) : newTok μc ls cs j = none := by
 unfold newTok
 rw [h1, h2]
 cases q <;> rfl

theorem tokStep_inv {l : LC} {c : Cell Γ} {seen s : List (Nat × Nat)} (h : tokStep l c seen = some s) :
  (∀ x ∈ seen, x ∈ s) ∧ ∀ (a b : Nat), Tok1 l c a b → (a, b) ∈ s ∧ (a, b) ∉ seen := by
 have main : ∀ d j, (bif seen.any fun x => (x.1.beq d).and (x.2.beq j) then none else some ((d, j) :: seen)) = some s → (∀ x ∈ seen, x ∈ s) ∧ (d, j) ∈ s ∧ (d, j) ∉ seen := fun d j h => by
  cases ha : seen.any fun x => (x.1.beq d).and (x.2.beq j) with
  | true => simp [ha] at h
  | false =>
   simp only [ha, cond_false] at h
   cases h
   refine ⟨fun x hx => List.mem_cons_of_mem _ hx, List.mem_cons_self, fun hm => ?_⟩
   rw [List.any_eq_false] at ha
   have := ha _ hm
   simp [Nat.beq_refl] at this
 unfold tokStep at h
 split at h
 ·rename_i e e' xs d j
  obtain ⟨h1, h2⟩ := main d j h
  refine ⟨h1, fun a b ht => ?_⟩
  rcases ht with ⟨_, _, _, _, e2⟩ | ⟨_, _, e2⟩
  ·cases e2; exact h2
  ·cases e2
 ·rename_i e xs d j
  obtain ⟨h1, h2⟩ := main d j h
  refine ⟨h1, fun a b ht => ?_⟩
  rcases ht with ⟨_, _, _, _, e2⟩ | ⟨_, _, e2⟩
  ·cases e2
  ·cases e2; exact h2
 ·rename_i hno2 hno1
  cases h
  refine ⟨fun x hx => hx, fun a b ht => ?_⟩
  rcases ht with ⟨_, _, _, e1, e2⟩ | ⟨_, _, e2⟩
  ·exact (hno1 _ _ _ _ _ e1 e2).elim
  ·exact (hno2 _ _ _ _ e2).elim

theorem toks_cons {l : LC} {ls : List LC} {c : Cell Γ} {cs : List (Cell Γ)} {seen : List (Nat × Nat)} (h : toksOK (l :: ls) (c :: cs) seen = true) : ∃ s, tokStep l c seen = some s ∧ toksOK ls cs s = true := by
 simp only [toksOK] at h
 split at h
 ·exact ⟨_, by assumption, h⟩
 ·cases h

theorem TokAt.succ {l : LC} {ls : List LC} {c : Cell Γ} {cs : List (Cell Γ)} {j a b : Nat} (h : TokAt (l :: ls) (c :: cs) (j + 1) a b) : TokAt ls cs j a b := by
 obtain ⟨l', c', h1, h2, h3⟩ := h
 exact ⟨l', c', by simpa using h1, by simpa using h2, h3⟩

theorem TokAt.zero {l : LC} {ls : List LC} {c : Cell Γ} {cs : List (Cell Γ)} {a b : Nat} (h : TokAt (l :: ls) (c :: cs) 0 a b) : Tok1 l c a b := by
 obtain ⟨l', c', h1, h2, h3⟩ := h
 simp at h1 h2
 subst h1 h2
 exact h3

theorem toks_seen : ∀ (ls : List LC) (cs : List (Cell Γ)) (seen : List (Nat × Nat)), toksOK ls cs seen = true → ∀ (j a b : Nat), TokAt ls cs j a b → (a, b) ∉ seen
 | [], _, _, _, j, _, _, ⟨_, _, h1, _⟩ => by simp at h1
 | _ :: _, [], _, _, j, _, _, ⟨_, _, _, h2, _⟩ => by simp at h2
 | l :: ls, c :: cs, seen, h, j, a, b, ht => by
  obtain ⟨s, hs, hk⟩ := toks_cons h
  obtain ⟨i1, i2⟩ := tokStep_inv hs
  cases j with
  | zero => exact (i2 _ _ ht.zero).2
  | succ j => exact fun hm => toks_seen ls cs s hk j a b ht.succ (i1 _ hm)

theorem toks_inj : ∀ (ls : List LC) (cs : List (Cell Γ)) (seen : List (Nat × Nat)), toksOK ls cs seen = true → ∀ (j j' a b : Nat), TokAt ls cs j a b → TokAt ls cs j' a b → j = j'
 | [], _, _, _, j, _, _, _, ⟨_, _, h1, _⟩, _ => by simp at h1
 | _ :: _, [], _, _, j, _, _, _, ⟨_, _, _, h2, _⟩, _ => by simp at h2
 | l :: ls, c :: cs, seen, h, j, j', a, b, h1, h2 => by
  obtain ⟨s, hs, hk⟩ := toks_cons h
  obtain ⟨i1, i2⟩ := tokStep_inv hs
  cases j with
  | zero =>
   cases j' with
   | zero => rfl
   | succ j' => exact absurd (i2 _ _ h1.zero).1 (toks_seen ls cs s hk j' a b h2.succ)
  | succ j =>
   cases j' with
   | zero => exact absurd (i2 _ _ h2.zero).1 (toks_seen ls cs s hk j a b h1.succ)
   | succ j' => exact congrArg (· + 1) (toks_inj ls cs s hk j j' a b h1.succ h2.succ)

end

end Go.Refl
