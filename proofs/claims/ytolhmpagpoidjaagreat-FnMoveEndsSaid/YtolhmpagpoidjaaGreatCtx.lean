import Derived.Test.YtolhmpagpoidjaaGreatPAx0
import Derived.KernelRfl
import Derived.Test.YtolhmpagpoidjaaGreatRefl
set_option autoImplicit false
set_option linter.unusedVariables false
set_option linter.unusedSimpArgs false
namespace Go.Proofs.YtolhmpagpoidjaaGreat.PA
open Go.RowKit Go.Proofs.YtolhmpagpoidjaaGreatW.PrintWords Go.Proofs.YtolhmpagpoidjaaGreatW.PrintLast Go.Proofs.YtolhmpagpoidjaaGreatW.PrintMore
abbrev rkInt := Refl.rkInt
def rkStr : Refl.RK ByteArray where
 sz := 1
 enc x := [.string x]
 dec | [.string x] => some x
     | _ => none
 d := ⟨#[]⟩
 pos := by decide
 len _ := rfl
 one := by intro x v h; simp at h; subst h; rfl
 de := by
  intro c x h
  split at h
  · cases h; rfl
  · cases h
def rkBool : Refl.RK Bool where
 sz := 1
 enc x := [.bool x]
 dec | [.bool x] => some x
     | _ => none
 d := false
 pos := by decide
 len _ := rfl
 one := by intro x v h; simp at h; subst h; rfl
 de := by
  intro c x h
  split at h
  · cases h; rfl
  · cases h
abbrev li : Refl.LC := .int .i64
theorem flat_at {α : Type} (K : Refl.RK α) : ∀ (xs : List α) (j : Nat) (v : Value), (xs.flatMap K.enc)[j]? = some v → ∃ q p r, xs[q]? = some p ∧ (K.enc p)[r]? = some v ∧ j = q * K.sz + r
 | [], j, v, h => by simp at h
 | x :: xs, j, v, h => by
  rw [List.flatMap_cons] at h
  rcases Nat.lt_or_ge j K.sz with hj | hj
  · rw [List.getElem?_append_left (by rw [K.len]; exact hj)] at h
    exact ⟨0, x, j, rfl, h, by omega⟩
  · rw [List.getElem?_append_right (by rw [K.len]; exact hj), K.len] at h
    obtain ⟨q, p, r, h1, h2, h3⟩ := flat_at K xs _ v h
    exact ⟨q + 1, p, r, by simpa using h1, h2, by rw [Nat.succ_mul]; omega⟩
/-- A row that is handed over, in the print's words. -/
theorem c_of {α : Type} (d : Kd α) (K : Refl.RK α) (hk : ∀ w x, d.K w x (K.enc x)) (hs : d.sz = K.sz) {e base : Nat} {S : Nat → Nat → Prop} {w : World} {xs : List α} {y : Value} (h : Refl.RowRep base S Refl.μ0 w K e xs .ro y) : ∃ A c, y = .slice A xs.length c ∧ xs.length ≤ c ∧ Kd.C d w A xs.length xs := by
 obtain ⟨A, c, rfl, h1, h2, h3, _⟩ := h
 refine ⟨A, c, rfl, h1, rfl, by simpa [maxLen] using h2, fun hpos => ?_⟩
 obtain ⟨b, off, rfl, hall⟩ := h3 hpos
 refine ⟨_, rfl, fun j p hj => ⟨K.enc p, by rw [K.len, hs], hk _ _, fun i u hi => ?_⟩⟩
 have := (hall _ u (Refl.flat_get K xs j i p u hj hi)).1
 rw [hs, Refl.add_plain']
 exact this
theorem reps_flat {α : Type} (K : Refl.RK α) {R : α → List Value → Prop} (hk : ∀ x cs, R x cs → cs = K.enc x) : ∀ (ps : List α) (cs : List Value), Reps R K.sz ps cs → cs = ps.flatMap K.enc
 | [], cs, h => by
  have := h.1
  simp at this
  simp [this]
 | p :: ps, cs, h => by
  obtain ⟨h1, h2⟩ := h
  have e1 := hk _ _ (h2 0 p rfl)
  rw [Nat.zero_mul, List.drop_zero] at e1
  have e2 := reps_flat K hk ps (cs.drop K.sz) ⟨by rw [List.length_drop, h1, List.length_cons, Nat.succ_mul]; omega, fun j q hq => by
   have := h2 (j + 1) q (by simpa using hq)
   rwa [Nat.succ_mul, Nat.add_comm, ← List.drop_drop] at this⟩
  rw [List.flatMap_cons, ← e1, ← e2, List.take_append_drop]
/-- A row of the call's own, as the interpreter has it. -/
theorem new_of {α : Type} (d : Kd α) (K : Refl.RK α) (hk : ∀ w base ok x cs, d.M w base ok x cs → cs = K.enc x) (hs : d.sz = K.sz) {q : Nat} {w w' : World} {ok : Nat → Prop} {v : Value} {ys : List α} (h : Kd.R d q w' w.heap.size ok v ys) : Refl.NewRow w w' K q ys v := by
 obtain ⟨_, inner, ⟨hl, ho⟩, hr⟩ := h
 rw [hs] at hr hl ho
 have hi := reps_flat K (fun x cs hx => hk _ _ _ _ _ hx) ys inner hr
 rcases ho with ⟨rfl, h0⟩ | ⟨g, cap, cur, rfl, hg, hh, hn, hc, hsz, htk⟩
 · obtain rfl := List.eq_nil_of_length_eq_zero h0
   exact ⟨by simp, .inl ⟨rfl, none, rfl⟩⟩
 · refine ⟨Nat.le_trans hn hc, .inr ⟨g, cur, cap, cur.toList.drop (ys.length * K.sz), hg, hh, ?_, hn, hc, hsz, rfl⟩⟩
   rw [← hi, ← htk, List.take_append_drop]
/-- A row of the law's own arguments. -/
theorem row_of {α : Type} (d : Kd α) (K : Refl.RK α) (hk : ∀ w x cs, d.K w x cs → cs = K.enc x) (hs : d.sz = K.sz) {e : Nat} {w : World} {A : Option Addr} {c : Nat} {xs : List α} (h : Kd.C d w A xs.length xs) (hc : xs.length ≤ c) : Refl.RowRep w.heap.size (fun _ _ => True) Refl.μ0 w K e xs .ro (.slice A xs.length c) := by
 obtain ⟨_, hn, hx⟩ := h
 refine ⟨A, c, rfl, hc, by simp only [maxLen]; omega, fun hpos => ?_, trivial⟩
 obtain ⟨ad, rfl, hall⟩ := hx hpos
 have hsp : ad.spot = none := by
  obtain ⟨cs, hl, hr, hcell⟩ := hall 0 _ (List.getElem?_eq_getElem hpos)
  have hl0 : 0 < cs.length := by rw [hl, hs]; exact K.pos
  have := hcell 0 _ (List.getElem?_eq_getElem hl0)
  rw [Nat.zero_mul, show ad.add (0 + 0) = ad from rfl] at this
  unfold World.cell? at this
  split at this
  · split at this
    · cases this
    · rename_i hq; simpa using hq
  · cases this
 obtain ⟨b, off, sp⟩ := ad
 cases hsp
 refine ⟨b, off, rfl, fun j v hj => ⟨?_, ⟨fun s e => (by cases e), fun d j u e => (by cases e)⟩, fun _ => trivial⟩⟩
 obtain ⟨q, p, r, h1, h2, rfl⟩ := flat_at K xs j v hj
 obtain ⟨cs, hl, hr, hcell⟩ := hall q p h1
 obtain rfl := hk _ _ _ hr
 have := hcell r v h2
 rw [hs] at this
 have e : (⟨b, off, none⟩ : Addr).add (q * K.sz + r) = ⟨b, off + (q * K.sz + r), none⟩ := by unfold Addr.add; split <;> simp_all
 rwa [e] at this
def zi (k : IntKind) : Refl.Zc := .v (.int k 0)
def zb : Refl.Zc := .v (.bool false)
def zs : Refl.Zc := .v (.string ⟨#[]⟩)
def zk (k : IntKind) : Refl.BC := .k (.int k 0)
def zkb : Refl.BC := .k (.bool false)
def zks : Refl.BC := .k (.string ⟨#[]⟩)
def zkr (e : Nat) : Refl.BC := .n e

def gL0 : List Refl.LC := [(.row 5 false), li, (.int .u64)]
def gL1 : List Refl.BC := [.l (.row 5 false), .l (.int .i64), .l (.int .u64)]
def gL2 : List Refl.BC := [.l .str, .l (.int .i64)]
def gL3 : List Refl.BC := [zks, zk .i64]
def gT : List (Nat × Refl.TD) := [(1, .fn),
 (2, .int .i64),
 (3, .int .i64),
 (4, .bool),
 (5, .int .u8),
 (9, .str),
 (12, .int .u64),
 (21, .int .i32),
 (22, .sl 5 1),
 (23, .st 2 [zs, zi .i64] [⟨0, 1, false, 9⟩, ⟨1, 1, false, 3⟩]),
 (24, .st 2 [zs, zi .i64] [⟨0, 1, false, 9⟩, ⟨1, 1, false, 3⟩]),
 (25, .fn),
 (27, .fn),
 (29, .fn),
 (31, .fn),
 (32, .fn),
 (34, .fn),
 (36, .fn),
 (37, .fn),
 (38, .fn),
 (39, .fn),
 (40, .fn),
 (41, .fn),
 (42, .fn),
 (43, .fn),
 (44, .fn),
 (45, .fn),
 (47, .int .u64),
 (49, .st 3 [.row 5, zi .i64, zi .u64] [⟨0, 1, false, 22⟩, ⟨1, 1, false, 3⟩, ⟨2, 1, false, 47⟩]),
 (50, .fn),
 (51, .fn),
 (52, .fn),
 (53, .fn),
 (54, .fn),
 (55, .fn),
 (56, .fn),
 (57, .fn),
 (59, .fn),
 (60, .fn),
 (61, .fn),
 (62, .fn),
 (63, .sl 3 8),
 (64, .fn),
 (65, .sl 9 16),
 (66, .int .u64),
 (68, .fn),
 (72, .fn),
 (76, .fn),
 (77, .fn),
 (81, .int .u32),
 (94, .fn),
 (96, .fn),
 (98, .fn),
 (101, .fn),
 (102, .fn),
 (103, .fn),
 (105, .fn),
 (106, .fn),
 (108, .fn),
 (110, .fn),
 (112, .fn),
 (114, .fn),
 (123, .fn),
 (124, .fn),
 (126, .fn),
 (135, .fn),
 (137, .fn),
 (139, .fn),
 (140, .fn),
 (141, .fn),
 (145, .fn),
 (146, .fn),
 (147, .fn),
 (153, .int .u8),
 (154, .int .u8),
 (155, .fn),
 (156, .int .i32),
 (157, .int .i32),
 (160, .fn),
 (161, .sl 5 1),
 (167, .fn),
 (168, .fn),
 (172, .fn)]
def gK : List (Nat × Refl.KD) := [(3, ⟨Int, rkInt .i64⟩), (5, ⟨Int, rkInt .u8⟩), (9, ⟨ByteArray, rkStr⟩)]
def G : Refl.Ctx := ⟨Refl.kdGet ⟨Int, rkInt .i64⟩ gK, Refl.tdGet gT, 5, rfl, Int.instDecidableEq, Int.decLt, Int.decLe, 0, fun _ => True, fun _ _ => Nat.zero_le _, fun _ _ _ _ _ => trivial⟩
def Gd (d : DecidableEq Int) (l : DecidableLT Int) (m : DecidableLE Int) : Refl.Ctx := ⟨Refl.kdGet ⟨Int, rkInt .i64⟩ gK, Refl.tdGet gT, 5, rfl, d, l, m, 0, fun _ => True, fun _ _ => Nat.zero_le _, fun _ _ _ _ _ => trivial⟩
set_option maxRecDepth 100000 in
theorem gT_ok : Refl.TDsOK Tryz.prog G gT := ⟨Refl.tdOk_fn Tryz.underlying1 rfl (by kernel_rfl),
 Refl.tdOk_int Tryz.underlying2 (by kernel_rfl),
 Refl.tdOk_int Tryz.underlying3 (by kernel_rfl),
 Refl.tdOk_bool Tryz.underlying4 (by kernel_rfl),
 Refl.tdOk_int Tryz.underlying5 (by kernel_rfl),
 Refl.tdOk_str Tryz.underlying9 (by kernel_rfl),
 Refl.tdOk_int Tryz.underlying12 (by kernel_rfl),
 Refl.tdOk_int Tryz.underlying21 (by kernel_rfl),
 Refl.tdOk_sl (z := .int .u8 0) Tryz.underlying22 (by kernel_rfl) (by kernel_rfl) (by kernel_rfl) rfl,
 Refl.tdOk_st Tryz.underlying23 (by kernel_rfl) rfl (by kernel_rfl) (by kernel_rfl) (by kernel_rfl),
 Refl.tdOk_st Tryz.underlying24 (by kernel_rfl) rfl (by kernel_rfl) (by kernel_rfl) (by kernel_rfl),
 Refl.tdOk_fn Tryz.underlying25 rfl (by kernel_rfl),
 Refl.tdOk_fn Tryz.underlying27 rfl (by kernel_rfl),
 Refl.tdOk_fn Tryz.underlying29 rfl (by kernel_rfl),
 Refl.tdOk_fn Tryz.underlying31 rfl (by kernel_rfl),
 Refl.tdOk_fn Tryz.underlying32 rfl (by kernel_rfl),
 Refl.tdOk_fn Tryz.underlying34 rfl (by kernel_rfl),
 Refl.tdOk_fn Tryz.underlying36 rfl (by kernel_rfl),
 Refl.tdOk_fn Tryz.underlying37 rfl (by kernel_rfl),
 Refl.tdOk_fn Tryz.underlying38 rfl (by kernel_rfl),
 Refl.tdOk_fn Tryz.underlying39 rfl (by kernel_rfl),
 Refl.tdOk_fn Tryz.underlying40 rfl (by kernel_rfl),
 Refl.tdOk_fn Tryz.underlying41 rfl (by kernel_rfl),
 Refl.tdOk_fn Tryz.underlying42 rfl (by kernel_rfl),
 Refl.tdOk_fn Tryz.underlying43 rfl (by kernel_rfl),
 Refl.tdOk_fn Tryz.underlying44 rfl (by kernel_rfl),
 Refl.tdOk_fn Tryz.underlying45 rfl (by kernel_rfl),
 Refl.tdOk_int Tryz.underlying47 (by kernel_rfl),
 Refl.tdOk_st Tryz.underlying49 (by kernel_rfl) rfl (by kernel_rfl) (by kernel_rfl) (by kernel_rfl),
 Refl.tdOk_fn Tryz.underlying50 rfl (by kernel_rfl),
 Refl.tdOk_fn Tryz.underlying51 rfl (by kernel_rfl),
 Refl.tdOk_fn Tryz.underlying52 rfl (by kernel_rfl),
 Refl.tdOk_fn Tryz.underlying53 rfl (by kernel_rfl),
 Refl.tdOk_fn Tryz.underlying54 rfl (by kernel_rfl),
 Refl.tdOk_fn Tryz.underlying55 rfl (by kernel_rfl),
 Refl.tdOk_fn Tryz.underlying56 rfl (by kernel_rfl),
 Refl.tdOk_fn Tryz.underlying57 rfl (by kernel_rfl),
 Refl.tdOk_fn Tryz.underlying59 rfl (by kernel_rfl),
 Refl.tdOk_fn Tryz.underlying60 rfl (by kernel_rfl),
 Refl.tdOk_fn Tryz.underlying61 rfl (by kernel_rfl),
 Refl.tdOk_fn Tryz.underlying62 rfl (by kernel_rfl),
 Refl.tdOk_sl (z := .int .i64 0) Tryz.underlying63 (by kernel_rfl) (by kernel_rfl) (by kernel_rfl) rfl,
 Refl.tdOk_fn Tryz.underlying64 rfl (by kernel_rfl),
 Refl.tdOk_sl (z := .string ⟨#[]⟩) Tryz.underlying65 (by kernel_rfl) (by kernel_rfl) (by kernel_rfl) rfl,
 Refl.tdOk_int Tryz.underlying66 (by kernel_rfl),
 Refl.tdOk_fn Tryz.underlying68 rfl (by kernel_rfl),
 Refl.tdOk_fn Tryz.underlying72 rfl (by kernel_rfl),
 Refl.tdOk_fn Tryz.underlying76 rfl (by kernel_rfl),
 Refl.tdOk_fn Tryz.underlying77 rfl (by kernel_rfl),
 Refl.tdOk_int Tryz.underlying81 (by kernel_rfl),
 Refl.tdOk_fn Tryz.underlying94 rfl (by kernel_rfl),
 Refl.tdOk_fn Tryz.underlying96 rfl (by kernel_rfl),
 Refl.tdOk_fn Tryz.underlying98 rfl (by kernel_rfl),
 Refl.tdOk_fn Tryz.underlying101 rfl (by kernel_rfl),
 Refl.tdOk_fn Tryz.underlying102 rfl (by kernel_rfl),
 Refl.tdOk_fn Tryz.underlying103 rfl (by kernel_rfl),
 Refl.tdOk_fn Tryz.underlying105 rfl (by kernel_rfl),
 Refl.tdOk_fn Tryz.underlying106 rfl (by kernel_rfl),
 Refl.tdOk_fn Tryz.underlying108 rfl (by kernel_rfl),
 Refl.tdOk_fn Tryz.underlying110 rfl (by kernel_rfl),
 Refl.tdOk_fn Tryz.underlying112 rfl (by kernel_rfl),
 Refl.tdOk_fn Tryz.underlying114 rfl (by kernel_rfl),
 Refl.tdOk_fn Tryz.underlying123 rfl (by kernel_rfl),
 Refl.tdOk_fn Tryz.underlying124 rfl (by kernel_rfl),
 Refl.tdOk_fn Tryz.underlying126 rfl (by kernel_rfl),
 Refl.tdOk_fn Tryz.underlying135 rfl (by kernel_rfl),
 Refl.tdOk_fn Tryz.underlying137 rfl (by kernel_rfl),
 Refl.tdOk_fn Tryz.underlying139 rfl (by kernel_rfl),
 Refl.tdOk_fn Tryz.underlying140 rfl (by kernel_rfl),
 Refl.tdOk_fn Tryz.underlying141 rfl (by kernel_rfl),
 Refl.tdOk_fn Tryz.underlying145 rfl (by kernel_rfl),
 Refl.tdOk_fn Tryz.underlying146 rfl (by kernel_rfl),
 Refl.tdOk_fn Tryz.underlying147 rfl (by kernel_rfl),
 Refl.tdOk_int Tryz.underlying153 (by kernel_rfl),
 Refl.tdOk_int Tryz.underlying154 (by kernel_rfl),
 Refl.tdOk_fn Tryz.underlying155 rfl (by kernel_rfl),
 Refl.tdOk_int Tryz.underlying156 (by kernel_rfl),
 Refl.tdOk_int Tryz.underlying157 (by kernel_rfl),
 Refl.tdOk_fn Tryz.underlying160 rfl (by kernel_rfl),
 Refl.tdOk_sl (z := .int .u8 0) Tryz.underlying161 (by kernel_rfl) (by kernel_rfl) (by kernel_rfl) rfl,
 Refl.tdOk_fn Tryz.underlying167 rfl (by kernel_rfl),
 Refl.tdOk_fn Tryz.underlying168 rfl (by kernel_rfl),
 Refl.tdOk_fn Tryz.underlying172 rfl (by kernel_rfl), trivial⟩
theorem GC : Refl.CtxOK Tryz.prog G := ⟨Refl.tds_ok gT_ok, by kernel_rfl⟩

end Go.Proofs.YtolhmpagpoidjaaGreat.PA
