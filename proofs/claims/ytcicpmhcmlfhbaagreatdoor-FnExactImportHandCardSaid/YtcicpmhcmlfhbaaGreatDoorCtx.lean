import Derived.Test.YtcicpmhcmlfhbaaGreatDoorPAx0
import Derived.KernelRfl
import Derived.Test.YtcicpmhcmlfhbaaGreatDoorShelf
import Derived.Lib.LaidTab
import Derived.Test.YtcicpmhcmlfhbaaGreatDoorRefl
set_option autoImplicit false
set_option linter.unusedVariables false
set_option linter.unusedSimpArgs false
namespace Go.Proofs.YtcicpmhcmlfhbaaGreatDoor.PA
open Go.RowKit Go.Proofs.YtcicpmhcmlfhbaaGreatDoorW.PrintWords Go.Proofs.YtcicpmhcmlfhbaaGreatDoorW.PrintLast Go.Proofs.YtcicpmhcmlfhbaaGreatDoorW.PrintMore
abbrev rkInt := Refl.rkInt
def rkStr : Refl.RK ByteArray where
 sz := 1
 enc x := [.string x]
 dec | [.string x] => some x
     | _ => none
 d := ⟨#[]⟩
 pos := by decide
 len _ := rfl
 one := by intro x v h; simp at h; subst h; rfl
 de := by
  intro c x h
  split at h
  · cases h; rfl
  · cases h
def rkBool : Refl.RK Bool where
 sz := 1
 enc x := [.bool x]
 dec | [.bool x] => some x
     | _ => none
 d := false
 pos := by decide
 len _ := rfl
 one := by intro x v h; simp at h; subst h; rfl
 de := by
  intro c x h
  split at h
  · cases h; rfl
  · cases h
abbrev li : Refl.LC := .int .i64
theorem flat_at {α : Type} (K : Refl.RK α) : ∀ (xs : List α) (j : Nat) (v : Value), (xs.flatMap K.enc)[j]? = some v → ∃ q p r, xs[q]? = some p ∧ (K.enc p)[r]? = some v ∧ j = q * K.sz + r
 | [], j, v, h => by simp at h
 | x :: xs, j, v, h => by
  rw [List.flatMap_cons] at h
  rcases Nat.lt_or_ge j K.sz with hj | hj
  · rw [List.getElem?_append_left (by rw [K.len]; exact hj)] at h
    exact ⟨0, x, j, rfl, h, by omega⟩
  · rw [List.getElem?_append_right (by rw [K.len]; exact hj), K.len] at h
    obtain ⟨q, p, r, h1, h2, h3⟩ := flat_at K xs _ v h
    exact ⟨q + 1, p, r, by simpa using h1, h2, by rw [Nat.succ_mul]; omega⟩
/-- A row that is handed over, in the print's words. -/
theorem c_of {α : Type} (d : Kd α) (K : Refl.RK α) (hk : ∀ w x, d.K w x (K.enc x)) (hs : d.sz = K.sz) {e base : Nat} {S : Nat → Nat → Prop} {w : World} {xs : List α} {y : Value} (h : Refl.RowRep base S Refl.μ0 w K e xs .ro y) : ∃ A c, y = .slice A xs.length c ∧ xs.length ≤ c ∧ Kd.C d w A xs.length xs := by
 obtain ⟨A, c, rfl, h1, h2, h3, _⟩ := h
 refine ⟨A, c, rfl, h1, rfl, by simpa [maxLen] using h2, fun hpos => ?_⟩
 obtain ⟨b, off, rfl, hall⟩ := h3 hpos
 refine ⟨_, rfl, fun j p hj => ⟨K.enc p, by rw [K.len, hs], hk _ _, fun i u hi => ?_⟩⟩
 have := (hall _ u (Refl.flat_get K xs j i p u hj hi)).1
 rw [hs, Refl.add_plain']
 exact this
theorem reps_flat {α : Type} (K : Refl.RK α) {R : α → List Value → Prop} (hk : ∀ x cs, R x cs → cs = K.enc x) : ∀ (ps : List α) (cs : List Value), Reps R K.sz ps cs → cs = ps.flatMap K.enc
 | [], cs, h => by
  have := h.1
  simp at this
  simp [this]
 | p :: ps, cs, h => by
  obtain ⟨h1, h2⟩ := h
  have e1 := hk _ _ (h2 0 p rfl)
  rw [Nat.zero_mul, List.drop_zero] at e1
  have e2 := reps_flat K hk ps (cs.drop K.sz) ⟨by rw [List.length_drop, h1, List.length_cons, Nat.succ_mul]; omega, fun j q hq => by
   have := h2 (j + 1) q (by simpa using hq)
   rwa [Nat.succ_mul, Nat.add_comm, ← List.drop_drop] at this⟩
  rw [List.flatMap_cons, ← e1, ← e2, List.take_append_drop]
/-- A row of the call's own, as the interpreter has it. -/
theorem new_of {α : Type} (d : Kd α) (K : Refl.RK α) (hk : ∀ w base ok x cs, d.M w base ok x cs → cs = K.enc x) (hs : d.sz = K.sz) {q : Nat} {w w' : World} {ok : Nat → Prop} {v : Value} {ys : List α} (h : Kd.R d q w' w.heap.size ok v ys) : Refl.NewRow w w' K q ys v := by
 obtain ⟨_, inner, ⟨hl, ho⟩, hr⟩ := h
 rw [hs] at hr hl ho
 have hi := reps_flat K (fun x cs hx => hk _ _ _ _ _ hx) ys inner hr
 rcases ho with ⟨rfl, h0⟩ | ⟨g, cap, cur, rfl, hg, hh, hn, hc, hsz, htk⟩
 · obtain rfl := List.eq_nil_of_length_eq_zero h0
   exact ⟨by simp, .inl ⟨rfl, none, rfl⟩⟩
 · refine ⟨Nat.le_trans hn hc, .inr ⟨g, cur, cap, cur.toList.drop (ys.length * K.sz), hg, hh, ?_, hn, hc, hsz, rfl⟩⟩
   rw [← hi, ← htk, List.take_append_drop]
/-- A row of the law's own arguments. -/
theorem row_of {α : Type} (d : Kd α) (K : Refl.RK α) (hk : ∀ w x cs, d.K w x cs → cs = K.enc x) (hs : d.sz = K.sz) {e : Nat} {w : World} {A : Option Addr} {c : Nat} {xs : List α} (h : Kd.C d w A xs.length xs) (hc : xs.length ≤ c) : Refl.RowRep w.heap.size (fun _ _ => True) Refl.μ0 w K e xs .ro (.slice A xs.length c) := by
 obtain ⟨_, hn, hx⟩ := h
 refine ⟨A, c, rfl, hc, by simp only [maxLen]; omega, fun hpos => ?_, trivial⟩
 obtain ⟨ad, rfl, hall⟩ := hx hpos
 have hsp : ad.spot = none := by
  obtain ⟨cs, hl, hr, hcell⟩ := hall 0 _ (List.getElem?_eq_getElem hpos)
  have hl0 : 0 < cs.length := by rw [hl, hs]; exact K.pos
  have := hcell 0 _ (List.getElem?_eq_getElem hl0)
  rw [Nat.zero_mul, show ad.add (0 + 0) = ad from rfl] at this
  unfold World.cell? at this
  split at this
  · split at this
    · cases this
    · rename_i hq; simpa using hq
  · cases this
 obtain ⟨b, off, sp⟩ := ad
 cases hsp
 refine ⟨b, off, rfl, fun j v hj => ⟨?_, ⟨fun s e => (by cases e), fun d j u e => (by cases e)⟩, fun _ => trivial⟩⟩
 obtain ⟨q, p, r, h1, h2, rfl⟩ := flat_at K xs j v hj
 obtain ⟨cs, hl, hr, hcell⟩ := hall q p h1
 obtain rfl := hk _ _ _ hr
 have := hcell r v h2
 rw [hs] at this
 have e : (⟨b, off, none⟩ : Addr).add (q * K.sz + r) = ⟨b, off + (q * K.sz + r), none⟩ := by unfold Addr.add; split <;> simp_all
 rwa [e] at this
def zi (k : IntKind) : Refl.Zc := .v (.int k 0)
def zb : Refl.Zc := .v (.bool false)
def zs : Refl.Zc := .v (.string ⟨#[]⟩)
def zk (k : IntKind) : Refl.BC := .k (.int k 0)
def zkb : Refl.BC := .k (.bool false)
def zks : Refl.BC := .k (.string ⟨#[]⟩)
def zkr (e : Nat) : Refl.BC := .n e
theorem cell_same {w w' : World} (h : w'.heap[0]? = w.heap[0]?) : w'.cell? ⟨0, 0, none⟩ = w.cell? ⟨0, 0, none⟩ := by
  unfold World.cell?
  simp only [h]
/-- What stands of the package's variables. -/
def Lw (w : World) : Prop := 6 ≤ w.heap.size ∧ (∃ t p, w.var? Tryz.prog "strconv.ErrSyntax" = some #[.iface t p]) ∧ (∃ t p, w.var? Tryz.prog "strconv.ErrRange" = some #[.iface t p]) ∧ Lib.TabIs Tryz.prog w "internal/strconv.uint64pow10" .u64 Lib.pow10Tab ∧ ∃ m, w.cell? ⟨0, 0, none⟩ = some (.int .i64 m)
theorem var_same {w w' : World} {n : String} {g : Nat} (hg : Tryz.prog.globalNamed n = some g) (h : w'.heap[g]? = w.heap[g]?) : w'.var? Tryz.prog n = w.var? Tryz.prog n := by
  unfold World.var?
  rw [hg]
  simp only [Option.bind_some, h]
theorem gv0 : Tryz.prog.globalNamed "strconv.ErrSyntax" = some 3 := by kernel_rfl
theorem gv1 : Tryz.prog.globalNamed "strconv.ErrRange" = some 4 := by kernel_rfl
theorem gv2 : Tryz.prog.globalNamed "internal/strconv.uint64pow10" = some 5 := by kernel_rfl
theorem Lw.keep {w w' : World} (h : Lw w) (hk : ∀ k, k < 6 → w'.heap[k]? = w.heap[k]?) (hs : w.heap.size ≤ w'.heap.size) : Lw w' := by
  obtain ⟨h0, ⟨t1, p1, h1⟩, ⟨t2, p2, h2⟩, h3, h4⟩ := h
  exact ⟨Nat.le_trans h0 hs, ⟨t1, p1, (var_same gv0 (hk _ (by decide))).trans h1⟩, ⟨t2, p2, (var_same gv1 (hk _ (by decide))).trans h2⟩, (var_same gv2 (hk _ (by decide))).trans h3, h4.imp fun m e => (cell_same (hk 0 (by decide))).trans e⟩
theorem Lw.below {w w' : World} (h : Lw w) (hb : Below w.heap.size w w') : Lw w' := h.keep (fun k hk => hb.block k (by have := h.1; omega)) hb.size
def rk23 : Refl.RK S23 where
 sz := 6
 enc x := [.int .i64 x.f0, .int .i64 x.f1, .int .i64 x.f2, .int .i64 x.f3, .int .i64 x.f4, .bool x.f5]
 dec | [.int .i64 a0, .int .i64 a1, .int .i64 a2, .int .i64 a3, .int .i64 a4, .bool a5] => some ⟨a0, a1, a2, a3, a4, a5⟩
     | _ => none
 d := z23
 pos := by decide
 len _ := rfl
 one := by intro x v h; simp at h; rcases h with rfl | rfl | rfl | rfl | rfl | rfl <;> rfl
 de := by
  intro c x h
  split at h
  · cases h; rfl
  · cases h
def rk25 : Refl.RK S25 where
 sz := 2
 enc x := [.int .i64 x.f0, .int .i64 x.f1]
 dec | [.int .i64 a0, .int .i64 a1] => some ⟨a0, a1⟩
     | _ => none
 d := z25
 pos := by decide
 len _ := rfl
 one := by intro x v h; simp at h; rcases h with rfl | rfl <;> rfl
 de := by
  intro c x h
  split at h
  · cases h; rfl
  · cases h
def rk27 : Refl.RK S27 where
 sz := 3
 enc x := [.int .i64 x.f0, .int .i64 x.f1, .bool x.f2]
 dec | [.int .i64 a0, .int .i64 a1, .bool a2] => some ⟨a0, a1, a2⟩
     | _ => none
 d := z27
 pos := by decide
 len _ := rfl
 one := by intro x v h; simp at h; rcases h with rfl | rfl | rfl <;> rfl
 de := by
  intro c x h
  split at h
  · cases h; rfl
  · cases h
def gL0 : List Refl.BC := [zk .i64, zk .i64, zk .i64, zk .i64, zk .i64, zkb]
def gL1 : List Refl.BC := [zk .i64, zk .i64, zkb]
def gL2 : List Refl.BC := [.l .str, .l (.int .i64)]
def gL3 : List Refl.BC := [zks, zk .i64]
def gL4 : List Refl.LC := [li, li, li, li, li, .bool, li, li, li, li, .bool, .str, li]
def gL5 : List Refl.BC := [.l (.int .i64), .l (.int .i64), .l (.int .i64), .l (.int .i64), .l (.int .i64), .l .bool, .l (.int .i64), .l (.int .i64), .l (.int .i64), .l (.int .i64), .l .bool, .l .str, .l (.int .i64)]
def gL6 : List Refl.BC := [zk .i64, zk .i64, zk .i64, zk .i64, zk .i64, zkb, zk .i64, zk .i64, zk .i64, zk .i64, zkb, zks, zk .i64]
def gL7 : List Refl.BC := [.l (.int .i64), .l (.int .i64), .l (.int .i64), .l (.int .i64), .l (.int .i64), .l .bool]
def gT : List (Nat × Refl.TD) := [(1, .fn),
 (2, .int .i64),
 (3, .int .i64),
 (4, .bool),
 (5, .int .u8),
 (9, .str),
 (12, .int .u64),
 (21, .int .i32),
 (22, .st 6 [zi .i64, zi .i64, zi .i64, zi .i64, zi .i64, zb] [⟨0, 1, false, 3⟩, ⟨1, 1, false, 3⟩, ⟨2, 1, false, 3⟩, ⟨3, 1, false, 3⟩, ⟨4, 1, false, 3⟩, ⟨5, 1, false, 4⟩]),
 (23, .st 6 [zi .i64, zi .i64, zi .i64, zi .i64, zi .i64, zb] [⟨0, 1, false, 3⟩, ⟨1, 1, false, 3⟩, ⟨2, 1, false, 3⟩, ⟨3, 1, false, 3⟩, ⟨4, 1, false, 3⟩, ⟨5, 1, false, 4⟩]),
 (24, .st 2 [zi .i64, zi .i64] [⟨0, 1, false, 3⟩, ⟨1, 1, false, 3⟩]),
 (25, .st 2 [zi .i64, zi .i64] [⟨0, 1, false, 3⟩, ⟨1, 1, false, 3⟩]),
 (26, .st 3 [zi .i64, zi .i64, zb] [⟨0, 1, false, 3⟩, ⟨1, 1, false, 3⟩, ⟨2, 1, false, 4⟩]),
 (27, .st 3 [zi .i64, zi .i64, zb] [⟨0, 1, false, 3⟩, ⟨1, 1, false, 3⟩, ⟨2, 1, false, 4⟩]),
 (28, .st 2 [zs, zi .i64] [⟨0, 1, false, 9⟩, ⟨1, 1, false, 3⟩]),
 (29, .st 2 [zs, zi .i64] [⟨0, 1, false, 9⟩, ⟨1, 1, false, 3⟩]),
 (30, .st 13 [zi .i64, zi .i64, zi .i64, zi .i64, zi .i64, zb, zi .i64, zi .i64, zi .i64, zi .i64, zb, zs, zi .i64] [⟨0, 6, true, 23⟩, ⟨6, 2, true, 25⟩, ⟨8, 3, true, 27⟩, ⟨11, 2, true, 29⟩]),
 (31, .st 13 [zi .i64, zi .i64, zi .i64, zi .i64, zi .i64, zb, zi .i64, zi .i64, zi .i64, zi .i64, zb, zs, zi .i64] [⟨0, 6, true, 23⟩, ⟨6, 2, true, 25⟩, ⟨8, 3, true, 27⟩, ⟨11, 2, true, 29⟩]),
 (33, .fn),
 (34, .fn),
 (35, .fn),
 (36, .sl 5 1),
 (37, .fn),
 (39, .fn),
 (41, .fn),
 (42, .fn),
 (44, .fn),
 (46, .fn),
 (47, .fn),
 (48, .fn),
 (49, .fn),
 (50, .sl 9 16),
 (51, .fn),
 (53, .sl 3 8),
 (55, .fn),
 (56, .fn),
 (57, .fn),
 (58, .fn),
 (59, .fn),
 (60, .fn),
 (61, .fn),
 (62, .fn),
 (63, .st 6 [zi .i64, zi .i64, zi .i64, zi .i64, zi .i64, zb] [⟨0, 1, false, 3⟩, ⟨1, 1, false, 3⟩, ⟨2, 1, false, 3⟩, ⟨3, 1, false, 3⟩, ⟨4, 1, false, 3⟩, ⟨5, 1, false, 4⟩]),
 (64, .st 2 [zi .i64, zi .i64] [⟨0, 1, false, 3⟩, ⟨1, 1, false, 3⟩]),
 (65, .st 3 [zi .i64, zi .i64, zb] [⟨0, 1, false, 3⟩, ⟨1, 1, false, 3⟩, ⟨2, 1, false, 4⟩]),
 (66, .st 2 [zs, zi .i64] [⟨0, 1, false, 9⟩, ⟨1, 1, false, 3⟩]),
 (72, .fn),
 (73, .fn),
 (75, .fn),
 (78, .fn),
 (80, .fn),
 (81, .fn),
 (82, .fn),
 (83, .fn),
 (85, .fn),
 (86, .fn),
 (87, .fn),
 (88, .fn),
 (89, .fn),
 (91, .int .u64),
 (94, .fn),
 (96, .fn),
 (97, .fn),
 (99, .fn),
 (100, .fn),
 (101, .fn),
 (102, .fn),
 (103, .fn),
 (104, .fn),
 (105, .fn),
 (106, .fn),
 (107, .fn),
 (108, .fn),
 (109, .fn),
 (110, .fn),
 (113, .fn),
 (115, .fn),
 (116, .fn),
 (117, .fn),
 (119, .fn),
 (121, .fn),
 (122, .fn),
 (123, .fn),
 (126, .fn),
 (127, .fn),
 (128, .fn),
 (129, .fn),
 (131, .fn),
 (133, .fn),
 (134, .fn),
 (135, .fn),
 (136, .fn),
 (137, .fn),
 (138, .fn),
 (139, .fn),
 (140, .fn),
 (145, .fn),
 (146, .fn),
 (147, .fn),
 (148, .fn),
 (149, .fn),
 (150, .fn),
 (151, .fn),
 (152, .fn),
 (153, .fn),
 (154, .fn),
 (155, .fn),
 (156, .fn),
 (157, .fn),
 (158, .fn),
 (159, .fn),
 (160, .fn),
 (161, .ar 4 4 1 [zb, zb, zb, zb]),
 (162, .fn),
 (163, .fn),
 (164, .fn),
 (165, .fn),
 (166, .fn),
 (167, .ar 10 9 1 [zs, zs, zs, zs, zs, zs, zs, zs, zs, zs]),
 (168, .ar 3 9 1 [zs, zs, zs]),
 (169, .fn),
 (170, .sl 27 24),
 (171, .fn),
 (172, .fn),
 (173, .fn),
 (174, .sl 23 48),
 (175, .fn),
 (176, .fn),
 (177, .fn),
 (178, .fn),
 (179, .fn),
 (180, .ar 5 3 1 [zi .i64, zi .i64, zi .i64, zi .i64, zi .i64]),
 (181, .fn),
 (182, .fn),
 (183, .fn),
 (185, .fn),
 (186, .fn),
 (190, .fn),
 (191, .fn),
 (192, .sl 25 16),
 (193, .fn),
 (194, .int .u64),
 (195, .sl 4 1),
 (196, .fn),
 (198, .fn),
 (199, .fn),
 (201, .fn),
 (202, .fn),
 (203, .fn),
 (204, .fn),
 (205, .fn),
 (206, .fn),
 (208, .fn),
 (229, .fn),
 (235, .fn),
 (238, .fn),
 (240, .fn),
 (243, .fn),
 (244, .fn),
 (263, .fn),
 (264, .fn),
 (268, .fn),
 (270, .fn),
 (272, .fn),
 (279, .fn),
 (283, .fn),
 (286, .fn),
 (288, .fn)]
def gK : List (Nat × Refl.KD) := [(3, ⟨Int, rkInt .i64⟩), (4, ⟨Bool, rkBool⟩), (5, ⟨Int, rkInt .u8⟩), (9, ⟨ByteArray, rkStr⟩), (23, ⟨S23, rk23⟩), (25, ⟨S25, rk25⟩), (27, ⟨S27, rk27⟩), (91, ⟨Int, rkInt .u64⟩)]
def G : Refl.Ctx := ⟨Refl.kdGet ⟨Int, rkInt .i64⟩ gK, Refl.tdGet gT, 5, rfl, Int.instDecidableEq, Int.decLt, Int.decLe, 6, Lw, fun _ h => h.1, fun _ _ h hk hs => h.keep hk hs⟩
def Gd (d : DecidableEq Int) (l : DecidableLT Int) (m : DecidableLE Int) : Refl.Ctx := ⟨Refl.kdGet ⟨Int, rkInt .i64⟩ gK, Refl.tdGet gT, 5, rfl, d, l, m, 6, Lw, fun _ h => h.1, fun _ _ h hk hs => h.keep hk hs⟩
set_option maxRecDepth 100000 in
theorem gT_ok : Refl.TDsOK Tryz.prog G gT := ⟨Refl.tdOk_fn Tryz.underlying1 rfl (by kernel_rfl),
 Refl.tdOk_int Tryz.underlying2 (by kernel_rfl),
 Refl.tdOk_int Tryz.underlying3 (by kernel_rfl),
 Refl.tdOk_bool Tryz.underlying4 (by kernel_rfl),
 Refl.tdOk_int Tryz.underlying5 (by kernel_rfl),
 Refl.tdOk_str Tryz.underlying9 (by kernel_rfl),
 Refl.tdOk_int Tryz.underlying12 (by kernel_rfl),
 Refl.tdOk_int Tryz.underlying21 (by kernel_rfl),
 Refl.tdOk_st Tryz.underlying22 (by kernel_rfl) rfl (by kernel_rfl) (by kernel_rfl) (by kernel_rfl),
 Refl.tdOk_st Tryz.underlying23 (by kernel_rfl) rfl (by kernel_rfl) (by kernel_rfl) (by kernel_rfl),
 Refl.tdOk_st Tryz.underlying24 (by kernel_rfl) rfl (by kernel_rfl) (by kernel_rfl) (by kernel_rfl),
 Refl.tdOk_st Tryz.underlying25 (by kernel_rfl) rfl (by kernel_rfl) (by kernel_rfl) (by kernel_rfl),
 Refl.tdOk_st Tryz.underlying26 (by kernel_rfl) rfl (by kernel_rfl) (by kernel_rfl) (by kernel_rfl),
 Refl.tdOk_st Tryz.underlying27 (by kernel_rfl) rfl (by kernel_rfl) (by kernel_rfl) (by kernel_rfl),
 Refl.tdOk_st Tryz.underlying28 (by kernel_rfl) rfl (by kernel_rfl) (by kernel_rfl) (by kernel_rfl),
 Refl.tdOk_st Tryz.underlying29 (by kernel_rfl) rfl (by kernel_rfl) (by kernel_rfl) (by kernel_rfl),
 Refl.tdOk_st Tryz.underlying30 (by kernel_rfl) rfl (by kernel_rfl) (by kernel_rfl) (by kernel_rfl),
 Refl.tdOk_st Tryz.underlying31 (by kernel_rfl) rfl (by kernel_rfl) (by kernel_rfl) (by kernel_rfl),
 Refl.tdOk_fn Tryz.underlying33 rfl (by kernel_rfl),
 Refl.tdOk_fn Tryz.underlying34 rfl (by kernel_rfl),
 Refl.tdOk_fn Tryz.underlying35 rfl (by kernel_rfl),
 Refl.tdOk_sl (z := .int .u8 0) Tryz.underlying36 (by kernel_rfl) (by kernel_rfl) (by kernel_rfl) rfl,
 Refl.tdOk_fn Tryz.underlying37 rfl (by kernel_rfl),
 Refl.tdOk_fn Tryz.underlying39 rfl (by kernel_rfl),
 Refl.tdOk_fn Tryz.underlying41 rfl (by kernel_rfl),
 Refl.tdOk_fn Tryz.underlying42 rfl (by kernel_rfl),
 Refl.tdOk_fn Tryz.underlying44 rfl (by kernel_rfl),
 Refl.tdOk_fn Tryz.underlying46 rfl (by kernel_rfl),
 Refl.tdOk_fn Tryz.underlying47 rfl (by kernel_rfl),
 Refl.tdOk_fn Tryz.underlying48 rfl (by kernel_rfl),
 Refl.tdOk_fn Tryz.underlying49 rfl (by kernel_rfl),
 Refl.tdOk_sl (z := .string ⟨#[]⟩) Tryz.underlying50 (by kernel_rfl) (by kernel_rfl) (by kernel_rfl) rfl,
 Refl.tdOk_fn Tryz.underlying51 rfl (by kernel_rfl),
 Refl.tdOk_sl (z := .int .i64 0) Tryz.underlying53 (by kernel_rfl) (by kernel_rfl) (by kernel_rfl) rfl,
 Refl.tdOk_fn Tryz.underlying55 rfl (by kernel_rfl),
 Refl.tdOk_fn Tryz.underlying56 rfl (by kernel_rfl),
 Refl.tdOk_fn Tryz.underlying57 rfl (by kernel_rfl),
 Refl.tdOk_fn Tryz.underlying58 rfl (by kernel_rfl),
 Refl.tdOk_fn Tryz.underlying59 rfl (by kernel_rfl),
 Refl.tdOk_fn Tryz.underlying60 rfl (by kernel_rfl),
 Refl.tdOk_fn Tryz.underlying61 rfl (by kernel_rfl),
 Refl.tdOk_fn Tryz.underlying62 rfl (by kernel_rfl),
 Refl.tdOk_st Tryz.underlying63 (by kernel_rfl) rfl (by kernel_rfl) (by kernel_rfl) (by kernel_rfl),
 Refl.tdOk_st Tryz.underlying64 (by kernel_rfl) rfl (by kernel_rfl) (by kernel_rfl) (by kernel_rfl),
 Refl.tdOk_st Tryz.underlying65 (by kernel_rfl) rfl (by kernel_rfl) (by kernel_rfl) (by kernel_rfl),
 Refl.tdOk_st Tryz.underlying66 (by kernel_rfl) rfl (by kernel_rfl) (by kernel_rfl) (by kernel_rfl),
 Refl.tdOk_fn Tryz.underlying72 rfl (by kernel_rfl),
 Refl.tdOk_fn Tryz.underlying73 rfl (by kernel_rfl),
 Refl.tdOk_fn Tryz.underlying75 rfl (by kernel_rfl),
 Refl.tdOk_fn Tryz.underlying78 rfl (by kernel_rfl),
 Refl.tdOk_fn Tryz.underlying80 rfl (by kernel_rfl),
 Refl.tdOk_fn Tryz.underlying81 rfl (by kernel_rfl),
 Refl.tdOk_fn Tryz.underlying82 rfl (by kernel_rfl),
 Refl.tdOk_fn Tryz.underlying83 rfl (by kernel_rfl),
 Refl.tdOk_fn Tryz.underlying85 rfl (by kernel_rfl),
 Refl.tdOk_fn Tryz.underlying86 rfl (by kernel_rfl),
 Refl.tdOk_fn Tryz.underlying87 rfl (by kernel_rfl),
 Refl.tdOk_fn Tryz.underlying88 rfl (by kernel_rfl),
 Refl.tdOk_fn Tryz.underlying89 rfl (by kernel_rfl),
 Refl.tdOk_int Tryz.underlying91 (by kernel_rfl),
 Refl.tdOk_fn Tryz.underlying94 rfl (by kernel_rfl),
 Refl.tdOk_fn Tryz.underlying96 rfl (by kernel_rfl),
 Refl.tdOk_fn Tryz.underlying97 rfl (by kernel_rfl),
 Refl.tdOk_fn Tryz.underlying99 rfl (by kernel_rfl),
 Refl.tdOk_fn Tryz.underlying100 rfl (by kernel_rfl),
 Refl.tdOk_fn Tryz.underlying101 rfl (by kernel_rfl),
 Refl.tdOk_fn Tryz.underlying102 rfl (by kernel_rfl),
 Refl.tdOk_fn Tryz.underlying103 rfl (by kernel_rfl),
 Refl.tdOk_fn Tryz.underlying104 rfl (by kernel_rfl),
 Refl.tdOk_fn Tryz.underlying105 rfl (by kernel_rfl),
 Refl.tdOk_fn Tryz.underlying106 rfl (by kernel_rfl),
 Refl.tdOk_fn Tryz.underlying107 rfl (by kernel_rfl),
 Refl.tdOk_fn Tryz.underlying108 rfl (by kernel_rfl),
 Refl.tdOk_fn Tryz.underlying109 rfl (by kernel_rfl),
 Refl.tdOk_fn Tryz.underlying110 rfl (by kernel_rfl),
 Refl.tdOk_fn Tryz.underlying113 rfl (by kernel_rfl),
 Refl.tdOk_fn Tryz.underlying115 rfl (by kernel_rfl),
 Refl.tdOk_fn Tryz.underlying116 rfl (by kernel_rfl),
 Refl.tdOk_fn Tryz.underlying117 rfl (by kernel_rfl),
 Refl.tdOk_fn Tryz.underlying119 rfl (by kernel_rfl),
 Refl.tdOk_fn Tryz.underlying121 rfl (by kernel_rfl),
 Refl.tdOk_fn Tryz.underlying122 rfl (by kernel_rfl),
 Refl.tdOk_fn Tryz.underlying123 rfl (by kernel_rfl),
 Refl.tdOk_fn Tryz.underlying126 rfl (by kernel_rfl),
 Refl.tdOk_fn Tryz.underlying127 rfl (by kernel_rfl),
 Refl.tdOk_fn Tryz.underlying128 rfl (by kernel_rfl),
 Refl.tdOk_fn Tryz.underlying129 rfl (by kernel_rfl),
 Refl.tdOk_fn Tryz.underlying131 rfl (by kernel_rfl),
 Refl.tdOk_fn Tryz.underlying133 rfl (by kernel_rfl),
 Refl.tdOk_fn Tryz.underlying134 rfl (by kernel_rfl),
 Refl.tdOk_fn Tryz.underlying135 rfl (by kernel_rfl),
 Refl.tdOk_fn Tryz.underlying136 rfl (by kernel_rfl),
 Refl.tdOk_fn Tryz.underlying137 rfl (by kernel_rfl),
 Refl.tdOk_fn Tryz.underlying138 rfl (by kernel_rfl),
 Refl.tdOk_fn Tryz.underlying139 rfl (by kernel_rfl),
 Refl.tdOk_fn Tryz.underlying140 rfl (by kernel_rfl),
 Refl.tdOk_fn Tryz.underlying145 rfl (by kernel_rfl),
 Refl.tdOk_fn Tryz.underlying146 rfl (by kernel_rfl),
 Refl.tdOk_fn Tryz.underlying147 rfl (by kernel_rfl),
 Refl.tdOk_fn Tryz.underlying148 rfl (by kernel_rfl),
 Refl.tdOk_fn Tryz.underlying149 rfl (by kernel_rfl),
 Refl.tdOk_fn Tryz.underlying150 rfl (by kernel_rfl),
 Refl.tdOk_fn Tryz.underlying151 rfl (by kernel_rfl),
 Refl.tdOk_fn Tryz.underlying152 rfl (by kernel_rfl),
 Refl.tdOk_fn Tryz.underlying153 rfl (by kernel_rfl),
 Refl.tdOk_fn Tryz.underlying154 rfl (by kernel_rfl),
 Refl.tdOk_fn Tryz.underlying155 rfl (by kernel_rfl),
 Refl.tdOk_fn Tryz.underlying156 rfl (by kernel_rfl),
 Refl.tdOk_fn Tryz.underlying157 rfl (by kernel_rfl),
 Refl.tdOk_fn Tryz.underlying158 rfl (by kernel_rfl),
 Refl.tdOk_fn Tryz.underlying159 rfl (by kernel_rfl),
 Refl.tdOk_fn Tryz.underlying160 rfl (by kernel_rfl),
 Refl.tdOk_ar Tryz.underlying161 (by kernel_rfl) rfl (by kernel_rfl) rfl,
 Refl.tdOk_fn Tryz.underlying162 rfl (by kernel_rfl),
 Refl.tdOk_fn Tryz.underlying163 rfl (by kernel_rfl),
 Refl.tdOk_fn Tryz.underlying164 rfl (by kernel_rfl),
 Refl.tdOk_fn Tryz.underlying165 rfl (by kernel_rfl),
 Refl.tdOk_fn Tryz.underlying166 rfl (by kernel_rfl),
 Refl.tdOk_ar Tryz.underlying167 (by kernel_rfl) rfl (by kernel_rfl) rfl,
 Refl.tdOk_ar Tryz.underlying168 (by kernel_rfl) rfl (by kernel_rfl) rfl,
 Refl.tdOk_fn Tryz.underlying169 rfl (by kernel_rfl),
 Refl.tdOk_sl (z := .agg #[.int .i64 0, .int .i64 0, .bool false]) Tryz.underlying170 (by kernel_rfl) (by kernel_rfl) (by kernel_rfl) rfl,
 Refl.tdOk_fn Tryz.underlying171 rfl (by kernel_rfl),
 Refl.tdOk_fn Tryz.underlying172 rfl (by kernel_rfl),
 Refl.tdOk_fn Tryz.underlying173 rfl (by kernel_rfl),
 Refl.tdOk_sl (z := .agg #[.int .i64 0, .int .i64 0, .int .i64 0, .int .i64 0, .int .i64 0, .bool false]) Tryz.underlying174 (by kernel_rfl) (by kernel_rfl) (by kernel_rfl) rfl,
 Refl.tdOk_fn Tryz.underlying175 rfl (by kernel_rfl),
 Refl.tdOk_fn Tryz.underlying176 rfl (by kernel_rfl),
 Refl.tdOk_fn Tryz.underlying177 rfl (by kernel_rfl),
 Refl.tdOk_fn Tryz.underlying178 rfl (by kernel_rfl),
 Refl.tdOk_fn Tryz.underlying179 rfl (by kernel_rfl),
 Refl.tdOk_ar Tryz.underlying180 (by kernel_rfl) rfl (by kernel_rfl) rfl,
 Refl.tdOk_fn Tryz.underlying181 rfl (by kernel_rfl),
 Refl.tdOk_fn Tryz.underlying182 rfl (by kernel_rfl),
 Refl.tdOk_fn Tryz.underlying183 rfl (by kernel_rfl),
 Refl.tdOk_fn Tryz.underlying185 rfl (by kernel_rfl),
 Refl.tdOk_fn Tryz.underlying186 rfl (by kernel_rfl),
 Refl.tdOk_fn Tryz.underlying190 rfl (by kernel_rfl),
 Refl.tdOk_fn Tryz.underlying191 rfl (by kernel_rfl),
 Refl.tdOk_sl (z := .agg #[.int .i64 0, .int .i64 0]) Tryz.underlying192 (by kernel_rfl) (by kernel_rfl) (by kernel_rfl) rfl,
 Refl.tdOk_fn Tryz.underlying193 rfl (by kernel_rfl),
 Refl.tdOk_int Tryz.underlying194 (by kernel_rfl),
 Refl.tdOk_sl (z := .bool false) Tryz.underlying195 (by kernel_rfl) (by kernel_rfl) (by kernel_rfl) rfl,
 Refl.tdOk_fn Tryz.underlying196 rfl (by kernel_rfl),
 Refl.tdOk_fn Tryz.underlying198 rfl (by kernel_rfl),
 Refl.tdOk_fn Tryz.underlying199 rfl (by kernel_rfl),
 Refl.tdOk_fn Tryz.underlying201 rfl (by kernel_rfl),
 Refl.tdOk_fn Tryz.underlying202 rfl (by kernel_rfl),
 Refl.tdOk_fn Tryz.underlying203 rfl (by kernel_rfl),
 Refl.tdOk_fn Tryz.underlying204 rfl (by kernel_rfl),
 Refl.tdOk_fn Tryz.underlying205 rfl (by kernel_rfl),
 Refl.tdOk_fn Tryz.underlying206 rfl (by kernel_rfl),
 Refl.tdOk_fn Tryz.underlying208 rfl (by kernel_rfl),
 Refl.tdOk_fn Tryz.underlying229 rfl (by kernel_rfl),
 Refl.tdOk_fn Tryz.underlying235 rfl (by kernel_rfl),
 Refl.tdOk_fn Tryz.underlying238 rfl (by kernel_rfl),
 Refl.tdOk_fn Tryz.underlying240 rfl (by kernel_rfl),
 Refl.tdOk_fn Tryz.underlying243 rfl (by kernel_rfl),
 Refl.tdOk_fn Tryz.underlying244 rfl (by kernel_rfl),
 Refl.tdOk_fn Tryz.underlying263 rfl (by kernel_rfl),
 Refl.tdOk_fn Tryz.underlying264 rfl (by kernel_rfl),
 Refl.tdOk_fn Tryz.underlying268 rfl (by kernel_rfl),
 Refl.tdOk_fn Tryz.underlying270 rfl (by kernel_rfl),
 Refl.tdOk_fn Tryz.underlying272 rfl (by kernel_rfl),
 Refl.tdOk_fn Tryz.underlying279 rfl (by kernel_rfl),
 Refl.tdOk_fn Tryz.underlying283 rfl (by kernel_rfl),
 Refl.tdOk_fn Tryz.underlying286 rfl (by kernel_rfl),
 Refl.tdOk_fn Tryz.underlying288 rfl (by kernel_rfl), trivial⟩
theorem GC : Refl.CtxOK Tryz.prog G := ⟨Refl.tds_ok gT_ok, by kernel_rfl⟩

end Go.Proofs.YtcicpmhcmlfhbaaGreatDoor.PA
