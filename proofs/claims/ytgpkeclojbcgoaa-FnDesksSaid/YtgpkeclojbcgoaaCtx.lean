import Derived.Test.YtgpkeclojbcgoaaPAx0
import Derived.KernelRfl
import Derived.Test.YtgpkeclojbcgoaaRefl
set_option autoImplicit false
set_option linter.unusedVariables false
set_option linter.unusedSimpArgs false
namespace Go.Proofs.Ytgpkeclojbcgoaa.PA
open Go.RowKit Go.Proofs.YtgpkeclojbcgoaaW.PrintWords Go.Proofs.YtgpkeclojbcgoaaW.PrintLast Go.Proofs.YtgpkeclojbcgoaaW.PrintMore
abbrev rkInt := Refl.rkInt
def rkStr : Refl.RK ByteArray where
 sz := 1
 enc x := [.string x]
 dec | [.string x] => some x
     | _ => none
 d := ⟨#[]⟩
 pos := by decide
 len _ := rfl
 one := by intro x v h; simp at h; subst h; rfl
 de := by
  intro c x h
  split at h
  · cases h; rfl
  · cases h
def rkBool : Refl.RK Bool where
 sz := 1
 enc x := [.bool x]
 dec | [.bool x] => some x
     | _ => none
 d := false
 pos := by decide
 len _ := rfl
 one := by intro x v h; simp at h; subst h; rfl
 de := by
  intro c x h
  split at h
  · cases h; rfl
  · cases h
abbrev li : Refl.LC := .int .i64
theorem flat_at {α : Type} (K : Refl.RK α) : ∀ (xs : List α) (j : Nat) (v : Value), (xs.flatMap K.enc)[j]? = some v → ∃ q p r, xs[q]? = some p ∧ (K.enc p)[r]? = some v ∧ j = q * K.sz + r
 | [], j, v, h => by simp at h
 | x :: xs, j, v, h => by
  rw [List.flatMap_cons] at h
  rcases Nat.lt_or_ge j K.sz with hj | hj
  · rw [List.getElem?_append_left (by rw [K.len]; exact hj)] at h
    exact ⟨0, x, j, rfl, h, by omega⟩
  · rw [List.getElem?_append_right (by rw [K.len]; exact hj), K.len] at h
    obtain ⟨q, p, r, h1, h2, h3⟩ := flat_at K xs _ v h
    exact ⟨q + 1, p, r, by simpa using h1, h2, by rw [Nat.succ_mul]; omega⟩
/-- A row that is handed over, in the print's words. -/
theorem c_of {α : Type} (d : Kd α) (K : Refl.RK α) (hk : ∀ w x, d.K w x (K.enc x)) (hs : d.sz = K.sz) {e base : Nat} {S : Nat → Nat → Prop} {w : World} {xs : List α} {y : Value} (h : Refl.RowRep base S Refl.μ0 w K e xs .ro y) : ∃ A c, y = .slice A xs.length c ∧ xs.length ≤ c ∧ Kd.C d w A xs.length xs := by
 obtain ⟨A, c, rfl, h1, h2, h3, _⟩ := h
 refine ⟨A, c, rfl, h1, rfl, by simpa [maxLen] using h2, fun hpos => ?_⟩
 obtain ⟨b, off, rfl, hall⟩ := h3 hpos
 refine ⟨_, rfl, fun j p hj => ⟨K.enc p, by rw [K.len, hs], hk _ _, fun i u hi => ?_⟩⟩
 have := (hall _ u (Refl.flat_get K xs j i p u hj hi)).1
 rw [hs, Refl.add_plain']
 exact this
theorem reps_flat {α : Type} (K : Refl.RK α) {R : α → List Value → Prop} (hk : ∀ x cs, R x cs → cs = K.enc x) : ∀ (ps : List α) (cs : List Value), Reps R K.sz ps cs → cs = ps.flatMap K.enc
 | [], cs, h => by
  have := h.1
  simp at this
  simp [this]
 | p :: ps, cs, h => by
  obtain ⟨h1, h2⟩ := h
  have e1 := hk _ _ (h2 0 p rfl)
  rw [Nat.zero_mul, List.drop_zero] at e1
  have e2 := reps_flat K hk ps (cs.drop K.sz) ⟨by rw [List.length_drop, h1, List.length_cons, Nat.succ_mul]; omega, fun j q hq => by
   have := h2 (j + 1) q (by simpa using hq)
   rwa [Nat.succ_mul, Nat.add_comm, ← List.drop_drop] at this⟩
  rw [List.flatMap_cons, ← e1, ← e2, List.take_append_drop]
/-- A row of the call's own, as the interpreter has it. -/
theorem new_of {α : Type} (d : Kd α) (K : Refl.RK α) (hk : ∀ w base ok x cs, d.M w base ok x cs → cs = K.enc x) (hs : d.sz = K.sz) {q : Nat} {w w' : World} {ok : Nat → Prop} {v : Value} {ys : List α} (h : Kd.R d q w' w.heap.size ok v ys) : Refl.NewRow w w' K q ys v := by
 obtain ⟨_, inner, ⟨hl, ho⟩, hr⟩ := h
 rw [hs] at hr hl ho
 have hi := reps_flat K (fun x cs hx => hk _ _ _ _ _ hx) ys inner hr
 rcases ho with ⟨rfl, h0⟩ | ⟨g, cap, cur, rfl, hg, hh, hn, hc, hsz, htk⟩
 · obtain rfl := List.eq_nil_of_length_eq_zero h0
   exact ⟨by simp, .inl ⟨rfl, none, rfl⟩⟩
 · refine ⟨Nat.le_trans hn hc, .inr ⟨g, cur, cap, cur.toList.drop (ys.length * K.sz), hg, hh, ?_, hn, hc, hsz, rfl⟩⟩
   rw [← hi, ← htk, List.take_append_drop]
/-- A row of the law's own arguments. -/
theorem row_of {α : Type} (d : Kd α) (K : Refl.RK α) (hk : ∀ w x cs, d.K w x cs → cs = K.enc x) (hs : d.sz = K.sz) {e : Nat} {w : World} {A : Option Addr} {c : Nat} {xs : List α} (h : Kd.C d w A xs.length xs) (hc : xs.length ≤ c) : Refl.RowRep w.heap.size (fun _ _ => True) Refl.μ0 w K e xs .ro (.slice A xs.length c) := by
 obtain ⟨_, hn, hx⟩ := h
 refine ⟨A, c, rfl, hc, by simp only [maxLen]; omega, fun hpos => ?_, trivial⟩
 obtain ⟨ad, rfl, hall⟩ := hx hpos
 have hsp : ad.spot = none := by
  obtain ⟨cs, hl, hr, hcell⟩ := hall 0 _ (List.getElem?_eq_getElem hpos)
  have hl0 : 0 < cs.length := by rw [hl, hs]; exact K.pos
  have := hcell 0 _ (List.getElem?_eq_getElem hl0)
  rw [Nat.zero_mul, show ad.add (0 + 0) = ad from rfl] at this
  unfold World.cell? at this
  split at this
  · split at this
    · cases this
    · rename_i hq; simpa using hq
  · cases this
 obtain ⟨b, off, sp⟩ := ad
 cases hsp
 refine ⟨b, off, rfl, fun j v hj => ⟨?_, ⟨fun s e => (by cases e), fun d j u e => (by cases e)⟩, fun _ => trivial⟩⟩
 obtain ⟨q, p, r, h1, h2, rfl⟩ := flat_at K xs j v hj
 obtain ⟨cs, hl, hr, hcell⟩ := hall q p h1
 obtain rfl := hk _ _ _ hr
 have := hcell r v h2
 rw [hs] at this
 have e : (⟨b, off, none⟩ : Addr).add (q * K.sz + r) = ⟨b, off + (q * K.sz + r), none⟩ := by unfold Addr.add; split <;> simp_all
 rwa [e] at this
def zi (k : IntKind) : Refl.Zc := .v (.int k 0)
def zb : Refl.Zc := .v (.bool false)
def zs : Refl.Zc := .v (.string ⟨#[]⟩)
def zk (k : IntKind) : Refl.BC := .k (.int k 0)
def zkb : Refl.BC := .k (.bool false)
def zks : Refl.BC := .k (.string ⟨#[]⟩)
def zkr (e : Nat) : Refl.BC := .n e
def rk38 : Refl.RK S38 where
 sz := 4
 enc x := [.int .i64 x.f0, .int .i64 x.f1, .string x.f2, .string x.f3]
 dec | [.int .i64 a0, .int .i64 a1, .string a2, .string a3] => some ⟨a0, a1, a2, a3⟩
     | _ => none
 d := z38
 pos := by decide
 len _ := rfl
 one := by intro x v h; simp at h; rcases h with rfl | rfl | rfl | rfl <;> rfl
 de := by
  intro c x h
  split at h
  · cases h; rfl
  · cases h
def gL0 : List Refl.BC := [.l (.int .i64), .l (.int .i64), .l .str, .l .str]
def gL1 : List Refl.LC := [(.row 9 false), (.row 38 false), (.row 38 false)]
def gL2 : List Refl.BC := [.l (.row 9 false), .l (.row 38 false), .l (.row 38 false)]
def gL3 : List Refl.LC := [(.row 9 true), (.row 38 true), (.row 38 true)]
def gL4 : List Refl.LC := [(.row 5 false), li, (.int .u64)]
def gL5 : List Refl.BC := [.l (.row 5 false), .l (.int .i64), .l (.int .u64)]
def gL6 : List Refl.BC := [zkr 9, zkr 38, zkr 38]
def gL7 : List Refl.BC := [zk .i64, zk .i64, zks, zks]
def gL8 : List Refl.BC := [.l (.row 9 true), .l (.row 38 true), .l (.row 38 true)]
def gT : List (Nat × Refl.TD) := [(1, .fn),
 (2, .int .i64),
 (3, .int .i64),
 (4, .bool),
 (5, .int .u8),
 (9, .str),
 (12, .int .u64),
 (21, .int .i32),
 (22, .sl 5 1),
 (23, .fn),
 (24, .sl 9 16),
 (25, .sl 38 48),
 (26, .st 3 [.row 9, .row 38, .row 38] [⟨0, 1, false, 24⟩, ⟨1, 1, false, 25⟩, ⟨2, 1, false, 25⟩]),
 (27, .st 3 [.row 9, .row 38, .row 38] [⟨0, 1, false, 24⟩, ⟨1, 1, false, 25⟩, ⟨2, 1, false, 25⟩]),
 (28, .fn),
 (30, .fn),
 (32, .fn),
 (33, .fn),
 (34, .fn),
 (35, .fn),
 (36, .fn),
 (37, .st 4 [zi .i64, zi .i64, zs, zs] [⟨0, 1, false, 3⟩, ⟨1, 1, false, 3⟩, ⟨2, 1, false, 9⟩, ⟨3, 1, false, 9⟩]),
 (38, .st 4 [zi .i64, zi .i64, zs, zs] [⟨0, 1, false, 3⟩, ⟨1, 1, false, 3⟩, ⟨2, 1, false, 9⟩, ⟨3, 1, false, 9⟩]),
 (40, .fn),
 (42, .fn),
 (43, .fn),
 (45, .fn),
 (47, .fn),
 (48, .sl 3 8),
 (50, .fn),
 (52, .fn),
 (53, .fn),
 (54, .fn),
 (55, .fn),
 (56, .fn),
 (58, .fn),
 (60, .fn),
 (62, .fn),
 (63, .fn),
 (65, .fn),
 (66, .fn),
 (67, .fn),
 (68, .fn),
 (69, .fn),
 (70, .fn),
 (71, .fn),
 (72, .fn),
 (73, .fn),
 (74, .fn),
 (75, .fn),
 (76, .fn),
 (77, .fn),
 (78, .ar 3 3 1 [zi .i64, zi .i64, zi .i64]),
 (80, .int .u64),
 (82, .st 3 [.row 5, zi .i64, zi .u64] [⟨0, 1, false, 22⟩, ⟨1, 1, false, 3⟩, ⟨2, 1, false, 80⟩]),
 (83, .fn),
 (84, .fn),
 (85, .fn),
 (86, .fn),
 (87, .fn),
 (88, .fn),
 (89, .fn),
 (90, .fn),
 (91, .fn),
 (92, .fn),
 (94, .ar 2 9 1 [zs, zs]),
 (95, .fn),
 (96, .fn),
 (97, .fn),
 (98, .fn),
 (99, .fn),
 (100, .fn),
 (101, .fn),
 (102, .fn),
 (103, .fn),
 (104, .fn),
 (105, .fn),
 (106, .fn),
 (107, .fn),
 (108, .fn),
 (109, .fn),
 (110, .fn),
 (111, .fn),
 (112, .fn),
 (113, .fn),
 (114, .fn),
 (115, .fn),
 (116, .fn),
 (118, .fn),
 (119, .fn),
 (120, .fn),
 (122, .fn),
 (124, .fn),
 (125, .fn),
 (126, .fn),
 (127, .int .u64),
 (128, .fn),
 (129, .fn),
 (130, .fn),
 (131, .int .i64),
 (133, .fn),
 (134, .fn),
 (135, .fn),
 (136, .fn),
 (137, .fn),
 (138, .int .u32),
 (139, .fn),
 (140, .fn),
 (141, .fn),
 (142, .int .u64),
 (143, .fn),
 (144, .fn),
 (145, .fn),
 (147, .fn),
 (150, .fn),
 (156, .int .u8),
 (157, .int .u8),
 (158, .fn),
 (160, .int .i32),
 (161, .int .i32)]
def gK : List (Nat × Refl.KD) := [(3, ⟨Int, rkInt .i64⟩), (5, ⟨Int, rkInt .u8⟩), (9, ⟨ByteArray, rkStr⟩), (38, ⟨S38, rk38⟩)]
def G : Refl.Ctx := ⟨Refl.kdGet ⟨Int, rkInt .i64⟩ gK, Refl.tdGet gT, 5, rfl, Int.instDecidableEq⟩
def Gd (d : DecidableEq Int) : Refl.Ctx := ⟨Refl.kdGet ⟨Int, rkInt .i64⟩ gK, Refl.tdGet gT, 5, rfl, d⟩
theorem gT_ok : Refl.TDsOK Try.prog G gT := ⟨Refl.tdOk_fn Try.underlying1 rfl (by kernel_rfl),
 Refl.tdOk_int Try.underlying2 (by kernel_rfl),
 Refl.tdOk_int Try.underlying3 (by kernel_rfl),
 Refl.tdOk_bool Try.underlying4 (by kernel_rfl),
 Refl.tdOk_int Try.underlying5 (by kernel_rfl),
 Refl.tdOk_str Try.underlying9 (by kernel_rfl),
 Refl.tdOk_int Try.underlying12 (by kernel_rfl),
 Refl.tdOk_int Try.underlying21 (by kernel_rfl),
 Refl.tdOk_sl (z := .int .u8 0) Try.underlying22 (by kernel_rfl) (by kernel_rfl) (by kernel_rfl) rfl,
 Refl.tdOk_fn Try.underlying23 rfl (by kernel_rfl),
 Refl.tdOk_sl (z := .string ⟨#[]⟩) Try.underlying24 (by kernel_rfl) (by kernel_rfl) (by kernel_rfl) rfl,
 Refl.tdOk_sl (z := .agg #[.int .i64 0, .int .i64 0, .string ⟨#[]⟩, .string ⟨#[]⟩]) Try.underlying25 (by kernel_rfl) (by kernel_rfl) (by kernel_rfl) rfl,
 Refl.tdOk_st Try.underlying26 (by kernel_rfl) rfl (by kernel_rfl) (by kernel_rfl) (by kernel_rfl),
 Refl.tdOk_st Try.underlying27 (by kernel_rfl) rfl (by kernel_rfl) (by kernel_rfl) (by kernel_rfl),
 Refl.tdOk_fn Try.underlying28 rfl (by kernel_rfl),
 Refl.tdOk_fn Try.underlying30 rfl (by kernel_rfl),
 Refl.tdOk_fn Try.underlying32 rfl (by kernel_rfl),
 Refl.tdOk_fn Try.underlying33 rfl (by kernel_rfl),
 Refl.tdOk_fn Try.underlying34 rfl (by kernel_rfl),
 Refl.tdOk_fn Try.underlying35 rfl (by kernel_rfl),
 Refl.tdOk_fn Try.underlying36 rfl (by kernel_rfl),
 Refl.tdOk_st Try.underlying37 (by kernel_rfl) rfl (by kernel_rfl) (by kernel_rfl) (by kernel_rfl),
 Refl.tdOk_st Try.underlying38 (by kernel_rfl) rfl (by kernel_rfl) (by kernel_rfl) (by kernel_rfl),
 Refl.tdOk_fn Try.underlying40 rfl (by kernel_rfl),
 Refl.tdOk_fn Try.underlying42 rfl (by kernel_rfl),
 Refl.tdOk_fn Try.underlying43 rfl (by kernel_rfl),
 Refl.tdOk_fn Try.underlying45 rfl (by kernel_rfl),
 Refl.tdOk_fn Try.underlying47 rfl (by kernel_rfl),
 Refl.tdOk_sl (z := .int .i64 0) Try.underlying48 (by kernel_rfl) (by kernel_rfl) (by kernel_rfl) rfl,
 Refl.tdOk_fn Try.underlying50 rfl (by kernel_rfl),
 Refl.tdOk_fn Try.underlying52 rfl (by kernel_rfl),
 Refl.tdOk_fn Try.underlying53 rfl (by kernel_rfl),
 Refl.tdOk_fn Try.underlying54 rfl (by kernel_rfl),
 Refl.tdOk_fn Try.underlying55 rfl (by kernel_rfl),
 Refl.tdOk_fn Try.underlying56 rfl (by kernel_rfl),
 Refl.tdOk_fn Try.underlying58 rfl (by kernel_rfl),
 Refl.tdOk_fn Try.underlying60 rfl (by kernel_rfl),
 Refl.tdOk_fn Try.underlying62 rfl (by kernel_rfl),
 Refl.tdOk_fn Try.underlying63 rfl (by kernel_rfl),
 Refl.tdOk_fn Try.underlying65 rfl (by kernel_rfl),
 Refl.tdOk_fn Try.underlying66 rfl (by kernel_rfl),
 Refl.tdOk_fn Try.underlying67 rfl (by kernel_rfl),
 Refl.tdOk_fn Try.underlying68 rfl (by kernel_rfl),
 Refl.tdOk_fn Try.underlying69 rfl (by kernel_rfl),
 Refl.tdOk_fn Try.underlying70 rfl (by kernel_rfl),
 Refl.tdOk_fn Try.underlying71 rfl (by kernel_rfl),
 Refl.tdOk_fn Try.underlying72 rfl (by kernel_rfl),
 Refl.tdOk_fn Try.underlying73 rfl (by kernel_rfl),
 Refl.tdOk_fn Try.underlying74 rfl (by kernel_rfl),
 Refl.tdOk_fn Try.underlying75 rfl (by kernel_rfl),
 Refl.tdOk_fn Try.underlying76 rfl (by kernel_rfl),
 Refl.tdOk_fn Try.underlying77 rfl (by kernel_rfl),
 Refl.tdOk_ar Try.underlying78 (by kernel_rfl) rfl (by kernel_rfl) rfl,
 Refl.tdOk_int Try.underlying80 (by kernel_rfl),
 Refl.tdOk_st Try.underlying82 (by kernel_rfl) rfl (by kernel_rfl) (by kernel_rfl) (by kernel_rfl),
 Refl.tdOk_fn Try.underlying83 rfl (by kernel_rfl),
 Refl.tdOk_fn Try.underlying84 rfl (by kernel_rfl),
 Refl.tdOk_fn Try.underlying85 rfl (by kernel_rfl),
 Refl.tdOk_fn Try.underlying86 rfl (by kernel_rfl),
 Refl.tdOk_fn Try.underlying87 rfl (by kernel_rfl),
 Refl.tdOk_fn Try.underlying88 rfl (by kernel_rfl),
 Refl.tdOk_fn Try.underlying89 rfl (by kernel_rfl),
 Refl.tdOk_fn Try.underlying90 rfl (by kernel_rfl),
 Refl.tdOk_fn Try.underlying91 rfl (by kernel_rfl),
 Refl.tdOk_fn Try.underlying92 rfl (by kernel_rfl),
 Refl.tdOk_ar Try.underlying94 (by kernel_rfl) rfl (by kernel_rfl) rfl,
 Refl.tdOk_fn Try.underlying95 rfl (by kernel_rfl),
 Refl.tdOk_fn Try.underlying96 rfl (by kernel_rfl),
 Refl.tdOk_fn Try.underlying97 rfl (by kernel_rfl),
 Refl.tdOk_fn Try.underlying98 rfl (by kernel_rfl),
 Refl.tdOk_fn Try.underlying99 rfl (by kernel_rfl),
 Refl.tdOk_fn Try.underlying100 rfl (by kernel_rfl),
 Refl.tdOk_fn Try.underlying101 rfl (by kernel_rfl),
 Refl.tdOk_fn Try.underlying102 rfl (by kernel_rfl),
 Refl.tdOk_fn Try.underlying103 rfl (by kernel_rfl),
 Refl.tdOk_fn Try.underlying104 rfl (by kernel_rfl),
 Refl.tdOk_fn Try.underlying105 rfl (by kernel_rfl),
 Refl.tdOk_fn Try.underlying106 rfl (by kernel_rfl),
 Refl.tdOk_fn Try.underlying107 rfl (by kernel_rfl),
 Refl.tdOk_fn Try.underlying108 rfl (by kernel_rfl),
 Refl.tdOk_fn Try.underlying109 rfl (by kernel_rfl),
 Refl.tdOk_fn Try.underlying110 rfl (by kernel_rfl),
 Refl.tdOk_fn Try.underlying111 rfl (by kernel_rfl),
 Refl.tdOk_fn Try.underlying112 rfl (by kernel_rfl),
 Refl.tdOk_fn Try.underlying113 rfl (by kernel_rfl),
 Refl.tdOk_fn Try.underlying114 rfl (by kernel_rfl),
 Refl.tdOk_fn Try.underlying115 rfl (by kernel_rfl),
 Refl.tdOk_fn Try.underlying116 rfl (by kernel_rfl),
 Refl.tdOk_fn Try.underlying118 rfl (by kernel_rfl),
 Refl.tdOk_fn Try.underlying119 rfl (by kernel_rfl),
 Refl.tdOk_fn Try.underlying120 rfl (by kernel_rfl),
 Refl.tdOk_fn Try.underlying122 rfl (by kernel_rfl),
 Refl.tdOk_fn Try.underlying124 rfl (by kernel_rfl),
 Refl.tdOk_fn Try.underlying125 rfl (by kernel_rfl),
 Refl.tdOk_fn Try.underlying126 rfl (by kernel_rfl),
 Refl.tdOk_int Try.underlying127 (by kernel_rfl),
 Refl.tdOk_fn Try.underlying128 rfl (by kernel_rfl),
 Refl.tdOk_fn Try.underlying129 rfl (by kernel_rfl),
 Refl.tdOk_fn Try.underlying130 rfl (by kernel_rfl),
 Refl.tdOk_int Try.underlying131 (by kernel_rfl),
 Refl.tdOk_fn Try.underlying133 rfl (by kernel_rfl),
 Refl.tdOk_fn Try.underlying134 rfl (by kernel_rfl),
 Refl.tdOk_fn Try.underlying135 rfl (by kernel_rfl),
 Refl.tdOk_fn Try.underlying136 rfl (by kernel_rfl),
 Refl.tdOk_fn Try.underlying137 rfl (by kernel_rfl),
 Refl.tdOk_int Try.underlying138 (by kernel_rfl),
 Refl.tdOk_fn Try.underlying139 rfl (by kernel_rfl),
 Refl.tdOk_fn Try.underlying140 rfl (by kernel_rfl),
 Refl.tdOk_fn Try.underlying141 rfl (by kernel_rfl),
 Refl.tdOk_int Try.underlying142 (by kernel_rfl),
 Refl.tdOk_fn Try.underlying143 rfl (by kernel_rfl),
 Refl.tdOk_fn Try.underlying144 rfl (by kernel_rfl),
 Refl.tdOk_fn Try.underlying145 rfl (by kernel_rfl),
 Refl.tdOk_fn Try.underlying147 rfl (by kernel_rfl),
 Refl.tdOk_fn Try.underlying150 rfl (by kernel_rfl),
 Refl.tdOk_int Try.underlying156 (by kernel_rfl),
 Refl.tdOk_int Try.underlying157 (by kernel_rfl),
 Refl.tdOk_fn Try.underlying158 rfl (by kernel_rfl),
 Refl.tdOk_int Try.underlying160 (by kernel_rfl),
 Refl.tdOk_int Try.underlying161 (by kernel_rfl), trivial⟩
theorem GC : Refl.CtxOK Try.prog G := ⟨Refl.tds_ok gT_ok, by kernel_rfl⟩

end Go.Proofs.Ytgpkeclojbcgoaa.PA
