import Derived.Test.YtaaldnaefdodkaaDoorPAx0
import Derived.KernelRfl
import Derived.Test.YtaaldnaefdodkaaDoorRefl
set_option autoImplicit false
set_option linter.unusedVariables false
set_option linter.unusedSimpArgs false
namespace Go.Proofs.YtaaldnaefdodkaaDoor.PA
open Go.RowKit Go.Proofs.YtaaldnaefdodkaaDoorW.PrintWords Go.Proofs.YtaaldnaefdodkaaDoorW.PrintLast Go.Proofs.YtaaldnaefdodkaaDoorW.PrintMore
abbrev rkInt := Refl.rkInt
def rkStr : Refl.RK ByteArray where
 sz := 1
 enc x := [.string x]
 dec | [.string x] => some x
     | _ => none
 d := ⟨#[]⟩
 pos := by decide
 len _ := rfl
 one := by intro x v h; simp at h; subst h; rfl
 de := by
  intro c x h
  split at h
  · cases h; rfl
  · cases h
def rkBool : Refl.RK Bool where
 sz := 1
 enc x := [.bool x]
 dec | [.bool x] => some x
     | _ => none
 d := false
 pos := by decide
 len _ := rfl
 one := by intro x v h; simp at h; subst h; rfl
 de := by
  intro c x h
  split at h
  · cases h; rfl
  · cases h
abbrev li : Refl.LC := .int .i64
theorem flat_at {α : Type} (K : Refl.RK α) : ∀ (xs : List α) (j : Nat) (v : Value), (xs.flatMap K.enc)[j]? = some v → ∃ q p r, xs[q]? = some p ∧ (K.enc p)[r]? = some v ∧ j = q * K.sz + r
 | [], j, v, h => by simp at h
 | x :: xs, j, v, h => by
  rw [List.flatMap_cons] at h
  rcases Nat.lt_or_ge j K.sz with hj | hj
  · rw [List.getElem?_append_left (by rw [K.len]; exact hj)] at h
    exact ⟨0, x, j, rfl, h, by omega⟩
  · rw [List.getElem?_append_right (by rw [K.len]; exact hj), K.len] at h
    obtain ⟨q, p, r, h1, h2, h3⟩ := flat_at K xs _ v h
    exact ⟨q + 1, p, r, by simpa using h1, h2, by rw [Nat.succ_mul]; omega⟩
/-- A row of the law's own arguments. -/
theorem row_of {α : Type} (d : Kd α) (K : Refl.RK α) (hk : ∀ w x cs, d.K w x cs → cs = K.enc x) (hs : d.sz = K.sz) {e : Nat} {w : World} {A : Option Addr} {c : Nat} {xs : List α} (h : Kd.C d w A xs.length xs) (hc : xs.length ≤ c) : Refl.RowRep w.heap.size (fun _ _ => True) Refl.μ0 w K e xs .ro (.slice A xs.length c) := by
 obtain ⟨_, hn, hx⟩ := h
 refine ⟨A, c, rfl, hc, by simp only [maxLen]; omega, fun hpos => ?_, trivial⟩
 obtain ⟨ad, rfl, hall⟩ := hx hpos
 have hsp : ad.spot = none := by
  obtain ⟨cs, hl, hr, hcell⟩ := hall 0 _ (List.getElem?_eq_getElem hpos)
  have hl0 : 0 < cs.length := by rw [hl, hs]; exact K.pos
  have := hcell 0 _ (List.getElem?_eq_getElem hl0)
  rw [Nat.zero_mul, show ad.add (0 + 0) = ad from rfl] at this
  unfold World.cell? at this
  split at this
  · split at this
    · cases this
    · rename_i hq; simpa using hq
  · cases this
 obtain ⟨b, off, sp⟩ := ad
 cases hsp
 refine ⟨b, off, rfl, fun j v hj => ⟨?_, ⟨fun s e => (by cases e), fun d j u e => (by cases e)⟩, fun _ => trivial⟩⟩
 obtain ⟨q, p, r, h1, h2, rfl⟩ := flat_at K xs j v hj
 obtain ⟨cs, hl, hr, hcell⟩ := hall q p h1
 obtain rfl := hk _ _ _ hr
 have := hcell r v h2
 rw [hs] at this
 have e : (⟨b, off, none⟩ : Addr).add (q * K.sz + r) = ⟨b, off + (q * K.sz + r), none⟩ := by unfold Addr.add; split <;> simp_all
 rwa [e] at this
def zi (k : IntKind) : Refl.Zc := .v (.int k 0)
def zb : Refl.Zc := .v (.bool false)
def zs : Refl.Zc := .v (.string ⟨#[]⟩)
def zk (k : IntKind) : Refl.BC := .k (.int k 0)
def zkb : Refl.BC := .k (.bool false)
def zks : Refl.BC := .k (.string ⟨#[]⟩)

def gL0 : List Refl.LC := [li, li, li, li, li, .bool, li, li, li, li, .bool, .str, li]
def gL1 : List Refl.BC := [.l (.int .i64), .l (.int .i64), .l (.int .i64), .l (.int .i64), .l (.int .i64), .l .bool]
def gT : List (Nat × Refl.TD) := [(1, .fn),
 (2, .int .i64),
 (3, .int .i64),
 (4, .bool),
 (5, .int .u8),
 (9, .str),
 (12, .int .u64),
 (21, .int .i32),
 (22, .st 6 [zi .i64, zi .i64, zi .i64, zi .i64, zi .i64, zb] [⟨0, 1, false, 3⟩, ⟨1, 1, false, 3⟩, ⟨2, 1, false, 3⟩, ⟨3, 1, false, 3⟩, ⟨4, 1, false, 3⟩, ⟨5, 1, false, 4⟩]),
 (23, .st 6 [zi .i64, zi .i64, zi .i64, zi .i64, zi .i64, zb] [⟨0, 1, false, 3⟩, ⟨1, 1, false, 3⟩, ⟨2, 1, false, 3⟩, ⟨3, 1, false, 3⟩, ⟨4, 1, false, 3⟩, ⟨5, 1, false, 4⟩]),
 (24, .st 2 [zi .i64, zi .i64] [⟨0, 1, false, 3⟩, ⟨1, 1, false, 3⟩]),
 (25, .st 2 [zi .i64, zi .i64] [⟨0, 1, false, 3⟩, ⟨1, 1, false, 3⟩]),
 (26, .st 3 [zi .i64, zi .i64, zb] [⟨0, 1, false, 3⟩, ⟨1, 1, false, 3⟩, ⟨2, 1, false, 4⟩]),
 (27, .st 3 [zi .i64, zi .i64, zb] [⟨0, 1, false, 3⟩, ⟨1, 1, false, 3⟩, ⟨2, 1, false, 4⟩]),
 (28, .st 2 [zs, zi .i64] [⟨0, 1, false, 9⟩, ⟨1, 1, false, 3⟩]),
 (29, .st 2 [zs, zi .i64] [⟨0, 1, false, 9⟩, ⟨1, 1, false, 3⟩]),
 (30, .st 13 [zi .i64, zi .i64, zi .i64, zi .i64, zi .i64, zb, zi .i64, zi .i64, zi .i64, zi .i64, zb, zs, zi .i64] [⟨0, 6, true, 23⟩, ⟨6, 2, true, 25⟩, ⟨8, 3, true, 27⟩, ⟨11, 2, true, 29⟩]),
 (31, .st 13 [zi .i64, zi .i64, zi .i64, zi .i64, zi .i64, zb, zi .i64, zi .i64, zi .i64, zi .i64, zb, zs, zi .i64] [⟨0, 6, true, 23⟩, ⟨6, 2, true, 25⟩, ⟨8, 3, true, 27⟩, ⟨11, 2, true, 29⟩]),
 (32, .fn),
 (34, .fn),
 (35, .st 6 [zi .i64, zi .i64, zi .i64, zi .i64, zi .i64, zb] [⟨0, 1, false, 3⟩, ⟨1, 1, false, 3⟩, ⟨2, 1, false, 3⟩, ⟨3, 1, false, 3⟩, ⟨4, 1, false, 3⟩, ⟨5, 1, false, 4⟩]),
 (36, .st 2 [zi .i64, zi .i64] [⟨0, 1, false, 3⟩, ⟨1, 1, false, 3⟩]),
 (37, .st 3 [zi .i64, zi .i64, zb] [⟨0, 1, false, 3⟩, ⟨1, 1, false, 3⟩, ⟨2, 1, false, 4⟩]),
 (38, .st 2 [zs, zi .i64] [⟨0, 1, false, 9⟩, ⟨1, 1, false, 3⟩]),
 (40, .st 13 [zi .i64, zi .i64, zi .i64, zi .i64, zi .i64, zb, zi .i64, zi .i64, zi .i64, zi .i64, zb, zs, zi .i64] [⟨0, 6, true, 35⟩, ⟨6, 2, true, 36⟩, ⟨8, 3, true, 37⟩, ⟨11, 2, true, 38⟩]),
 (41, .fn),
 (42, .fn),
 (43, .fn),
 (44, .fn),
 (45, .fn),
 (46, .fn),
 (47, .fn),
 (48, .fn),
 (49, .fn),
 (50, .fn),
 (51, .fn),
 (53, .fn),
 (54, .fn),
 (59, .fn),
 (60, .fn),
 (61, .sl 3 8),
 (62, .fn),
 (63, .fn),
 (64, .fn),
 (65, .fn),
 (66, .fn),
 (67, .sl 9 16),
 (68, .fn),
 (69, .fn),
 (75, .sl 5 1),
 (76, .fn),
 (77, .fn),
 (78, .fn),
 (79, .fn),
 (80, .ar 24 5 1 [zi .u8, zi .u8, zi .u8, zi .u8, zi .u8, zi .u8, zi .u8, zi .u8, zi .u8, zi .u8, zi .u8, zi .u8, zi .u8, zi .u8, zi .u8, zi .u8, zi .u8, zi .u8, zi .u8, zi .u8, zi .u8, zi .u8, zi .u8, zi .u8]),
 (81, .int .u64),
 (82, .fn),
 (83, .fn),
 (85, .fn),
 (86, .fn),
 (100, .fn),
 (101, .int .u8),
 (102, .int .u8),
 (105, .int .i32)]
def gK : List (Nat × Refl.KD) := [(3, ⟨Int, rkInt .i64⟩), (5, ⟨Int, rkInt .u8⟩), (9, ⟨ByteArray, rkStr⟩), (81, ⟨Int, rkInt .u64⟩)]
def G : Refl.Ctx := ⟨Refl.kdGet ⟨Int, rkInt .i64⟩ gK, Refl.tdGet gT, 5, rfl⟩
theorem gT_ok : Refl.TDsOK Tryd.prog G gT := ⟨Refl.tdOk_fn Tryd.underlying1 rfl (by kernel_rfl),
 Refl.tdOk_int Tryd.underlying2 (by kernel_rfl),
 Refl.tdOk_int Tryd.underlying3 (by kernel_rfl),
 Refl.tdOk_bool Tryd.underlying4 (by kernel_rfl),
 Refl.tdOk_int Tryd.underlying5 (by kernel_rfl),
 Refl.tdOk_str Tryd.underlying9 (by kernel_rfl),
 Refl.tdOk_int Tryd.underlying12 (by kernel_rfl),
 Refl.tdOk_int Tryd.underlying21 (by kernel_rfl),
 Refl.tdOk_st Tryd.underlying22 (by kernel_rfl) rfl (by kernel_rfl) (by kernel_rfl) (by kernel_rfl),
 Refl.tdOk_st Tryd.underlying23 (by kernel_rfl) rfl (by kernel_rfl) (by kernel_rfl) (by kernel_rfl),
 Refl.tdOk_st Tryd.underlying24 (by kernel_rfl) rfl (by kernel_rfl) (by kernel_rfl) (by kernel_rfl),
 Refl.tdOk_st Tryd.underlying25 (by kernel_rfl) rfl (by kernel_rfl) (by kernel_rfl) (by kernel_rfl),
 Refl.tdOk_st Tryd.underlying26 (by kernel_rfl) rfl (by kernel_rfl) (by kernel_rfl) (by kernel_rfl),
 Refl.tdOk_st Tryd.underlying27 (by kernel_rfl) rfl (by kernel_rfl) (by kernel_rfl) (by kernel_rfl),
 Refl.tdOk_st Tryd.underlying28 (by kernel_rfl) rfl (by kernel_rfl) (by kernel_rfl) (by kernel_rfl),
 Refl.tdOk_st Tryd.underlying29 (by kernel_rfl) rfl (by kernel_rfl) (by kernel_rfl) (by kernel_rfl),
 Refl.tdOk_st Tryd.underlying30 (by kernel_rfl) rfl (by kernel_rfl) (by kernel_rfl) (by kernel_rfl),
 Refl.tdOk_st Tryd.underlying31 (by kernel_rfl) rfl (by kernel_rfl) (by kernel_rfl) (by kernel_rfl),
 Refl.tdOk_fn Tryd.underlying32 rfl (by kernel_rfl),
 Refl.tdOk_fn Tryd.underlying34 rfl (by kernel_rfl),
 Refl.tdOk_st Tryd.underlying35 (by kernel_rfl) rfl (by kernel_rfl) (by kernel_rfl) (by kernel_rfl),
 Refl.tdOk_st Tryd.underlying36 (by kernel_rfl) rfl (by kernel_rfl) (by kernel_rfl) (by kernel_rfl),
 Refl.tdOk_st Tryd.underlying37 (by kernel_rfl) rfl (by kernel_rfl) (by kernel_rfl) (by kernel_rfl),
 Refl.tdOk_st Tryd.underlying38 (by kernel_rfl) rfl (by kernel_rfl) (by kernel_rfl) (by kernel_rfl),
 Refl.tdOk_st Tryd.underlying40 (by kernel_rfl) rfl (by kernel_rfl) (by kernel_rfl) (by kernel_rfl),
 Refl.tdOk_fn Tryd.underlying41 rfl (by kernel_rfl),
 Refl.tdOk_fn Tryd.underlying42 rfl (by kernel_rfl),
 Refl.tdOk_fn Tryd.underlying43 rfl (by kernel_rfl),
 Refl.tdOk_fn Tryd.underlying44 rfl (by kernel_rfl),
 Refl.tdOk_fn Tryd.underlying45 rfl (by kernel_rfl),
 Refl.tdOk_fn Tryd.underlying46 rfl (by kernel_rfl),
 Refl.tdOk_fn Tryd.underlying47 rfl (by kernel_rfl),
 Refl.tdOk_fn Tryd.underlying48 rfl (by kernel_rfl),
 Refl.tdOk_fn Tryd.underlying49 rfl (by kernel_rfl),
 Refl.tdOk_fn Tryd.underlying50 rfl (by kernel_rfl),
 Refl.tdOk_fn Tryd.underlying51 rfl (by kernel_rfl),
 Refl.tdOk_fn Tryd.underlying53 rfl (by kernel_rfl),
 Refl.tdOk_fn Tryd.underlying54 rfl (by kernel_rfl),
 Refl.tdOk_fn Tryd.underlying59 rfl (by kernel_rfl),
 Refl.tdOk_fn Tryd.underlying60 rfl (by kernel_rfl),
 Refl.tdOk_sl (z := .int .i64 0) Tryd.underlying61 (by kernel_rfl) (by kernel_rfl) (by kernel_rfl) rfl,
 Refl.tdOk_fn Tryd.underlying62 rfl (by kernel_rfl),
 Refl.tdOk_fn Tryd.underlying63 rfl (by kernel_rfl),
 Refl.tdOk_fn Tryd.underlying64 rfl (by kernel_rfl),
 Refl.tdOk_fn Tryd.underlying65 rfl (by kernel_rfl),
 Refl.tdOk_fn Tryd.underlying66 rfl (by kernel_rfl),
 Refl.tdOk_sl (z := .string ⟨#[]⟩) Tryd.underlying67 (by kernel_rfl) (by kernel_rfl) (by kernel_rfl) rfl,
 Refl.tdOk_fn Tryd.underlying68 rfl (by kernel_rfl),
 Refl.tdOk_fn Tryd.underlying69 rfl (by kernel_rfl),
 Refl.tdOk_sl (z := .int .u8 0) Tryd.underlying75 (by kernel_rfl) (by kernel_rfl) (by kernel_rfl) rfl,
 Refl.tdOk_fn Tryd.underlying76 rfl (by kernel_rfl),
 Refl.tdOk_fn Tryd.underlying77 rfl (by kernel_rfl),
 Refl.tdOk_fn Tryd.underlying78 rfl (by kernel_rfl),
 Refl.tdOk_fn Tryd.underlying79 rfl (by kernel_rfl),
 Refl.tdOk_ar Tryd.underlying80 (by kernel_rfl) rfl (by kernel_rfl) rfl,
 Refl.tdOk_int Tryd.underlying81 (by kernel_rfl),
 Refl.tdOk_fn Tryd.underlying82 rfl (by kernel_rfl),
 Refl.tdOk_fn Tryd.underlying83 rfl (by kernel_rfl),
 Refl.tdOk_fn Tryd.underlying85 rfl (by kernel_rfl),
 Refl.tdOk_fn Tryd.underlying86 rfl (by kernel_rfl),
 Refl.tdOk_fn Tryd.underlying100 rfl (by kernel_rfl),
 Refl.tdOk_int Tryd.underlying101 (by kernel_rfl),
 Refl.tdOk_int Tryd.underlying102 (by kernel_rfl),
 Refl.tdOk_int Tryd.underlying105 (by kernel_rfl), trivial⟩
theorem GC : Refl.CtxOK Tryd.prog G := ⟨Refl.tds_ok gT_ok, by kernel_rfl⟩

end Go.Proofs.YtaaldnaefdodkaaDoor.PA
