import Derived.Test.YtelldeeokpjchaaGreatDoorPAx0
import Derived.KernelRfl
import Derived.Test.YtelldeeokpjchaaGreatDoorRefl
set_option autoImplicit false
set_option linter.unusedVariables false
set_option linter.unusedSimpArgs false
namespace Go.Proofs.YtelldeeokpjchaaGreatDoor.PA
open Go.RowKit Go.Proofs.YtelldeeokpjchaaGreatDoorW.PrintWords Go.Proofs.YtelldeeokpjchaaGreatDoorW.PrintLast Go.Proofs.YtelldeeokpjchaaGreatDoorW.PrintMore
abbrev rkInt := Refl.rkInt
def rkStr : Refl.RK ByteArray where
 sz := 1
 enc x := [.string x]
 dec | [.string x] => some x
     | _ => none
 d := ⟨#[]⟩
 pos := by decide
 len _ := rfl
 one := by intro x v h; simp at h; subst h; rfl
 de := by
  intro c x h
  split at h
  · cases h; rfl
  · cases h
def rkBool : Refl.RK Bool where
 sz := 1
 enc x := [.bool x]
 dec | [.bool x] => some x
     | _ => none
 d := false
 pos := by decide
 len _ := rfl
 one := by intro x v h; simp at h; subst h; rfl
 de := by
  intro c x h
  split at h
  · cases h; rfl
  · cases h
abbrev li : Refl.LC := .int .i64
theorem flat_at {α : Type} (K : Refl.RK α) : ∀ (xs : List α) (j : Nat) (v : Value), (xs.flatMap K.enc)[j]? = some v → ∃ q p r, xs[q]? = some p ∧ (K.enc p)[r]? = some v ∧ j = q * K.sz + r
 | [], j, v, h => by simp at h
 | x :: xs, j, v, h => by
  rw [List.flatMap_cons] at h
  rcases Nat.lt_or_ge j K.sz with hj | hj
  · rw [List.getElem?_append_left (by rw [K.len]; exact hj)] at h
    exact ⟨0, x, j, rfl, h, by omega⟩
  · rw [List.getElem?_append_right (by rw [K.len]; exact hj), K.len] at h
    obtain ⟨q, p, r, h1, h2, h3⟩ := flat_at K xs _ v h
    exact ⟨q + 1, p, r, by simpa using h1, h2, by rw [Nat.succ_mul]; omega⟩
/-- A row of the law's own arguments. -/
theorem row_of {α : Type} (d : Kd α) (K : Refl.RK α) (hk : ∀ w x cs, d.K w x cs → cs = K.enc x) (hs : d.sz = K.sz) {e : Nat} {w : World} {A : Option Addr} {c : Nat} {xs : List α} (h : Kd.C d w A xs.length xs) (hc : xs.length ≤ c) : Refl.RowRep w.heap.size (fun _ _ => True) Refl.μ0 w K e xs .ro (.slice A xs.length c) := by
 obtain ⟨_, hn, hx⟩ := h
 refine ⟨A, c, rfl, hc, by simp only [maxLen]; omega, fun hpos => ?_, trivial⟩
 obtain ⟨ad, rfl, hall⟩ := hx hpos
 have hsp : ad.spot = none := by
  obtain ⟨cs, hl, hr, hcell⟩ := hall 0 _ (List.getElem?_eq_getElem hpos)
  have hl0 : 0 < cs.length := by rw [hl, hs]; exact K.pos
  have := hcell 0 _ (List.getElem?_eq_getElem hl0)
  rw [Nat.zero_mul, show ad.add (0 + 0) = ad from rfl] at this
  unfold World.cell? at this
  split at this
  · split at this
    · cases this
    · rename_i hq; simpa using hq
  · cases this
 obtain ⟨b, off, sp⟩ := ad
 cases hsp
 refine ⟨b, off, rfl, fun j v hj => ⟨?_, ⟨fun s e => (by cases e), fun d j u e => (by cases e)⟩, fun _ => trivial⟩⟩
 obtain ⟨q, p, r, h1, h2, rfl⟩ := flat_at K xs j v hj
 obtain ⟨cs, hl, hr, hcell⟩ := hall q p h1
 obtain rfl := hk _ _ _ hr
 have := hcell r v h2
 rw [hs] at this
 have e : (⟨b, off, none⟩ : Addr).add (q * K.sz + r) = ⟨b, off + (q * K.sz + r), none⟩ := by unfold Addr.add; split <;> simp_all
 rwa [e] at this
def zi (k : IntKind) : Refl.Zc := .v (.int k 0)
def zb : Refl.Zc := .v (.bool false)
def zs : Refl.Zc := .v (.string ⟨#[]⟩)
def zk (k : IntKind) : Refl.BC := .k (.int k 0)
def zkb : Refl.BC := .k (.bool false)
def zks : Refl.BC := .k (.string ⟨#[]⟩)
def rk33 : Refl.RK S33 where
 sz := 6
 enc x := [.int .i64 x.f0, .int .i64 x.f1, .int .i64 x.f2, .int .i64 x.f3, .int .i64 x.f4, .bool x.f5]
 dec | [.int .i64 a0, .int .i64 a1, .int .i64 a2, .int .i64 a3, .int .i64 a4, .bool a5] => some ⟨a0, a1, a2, a3, a4, a5⟩
     | _ => none
 d := z33
 pos := by decide
 len _ := rfl
 one := by intro x v h; simp at h; rcases h with rfl | rfl | rfl | rfl | rfl | rfl <;> rfl
 de := by
  intro c x h
  split at h
  · cases h; rfl
  · cases h
def rk40 : Refl.RK S40 where
 sz := 27
 enc x := [.int .i64 x.f0.f0.f0, .int .i64 x.f0.f0.f1, .int .i64 x.f0.f0.f2, .int .i64 x.f0.f0.f3, .int .i64 x.f0.f0.f4, .bool x.f0.f0.f5, .int .i64 x.f0.f1.f0, .int .i64 x.f0.f1.f1, .int .i64 x.f0.f2.f0, .int .i64 x.f0.f2.f1, .bool x.f0.f2.f2, .string x.f0.f3.f0, .int .i64 x.f0.f3.f1, .bool x.f1, .int .i64 x.f2.f0.f0, .int .i64 x.f2.f0.f1, .int .i64 x.f2.f0.f2, .int .i64 x.f2.f0.f3, .int .i64 x.f2.f0.f4, .bool x.f2.f0.f5, .int .i64 x.f2.f1.f0, .int .i64 x.f2.f1.f1, .int .i64 x.f2.f2.f0, .int .i64 x.f2.f2.f1, .bool x.f2.f2.f2, .string x.f2.f3.f0, .int .i64 x.f2.f3.f1]
 dec | [.int .i64 a0, .int .i64 a1, .int .i64 a2, .int .i64 a3, .int .i64 a4, .bool a5, .int .i64 a6, .int .i64 a7, .int .i64 a8, .int .i64 a9, .bool a10, .string a11, .int .i64 a12, .bool a13, .int .i64 a14, .int .i64 a15, .int .i64 a16, .int .i64 a17, .int .i64 a18, .bool a19, .int .i64 a20, .int .i64 a21, .int .i64 a22, .int .i64 a23, .bool a24, .string a25, .int .i64 a26] => some ⟨⟨⟨a0, a1, a2, a3, a4, a5⟩, ⟨a6, a7⟩, ⟨a8, a9, a10⟩, ⟨a11, a12⟩⟩, a13, ⟨⟨a14, a15, a16, a17, a18, a19⟩, ⟨a20, a21⟩, ⟨a22, a23, a24⟩, ⟨a25, a26⟩⟩⟩
     | _ => none
 d := z40
 pos := by decide
 len _ := rfl
 one := by intro x v h; simp at h; rcases h with rfl | rfl | rfl | rfl | rfl | rfl | rfl | rfl | rfl | rfl | rfl | rfl | rfl | rfl | rfl | rfl | rfl | rfl | rfl | rfl | rfl | rfl | rfl | rfl | rfl | rfl | rfl <;> rfl
 de := by
  intro c x h
  split at h
  · cases h; rfl
  · cases h
def rk47 : Refl.RK S47 where
 sz := 27
 enc x := [.int .i64 x.f0.f0.f0, .int .i64 x.f0.f0.f1, .int .i64 x.f0.f0.f2, .int .i64 x.f0.f0.f3, .int .i64 x.f0.f0.f4, .bool x.f0.f0.f5, .int .i64 x.f0.f1.f0, .int .i64 x.f0.f1.f1, .int .i64 x.f0.f2.f0, .int .i64 x.f0.f2.f1, .bool x.f0.f2.f2, .string x.f0.f3.f0, .int .i64 x.f0.f3.f1, .bool x.f1, .int .i64 x.f2.f0.f0, .int .i64 x.f2.f0.f1, .int .i64 x.f2.f0.f2, .int .i64 x.f2.f0.f3, .int .i64 x.f2.f0.f4, .bool x.f2.f0.f5, .int .i64 x.f2.f1.f0, .int .i64 x.f2.f1.f1, .int .i64 x.f2.f2.f0, .int .i64 x.f2.f2.f1, .bool x.f2.f2.f2, .string x.f2.f3.f0, .int .i64 x.f2.f3.f1]
 dec | [.int .i64 a0, .int .i64 a1, .int .i64 a2, .int .i64 a3, .int .i64 a4, .bool a5, .int .i64 a6, .int .i64 a7, .int .i64 a8, .int .i64 a9, .bool a10, .string a11, .int .i64 a12, .bool a13, .int .i64 a14, .int .i64 a15, .int .i64 a16, .int .i64 a17, .int .i64 a18, .bool a19, .int .i64 a20, .int .i64 a21, .int .i64 a22, .int .i64 a23, .bool a24, .string a25, .int .i64 a26] => some ⟨⟨⟨a0, a1, a2, a3, a4, a5⟩, ⟨a6, a7⟩, ⟨a8, a9, a10⟩, ⟨a11, a12⟩⟩, a13, ⟨⟨a14, a15, a16, a17, a18, a19⟩, ⟨a20, a21⟩, ⟨a22, a23, a24⟩, ⟨a25, a26⟩⟩⟩
     | _ => none
 d := z47
 pos := by decide
 len _ := rfl
 one := by intro x v h; simp at h; rcases h with rfl | rfl | rfl | rfl | rfl | rfl | rfl | rfl | rfl | rfl | rfl | rfl | rfl | rfl | rfl | rfl | rfl | rfl | rfl | rfl | rfl | rfl | rfl | rfl | rfl | rfl | rfl <;> rfl
 de := by
  intro c x h
  split at h
  · cases h; rfl
  · cases h
def gL0 : List Refl.LC := [li, li, li, li, li, .bool, li, li, li, li, .bool, .str, li]
def gL1 : List Refl.BC := [zk .i64, zk .i64, zk .i64, zk .i64, zk .i64, zkb]
def gL2 : List Refl.BC := [.l .str, .l (.int .i64)]
def gL3 : List Refl.BC := [zks, zk .i64]
def gL4 : List Refl.BC := [.l (.int .i64), .l (.int .i64), .l (.int .i64), .l (.int .i64), .l (.int .i64), .l .bool, .l (.int .i64), .l (.int .i64), .l (.int .i64), .l (.int .i64), .l .bool, .l .str, .l (.int .i64)]
def gL5 : List Refl.LC := [li, li, li, li, li, .bool, li, li, li, li, .bool, .str, li, .bool, li, li, li, li, li, .bool, li, li, li, li, .bool, .str, li]
def gL6 : List Refl.BC := [.l (.int .i64), .l (.int .i64), .l (.int .i64), .l (.int .i64), .l (.int .i64), .l .bool]
def gT : List (Nat × Refl.TD) := [(1, .fn),
 (2, .int .i64),
 (3, .int .i64),
 (4, .bool),
 (5, .int .u8),
 (9, .str),
 (12, .int .u64),
 (21, .int .i32),
 (22, .st 6 [zi .i64, zi .i64, zi .i64, zi .i64, zi .i64, zb] [⟨0, 1, false, 3⟩, ⟨1, 1, false, 3⟩, ⟨2, 1, false, 3⟩, ⟨3, 1, false, 3⟩, ⟨4, 1, false, 3⟩, ⟨5, 1, false, 4⟩]),
 (23, .st 6 [zi .i64, zi .i64, zi .i64, zi .i64, zi .i64, zb] [⟨0, 1, false, 3⟩, ⟨1, 1, false, 3⟩, ⟨2, 1, false, 3⟩, ⟨3, 1, false, 3⟩, ⟨4, 1, false, 3⟩, ⟨5, 1, false, 4⟩]),
 (24, .st 2 [zi .i64, zi .i64] [⟨0, 1, false, 3⟩, ⟨1, 1, false, 3⟩]),
 (25, .st 2 [zi .i64, zi .i64] [⟨0, 1, false, 3⟩, ⟨1, 1, false, 3⟩]),
 (26, .st 3 [zi .i64, zi .i64, zb] [⟨0, 1, false, 3⟩, ⟨1, 1, false, 3⟩, ⟨2, 1, false, 4⟩]),
 (27, .st 3 [zi .i64, zi .i64, zb] [⟨0, 1, false, 3⟩, ⟨1, 1, false, 3⟩, ⟨2, 1, false, 4⟩]),
 (28, .st 2 [zs, zi .i64] [⟨0, 1, false, 9⟩, ⟨1, 1, false, 3⟩]),
 (29, .st 2 [zs, zi .i64] [⟨0, 1, false, 9⟩, ⟨1, 1, false, 3⟩]),
 (30, .st 13 [zi .i64, zi .i64, zi .i64, zi .i64, zi .i64, zb, zi .i64, zi .i64, zi .i64, zi .i64, zb, zs, zi .i64] [⟨0, 6, true, 23⟩, ⟨6, 2, true, 25⟩, ⟨8, 3, true, 27⟩, ⟨11, 2, true, 29⟩]),
 (31, .st 13 [zi .i64, zi .i64, zi .i64, zi .i64, zi .i64, zb, zi .i64, zi .i64, zi .i64, zi .i64, zb, zs, zi .i64] [⟨0, 6, true, 23⟩, ⟨6, 2, true, 25⟩, ⟨8, 3, true, 27⟩, ⟨11, 2, true, 29⟩]),
 (32, .fn),
 (33, .st 6 [zi .i64, zi .i64, zi .i64, zi .i64, zi .i64, zb] [⟨0, 1, false, 3⟩, ⟨1, 1, false, 3⟩, ⟨2, 1, false, 3⟩, ⟨3, 1, false, 3⟩, ⟨4, 1, false, 3⟩, ⟨5, 1, false, 4⟩]),
 (34, .st 2 [zi .i64, zi .i64] [⟨0, 1, false, 3⟩, ⟨1, 1, false, 3⟩]),
 (35, .st 3 [zi .i64, zi .i64, zb] [⟨0, 1, false, 3⟩, ⟨1, 1, false, 3⟩, ⟨2, 1, false, 4⟩]),
 (36, .st 2 [zs, zi .i64] [⟨0, 1, false, 9⟩, ⟨1, 1, false, 3⟩]),
 (37, .st 13 [zi .i64, zi .i64, zi .i64, zi .i64, zi .i64, zb, zi .i64, zi .i64, zi .i64, zi .i64, zb, zs, zi .i64] [⟨0, 6, true, 33⟩, ⟨6, 2, true, 34⟩, ⟨8, 3, true, 35⟩, ⟨11, 2, true, 36⟩]),
 (38, .st 13 [zi .i64, zi .i64, zi .i64, zi .i64, zi .i64, zb, zi .i64, zi .i64, zi .i64, zi .i64, zb, zs, zi .i64] [⟨0, 6, true, 33⟩, ⟨6, 2, true, 34⟩, ⟨8, 3, true, 35⟩, ⟨11, 2, true, 36⟩]),
 (39, .st 27 [zi .i64, zi .i64, zi .i64, zi .i64, zi .i64, zb, zi .i64, zi .i64, zi .i64, zi .i64, zb, zs, zi .i64, zb, zi .i64, zi .i64, zi .i64, zi .i64, zi .i64, zb, zi .i64, zi .i64, zi .i64, zi .i64, zb, zs, zi .i64] [⟨0, 13, true, 38⟩, ⟨13, 1, false, 4⟩, ⟨14, 13, true, 38⟩]),
 (40, .st 27 [zi .i64, zi .i64, zi .i64, zi .i64, zi .i64, zb, zi .i64, zi .i64, zi .i64, zi .i64, zb, zs, zi .i64, zb, zi .i64, zi .i64, zi .i64, zi .i64, zi .i64, zb, zi .i64, zi .i64, zi .i64, zi .i64, zb, zs, zi .i64] [⟨0, 13, true, 38⟩, ⟨13, 1, false, 4⟩, ⟨14, 13, true, 38⟩]),
 (42, .fn),
 (43, .fn),
 (44, .fn),
 (45, .fn),
 (46, .st 27 [zi .i64, zi .i64, zi .i64, zi .i64, zi .i64, zb, zi .i64, zi .i64, zi .i64, zi .i64, zb, zs, zi .i64, zb, zi .i64, zi .i64, zi .i64, zi .i64, zi .i64, zb, zi .i64, zi .i64, zi .i64, zi .i64, zb, zs, zi .i64] [⟨0, 13, true, 31⟩, ⟨13, 1, false, 4⟩, ⟨14, 13, true, 31⟩]),
 (47, .st 27 [zi .i64, zi .i64, zi .i64, zi .i64, zi .i64, zb, zi .i64, zi .i64, zi .i64, zi .i64, zb, zs, zi .i64, zb, zi .i64, zi .i64, zi .i64, zi .i64, zi .i64, zb, zi .i64, zi .i64, zi .i64, zi .i64, zb, zs, zi .i64] [⟨0, 13, true, 31⟩, ⟨13, 1, false, 4⟩, ⟨14, 13, true, 31⟩]),
 (48, .fn),
 (49, .fn),
 (50, .fn),
 (51, .fn),
 (53, .fn),
 (54, .sl 47 232),
 (55, .fn),
 (57, .fn),
 (58, .sl 40 232),
 (59, .fn),
 (60, .fn),
 (61, .fn),
 (63, .fn),
 (64, .fn),
 (65, .fn),
 (66, .fn),
 (67, .fn),
 (68, .fn),
 (69, .fn),
 (70, .fn),
 (71, .fn),
 (72, .fn),
 (73, .fn),
 (74, .fn),
 (75, .fn),
 (76, .fn),
 (77, .fn),
 (78, .fn),
 (79, .fn),
 (80, .fn),
 (81, .fn),
 (82, .fn),
 (83, .fn),
 (84, .fn),
 (85, .fn),
 (86, .fn),
 (87, .fn),
 (88, .fn),
 (89, .fn),
 (90, .sl 3 8),
 (91, .fn),
 (92, .fn),
 (93, .fn),
 (94, .fn),
 (95, .fn),
 (96, .fn),
 (97, .fn),
 (98, .fn),
 (99, .fn),
 (100, .fn),
 (101, .sl 33 48),
 (102, .fn),
 (103, .fn),
 (104, .fn),
 (105, .fn),
 (106, .fn),
 (107, .fn),
 (108, .fn),
 (109, .fn),
 (110, .fn),
 (111, .fn),
 (112, .sl 9 16),
 (113, .fn),
 (114, .fn),
 (115, .fn),
 (116, .fn),
 (117, .fn),
 (119, .fn),
 (120, .fn),
 (121, .fn),
 (123, .fn),
 (124, .fn),
 (125, .fn),
 (126, .fn),
 (128, .sl 5 1),
 (131, .fn),
 (135, .fn),
 (136, .ar 10 9 1 [zs, zs, zs, zs, zs, zs, zs, zs, zs, zs]),
 (138, .fn),
 (139, .int .u64),
 (141, .fn),
 (143, .fn),
 (144, .fn),
 (145, .fn),
 (146, .fn),
 (147, .fn),
 (151, .int .u32),
 (164, .fn),
 (167, .fn),
 (168, .int .u64),
 (170, .fn),
 (171, .fn),
 (173, .fn),
 (175, .fn),
 (176, .fn),
 (177, .fn),
 (179, .fn),
 (181, .fn),
 (185, .fn),
 (197, .fn),
 (199, .fn),
 (200, .fn),
 (202, .fn),
 (211, .fn),
 (212, .fn),
 (214, .ar 65 5 1 [zi .u8, zi .u8, zi .u8, zi .u8, zi .u8, zi .u8, zi .u8, zi .u8, zi .u8, zi .u8, zi .u8, zi .u8, zi .u8, zi .u8, zi .u8, zi .u8, zi .u8, zi .u8, zi .u8, zi .u8, zi .u8, zi .u8, zi .u8, zi .u8, zi .u8, zi .u8, zi .u8, zi .u8, zi .u8, zi .u8, zi .u8, zi .u8, zi .u8, zi .u8, zi .u8, zi .u8, zi .u8, zi .u8, zi .u8, zi .u8, zi .u8, zi .u8, zi .u8, zi .u8, zi .u8, zi .u8, zi .u8, zi .u8, zi .u8, zi .u8, zi .u8, zi .u8, zi .u8, zi .u8, zi .u8, zi .u8, zi .u8, zi .u8, zi .u8, zi .u8, zi .u8, zi .u8, zi .u8, zi .u8, zi .u8]),
 (215, .fn),
 (217, .fn),
 (219, .fn),
 (220, .fn),
 (221, .fn),
 (225, .fn),
 (226, .fn),
 (227, .fn),
 (228, .fn),
 (229, .fn),
 (230, .ar 32 5 1 [zi .u8, zi .u8, zi .u8, zi .u8, zi .u8, zi .u8, zi .u8, zi .u8, zi .u8, zi .u8, zi .u8, zi .u8, zi .u8, zi .u8, zi .u8, zi .u8, zi .u8, zi .u8, zi .u8, zi .u8, zi .u8, zi .u8, zi .u8, zi .u8, zi .u8, zi .u8, zi .u8, zi .u8, zi .u8, zi .u8, zi .u8, zi .u8]),
 (231, .ar 64 5 1 [zi .u8, zi .u8, zi .u8, zi .u8, zi .u8, zi .u8, zi .u8, zi .u8, zi .u8, zi .u8, zi .u8, zi .u8, zi .u8, zi .u8, zi .u8, zi .u8, zi .u8, zi .u8, zi .u8, zi .u8, zi .u8, zi .u8, zi .u8, zi .u8, zi .u8, zi .u8, zi .u8, zi .u8, zi .u8, zi .u8, zi .u8, zi .u8, zi .u8, zi .u8, zi .u8, zi .u8, zi .u8, zi .u8, zi .u8, zi .u8, zi .u8, zi .u8, zi .u8, zi .u8, zi .u8, zi .u8, zi .u8, zi .u8, zi .u8, zi .u8, zi .u8, zi .u8, zi .u8, zi .u8, zi .u8, zi .u8, zi .u8, zi .u8, zi .u8, zi .u8, zi .u8, zi .u8, zi .u8, zi .u8]),
 (238, .int .u8),
 (239, .fn),
 (240, .int .i32),
 (241, .int .i32),
 (244, .fn),
 (245, .fn),
 (246, .sl 5 1),
 (252, .fn),
 (254, .fn),
 (259, .fn)]
def gK : List (Nat × Refl.KD) := [(3, ⟨Int, rkInt .i64⟩), (5, ⟨Int, rkInt .u8⟩), (9, ⟨ByteArray, rkStr⟩), (33, ⟨S33, rk33⟩), (40, ⟨S40, rk40⟩), (47, ⟨S47, rk47⟩), (168, ⟨Int, rkInt .u64⟩)]
def G : Refl.Ctx := ⟨Refl.kdGet ⟨Int, rkInt .i64⟩ gK, Refl.tdGet gT, 5, rfl⟩
theorem gT_ok : Refl.TDsOK Tryz.prog G gT := ⟨Refl.tdOk_fn Tryz.underlying1 rfl (by kernel_rfl),
 Refl.tdOk_int Tryz.underlying2 (by kernel_rfl),
 Refl.tdOk_int Tryz.underlying3 (by kernel_rfl),
 Refl.tdOk_bool Tryz.underlying4 (by kernel_rfl),
 Refl.tdOk_int Tryz.underlying5 (by kernel_rfl),
 Refl.tdOk_str Tryz.underlying9 (by kernel_rfl),
 Refl.tdOk_int Tryz.underlying12 (by kernel_rfl),
 Refl.tdOk_int Tryz.underlying21 (by kernel_rfl),
 Refl.tdOk_st Tryz.underlying22 (by kernel_rfl) rfl (by kernel_rfl) (by kernel_rfl) (by kernel_rfl),
 Refl.tdOk_st Tryz.underlying23 (by kernel_rfl) rfl (by kernel_rfl) (by kernel_rfl) (by kernel_rfl),
 Refl.tdOk_st Tryz.underlying24 (by kernel_rfl) rfl (by kernel_rfl) (by kernel_rfl) (by kernel_rfl),
 Refl.tdOk_st Tryz.underlying25 (by kernel_rfl) rfl (by kernel_rfl) (by kernel_rfl) (by kernel_rfl),
 Refl.tdOk_st Tryz.underlying26 (by kernel_rfl) rfl (by kernel_rfl) (by kernel_rfl) (by kernel_rfl),
 Refl.tdOk_st Tryz.underlying27 (by kernel_rfl) rfl (by kernel_rfl) (by kernel_rfl) (by kernel_rfl),
 Refl.tdOk_st Tryz.underlying28 (by kernel_rfl) rfl (by kernel_rfl) (by kernel_rfl) (by kernel_rfl),
 Refl.tdOk_st Tryz.underlying29 (by kernel_rfl) rfl (by kernel_rfl) (by kernel_rfl) (by kernel_rfl),
 Refl.tdOk_st Tryz.underlying30 (by kernel_rfl) rfl (by kernel_rfl) (by kernel_rfl) (by kernel_rfl),
 Refl.tdOk_st Tryz.underlying31 (by kernel_rfl) rfl (by kernel_rfl) (by kernel_rfl) (by kernel_rfl),
 Refl.tdOk_fn Tryz.underlying32 rfl (by kernel_rfl),
 Refl.tdOk_st Tryz.underlying33 (by kernel_rfl) rfl (by kernel_rfl) (by kernel_rfl) (by kernel_rfl),
 Refl.tdOk_st Tryz.underlying34 (by kernel_rfl) rfl (by kernel_rfl) (by kernel_rfl) (by kernel_rfl),
 Refl.tdOk_st Tryz.underlying35 (by kernel_rfl) rfl (by kernel_rfl) (by kernel_rfl) (by kernel_rfl),
 Refl.tdOk_st Tryz.underlying36 (by kernel_rfl) rfl (by kernel_rfl) (by kernel_rfl) (by kernel_rfl),
 Refl.tdOk_st Tryz.underlying37 (by kernel_rfl) rfl (by kernel_rfl) (by kernel_rfl) (by kernel_rfl),
 Refl.tdOk_st Tryz.underlying38 (by kernel_rfl) rfl (by kernel_rfl) (by kernel_rfl) (by kernel_rfl),
 Refl.tdOk_st Tryz.underlying39 (by kernel_rfl) rfl (by kernel_rfl) (by kernel_rfl) (by kernel_rfl),
 Refl.tdOk_st Tryz.underlying40 (by kernel_rfl) rfl (by kernel_rfl) (by kernel_rfl) (by kernel_rfl),
 Refl.tdOk_fn Tryz.underlying42 rfl (by kernel_rfl),
 Refl.tdOk_fn Tryz.underlying43 rfl (by kernel_rfl),
 Refl.tdOk_fn Tryz.underlying44 rfl (by kernel_rfl),
 Refl.tdOk_fn Tryz.underlying45 rfl (by kernel_rfl),
 Refl.tdOk_st Tryz.underlying46 (by kernel_rfl) rfl (by kernel_rfl) (by kernel_rfl) (by kernel_rfl),
 Refl.tdOk_st Tryz.underlying47 (by kernel_rfl) rfl (by kernel_rfl) (by kernel_rfl) (by kernel_rfl),
 Refl.tdOk_fn Tryz.underlying48 rfl (by kernel_rfl),
 Refl.tdOk_fn Tryz.underlying49 rfl (by kernel_rfl),
 Refl.tdOk_fn Tryz.underlying50 rfl (by kernel_rfl),
 Refl.tdOk_fn Tryz.underlying51 rfl (by kernel_rfl),
 Refl.tdOk_fn Tryz.underlying53 rfl (by kernel_rfl),
 Refl.tdOk_sl (z := .agg #[.int .i64 0, .int .i64 0, .int .i64 0, .int .i64 0, .int .i64 0, .bool false, .int .i64 0, .int .i64 0, .int .i64 0, .int .i64 0, .bool false, .string ⟨#[]⟩, .int .i64 0, .bool false, .int .i64 0, .int .i64 0, .int .i64 0, .int .i64 0, .int .i64 0, .bool false, .int .i64 0, .int .i64 0, .int .i64 0, .int .i64 0, .bool false, .string ⟨#[]⟩, .int .i64 0]) Tryz.underlying54 (by kernel_rfl) (by kernel_rfl) (by kernel_rfl) rfl,
 Refl.tdOk_fn Tryz.underlying55 rfl (by kernel_rfl),
 Refl.tdOk_fn Tryz.underlying57 rfl (by kernel_rfl),
 Refl.tdOk_sl (z := .agg #[.int .i64 0, .int .i64 0, .int .i64 0, .int .i64 0, .int .i64 0, .bool false, .int .i64 0, .int .i64 0, .int .i64 0, .int .i64 0, .bool false, .string ⟨#[]⟩, .int .i64 0, .bool false, .int .i64 0, .int .i64 0, .int .i64 0, .int .i64 0, .int .i64 0, .bool false, .int .i64 0, .int .i64 0, .int .i64 0, .int .i64 0, .bool false, .string ⟨#[]⟩, .int .i64 0]) Tryz.underlying58 (by kernel_rfl) (by kernel_rfl) (by kernel_rfl) rfl,
 Refl.tdOk_fn Tryz.underlying59 rfl (by kernel_rfl),
 Refl.tdOk_fn Tryz.underlying60 rfl (by kernel_rfl),
 Refl.tdOk_fn Tryz.underlying61 rfl (by kernel_rfl),
 Refl.tdOk_fn Tryz.underlying63 rfl (by kernel_rfl),
 Refl.tdOk_fn Tryz.underlying64 rfl (by kernel_rfl),
 Refl.tdOk_fn Tryz.underlying65 rfl (by kernel_rfl),
 Refl.tdOk_fn Tryz.underlying66 rfl (by kernel_rfl),
 Refl.tdOk_fn Tryz.underlying67 rfl (by kernel_rfl),
 Refl.tdOk_fn Tryz.underlying68 rfl (by kernel_rfl),
 Refl.tdOk_fn Tryz.underlying69 rfl (by kernel_rfl),
 Refl.tdOk_fn Tryz.underlying70 rfl (by kernel_rfl),
 Refl.tdOk_fn Tryz.underlying71 rfl (by kernel_rfl),
 Refl.tdOk_fn Tryz.underlying72 rfl (by kernel_rfl),
 Refl.tdOk_fn Tryz.underlying73 rfl (by kernel_rfl),
 Refl.tdOk_fn Tryz.underlying74 rfl (by kernel_rfl),
 Refl.tdOk_fn Tryz.underlying75 rfl (by kernel_rfl),
 Refl.tdOk_fn Tryz.underlying76 rfl (by kernel_rfl),
 Refl.tdOk_fn Tryz.underlying77 rfl (by kernel_rfl),
 Refl.tdOk_fn Tryz.underlying78 rfl (by kernel_rfl),
 Refl.tdOk_fn Tryz.underlying79 rfl (by kernel_rfl),
 Refl.tdOk_fn Tryz.underlying80 rfl (by kernel_rfl),
 Refl.tdOk_fn Tryz.underlying81 rfl (by kernel_rfl),
 Refl.tdOk_fn Tryz.underlying82 rfl (by kernel_rfl),
 Refl.tdOk_fn Tryz.underlying83 rfl (by kernel_rfl),
 Refl.tdOk_fn Tryz.underlying84 rfl (by kernel_rfl),
 Refl.tdOk_fn Tryz.underlying85 rfl (by kernel_rfl),
 Refl.tdOk_fn Tryz.underlying86 rfl (by kernel_rfl),
 Refl.tdOk_fn Tryz.underlying87 rfl (by kernel_rfl),
 Refl.tdOk_fn Tryz.underlying88 rfl (by kernel_rfl),
 Refl.tdOk_fn Tryz.underlying89 rfl (by kernel_rfl),
 Refl.tdOk_sl (z := .int .i64 0) Tryz.underlying90 (by kernel_rfl) (by kernel_rfl) (by kernel_rfl) rfl,
 Refl.tdOk_fn Tryz.underlying91 rfl (by kernel_rfl),
 Refl.tdOk_fn Tryz.underlying92 rfl (by kernel_rfl),
 Refl.tdOk_fn Tryz.underlying93 rfl (by kernel_rfl),
 Refl.tdOk_fn Tryz.underlying94 rfl (by kernel_rfl),
 Refl.tdOk_fn Tryz.underlying95 rfl (by kernel_rfl),
 Refl.tdOk_fn Tryz.underlying96 rfl (by kernel_rfl),
 Refl.tdOk_fn Tryz.underlying97 rfl (by kernel_rfl),
 Refl.tdOk_fn Tryz.underlying98 rfl (by kernel_rfl),
 Refl.tdOk_fn Tryz.underlying99 rfl (by kernel_rfl),
 Refl.tdOk_fn Tryz.underlying100 rfl (by kernel_rfl),
 Refl.tdOk_sl (z := .agg #[.int .i64 0, .int .i64 0, .int .i64 0, .int .i64 0, .int .i64 0, .bool false]) Tryz.underlying101 (by kernel_rfl) (by kernel_rfl) (by kernel_rfl) rfl,
 Refl.tdOk_fn Tryz.underlying102 rfl (by kernel_rfl),
 Refl.tdOk_fn Tryz.underlying103 rfl (by kernel_rfl),
 Refl.tdOk_fn Tryz.underlying104 rfl (by kernel_rfl),
 Refl.tdOk_fn Tryz.underlying105 rfl (by kernel_rfl),
 Refl.tdOk_fn Tryz.underlying106 rfl (by kernel_rfl),
 Refl.tdOk_fn Tryz.underlying107 rfl (by kernel_rfl),
 Refl.tdOk_fn Tryz.underlying108 rfl (by kernel_rfl),
 Refl.tdOk_fn Tryz.underlying109 rfl (by kernel_rfl),
 Refl.tdOk_fn Tryz.underlying110 rfl (by kernel_rfl),
 Refl.tdOk_fn Tryz.underlying111 rfl (by kernel_rfl),
 Refl.tdOk_sl (z := .string ⟨#[]⟩) Tryz.underlying112 (by kernel_rfl) (by kernel_rfl) (by kernel_rfl) rfl,
 Refl.tdOk_fn Tryz.underlying113 rfl (by kernel_rfl),
 Refl.tdOk_fn Tryz.underlying114 rfl (by kernel_rfl),
 Refl.tdOk_fn Tryz.underlying115 rfl (by kernel_rfl),
 Refl.tdOk_fn Tryz.underlying116 rfl (by kernel_rfl),
 Refl.tdOk_fn Tryz.underlying117 rfl (by kernel_rfl),
 Refl.tdOk_fn Tryz.underlying119 rfl (by kernel_rfl),
 Refl.tdOk_fn Tryz.underlying120 rfl (by kernel_rfl),
 Refl.tdOk_fn Tryz.underlying121 rfl (by kernel_rfl),
 Refl.tdOk_fn Tryz.underlying123 rfl (by kernel_rfl),
 Refl.tdOk_fn Tryz.underlying124 rfl (by kernel_rfl),
 Refl.tdOk_fn Tryz.underlying125 rfl (by kernel_rfl),
 Refl.tdOk_fn Tryz.underlying126 rfl (by kernel_rfl),
 Refl.tdOk_sl (z := .int .u8 0) Tryz.underlying128 (by kernel_rfl) (by kernel_rfl) (by kernel_rfl) rfl,
 Refl.tdOk_fn Tryz.underlying131 rfl (by kernel_rfl),
 Refl.tdOk_fn Tryz.underlying135 rfl (by kernel_rfl),
 Refl.tdOk_ar Tryz.underlying136 (by kernel_rfl) rfl (by kernel_rfl) rfl,
 Refl.tdOk_fn Tryz.underlying138 rfl (by kernel_rfl),
 Refl.tdOk_int Tryz.underlying139 (by kernel_rfl),
 Refl.tdOk_fn Tryz.underlying141 rfl (by kernel_rfl),
 Refl.tdOk_fn Tryz.underlying143 rfl (by kernel_rfl),
 Refl.tdOk_fn Tryz.underlying144 rfl (by kernel_rfl),
 Refl.tdOk_fn Tryz.underlying145 rfl (by kernel_rfl),
 Refl.tdOk_fn Tryz.underlying146 rfl (by kernel_rfl),
 Refl.tdOk_fn Tryz.underlying147 rfl (by kernel_rfl),
 Refl.tdOk_int Tryz.underlying151 (by kernel_rfl),
 Refl.tdOk_fn Tryz.underlying164 rfl (by kernel_rfl),
 Refl.tdOk_fn Tryz.underlying167 rfl (by kernel_rfl),
 Refl.tdOk_int Tryz.underlying168 (by kernel_rfl),
 Refl.tdOk_fn Tryz.underlying170 rfl (by kernel_rfl),
 Refl.tdOk_fn Tryz.underlying171 rfl (by kernel_rfl),
 Refl.tdOk_fn Tryz.underlying173 rfl (by kernel_rfl),
 Refl.tdOk_fn Tryz.underlying175 rfl (by kernel_rfl),
 Refl.tdOk_fn Tryz.underlying176 rfl (by kernel_rfl),
 Refl.tdOk_fn Tryz.underlying177 rfl (by kernel_rfl),
 Refl.tdOk_fn Tryz.underlying179 rfl (by kernel_rfl),
 Refl.tdOk_fn Tryz.underlying181 rfl (by kernel_rfl),
 Refl.tdOk_fn Tryz.underlying185 rfl (by kernel_rfl),
 Refl.tdOk_fn Tryz.underlying197 rfl (by kernel_rfl),
 Refl.tdOk_fn Tryz.underlying199 rfl (by kernel_rfl),
 Refl.tdOk_fn Tryz.underlying200 rfl (by kernel_rfl),
 Refl.tdOk_fn Tryz.underlying202 rfl (by kernel_rfl),
 Refl.tdOk_fn Tryz.underlying211 rfl (by kernel_rfl),
 Refl.tdOk_fn Tryz.underlying212 rfl (by kernel_rfl),
 Refl.tdOk_ar Tryz.underlying214 (by kernel_rfl) rfl (by kernel_rfl) rfl,
 Refl.tdOk_fn Tryz.underlying215 rfl (by kernel_rfl),
 Refl.tdOk_fn Tryz.underlying217 rfl (by kernel_rfl),
 Refl.tdOk_fn Tryz.underlying219 rfl (by kernel_rfl),
 Refl.tdOk_fn Tryz.underlying220 rfl (by kernel_rfl),
 Refl.tdOk_fn Tryz.underlying221 rfl (by kernel_rfl),
 Refl.tdOk_fn Tryz.underlying225 rfl (by kernel_rfl),
 Refl.tdOk_fn Tryz.underlying226 rfl (by kernel_rfl),
 Refl.tdOk_fn Tryz.underlying227 rfl (by kernel_rfl),
 Refl.tdOk_fn Tryz.underlying228 rfl (by kernel_rfl),
 Refl.tdOk_fn Tryz.underlying229 rfl (by kernel_rfl),
 Refl.tdOk_ar Tryz.underlying230 (by kernel_rfl) rfl (by kernel_rfl) rfl,
 Refl.tdOk_ar Tryz.underlying231 (by kernel_rfl) rfl (by kernel_rfl) rfl,
 Refl.tdOk_int Tryz.underlying238 (by kernel_rfl),
 Refl.tdOk_fn Tryz.underlying239 rfl (by kernel_rfl),
 Refl.tdOk_int Tryz.underlying240 (by kernel_rfl),
 Refl.tdOk_int Tryz.underlying241 (by kernel_rfl),
 Refl.tdOk_fn Tryz.underlying244 rfl (by kernel_rfl),
 Refl.tdOk_fn Tryz.underlying245 rfl (by kernel_rfl),
 Refl.tdOk_sl (z := .int .u8 0) Tryz.underlying246 (by kernel_rfl) (by kernel_rfl) (by kernel_rfl) rfl,
 Refl.tdOk_fn Tryz.underlying252 rfl (by kernel_rfl),
 Refl.tdOk_fn Tryz.underlying254 rfl (by kernel_rfl),
 Refl.tdOk_fn Tryz.underlying259 rfl (by kernel_rfl), trivial⟩
theorem GC : Refl.CtxOK Tryz.prog G := ⟨Refl.tds_ok gT_ok, by kernel_rfl⟩

end Go.Proofs.YtelldeeokpjchaaGreatDoor.PA
