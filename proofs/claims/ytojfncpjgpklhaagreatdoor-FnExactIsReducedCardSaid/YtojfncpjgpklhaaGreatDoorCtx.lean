import Derived.Test.YtojfncpjgpklhaaGreatDoorPAx0
import Derived.KernelRfl
import Derived.Test.YtojfncpjgpklhaaGreatDoorRefl
set_option autoImplicit false
set_option linter.unusedVariables false
set_option linter.unusedSimpArgs false
namespace Go.Proofs.YtojfncpjgpklhaaGreatDoor.PA
open Go.RowKit Go.Proofs.YtojfncpjgpklhaaGreatDoorW.PrintWords Go.Proofs.YtojfncpjgpklhaaGreatDoorW.PrintLast Go.Proofs.YtojfncpjgpklhaaGreatDoorW.PrintMore
abbrev rkInt := Refl.rkInt
def rkStr : Refl.RK ByteArray where
 sz := 1
 enc x := [.string x]
 dec | [.string x] => some x
     | _ => none
 d := ⟨#[]⟩
 pos := by decide
 len _ := rfl
 one := by intro x v h; simp at h; subst h; rfl
 de := by
  intro c x h
  split at h
  · cases h; rfl
  · cases h
def rkBool : Refl.RK Bool where
 sz := 1
 enc x := [.bool x]
 dec | [.bool x] => some x
     | _ => none
 d := false
 pos := by decide
 len _ := rfl
 one := by intro x v h; simp at h; subst h; rfl
 de := by
  intro c x h
  split at h
  · cases h; rfl
  · cases h
abbrev li : Refl.LC := .int .i64
theorem flat_at {α : Type} (K : Refl.RK α) : ∀ (xs : List α) (j : Nat) (v : Value), (xs.flatMap K.enc)[j]? = some v → ∃ q p r, xs[q]? = some p ∧ (K.enc p)[r]? = some v ∧ j = q * K.sz + r
 | [], j, v, h => by simp at h
 | x :: xs, j, v, h => by
  rw [List.flatMap_cons] at h
  rcases Nat.lt_or_ge j K.sz with hj | hj
  · rw [List.getElem?_append_left (by rw [K.len]; exact hj)] at h
    exact ⟨0, x, j, rfl, h, by omega⟩
  · rw [List.getElem?_append_right (by rw [K.len]; exact hj), K.len] at h
    obtain ⟨q, p, r, h1, h2, h3⟩ := flat_at K xs _ v h
    exact ⟨q + 1, p, r, by simpa using h1, h2, by rw [Nat.succ_mul]; omega⟩
/-- A row of the law's own arguments. -/
theorem row_of {α : Type} (d : Kd α) (K : Refl.RK α) (hk : ∀ w x cs, d.K w x cs → cs = K.enc x) (hs : d.sz = K.sz) {e : Nat} {w : World} {A : Option Addr} {c : Nat} {xs : List α} (h : Kd.C d w A xs.length xs) (hc : xs.length ≤ c) : Refl.RowRep w.heap.size (fun _ _ => True) Refl.μ0 w K e xs .ro (.slice A xs.length c) := by
 obtain ⟨_, hn, hx⟩ := h
 refine ⟨A, c, rfl, hc, by simp only [maxLen]; omega, fun hpos => ?_, trivial⟩
 obtain ⟨ad, rfl, hall⟩ := hx hpos
 have hsp : ad.spot = none := by
  obtain ⟨cs, hl, hr, hcell⟩ := hall 0 _ (List.getElem?_eq_getElem hpos)
  have hl0 : 0 < cs.length := by rw [hl, hs]; exact K.pos
  have := hcell 0 _ (List.getElem?_eq_getElem hl0)
  rw [Nat.zero_mul, show ad.add (0 + 0) = ad from rfl] at this
  unfold World.cell? at this
  split at this
  · split at this
    · cases this
    · rename_i hq; simpa using hq
  · cases this
 obtain ⟨b, off, sp⟩ := ad
 cases hsp
 refine ⟨b, off, rfl, fun j v hj => ⟨?_, ⟨fun s e => (by cases e), fun d j u e => (by cases e)⟩, fun _ => trivial⟩⟩
 obtain ⟨q, p, r, h1, h2, rfl⟩ := flat_at K xs j v hj
 obtain ⟨cs, hl, hr, hcell⟩ := hall q p h1
 obtain rfl := hk _ _ _ hr
 have := hcell r v h2
 rw [hs] at this
 have e : (⟨b, off, none⟩ : Addr).add (q * K.sz + r) = ⟨b, off + (q * K.sz + r), none⟩ := by unfold Addr.add; split <;> simp_all
 rwa [e] at this
def zi (k : IntKind) : Refl.Zc := .v (.int k 0)
def zb : Refl.Zc := .v (.bool false)
def zs : Refl.Zc := .v (.string ⟨#[]⟩)
def zk (k : IntKind) : Refl.BC := .k (.int k 0)
def zkb : Refl.BC := .k (.bool false)
def zks : Refl.BC := .k (.string ⟨#[]⟩)
def rk33 : Refl.RK S33 where
 sz := 27
 enc x := [.int .i64 x.f0.f0.f0, .int .i64 x.f0.f0.f1, .int .i64 x.f0.f0.f2, .int .i64 x.f0.f0.f3, .int .i64 x.f0.f0.f4, .bool x.f0.f0.f5, .int .i64 x.f0.f1.f0, .int .i64 x.f0.f1.f1, .int .i64 x.f0.f2.f0, .int .i64 x.f0.f2.f1, .bool x.f0.f2.f2, .string x.f0.f3.f0, .int .i64 x.f0.f3.f1, .bool x.f1, .int .i64 x.f2.f0.f0, .int .i64 x.f2.f0.f1, .int .i64 x.f2.f0.f2, .int .i64 x.f2.f0.f3, .int .i64 x.f2.f0.f4, .bool x.f2.f0.f5, .int .i64 x.f2.f1.f0, .int .i64 x.f2.f1.f1, .int .i64 x.f2.f2.f0, .int .i64 x.f2.f2.f1, .bool x.f2.f2.f2, .string x.f2.f3.f0, .int .i64 x.f2.f3.f1]
 dec | [.int .i64 a0, .int .i64 a1, .int .i64 a2, .int .i64 a3, .int .i64 a4, .bool a5, .int .i64 a6, .int .i64 a7, .int .i64 a8, .int .i64 a9, .bool a10, .string a11, .int .i64 a12, .bool a13, .int .i64 a14, .int .i64 a15, .int .i64 a16, .int .i64 a17, .int .i64 a18, .bool a19, .int .i64 a20, .int .i64 a21, .int .i64 a22, .int .i64 a23, .bool a24, .string a25, .int .i64 a26] => some ⟨⟨⟨a0, a1, a2, a3, a4, a5⟩, ⟨a6, a7⟩, ⟨a8, a9, a10⟩, ⟨a11, a12⟩⟩, a13, ⟨⟨a14, a15, a16, a17, a18, a19⟩, ⟨a20, a21⟩, ⟨a22, a23, a24⟩, ⟨a25, a26⟩⟩⟩
     | _ => none
 d := z33
 pos := by decide
 len _ := rfl
 one := by intro x v h; simp at h; rcases h with rfl | rfl | rfl | rfl | rfl | rfl | rfl | rfl | rfl | rfl | rfl | rfl | rfl | rfl | rfl | rfl | rfl | rfl | rfl | rfl | rfl | rfl | rfl | rfl | rfl | rfl | rfl <;> rfl
 de := by
  intro c x h
  split at h
  · cases h; rfl
  · cases h
def rk37 : Refl.RK S37 where
 sz := 6
 enc x := [.int .i64 x.f0, .int .i64 x.f1, .int .i64 x.f2, .int .i64 x.f3, .int .i64 x.f4, .bool x.f5]
 dec | [.int .i64 a0, .int .i64 a1, .int .i64 a2, .int .i64 a3, .int .i64 a4, .bool a5] => some ⟨a0, a1, a2, a3, a4, a5⟩
     | _ => none
 d := z37
 pos := by decide
 len _ := rfl
 one := by intro x v h; simp at h; rcases h with rfl | rfl | rfl | rfl | rfl | rfl <;> rfl
 de := by
  intro c x h
  split at h
  · cases h; rfl
  · cases h
def rk44 : Refl.RK S44 where
 sz := 27
 enc x := [.int .i64 x.f0.f0.f0, .int .i64 x.f0.f0.f1, .int .i64 x.f0.f0.f2, .int .i64 x.f0.f0.f3, .int .i64 x.f0.f0.f4, .bool x.f0.f0.f5, .int .i64 x.f0.f1.f0, .int .i64 x.f0.f1.f1, .int .i64 x.f0.f2.f0, .int .i64 x.f0.f2.f1, .bool x.f0.f2.f2, .string x.f0.f3.f0, .int .i64 x.f0.f3.f1, .bool x.f1, .int .i64 x.f2.f0.f0, .int .i64 x.f2.f0.f1, .int .i64 x.f2.f0.f2, .int .i64 x.f2.f0.f3, .int .i64 x.f2.f0.f4, .bool x.f2.f0.f5, .int .i64 x.f2.f1.f0, .int .i64 x.f2.f1.f1, .int .i64 x.f2.f2.f0, .int .i64 x.f2.f2.f1, .bool x.f2.f2.f2, .string x.f2.f3.f0, .int .i64 x.f2.f3.f1]
 dec | [.int .i64 a0, .int .i64 a1, .int .i64 a2, .int .i64 a3, .int .i64 a4, .bool a5, .int .i64 a6, .int .i64 a7, .int .i64 a8, .int .i64 a9, .bool a10, .string a11, .int .i64 a12, .bool a13, .int .i64 a14, .int .i64 a15, .int .i64 a16, .int .i64 a17, .int .i64 a18, .bool a19, .int .i64 a20, .int .i64 a21, .int .i64 a22, .int .i64 a23, .bool a24, .string a25, .int .i64 a26] => some ⟨⟨⟨a0, a1, a2, a3, a4, a5⟩, ⟨a6, a7⟩, ⟨a8, a9, a10⟩, ⟨a11, a12⟩⟩, a13, ⟨⟨a14, a15, a16, a17, a18, a19⟩, ⟨a20, a21⟩, ⟨a22, a23, a24⟩, ⟨a25, a26⟩⟩⟩
     | _ => none
 d := z44
 pos := by decide
 len _ := rfl
 one := by intro x v h; simp at h; rcases h with rfl | rfl | rfl | rfl | rfl | rfl | rfl | rfl | rfl | rfl | rfl | rfl | rfl | rfl | rfl | rfl | rfl | rfl | rfl | rfl | rfl | rfl | rfl | rfl | rfl | rfl | rfl <;> rfl
 de := by
  intro c x h
  split at h
  · cases h; rfl
  · cases h
def gL0 : List Refl.LC := [li, li, li, li, li, .bool, li, li, li, li, .bool, .str, li]
def gL1 : List Refl.LC := [li, li, li, li, li, .bool, li, li, li, li, .bool, .str, li, .bool, li, li, li, li, li, .bool, li, li, li, li, .bool, .str, li]
def gL2 : List Refl.BC := [zk .i64, zk .i64, zk .i64, zk .i64, zk .i64, zkb]
def gL3 : List Refl.BC := [.l .str, .l (.int .i64)]
def gL4 : List Refl.BC := [zks, zk .i64]
def gL5 : List Refl.BC := [.l (.int .i64), .l (.int .i64), .l (.int .i64), .l (.int .i64), .l (.int .i64), .l .bool, .l (.int .i64), .l (.int .i64), .l (.int .i64), .l (.int .i64), .l .bool, .l .str, .l (.int .i64)]
def gL6 : List Refl.BC := [.l (.int .i64), .l (.int .i64), .l (.int .i64), .l (.int .i64), .l (.int .i64), .l .bool]
def gT : List (Nat × Refl.TD) := [(1, .fn),
 (2, .int .i64),
 (3, .int .i64),
 (4, .bool),
 (5, .int .u8),
 (9, .str),
 (12, .int .u64),
 (21, .int .i32),
 (22, .st 6 [zi .i64, zi .i64, zi .i64, zi .i64, zi .i64, zb] [⟨0, 1, false, 3⟩, ⟨1, 1, false, 3⟩, ⟨2, 1, false, 3⟩, ⟨3, 1, false, 3⟩, ⟨4, 1, false, 3⟩, ⟨5, 1, false, 4⟩]),
 (23, .st 6 [zi .i64, zi .i64, zi .i64, zi .i64, zi .i64, zb] [⟨0, 1, false, 3⟩, ⟨1, 1, false, 3⟩, ⟨2, 1, false, 3⟩, ⟨3, 1, false, 3⟩, ⟨4, 1, false, 3⟩, ⟨5, 1, false, 4⟩]),
 (24, .st 2 [zi .i64, zi .i64] [⟨0, 1, false, 3⟩, ⟨1, 1, false, 3⟩]),
 (25, .st 2 [zi .i64, zi .i64] [⟨0, 1, false, 3⟩, ⟨1, 1, false, 3⟩]),
 (26, .st 3 [zi .i64, zi .i64, zb] [⟨0, 1, false, 3⟩, ⟨1, 1, false, 3⟩, ⟨2, 1, false, 4⟩]),
 (27, .st 3 [zi .i64, zi .i64, zb] [⟨0, 1, false, 3⟩, ⟨1, 1, false, 3⟩, ⟨2, 1, false, 4⟩]),
 (28, .st 2 [zs, zi .i64] [⟨0, 1, false, 9⟩, ⟨1, 1, false, 3⟩]),
 (29, .st 2 [zs, zi .i64] [⟨0, 1, false, 9⟩, ⟨1, 1, false, 3⟩]),
 (30, .st 13 [zi .i64, zi .i64, zi .i64, zi .i64, zi .i64, zb, zi .i64, zi .i64, zi .i64, zi .i64, zb, zs, zi .i64] [⟨0, 6, true, 23⟩, ⟨6, 2, true, 25⟩, ⟨8, 3, true, 27⟩, ⟨11, 2, true, 29⟩]),
 (31, .st 13 [zi .i64, zi .i64, zi .i64, zi .i64, zi .i64, zb, zi .i64, zi .i64, zi .i64, zi .i64, zb, zs, zi .i64] [⟨0, 6, true, 23⟩, ⟨6, 2, true, 25⟩, ⟨8, 3, true, 27⟩, ⟨11, 2, true, 29⟩]),
 (32, .st 27 [zi .i64, zi .i64, zi .i64, zi .i64, zi .i64, zb, zi .i64, zi .i64, zi .i64, zi .i64, zb, zs, zi .i64, zb, zi .i64, zi .i64, zi .i64, zi .i64, zi .i64, zb, zi .i64, zi .i64, zi .i64, zi .i64, zb, zs, zi .i64] [⟨0, 13, true, 31⟩, ⟨13, 1, false, 4⟩, ⟨14, 13, true, 31⟩]),
 (33, .st 27 [zi .i64, zi .i64, zi .i64, zi .i64, zi .i64, zb, zi .i64, zi .i64, zi .i64, zi .i64, zb, zs, zi .i64, zb, zi .i64, zi .i64, zi .i64, zi .i64, zi .i64, zb, zi .i64, zi .i64, zi .i64, zi .i64, zb, zs, zi .i64] [⟨0, 13, true, 31⟩, ⟨13, 1, false, 4⟩, ⟨14, 13, true, 31⟩]),
 (34, .fn),
 (36, .fn),
 (37, .st 6 [zi .i64, zi .i64, zi .i64, zi .i64, zi .i64, zb] [⟨0, 1, false, 3⟩, ⟨1, 1, false, 3⟩, ⟨2, 1, false, 3⟩, ⟨3, 1, false, 3⟩, ⟨4, 1, false, 3⟩, ⟨5, 1, false, 4⟩]),
 (38, .st 2 [zi .i64, zi .i64] [⟨0, 1, false, 3⟩, ⟨1, 1, false, 3⟩]),
 (39, .st 3 [zi .i64, zi .i64, zb] [⟨0, 1, false, 3⟩, ⟨1, 1, false, 3⟩, ⟨2, 1, false, 4⟩]),
 (40, .st 2 [zs, zi .i64] [⟨0, 1, false, 9⟩, ⟨1, 1, false, 3⟩]),
 (41, .st 13 [zi .i64, zi .i64, zi .i64, zi .i64, zi .i64, zb, zi .i64, zi .i64, zi .i64, zi .i64, zb, zs, zi .i64] [⟨0, 6, true, 37⟩, ⟨6, 2, true, 38⟩, ⟨8, 3, true, 39⟩, ⟨11, 2, true, 40⟩]),
 (42, .st 13 [zi .i64, zi .i64, zi .i64, zi .i64, zi .i64, zb, zi .i64, zi .i64, zi .i64, zi .i64, zb, zs, zi .i64] [⟨0, 6, true, 37⟩, ⟨6, 2, true, 38⟩, ⟨8, 3, true, 39⟩, ⟨11, 2, true, 40⟩]),
 (43, .st 27 [zi .i64, zi .i64, zi .i64, zi .i64, zi .i64, zb, zi .i64, zi .i64, zi .i64, zi .i64, zb, zs, zi .i64, zb, zi .i64, zi .i64, zi .i64, zi .i64, zi .i64, zb, zi .i64, zi .i64, zi .i64, zi .i64, zb, zs, zi .i64] [⟨0, 13, true, 42⟩, ⟨13, 1, false, 4⟩, ⟨14, 13, true, 42⟩]),
 (44, .st 27 [zi .i64, zi .i64, zi .i64, zi .i64, zi .i64, zb, zi .i64, zi .i64, zi .i64, zi .i64, zb, zs, zi .i64, zb, zi .i64, zi .i64, zi .i64, zi .i64, zi .i64, zb, zi .i64, zi .i64, zi .i64, zi .i64, zb, zs, zi .i64] [⟨0, 13, true, 42⟩, ⟨13, 1, false, 4⟩, ⟨14, 13, true, 42⟩]),
 (45, .fn),
 (46, .fn),
 (47, .sl 33 232),
 (48, .fn),
 (49, .fn),
 (50, .sl 44 232),
 (51, .fn),
 (52, .fn),
 (53, .fn),
 (54, .fn),
 (55, .fn),
 (57, .fn),
 (59, .fn),
 (60, .sl 3 8),
 (62, .fn),
 (64, .fn),
 (65, .fn),
 (66, .fn),
 (67, .fn),
 (68, .fn),
 (69, .fn),
 (70, .fn),
 (71, .fn),
 (72, .fn),
 (75, .fn),
 (76, .fn),
 (77, .fn),
 (78, .fn),
 (79, .fn),
 (80, .fn),
 (81, .fn),
 (82, .fn),
 (83, .fn),
 (84, .fn),
 (89, .fn),
 (90, .fn),
 (91, .fn),
 (92, .sl 4 1),
 (93, .fn),
 (94, .fn),
 (95, .fn),
 (96, .fn),
 (97, .fn),
 (98, .fn),
 (99, .fn),
 (100, .fn),
 (101, .fn),
 (102, .fn),
 (103, .fn),
 (104, .fn),
 (105, .fn),
 (106, .fn),
 (107, .fn),
 (108, .fn),
 (109, .fn),
 (110, .fn),
 (111, .fn),
 (112, .fn),
 (113, .fn),
 (114, .fn),
 (115, .fn),
 (117, .fn),
 (118, .fn),
 (119, .fn),
 (120, .sl 37 48),
 (122, .fn),
 (123, .fn),
 (124, .fn),
 (125, .fn),
 (126, .fn),
 (127, .fn),
 (128, .fn),
 (129, .sl 9 16),
 (130, .fn),
 (131, .fn),
 (133, .fn),
 (134, .fn),
 (135, .fn),
 (136, .fn),
 (137, .fn),
 (138, .fn),
 (139, .fn),
 (140, .ar 5 3 1 [zi .i64, zi .i64, zi .i64, zi .i64, zi .i64]),
 (141, .fn),
 (142, .fn),
 (143, .fn),
 (144, .fn),
 (145, .fn),
 (146, .fn),
 (147, .fn),
 (148, .fn),
 (149, .fn),
 (151, .fn),
 (152, .fn),
 (153, .fn),
 (155, .fn),
 (157, .fn),
 (159, .sl 5 1),
 (162, .fn),
 (166, .fn),
 (167, .fn),
 (168, .ar 10 9 1 [zs, zs, zs, zs, zs, zs, zs, zs, zs, zs]),
 (169, .ar 3 9 1 [zs, zs, zs]),
 (170, .int .u64),
 (173, .fn),
 (174, .fn),
 (175, .fn),
 (176, .fn),
 (178, .fn),
 (182, .int .u32),
 (197, .fn),
 (199, .fn),
 (200, .int .u64),
 (202, .fn),
 (203, .fn),
 (205, .fn),
 (207, .fn),
 (208, .fn),
 (209, .fn),
 (211, .fn),
 (215, .fn),
 (217, .fn),
 (225, .ar 24 5 1 [zi .u8, zi .u8, zi .u8, zi .u8, zi .u8, zi .u8, zi .u8, zi .u8, zi .u8, zi .u8, zi .u8, zi .u8, zi .u8, zi .u8, zi .u8, zi .u8, zi .u8, zi .u8, zi .u8, zi .u8, zi .u8, zi .u8, zi .u8, zi .u8]),
 (226, .fn),
 (227, .fn),
 (229, .fn),
 (231, .fn),
 (232, .fn),
 (234, .fn),
 (243, .fn),
 (244, .fn),
 (245, .ar 20 200 1 [zi .u64, zi .u64, zi .u64, zi .u64, zi .u64, zi .u64, zi .u64, zi .u64, zi .u64, zi .u64, zi .u64, zi .u64, zi .u64, zi .u64, zi .u64, zi .u64, zi .u64, zi .u64, zi .u64, zi .u64]),
 (246, .ar 65 5 1 [zi .u8, zi .u8, zi .u8, zi .u8, zi .u8, zi .u8, zi .u8, zi .u8, zi .u8, zi .u8, zi .u8, zi .u8, zi .u8, zi .u8, zi .u8, zi .u8, zi .u8, zi .u8, zi .u8, zi .u8, zi .u8, zi .u8, zi .u8, zi .u8, zi .u8, zi .u8, zi .u8, zi .u8, zi .u8, zi .u8, zi .u8, zi .u8, zi .u8, zi .u8, zi .u8, zi .u8, zi .u8, zi .u8, zi .u8, zi .u8, zi .u8, zi .u8, zi .u8, zi .u8, zi .u8, zi .u8, zi .u8, zi .u8, zi .u8, zi .u8, zi .u8, zi .u8, zi .u8, zi .u8, zi .u8, zi .u8, zi .u8, zi .u8, zi .u8, zi .u8, zi .u8, zi .u8, zi .u8, zi .u8, zi .u8]),
 (247, .fn),
 (249, .fn),
 (251, .fn),
 (252, .fn),
 (257, .fn),
 (259, .fn),
 (260, .fn),
 (262, .ar 32 5 1 [zi .u8, zi .u8, zi .u8, zi .u8, zi .u8, zi .u8, zi .u8, zi .u8, zi .u8, zi .u8, zi .u8, zi .u8, zi .u8, zi .u8, zi .u8, zi .u8, zi .u8, zi .u8, zi .u8, zi .u8, zi .u8, zi .u8, zi .u8, zi .u8, zi .u8, zi .u8, zi .u8, zi .u8, zi .u8, zi .u8, zi .u8, zi .u8]),
 (263, .ar 64 5 1 [zi .u8, zi .u8, zi .u8, zi .u8, zi .u8, zi .u8, zi .u8, zi .u8, zi .u8, zi .u8, zi .u8, zi .u8, zi .u8, zi .u8, zi .u8, zi .u8, zi .u8, zi .u8, zi .u8, zi .u8, zi .u8, zi .u8, zi .u8, zi .u8, zi .u8, zi .u8, zi .u8, zi .u8, zi .u8, zi .u8, zi .u8, zi .u8, zi .u8, zi .u8, zi .u8, zi .u8, zi .u8, zi .u8, zi .u8, zi .u8, zi .u8, zi .u8, zi .u8, zi .u8, zi .u8, zi .u8, zi .u8, zi .u8, zi .u8, zi .u8, zi .u8, zi .u8, zi .u8, zi .u8, zi .u8, zi .u8, zi .u8, zi .u8, zi .u8, zi .u8, zi .u8, zi .u8, zi .u8, zi .u8]),
 (269, .int .u8),
 (270, .int .u8),
 (271, .fn),
 (272, .int .i32),
 (273, .int .i32),
 (276, .fn),
 (277, .fn),
 (286, .fn),
 (291, .fn)]
def gK : List (Nat × Refl.KD) := [(3, ⟨Int, rkInt .i64⟩), (4, ⟨Bool, rkBool⟩), (5, ⟨Int, rkInt .u8⟩), (9, ⟨ByteArray, rkStr⟩), (33, ⟨S33, rk33⟩), (37, ⟨S37, rk37⟩), (44, ⟨S44, rk44⟩), (200, ⟨Int, rkInt .u64⟩)]
def G : Refl.Ctx := ⟨Refl.kdGet ⟨Int, rkInt .i64⟩ gK, Refl.tdGet gT, 5, rfl⟩
theorem gT_ok : Refl.TDsOK Tryz.prog G gT := ⟨Refl.tdOk_fn Tryz.underlying1 rfl (by kernel_rfl),
 Refl.tdOk_int Tryz.underlying2 (by kernel_rfl),
 Refl.tdOk_int Tryz.underlying3 (by kernel_rfl),
 Refl.tdOk_bool Tryz.underlying4 (by kernel_rfl),
 Refl.tdOk_int Tryz.underlying5 (by kernel_rfl),
 Refl.tdOk_str Tryz.underlying9 (by kernel_rfl),
 Refl.tdOk_int Tryz.underlying12 (by kernel_rfl),
 Refl.tdOk_int Tryz.underlying21 (by kernel_rfl),
 Refl.tdOk_st Tryz.underlying22 (by kernel_rfl) rfl (by kernel_rfl) (by kernel_rfl) (by kernel_rfl),
 Refl.tdOk_st Tryz.underlying23 (by kernel_rfl) rfl (by kernel_rfl) (by kernel_rfl) (by kernel_rfl),
 Refl.tdOk_st Tryz.underlying24 (by kernel_rfl) rfl (by kernel_rfl) (by kernel_rfl) (by kernel_rfl),
 Refl.tdOk_st Tryz.underlying25 (by kernel_rfl) rfl (by kernel_rfl) (by kernel_rfl) (by kernel_rfl),
 Refl.tdOk_st Tryz.underlying26 (by kernel_rfl) rfl (by kernel_rfl) (by kernel_rfl) (by kernel_rfl),
 Refl.tdOk_st Tryz.underlying27 (by kernel_rfl) rfl (by kernel_rfl) (by kernel_rfl) (by kernel_rfl),
 Refl.tdOk_st Tryz.underlying28 (by kernel_rfl) rfl (by kernel_rfl) (by kernel_rfl) (by kernel_rfl),
 Refl.tdOk_st Tryz.underlying29 (by kernel_rfl) rfl (by kernel_rfl) (by kernel_rfl) (by kernel_rfl),
 Refl.tdOk_st Tryz.underlying30 (by kernel_rfl) rfl (by kernel_rfl) (by kernel_rfl) (by kernel_rfl),
 Refl.tdOk_st Tryz.underlying31 (by kernel_rfl) rfl (by kernel_rfl) (by kernel_rfl) (by kernel_rfl),
 Refl.tdOk_st Tryz.underlying32 (by kernel_rfl) rfl (by kernel_rfl) (by kernel_rfl) (by kernel_rfl),
 Refl.tdOk_st Tryz.underlying33 (by kernel_rfl) rfl (by kernel_rfl) (by kernel_rfl) (by kernel_rfl),
 Refl.tdOk_fn Tryz.underlying34 rfl (by kernel_rfl),
 Refl.tdOk_fn Tryz.underlying36 rfl (by kernel_rfl),
 Refl.tdOk_st Tryz.underlying37 (by kernel_rfl) rfl (by kernel_rfl) (by kernel_rfl) (by kernel_rfl),
 Refl.tdOk_st Tryz.underlying38 (by kernel_rfl) rfl (by kernel_rfl) (by kernel_rfl) (by kernel_rfl),
 Refl.tdOk_st Tryz.underlying39 (by kernel_rfl) rfl (by kernel_rfl) (by kernel_rfl) (by kernel_rfl),
 Refl.tdOk_st Tryz.underlying40 (by kernel_rfl) rfl (by kernel_rfl) (by kernel_rfl) (by kernel_rfl),
 Refl.tdOk_st Tryz.underlying41 (by kernel_rfl) rfl (by kernel_rfl) (by kernel_rfl) (by kernel_rfl),
 Refl.tdOk_st Tryz.underlying42 (by kernel_rfl) rfl (by kernel_rfl) (by kernel_rfl) (by kernel_rfl),
 Refl.tdOk_st Tryz.underlying43 (by kernel_rfl) rfl (by kernel_rfl) (by kernel_rfl) (by kernel_rfl),
 Refl.tdOk_st Tryz.underlying44 (by kernel_rfl) rfl (by kernel_rfl) (by kernel_rfl) (by kernel_rfl),
 Refl.tdOk_fn Tryz.underlying45 rfl (by kernel_rfl),
 Refl.tdOk_fn Tryz.underlying46 rfl (by kernel_rfl),
 Refl.tdOk_sl (z := .agg #[.int .i64 0, .int .i64 0, .int .i64 0, .int .i64 0, .int .i64 0, .bool false, .int .i64 0, .int .i64 0, .int .i64 0, .int .i64 0, .bool false, .string ⟨#[]⟩, .int .i64 0, .bool false, .int .i64 0, .int .i64 0, .int .i64 0, .int .i64 0, .int .i64 0, .bool false, .int .i64 0, .int .i64 0, .int .i64 0, .int .i64 0, .bool false, .string ⟨#[]⟩, .int .i64 0]) Tryz.underlying47 (by kernel_rfl) (by kernel_rfl) (by kernel_rfl) rfl,
 Refl.tdOk_fn Tryz.underlying48 rfl (by kernel_rfl),
 Refl.tdOk_fn Tryz.underlying49 rfl (by kernel_rfl),
 Refl.tdOk_sl (z := .agg #[.int .i64 0, .int .i64 0, .int .i64 0, .int .i64 0, .int .i64 0, .bool false, .int .i64 0, .int .i64 0, .int .i64 0, .int .i64 0, .bool false, .string ⟨#[]⟩, .int .i64 0, .bool false, .int .i64 0, .int .i64 0, .int .i64 0, .int .i64 0, .int .i64 0, .bool false, .int .i64 0, .int .i64 0, .int .i64 0, .int .i64 0, .bool false, .string ⟨#[]⟩, .int .i64 0]) Tryz.underlying50 (by kernel_rfl) (by kernel_rfl) (by kernel_rfl) rfl,
 Refl.tdOk_fn Tryz.underlying51 rfl (by kernel_rfl),
 Refl.tdOk_fn Tryz.underlying52 rfl (by kernel_rfl),
 Refl.tdOk_fn Tryz.underlying53 rfl (by kernel_rfl),
 Refl.tdOk_fn Tryz.underlying54 rfl (by kernel_rfl),
 Refl.tdOk_fn Tryz.underlying55 rfl (by kernel_rfl),
 Refl.tdOk_fn Tryz.underlying57 rfl (by kernel_rfl),
 Refl.tdOk_fn Tryz.underlying59 rfl (by kernel_rfl),
 Refl.tdOk_sl (z := .int .i64 0) Tryz.underlying60 (by kernel_rfl) (by kernel_rfl) (by kernel_rfl) rfl,
 Refl.tdOk_fn Tryz.underlying62 rfl (by kernel_rfl),
 Refl.tdOk_fn Tryz.underlying64 rfl (by kernel_rfl),
 Refl.tdOk_fn Tryz.underlying65 rfl (by kernel_rfl),
 Refl.tdOk_fn Tryz.underlying66 rfl (by kernel_rfl),
 Refl.tdOk_fn Tryz.underlying67 rfl (by kernel_rfl),
 Refl.tdOk_fn Tryz.underlying68 rfl (by kernel_rfl),
 Refl.tdOk_fn Tryz.underlying69 rfl (by kernel_rfl),
 Refl.tdOk_fn Tryz.underlying70 rfl (by kernel_rfl),
 Refl.tdOk_fn Tryz.underlying71 rfl (by kernel_rfl),
 Refl.tdOk_fn Tryz.underlying72 rfl (by kernel_rfl),
 Refl.tdOk_fn Tryz.underlying75 rfl (by kernel_rfl),
 Refl.tdOk_fn Tryz.underlying76 rfl (by kernel_rfl),
 Refl.tdOk_fn Tryz.underlying77 rfl (by kernel_rfl),
 Refl.tdOk_fn Tryz.underlying78 rfl (by kernel_rfl),
 Refl.tdOk_fn Tryz.underlying79 rfl (by kernel_rfl),
 Refl.tdOk_fn Tryz.underlying80 rfl (by kernel_rfl),
 Refl.tdOk_fn Tryz.underlying81 rfl (by kernel_rfl),
 Refl.tdOk_fn Tryz.underlying82 rfl (by kernel_rfl),
 Refl.tdOk_fn Tryz.underlying83 rfl (by kernel_rfl),
 Refl.tdOk_fn Tryz.underlying84 rfl (by kernel_rfl),
 Refl.tdOk_fn Tryz.underlying89 rfl (by kernel_rfl),
 Refl.tdOk_fn Tryz.underlying90 rfl (by kernel_rfl),
 Refl.tdOk_fn Tryz.underlying91 rfl (by kernel_rfl),
 Refl.tdOk_sl (z := .bool false) Tryz.underlying92 (by kernel_rfl) (by kernel_rfl) (by kernel_rfl) rfl,
 Refl.tdOk_fn Tryz.underlying93 rfl (by kernel_rfl),
 Refl.tdOk_fn Tryz.underlying94 rfl (by kernel_rfl),
 Refl.tdOk_fn Tryz.underlying95 rfl (by kernel_rfl),
 Refl.tdOk_fn Tryz.underlying96 rfl (by kernel_rfl),
 Refl.tdOk_fn Tryz.underlying97 rfl (by kernel_rfl),
 Refl.tdOk_fn Tryz.underlying98 rfl (by kernel_rfl),
 Refl.tdOk_fn Tryz.underlying99 rfl (by kernel_rfl),
 Refl.tdOk_fn Tryz.underlying100 rfl (by kernel_rfl),
 Refl.tdOk_fn Tryz.underlying101 rfl (by kernel_rfl),
 Refl.tdOk_fn Tryz.underlying102 rfl (by kernel_rfl),
 Refl.tdOk_fn Tryz.underlying103 rfl (by kernel_rfl),
 Refl.tdOk_fn Tryz.underlying104 rfl (by kernel_rfl),
 Refl.tdOk_fn Tryz.underlying105 rfl (by kernel_rfl),
 Refl.tdOk_fn Tryz.underlying106 rfl (by kernel_rfl),
 Refl.tdOk_fn Tryz.underlying107 rfl (by kernel_rfl),
 Refl.tdOk_fn Tryz.underlying108 rfl (by kernel_rfl),
 Refl.tdOk_fn Tryz.underlying109 rfl (by kernel_rfl),
 Refl.tdOk_fn Tryz.underlying110 rfl (by kernel_rfl),
 Refl.tdOk_fn Tryz.underlying111 rfl (by kernel_rfl),
 Refl.tdOk_fn Tryz.underlying112 rfl (by kernel_rfl),
 Refl.tdOk_fn Tryz.underlying113 rfl (by kernel_rfl),
 Refl.tdOk_fn Tryz.underlying114 rfl (by kernel_rfl),
 Refl.tdOk_fn Tryz.underlying115 rfl (by kernel_rfl),
 Refl.tdOk_fn Tryz.underlying117 rfl (by kernel_rfl),
 Refl.tdOk_fn Tryz.underlying118 rfl (by kernel_rfl),
 Refl.tdOk_fn Tryz.underlying119 rfl (by kernel_rfl),
 Refl.tdOk_sl (z := .agg #[.int .i64 0, .int .i64 0, .int .i64 0, .int .i64 0, .int .i64 0, .bool false]) Tryz.underlying120 (by kernel_rfl) (by kernel_rfl) (by kernel_rfl) rfl,
 Refl.tdOk_fn Tryz.underlying122 rfl (by kernel_rfl),
 Refl.tdOk_fn Tryz.underlying123 rfl (by kernel_rfl),
 Refl.tdOk_fn Tryz.underlying124 rfl (by kernel_rfl),
 Refl.tdOk_fn Tryz.underlying125 rfl (by kernel_rfl),
 Refl.tdOk_fn Tryz.underlying126 rfl (by kernel_rfl),
 Refl.tdOk_fn Tryz.underlying127 rfl (by kernel_rfl),
 Refl.tdOk_fn Tryz.underlying128 rfl (by kernel_rfl),
 Refl.tdOk_sl (z := .string ⟨#[]⟩) Tryz.underlying129 (by kernel_rfl) (by kernel_rfl) (by kernel_rfl) rfl,
 Refl.tdOk_fn Tryz.underlying130 rfl (by kernel_rfl),
 Refl.tdOk_fn Tryz.underlying131 rfl (by kernel_rfl),
 Refl.tdOk_fn Tryz.underlying133 rfl (by kernel_rfl),
 Refl.tdOk_fn Tryz.underlying134 rfl (by kernel_rfl),
 Refl.tdOk_fn Tryz.underlying135 rfl (by kernel_rfl),
 Refl.tdOk_fn Tryz.underlying136 rfl (by kernel_rfl),
 Refl.tdOk_fn Tryz.underlying137 rfl (by kernel_rfl),
 Refl.tdOk_fn Tryz.underlying138 rfl (by kernel_rfl),
 Refl.tdOk_fn Tryz.underlying139 rfl (by kernel_rfl),
 Refl.tdOk_ar Tryz.underlying140 (by kernel_rfl) rfl (by kernel_rfl) rfl,
 Refl.tdOk_fn Tryz.underlying141 rfl (by kernel_rfl),
 Refl.tdOk_fn Tryz.underlying142 rfl (by kernel_rfl),
 Refl.tdOk_fn Tryz.underlying143 rfl (by kernel_rfl),
 Refl.tdOk_fn Tryz.underlying144 rfl (by kernel_rfl),
 Refl.tdOk_fn Tryz.underlying145 rfl (by kernel_rfl),
 Refl.tdOk_fn Tryz.underlying146 rfl (by kernel_rfl),
 Refl.tdOk_fn Tryz.underlying147 rfl (by kernel_rfl),
 Refl.tdOk_fn Tryz.underlying148 rfl (by kernel_rfl),
 Refl.tdOk_fn Tryz.underlying149 rfl (by kernel_rfl),
 Refl.tdOk_fn Tryz.underlying151 rfl (by kernel_rfl),
 Refl.tdOk_fn Tryz.underlying152 rfl (by kernel_rfl),
 Refl.tdOk_fn Tryz.underlying153 rfl (by kernel_rfl),
 Refl.tdOk_fn Tryz.underlying155 rfl (by kernel_rfl),
 Refl.tdOk_fn Tryz.underlying157 rfl (by kernel_rfl),
 Refl.tdOk_sl (z := .int .u8 0) Tryz.underlying159 (by kernel_rfl) (by kernel_rfl) (by kernel_rfl) rfl,
 Refl.tdOk_fn Tryz.underlying162 rfl (by kernel_rfl),
 Refl.tdOk_fn Tryz.underlying166 rfl (by kernel_rfl),
 Refl.tdOk_fn Tryz.underlying167 rfl (by kernel_rfl),
 Refl.tdOk_ar Tryz.underlying168 (by kernel_rfl) rfl (by kernel_rfl) rfl,
 Refl.tdOk_ar Tryz.underlying169 (by kernel_rfl) rfl (by kernel_rfl) rfl,
 Refl.tdOk_int Tryz.underlying170 (by kernel_rfl),
 Refl.tdOk_fn Tryz.underlying173 rfl (by kernel_rfl),
 Refl.tdOk_fn Tryz.underlying174 rfl (by kernel_rfl),
 Refl.tdOk_fn Tryz.underlying175 rfl (by kernel_rfl),
 Refl.tdOk_fn Tryz.underlying176 rfl (by kernel_rfl),
 Refl.tdOk_fn Tryz.underlying178 rfl (by kernel_rfl),
 Refl.tdOk_int Tryz.underlying182 (by kernel_rfl),
 Refl.tdOk_fn Tryz.underlying197 rfl (by kernel_rfl),
 Refl.tdOk_fn Tryz.underlying199 rfl (by kernel_rfl),
 Refl.tdOk_int Tryz.underlying200 (by kernel_rfl),
 Refl.tdOk_fn Tryz.underlying202 rfl (by kernel_rfl),
 Refl.tdOk_fn Tryz.underlying203 rfl (by kernel_rfl),
 Refl.tdOk_fn Tryz.underlying205 rfl (by kernel_rfl),
 Refl.tdOk_fn Tryz.underlying207 rfl (by kernel_rfl),
 Refl.tdOk_fn Tryz.underlying208 rfl (by kernel_rfl),
 Refl.tdOk_fn Tryz.underlying209 rfl (by kernel_rfl),
 Refl.tdOk_fn Tryz.underlying211 rfl (by kernel_rfl),
 Refl.tdOk_fn Tryz.underlying215 rfl (by kernel_rfl),
 Refl.tdOk_fn Tryz.underlying217 rfl (by kernel_rfl),
 Refl.tdOk_ar Tryz.underlying225 (by kernel_rfl) rfl (by kernel_rfl) rfl,
 Refl.tdOk_fn Tryz.underlying226 rfl (by kernel_rfl),
 Refl.tdOk_fn Tryz.underlying227 rfl (by kernel_rfl),
 Refl.tdOk_fn Tryz.underlying229 rfl (by kernel_rfl),
 Refl.tdOk_fn Tryz.underlying231 rfl (by kernel_rfl),
 Refl.tdOk_fn Tryz.underlying232 rfl (by kernel_rfl),
 Refl.tdOk_fn Tryz.underlying234 rfl (by kernel_rfl),
 Refl.tdOk_fn Tryz.underlying243 rfl (by kernel_rfl),
 Refl.tdOk_fn Tryz.underlying244 rfl (by kernel_rfl),
 Refl.tdOk_ar Tryz.underlying245 (by kernel_rfl) rfl (by kernel_rfl) rfl,
 Refl.tdOk_ar Tryz.underlying246 (by kernel_rfl) rfl (by kernel_rfl) rfl,
 Refl.tdOk_fn Tryz.underlying247 rfl (by kernel_rfl),
 Refl.tdOk_fn Tryz.underlying249 rfl (by kernel_rfl),
 Refl.tdOk_fn Tryz.underlying251 rfl (by kernel_rfl),
 Refl.tdOk_fn Tryz.underlying252 rfl (by kernel_rfl),
 Refl.tdOk_fn Tryz.underlying257 rfl (by kernel_rfl),
 Refl.tdOk_fn Tryz.underlying259 rfl (by kernel_rfl),
 Refl.tdOk_fn Tryz.underlying260 rfl (by kernel_rfl),
 Refl.tdOk_ar Tryz.underlying262 (by kernel_rfl) rfl (by kernel_rfl) rfl,
 Refl.tdOk_ar Tryz.underlying263 (by kernel_rfl) rfl (by kernel_rfl) rfl,
 Refl.tdOk_int Tryz.underlying269 (by kernel_rfl),
 Refl.tdOk_int Tryz.underlying270 (by kernel_rfl),
 Refl.tdOk_fn Tryz.underlying271 rfl (by kernel_rfl),
 Refl.tdOk_int Tryz.underlying272 (by kernel_rfl),
 Refl.tdOk_int Tryz.underlying273 (by kernel_rfl),
 Refl.tdOk_fn Tryz.underlying276 rfl (by kernel_rfl),
 Refl.tdOk_fn Tryz.underlying277 rfl (by kernel_rfl),
 Refl.tdOk_fn Tryz.underlying286 rfl (by kernel_rfl),
 Refl.tdOk_fn Tryz.underlying291 rfl (by kernel_rfl), trivial⟩
theorem GC : Refl.CtxOK Tryz.prog G := ⟨Refl.tds_ok gT_ok, by kernel_rfl⟩

end Go.Proofs.YtojfncpjgpklhaaGreatDoor.PA
