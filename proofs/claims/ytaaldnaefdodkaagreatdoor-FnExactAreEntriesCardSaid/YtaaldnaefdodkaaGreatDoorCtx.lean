import Derived.Test.YtaaldnaefdodkaaGreatDoorPAx0
import Derived.KernelRfl
import Derived.Test.YtaaldnaefdodkaaGreatDoorRefl
set_option autoImplicit false
set_option linter.unusedVariables false
set_option linter.unusedSimpArgs false
namespace Go.Proofs.YtaaldnaefdodkaaGreatDoor.PA
open Go.RowKit Go.Proofs.YtaaldnaefdodkaaGreatDoorW.PrintWords Go.Proofs.YtaaldnaefdodkaaGreatDoorW.PrintLast Go.Proofs.YtaaldnaefdodkaaGreatDoorW.PrintMore
abbrev rkInt := Refl.rkInt
def rkStr : Refl.RK ByteArray where
 sz := 1
 enc x := [.string x]
 dec | [.string x] => some x
     | _ => none
 d := ⟨#[]⟩
 pos := by decide
 len _ := rfl
 one := by intro x v h; simp at h; subst h; rfl
 de := by
  intro c x h
  split at h
  · cases h; rfl
  · cases h
def rkBool : Refl.RK Bool where
 sz := 1
 enc x := [.bool x]
 dec | [.bool x] => some x
     | _ => none
 d := false
 pos := by decide
 len _ := rfl
 one := by intro x v h; simp at h; subst h; rfl
 de := by
  intro c x h
  split at h
  · cases h; rfl
  · cases h
abbrev li : Refl.LC := .int .i64
theorem flat_at {α : Type} (K : Refl.RK α) : ∀ (xs : List α) (j : Nat) (v : Value), (xs.flatMap K.enc)[j]? = some v → ∃ q p r, xs[q]? = some p ∧ (K.enc p)[r]? = some v ∧ j = q * K.sz + r
 | [], j, v, h => by simp at h
 | x :: xs, j, v, h => by
  rw [List.flatMap_cons] at h
  rcases Nat.lt_or_ge j K.sz with hj | hj
  · rw [List.getElem?_append_left (by rw [K.len]; exact hj)] at h
    exact ⟨0, x, j, rfl, h, by omega⟩
  · rw [List.getElem?_append_right (by rw [K.len]; exact hj), K.len] at h
    obtain ⟨q, p, r, h1, h2, h3⟩ := flat_at K xs _ v h
    exact ⟨q + 1, p, r, by simpa using h1, h2, by rw [Nat.succ_mul]; omega⟩
/-- A row of the law's own arguments. -/
theorem row_of {α : Type} (d : Kd α) (K : Refl.RK α) (hk : ∀ w x cs, d.K w x cs → cs = K.enc x) (hs : d.sz = K.sz) {e : Nat} {w : World} {A : Option Addr} {c : Nat} {xs : List α} (h : Kd.C d w A xs.length xs) (hc : xs.length ≤ c) : Refl.RowRep w.heap.size (fun _ _ => True) Refl.μ0 w K e xs .ro (.slice A xs.length c) := by
 obtain ⟨_, hn, hx⟩ := h
 refine ⟨A, c, rfl, hc, by simp only [maxLen]; omega, fun hpos => ?_, trivial⟩
 obtain ⟨ad, rfl, hall⟩ := hx hpos
 have hsp : ad.spot = none := by
  obtain ⟨cs, hl, hr, hcell⟩ := hall 0 _ (List.getElem?_eq_getElem hpos)
  have hl0 : 0 < cs.length := by rw [hl, hs]; exact K.pos
  have := hcell 0 _ (List.getElem?_eq_getElem hl0)
  rw [Nat.zero_mul, show ad.add (0 + 0) = ad from rfl] at this
  unfold World.cell? at this
  split at this
  · split at this
    · cases this
    · rename_i hq; simpa using hq
  · cases this
 obtain ⟨b, off, sp⟩ := ad
 cases hsp
 refine ⟨b, off, rfl, fun j v hj => ⟨?_, ⟨fun s e => (by cases e), fun d j u e => (by cases e)⟩, fun _ => trivial⟩⟩
 obtain ⟨q, p, r, h1, h2, rfl⟩ := flat_at K xs j v hj
 obtain ⟨cs, hl, hr, hcell⟩ := hall q p h1
 obtain rfl := hk _ _ _ hr
 have := hcell r v h2
 rw [hs] at this
 have e : (⟨b, off, none⟩ : Addr).add (q * K.sz + r) = ⟨b, off + (q * K.sz + r), none⟩ := by unfold Addr.add; split <;> simp_all
 rwa [e] at this
def zi (k : IntKind) : Refl.Zc := .v (.int k 0)
def zb : Refl.Zc := .v (.bool false)
def zs : Refl.Zc := .v (.string ⟨#[]⟩)
def zk (k : IntKind) : Refl.BC := .k (.int k 0)
def zkb : Refl.BC := .k (.bool false)
def zks : Refl.BC := .k (.string ⟨#[]⟩)
def rk62 : Refl.RK S62 where
 sz := 30
 enc x := [.string x.f0, .int .i64 x.f1.f0.f0.f0, .int .i64 x.f1.f0.f0.f1, .int .i64 x.f1.f0.f0.f2, .int .i64 x.f1.f0.f0.f3, .int .i64 x.f1.f0.f0.f4, .bool x.f1.f0.f0.f5, .int .i64 x.f1.f0.f1.f0, .int .i64 x.f1.f0.f1.f1, .int .i64 x.f1.f0.f2.f0, .int .i64 x.f1.f0.f2.f1, .bool x.f1.f0.f2.f2, .string x.f1.f0.f3.f0, .int .i64 x.f1.f0.f3.f1, .bool x.f1.f1, .int .i64 x.f1.f2.f0.f0, .int .i64 x.f1.f2.f0.f1, .int .i64 x.f1.f2.f0.f2, .int .i64 x.f1.f2.f0.f3, .int .i64 x.f1.f2.f0.f4, .bool x.f1.f2.f0.f5, .int .i64 x.f1.f2.f1.f0, .int .i64 x.f1.f2.f1.f1, .int .i64 x.f1.f2.f2.f0, .int .i64 x.f1.f2.f2.f1, .bool x.f1.f2.f2.f2, .string x.f1.f2.f3.f0, .int .i64 x.f1.f2.f3.f1, .int .i64 x.f2, .int .i64 x.f3]
 dec | [.string a0, .int .i64 a1, .int .i64 a2, .int .i64 a3, .int .i64 a4, .int .i64 a5, .bool a6, .int .i64 a7, .int .i64 a8, .int .i64 a9, .int .i64 a10, .bool a11, .string a12, .int .i64 a13, .bool a14, .int .i64 a15, .int .i64 a16, .int .i64 a17, .int .i64 a18, .int .i64 a19, .bool a20, .int .i64 a21, .int .i64 a22, .int .i64 a23, .int .i64 a24, .bool a25, .string a26, .int .i64 a27, .int .i64 a28, .int .i64 a29] => some ⟨a0, ⟨⟨⟨a1, a2, a3, a4, a5, a6⟩, ⟨a7, a8⟩, ⟨a9, a10, a11⟩, ⟨a12, a13⟩⟩, a14, ⟨⟨a15, a16, a17, a18, a19, a20⟩, ⟨a21, a22⟩, ⟨a23, a24, a25⟩, ⟨a26, a27⟩⟩⟩, a28, a29⟩
     | _ => none
 d := z62
 pos := by decide
 len _ := rfl
 one := by intro x v h; simp at h; rcases h with rfl | rfl | rfl | rfl | rfl | rfl | rfl | rfl | rfl | rfl | rfl | rfl | rfl | rfl | rfl | rfl | rfl | rfl | rfl | rfl | rfl | rfl | rfl | rfl | rfl | rfl | rfl | rfl | rfl | rfl <;> rfl
 de := by
  intro c x h
  split at h
  · cases h; rfl
  · cases h
def rk63 : Refl.RK S63 where
 sz := 6
 enc x := [.int .i64 x.f0, .int .i64 x.f1, .int .i64 x.f2, .int .i64 x.f3, .int .i64 x.f4, .bool x.f5]
 dec | [.int .i64 a0, .int .i64 a1, .int .i64 a2, .int .i64 a3, .int .i64 a4, .bool a5] => some ⟨a0, a1, a2, a3, a4, a5⟩
     | _ => none
 d := z63
 pos := by decide
 len _ := rfl
 one := by intro x v h; simp at h; rcases h with rfl | rfl | rfl | rfl | rfl | rfl <;> rfl
 de := by
  intro c x h
  split at h
  · cases h; rfl
  · cases h
def rk65 : Refl.RK S65 where
 sz := 3
 enc x := [.int .i64 x.f0, .int .i64 x.f1, .bool x.f2]
 dec | [.int .i64 a0, .int .i64 a1, .bool a2] => some ⟨a0, a1, a2⟩
     | _ => none
 d := z65
 pos := by decide
 len _ := rfl
 one := by intro x v h; simp at h; rcases h with rfl | rfl | rfl <;> rfl
 de := by
  intro c x h
  split at h
  · cases h; rfl
  · cases h
def rk71 : Refl.RK S71 where
 sz := 30
 enc x := [.string x.f0, .int .i64 x.f1.f0.f0.f0, .int .i64 x.f1.f0.f0.f1, .int .i64 x.f1.f0.f0.f2, .int .i64 x.f1.f0.f0.f3, .int .i64 x.f1.f0.f0.f4, .bool x.f1.f0.f0.f5, .int .i64 x.f1.f0.f1.f0, .int .i64 x.f1.f0.f1.f1, .int .i64 x.f1.f0.f2.f0, .int .i64 x.f1.f0.f2.f1, .bool x.f1.f0.f2.f2, .string x.f1.f0.f3.f0, .int .i64 x.f1.f0.f3.f1, .bool x.f1.f1, .int .i64 x.f1.f2.f0.f0, .int .i64 x.f1.f2.f0.f1, .int .i64 x.f1.f2.f0.f2, .int .i64 x.f1.f2.f0.f3, .int .i64 x.f1.f2.f0.f4, .bool x.f1.f2.f0.f5, .int .i64 x.f1.f2.f1.f0, .int .i64 x.f1.f2.f1.f1, .int .i64 x.f1.f2.f2.f0, .int .i64 x.f1.f2.f2.f1, .bool x.f1.f2.f2.f2, .string x.f1.f2.f3.f0, .int .i64 x.f1.f2.f3.f1, .int .i64 x.f2, .int .i64 x.f3]
 dec | [.string a0, .int .i64 a1, .int .i64 a2, .int .i64 a3, .int .i64 a4, .int .i64 a5, .bool a6, .int .i64 a7, .int .i64 a8, .int .i64 a9, .int .i64 a10, .bool a11, .string a12, .int .i64 a13, .bool a14, .int .i64 a15, .int .i64 a16, .int .i64 a17, .int .i64 a18, .int .i64 a19, .bool a20, .int .i64 a21, .int .i64 a22, .int .i64 a23, .int .i64 a24, .bool a25, .string a26, .int .i64 a27, .int .i64 a28, .int .i64 a29] => some ⟨a0, ⟨⟨⟨a1, a2, a3, a4, a5, a6⟩, ⟨a7, a8⟩, ⟨a9, a10, a11⟩, ⟨a12, a13⟩⟩, a14, ⟨⟨a15, a16, a17, a18, a19, a20⟩, ⟨a21, a22⟩, ⟨a23, a24, a25⟩, ⟨a26, a27⟩⟩⟩, a28, a29⟩
     | _ => none
 d := z71
 pos := by decide
 len _ := rfl
 one := by intro x v h; simp at h; rcases h with rfl | rfl | rfl | rfl | rfl | rfl | rfl | rfl | rfl | rfl | rfl | rfl | rfl | rfl | rfl | rfl | rfl | rfl | rfl | rfl | rfl | rfl | rfl | rfl | rfl | rfl | rfl | rfl | rfl | rfl <;> rfl
 de := by
  intro c x h
  split at h
  · cases h; rfl
  · cases h
def gL0 : List Refl.LC := [li, li, li, li, li, .bool, li, li, li, li, .bool, .str, li]
def gL1 : List Refl.LC := [li, li, li, li, li, .bool, li, li, li, li, .bool, .str, li, .bool, li, li, li, li, li, .bool, li, li, li, li, .bool, .str, li]
def gL2 : List Refl.LC := [.str, li, li, li, li, li, .bool, li, li, li, li, .bool, .str, li, .bool, li, li, li, li, li, .bool, li, li, li, li, .bool, .str, li, li, li]
def gL3 : List Refl.BC := [zk .i64, zk .i64, zk .i64, zk .i64, zk .i64, zkb]
def gL4 : List Refl.BC := [.l .str, .l (.int .i64)]
def gL5 : List Refl.BC := [zks, zk .i64]
def gL6 : List Refl.BC := [.l (.int .i64), .l (.int .i64), .l (.int .i64), .l (.int .i64), .l (.int .i64), .l .bool, .l (.int .i64), .l (.int .i64), .l (.int .i64), .l (.int .i64), .l .bool, .l .str, .l (.int .i64)]
def gL7 : List Refl.BC := [.l (.int .i64), .l (.int .i64), .l (.int .i64), .l (.int .i64), .l (.int .i64), .l .bool]
def gT : List (Nat × Refl.TD) := [(1, .fn),
 (2, .int .i64),
 (3, .int .i64),
 (4, .bool),
 (5, .int .u8),
 (9, .str),
 (12, .int .u64),
 (21, .int .i32),
 (22, .sl 62 264),
 (23, .fn),
 (24, .fn),
 (25, .sl 71 264),
 (26, .fn),
 (27, .fn),
 (28, .fn),
 (29, .sl 5 1),
 (30, .st 2 [zs, zi .i64] [⟨0, 1, false, 9⟩, ⟨1, 1, false, 3⟩]),
 (31, .st 2 [zs, zi .i64] [⟨0, 1, false, 9⟩, ⟨1, 1, false, 3⟩]),
 (32, .fn),
 (34, .fn),
 (36, .fn),
 (37, .fn),
 (38, .fn),
 (40, .fn),
 (42, .fn),
 (43, .fn),
 (44, .fn),
 (46, .fn),
 (47, .fn),
 (48, .fn),
 (49, .fn),
 (50, .st 6 [zi .i64, zi .i64, zi .i64, zi .i64, zi .i64, zb] [⟨0, 1, false, 3⟩, ⟨1, 1, false, 3⟩, ⟨2, 1, false, 3⟩, ⟨3, 1, false, 3⟩, ⟨4, 1, false, 3⟩, ⟨5, 1, false, 4⟩]),
 (51, .st 6 [zi .i64, zi .i64, zi .i64, zi .i64, zi .i64, zb] [⟨0, 1, false, 3⟩, ⟨1, 1, false, 3⟩, ⟨2, 1, false, 3⟩, ⟨3, 1, false, 3⟩, ⟨4, 1, false, 3⟩, ⟨5, 1, false, 4⟩]),
 (52, .st 2 [zi .i64, zi .i64] [⟨0, 1, false, 3⟩, ⟨1, 1, false, 3⟩]),
 (53, .st 2 [zi .i64, zi .i64] [⟨0, 1, false, 3⟩, ⟨1, 1, false, 3⟩]),
 (54, .st 3 [zi .i64, zi .i64, zb] [⟨0, 1, false, 3⟩, ⟨1, 1, false, 3⟩, ⟨2, 1, false, 4⟩]),
 (55, .st 3 [zi .i64, zi .i64, zb] [⟨0, 1, false, 3⟩, ⟨1, 1, false, 3⟩, ⟨2, 1, false, 4⟩]),
 (56, .st 2 [zs, zi .i64] [⟨0, 1, false, 9⟩, ⟨1, 1, false, 3⟩]),
 (57, .st 13 [zi .i64, zi .i64, zi .i64, zi .i64, zi .i64, zb, zi .i64, zi .i64, zi .i64, zi .i64, zb, zs, zi .i64] [⟨0, 6, true, 51⟩, ⟨6, 2, true, 53⟩, ⟨8, 3, true, 55⟩, ⟨11, 2, true, 56⟩]),
 (58, .st 13 [zi .i64, zi .i64, zi .i64, zi .i64, zi .i64, zb, zi .i64, zi .i64, zi .i64, zi .i64, zb, zs, zi .i64] [⟨0, 6, true, 51⟩, ⟨6, 2, true, 53⟩, ⟨8, 3, true, 55⟩, ⟨11, 2, true, 56⟩]),
 (59, .st 27 [zi .i64, zi .i64, zi .i64, zi .i64, zi .i64, zb, zi .i64, zi .i64, zi .i64, zi .i64, zb, zs, zi .i64, zb, zi .i64, zi .i64, zi .i64, zi .i64, zi .i64, zb, zi .i64, zi .i64, zi .i64, zi .i64, zb, zs, zi .i64] [⟨0, 13, true, 58⟩, ⟨13, 1, false, 4⟩, ⟨14, 13, true, 58⟩]),
 (60, .st 27 [zi .i64, zi .i64, zi .i64, zi .i64, zi .i64, zb, zi .i64, zi .i64, zi .i64, zi .i64, zb, zs, zi .i64, zb, zi .i64, zi .i64, zi .i64, zi .i64, zi .i64, zb, zi .i64, zi .i64, zi .i64, zi .i64, zb, zs, zi .i64] [⟨0, 13, true, 58⟩, ⟨13, 1, false, 4⟩, ⟨14, 13, true, 58⟩]),
 (61, .st 30 [zs, zi .i64, zi .i64, zi .i64, zi .i64, zi .i64, zb, zi .i64, zi .i64, zi .i64, zi .i64, zb, zs, zi .i64, zb, zi .i64, zi .i64, zi .i64, zi .i64, zi .i64, zb, zi .i64, zi .i64, zi .i64, zi .i64, zb, zs, zi .i64, zi .i64, zi .i64] [⟨0, 1, false, 9⟩, ⟨1, 27, true, 60⟩, ⟨28, 1, false, 3⟩, ⟨29, 1, false, 3⟩]),
 (62, .st 30 [zs, zi .i64, zi .i64, zi .i64, zi .i64, zi .i64, zb, zi .i64, zi .i64, zi .i64, zi .i64, zb, zs, zi .i64, zb, zi .i64, zi .i64, zi .i64, zi .i64, zi .i64, zb, zi .i64, zi .i64, zi .i64, zi .i64, zb, zs, zi .i64, zi .i64, zi .i64] [⟨0, 1, false, 9⟩, ⟨1, 27, true, 60⟩, ⟨28, 1, false, 3⟩, ⟨29, 1, false, 3⟩]),
 (63, .st 6 [zi .i64, zi .i64, zi .i64, zi .i64, zi .i64, zb] [⟨0, 1, false, 3⟩, ⟨1, 1, false, 3⟩, ⟨2, 1, false, 3⟩, ⟨3, 1, false, 3⟩, ⟨4, 1, false, 3⟩, ⟨5, 1, false, 4⟩]),
 (64, .st 2 [zi .i64, zi .i64] [⟨0, 1, false, 3⟩, ⟨1, 1, false, 3⟩]),
 (65, .st 3 [zi .i64, zi .i64, zb] [⟨0, 1, false, 3⟩, ⟨1, 1, false, 3⟩, ⟨2, 1, false, 4⟩]),
 (66, .st 13 [zi .i64, zi .i64, zi .i64, zi .i64, zi .i64, zb, zi .i64, zi .i64, zi .i64, zi .i64, zb, zs, zi .i64] [⟨0, 6, true, 63⟩, ⟨6, 2, true, 64⟩, ⟨8, 3, true, 65⟩, ⟨11, 2, true, 31⟩]),
 (67, .st 13 [zi .i64, zi .i64, zi .i64, zi .i64, zi .i64, zb, zi .i64, zi .i64, zi .i64, zi .i64, zb, zs, zi .i64] [⟨0, 6, true, 63⟩, ⟨6, 2, true, 64⟩, ⟨8, 3, true, 65⟩, ⟨11, 2, true, 31⟩]),
 (68, .st 27 [zi .i64, zi .i64, zi .i64, zi .i64, zi .i64, zb, zi .i64, zi .i64, zi .i64, zi .i64, zb, zs, zi .i64, zb, zi .i64, zi .i64, zi .i64, zi .i64, zi .i64, zb, zi .i64, zi .i64, zi .i64, zi .i64, zb, zs, zi .i64] [⟨0, 13, true, 67⟩, ⟨13, 1, false, 4⟩, ⟨14, 13, true, 67⟩]),
 (69, .st 27 [zi .i64, zi .i64, zi .i64, zi .i64, zi .i64, zb, zi .i64, zi .i64, zi .i64, zi .i64, zb, zs, zi .i64, zb, zi .i64, zi .i64, zi .i64, zi .i64, zi .i64, zb, zi .i64, zi .i64, zi .i64, zi .i64, zb, zs, zi .i64] [⟨0, 13, true, 67⟩, ⟨13, 1, false, 4⟩, ⟨14, 13, true, 67⟩]),
 (70, .st 30 [zs, zi .i64, zi .i64, zi .i64, zi .i64, zi .i64, zb, zi .i64, zi .i64, zi .i64, zi .i64, zb, zs, zi .i64, zb, zi .i64, zi .i64, zi .i64, zi .i64, zi .i64, zb, zi .i64, zi .i64, zi .i64, zi .i64, zb, zs, zi .i64, zi .i64, zi .i64] [⟨0, 1, false, 9⟩, ⟨1, 27, true, 69⟩, ⟨28, 1, false, 3⟩, ⟨29, 1, false, 3⟩]),
 (71, .st 30 [zs, zi .i64, zi .i64, zi .i64, zi .i64, zi .i64, zb, zi .i64, zi .i64, zi .i64, zi .i64, zb, zs, zi .i64, zb, zi .i64, zi .i64, zi .i64, zi .i64, zi .i64, zb, zi .i64, zi .i64, zi .i64, zi .i64, zb, zs, zi .i64, zi .i64, zi .i64] [⟨0, 1, false, 9⟩, ⟨1, 27, true, 69⟩, ⟨28, 1, false, 3⟩, ⟨29, 1, false, 3⟩]),
 (72, .fn),
 (73, .fn),
 (74, .fn),
 (75, .fn),
 (76, .fn),
 (77, .fn),
 (78, .fn),
 (79, .fn),
 (81, .int .u64),
 (84, .fn),
 (85, .fn),
 (86, .fn),
 (87, .sl 9 16),
 (89, .fn),
 (90, .fn),
 (91, .fn),
 (92, .fn),
 (94, .fn),
 (95, .fn),
 (96, .fn),
 (97, .fn),
 (98, .fn),
 (99, .fn),
 (100, .fn),
 (101, .fn),
 (102, .fn),
 (103, .fn),
 (104, .fn),
 (105, .fn),
 (106, .sl 3 8),
 (107, .fn),
 (111, .fn),
 (112, .fn),
 (113, .fn),
 (114, .fn),
 (118, .fn),
 (119, .fn),
 (122, .fn),
 (123, .fn),
 (124, .fn),
 (125, .fn),
 (128, .fn),
 (129, .fn),
 (130, .fn),
 (131, .fn),
 (132, .fn),
 (133, .fn),
 (134, .fn),
 (136, .int .u64),
 (138, .fn),
 (142, .fn),
 (143, .fn),
 (144, .fn),
 (145, .fn),
 (146, .fn),
 (147, .ar 4 4 1 [zb, zb, zb, zb]),
 (148, .fn),
 (149, .fn),
 (150, .fn),
 (152, .fn),
 (153, .fn),
 (154, .fn),
 (155, .ar 10 9 1 [zs, zs, zs, zs, zs, zs, zs, zs, zs, zs]),
 (156, .ar 3 9 1 [zs, zs, zs]),
 (157, .fn),
 (159, .fn),
 (160, .fn),
 (163, .fn),
 (164, .fn),
 (165, .fn),
 (166, .sl 63 48),
 (168, .fn),
 (169, .fn),
 (170, .fn),
 (171, .fn),
 (172, .fn),
 (173, .int .u32),
 (180, .int .i64),
 (182, .fn),
 (184, .fn),
 (185, .fn),
 (186, .fn),
 (196, .fn),
 (198, .fn),
 (199, .fn),
 (200, .ar 24 5 1 [zi .u8, zi .u8, zi .u8, zi .u8, zi .u8, zi .u8, zi .u8, zi .u8, zi .u8, zi .u8, zi .u8, zi .u8, zi .u8, zi .u8, zi .u8, zi .u8, zi .u8, zi .u8, zi .u8, zi .u8, zi .u8, zi .u8, zi .u8, zi .u8]),
 (201, .fn),
 (202, .fn),
 (204, .fn),
 (205, .fn),
 (207, .fn),
 (210, .fn),
 (211, .sl 4 1),
 (212, .fn),
 (213, .fn),
 (229, .fn),
 (230, .fn),
 (231, .ar 20 81 1 [zi .u64, zi .u64, zi .u64, zi .u64, zi .u64, zi .u64, zi .u64, zi .u64, zi .u64, zi .u64, zi .u64, zi .u64, zi .u64, zi .u64, zi .u64, zi .u64, zi .u64, zi .u64, zi .u64, zi .u64]),
 (232, .ar 65 5 1 [zi .u8, zi .u8, zi .u8, zi .u8, zi .u8, zi .u8, zi .u8, zi .u8, zi .u8, zi .u8, zi .u8, zi .u8, zi .u8, zi .u8, zi .u8, zi .u8, zi .u8, zi .u8, zi .u8, zi .u8, zi .u8, zi .u8, zi .u8, zi .u8, zi .u8, zi .u8, zi .u8, zi .u8, zi .u8, zi .u8, zi .u8, zi .u8, zi .u8, zi .u8, zi .u8, zi .u8, zi .u8, zi .u8, zi .u8, zi .u8, zi .u8, zi .u8, zi .u8, zi .u8, zi .u8, zi .u8, zi .u8, zi .u8, zi .u8, zi .u8, zi .u8, zi .u8, zi .u8, zi .u8, zi .u8, zi .u8, zi .u8, zi .u8, zi .u8, zi .u8, zi .u8, zi .u8, zi .u8, zi .u8, zi .u8]),
 (233, .fn),
 (234, .fn),
 (242, .fn),
 (244, .fn),
 (245, .fn),
 (247, .fn),
 (249, .fn),
 (251, .fn),
 (260, .ar 32 5 1 [zi .u8, zi .u8, zi .u8, zi .u8, zi .u8, zi .u8, zi .u8, zi .u8, zi .u8, zi .u8, zi .u8, zi .u8, zi .u8, zi .u8, zi .u8, zi .u8, zi .u8, zi .u8, zi .u8, zi .u8, zi .u8, zi .u8, zi .u8, zi .u8, zi .u8, zi .u8, zi .u8, zi .u8, zi .u8, zi .u8, zi .u8, zi .u8]),
 (263, .fn),
 (264, .fn),
 (275, .fn),
 (277, .fn),
 (279, .fn),
 (281, .fn),
 (286, .fn),
 (287, .fn),
 (294, .int .u8),
 (295, .fn)]
def gK : List (Nat × Refl.KD) := [(3, ⟨Int, rkInt .i64⟩), (4, ⟨Bool, rkBool⟩), (5, ⟨Int, rkInt .u8⟩), (9, ⟨ByteArray, rkStr⟩), (62, ⟨S62, rk62⟩), (63, ⟨S63, rk63⟩), (65, ⟨S65, rk65⟩), (71, ⟨S71, rk71⟩), (81, ⟨Int, rkInt .u64⟩)]
def G : Refl.Ctx := ⟨Refl.kdGet ⟨Int, rkInt .i64⟩ gK, Refl.tdGet gT, 5, rfl⟩
theorem gT_ok : Refl.TDsOK Tryz.prog G gT := ⟨Refl.tdOk_fn Tryz.underlying1 rfl (by kernel_rfl),
 Refl.tdOk_int Tryz.underlying2 (by kernel_rfl),
 Refl.tdOk_int Tryz.underlying3 (by kernel_rfl),
 Refl.tdOk_bool Tryz.underlying4 (by kernel_rfl),
 Refl.tdOk_int Tryz.underlying5 (by kernel_rfl),
 Refl.tdOk_str Tryz.underlying9 (by kernel_rfl),
 Refl.tdOk_int Tryz.underlying12 (by kernel_rfl),
 Refl.tdOk_int Tryz.underlying21 (by kernel_rfl),
 Refl.tdOk_sl (z := .agg #[.string ⟨#[]⟩, .int .i64 0, .int .i64 0, .int .i64 0, .int .i64 0, .int .i64 0, .bool false, .int .i64 0, .int .i64 0, .int .i64 0, .int .i64 0, .bool false, .string ⟨#[]⟩, .int .i64 0, .bool false, .int .i64 0, .int .i64 0, .int .i64 0, .int .i64 0, .int .i64 0, .bool false, .int .i64 0, .int .i64 0, .int .i64 0, .int .i64 0, .bool false, .string ⟨#[]⟩, .int .i64 0, .int .i64 0, .int .i64 0]) Tryz.underlying22 (by kernel_rfl) (by kernel_rfl) (by kernel_rfl) rfl,
 Refl.tdOk_fn Tryz.underlying23 rfl (by kernel_rfl),
 Refl.tdOk_fn Tryz.underlying24 rfl (by kernel_rfl),
 Refl.tdOk_sl (z := .agg #[.string ⟨#[]⟩, .int .i64 0, .int .i64 0, .int .i64 0, .int .i64 0, .int .i64 0, .bool false, .int .i64 0, .int .i64 0, .int .i64 0, .int .i64 0, .bool false, .string ⟨#[]⟩, .int .i64 0, .bool false, .int .i64 0, .int .i64 0, .int .i64 0, .int .i64 0, .int .i64 0, .bool false, .int .i64 0, .int .i64 0, .int .i64 0, .int .i64 0, .bool false, .string ⟨#[]⟩, .int .i64 0, .int .i64 0, .int .i64 0]) Tryz.underlying25 (by kernel_rfl) (by kernel_rfl) (by kernel_rfl) rfl,
 Refl.tdOk_fn Tryz.underlying26 rfl (by kernel_rfl),
 Refl.tdOk_fn Tryz.underlying27 rfl (by kernel_rfl),
 Refl.tdOk_fn Tryz.underlying28 rfl (by kernel_rfl),
 Refl.tdOk_sl (z := .int .u8 0) Tryz.underlying29 (by kernel_rfl) (by kernel_rfl) (by kernel_rfl) rfl,
 Refl.tdOk_st Tryz.underlying30 (by kernel_rfl) rfl (by kernel_rfl) (by kernel_rfl) (by kernel_rfl),
 Refl.tdOk_st Tryz.underlying31 (by kernel_rfl) rfl (by kernel_rfl) (by kernel_rfl) (by kernel_rfl),
 Refl.tdOk_fn Tryz.underlying32 rfl (by kernel_rfl),
 Refl.tdOk_fn Tryz.underlying34 rfl (by kernel_rfl),
 Refl.tdOk_fn Tryz.underlying36 rfl (by kernel_rfl),
 Refl.tdOk_fn Tryz.underlying37 rfl (by kernel_rfl),
 Refl.tdOk_fn Tryz.underlying38 rfl (by kernel_rfl),
 Refl.tdOk_fn Tryz.underlying40 rfl (by kernel_rfl),
 Refl.tdOk_fn Tryz.underlying42 rfl (by kernel_rfl),
 Refl.tdOk_fn Tryz.underlying43 rfl (by kernel_rfl),
 Refl.tdOk_fn Tryz.underlying44 rfl (by kernel_rfl),
 Refl.tdOk_fn Tryz.underlying46 rfl (by kernel_rfl),
 Refl.tdOk_fn Tryz.underlying47 rfl (by kernel_rfl),
 Refl.tdOk_fn Tryz.underlying48 rfl (by kernel_rfl),
 Refl.tdOk_fn Tryz.underlying49 rfl (by kernel_rfl),
 Refl.tdOk_st Tryz.underlying50 (by kernel_rfl) rfl (by kernel_rfl) (by kernel_rfl) (by kernel_rfl),
 Refl.tdOk_st Tryz.underlying51 (by kernel_rfl) rfl (by kernel_rfl) (by kernel_rfl) (by kernel_rfl),
 Refl.tdOk_st Tryz.underlying52 (by kernel_rfl) rfl (by kernel_rfl) (by kernel_rfl) (by kernel_rfl),
 Refl.tdOk_st Tryz.underlying53 (by kernel_rfl) rfl (by kernel_rfl) (by kernel_rfl) (by kernel_rfl),
 Refl.tdOk_st Tryz.underlying54 (by kernel_rfl) rfl (by kernel_rfl) (by kernel_rfl) (by kernel_rfl),
 Refl.tdOk_st Tryz.underlying55 (by kernel_rfl) rfl (by kernel_rfl) (by kernel_rfl) (by kernel_rfl),
 Refl.tdOk_st Tryz.underlying56 (by kernel_rfl) rfl (by kernel_rfl) (by kernel_rfl) (by kernel_rfl),
 Refl.tdOk_st Tryz.underlying57 (by kernel_rfl) rfl (by kernel_rfl) (by kernel_rfl) (by kernel_rfl),
 Refl.tdOk_st Tryz.underlying58 (by kernel_rfl) rfl (by kernel_rfl) (by kernel_rfl) (by kernel_rfl),
 Refl.tdOk_st Tryz.underlying59 (by kernel_rfl) rfl (by kernel_rfl) (by kernel_rfl) (by kernel_rfl),
 Refl.tdOk_st Tryz.underlying60 (by kernel_rfl) rfl (by kernel_rfl) (by kernel_rfl) (by kernel_rfl),
 Refl.tdOk_st Tryz.underlying61 (by kernel_rfl) rfl (by kernel_rfl) (by kernel_rfl) (by kernel_rfl),
 Refl.tdOk_st Tryz.underlying62 (by kernel_rfl) rfl (by kernel_rfl) (by kernel_rfl) (by kernel_rfl),
 Refl.tdOk_st Tryz.underlying63 (by kernel_rfl) rfl (by kernel_rfl) (by kernel_rfl) (by kernel_rfl),
 Refl.tdOk_st Tryz.underlying64 (by kernel_rfl) rfl (by kernel_rfl) (by kernel_rfl) (by kernel_rfl),
 Refl.tdOk_st Tryz.underlying65 (by kernel_rfl) rfl (by kernel_rfl) (by kernel_rfl) (by kernel_rfl),
 Refl.tdOk_st Tryz.underlying66 (by kernel_rfl) rfl (by kernel_rfl) (by kernel_rfl) (by kernel_rfl),
 Refl.tdOk_st Tryz.underlying67 (by kernel_rfl) rfl (by kernel_rfl) (by kernel_rfl) (by kernel_rfl),
 Refl.tdOk_st Tryz.underlying68 (by kernel_rfl) rfl (by kernel_rfl) (by kernel_rfl) (by kernel_rfl),
 Refl.tdOk_st Tryz.underlying69 (by kernel_rfl) rfl (by kernel_rfl) (by kernel_rfl) (by kernel_rfl),
 Refl.tdOk_st Tryz.underlying70 (by kernel_rfl) rfl (by kernel_rfl) (by kernel_rfl) (by kernel_rfl),
 Refl.tdOk_st Tryz.underlying71 (by kernel_rfl) rfl (by kernel_rfl) (by kernel_rfl) (by kernel_rfl),
 Refl.tdOk_fn Tryz.underlying72 rfl (by kernel_rfl),
 Refl.tdOk_fn Tryz.underlying73 rfl (by kernel_rfl),
 Refl.tdOk_fn Tryz.underlying74 rfl (by kernel_rfl),
 Refl.tdOk_fn Tryz.underlying75 rfl (by kernel_rfl),
 Refl.tdOk_fn Tryz.underlying76 rfl (by kernel_rfl),
 Refl.tdOk_fn Tryz.underlying77 rfl (by kernel_rfl),
 Refl.tdOk_fn Tryz.underlying78 rfl (by kernel_rfl),
 Refl.tdOk_fn Tryz.underlying79 rfl (by kernel_rfl),
 Refl.tdOk_int Tryz.underlying81 (by kernel_rfl),
 Refl.tdOk_fn Tryz.underlying84 rfl (by kernel_rfl),
 Refl.tdOk_fn Tryz.underlying85 rfl (by kernel_rfl),
 Refl.tdOk_fn Tryz.underlying86 rfl (by kernel_rfl),
 Refl.tdOk_sl (z := .string ⟨#[]⟩) Tryz.underlying87 (by kernel_rfl) (by kernel_rfl) (by kernel_rfl) rfl,
 Refl.tdOk_fn Tryz.underlying89 rfl (by kernel_rfl),
 Refl.tdOk_fn Tryz.underlying90 rfl (by kernel_rfl),
 Refl.tdOk_fn Tryz.underlying91 rfl (by kernel_rfl),
 Refl.tdOk_fn Tryz.underlying92 rfl (by kernel_rfl),
 Refl.tdOk_fn Tryz.underlying94 rfl (by kernel_rfl),
 Refl.tdOk_fn Tryz.underlying95 rfl (by kernel_rfl),
 Refl.tdOk_fn Tryz.underlying96 rfl (by kernel_rfl),
 Refl.tdOk_fn Tryz.underlying97 rfl (by kernel_rfl),
 Refl.tdOk_fn Tryz.underlying98 rfl (by kernel_rfl),
 Refl.tdOk_fn Tryz.underlying99 rfl (by kernel_rfl),
 Refl.tdOk_fn Tryz.underlying100 rfl (by kernel_rfl),
 Refl.tdOk_fn Tryz.underlying101 rfl (by kernel_rfl),
 Refl.tdOk_fn Tryz.underlying102 rfl (by kernel_rfl),
 Refl.tdOk_fn Tryz.underlying103 rfl (by kernel_rfl),
 Refl.tdOk_fn Tryz.underlying104 rfl (by kernel_rfl),
 Refl.tdOk_fn Tryz.underlying105 rfl (by kernel_rfl),
 Refl.tdOk_sl (z := .int .i64 0) Tryz.underlying106 (by kernel_rfl) (by kernel_rfl) (by kernel_rfl) rfl,
 Refl.tdOk_fn Tryz.underlying107 rfl (by kernel_rfl),
 Refl.tdOk_fn Tryz.underlying111 rfl (by kernel_rfl),
 Refl.tdOk_fn Tryz.underlying112 rfl (by kernel_rfl),
 Refl.tdOk_fn Tryz.underlying113 rfl (by kernel_rfl),
 Refl.tdOk_fn Tryz.underlying114 rfl (by kernel_rfl),
 Refl.tdOk_fn Tryz.underlying118 rfl (by kernel_rfl),
 Refl.tdOk_fn Tryz.underlying119 rfl (by kernel_rfl),
 Refl.tdOk_fn Tryz.underlying122 rfl (by kernel_rfl),
 Refl.tdOk_fn Tryz.underlying123 rfl (by kernel_rfl),
 Refl.tdOk_fn Tryz.underlying124 rfl (by kernel_rfl),
 Refl.tdOk_fn Tryz.underlying125 rfl (by kernel_rfl),
 Refl.tdOk_fn Tryz.underlying128 rfl (by kernel_rfl),
 Refl.tdOk_fn Tryz.underlying129 rfl (by kernel_rfl),
 Refl.tdOk_fn Tryz.underlying130 rfl (by kernel_rfl),
 Refl.tdOk_fn Tryz.underlying131 rfl (by kernel_rfl),
 Refl.tdOk_fn Tryz.underlying132 rfl (by kernel_rfl),
 Refl.tdOk_fn Tryz.underlying133 rfl (by kernel_rfl),
 Refl.tdOk_fn Tryz.underlying134 rfl (by kernel_rfl),
 Refl.tdOk_int Tryz.underlying136 (by kernel_rfl),
 Refl.tdOk_fn Tryz.underlying138 rfl (by kernel_rfl),
 Refl.tdOk_fn Tryz.underlying142 rfl (by kernel_rfl),
 Refl.tdOk_fn Tryz.underlying143 rfl (by kernel_rfl),
 Refl.tdOk_fn Tryz.underlying144 rfl (by kernel_rfl),
 Refl.tdOk_fn Tryz.underlying145 rfl (by kernel_rfl),
 Refl.tdOk_fn Tryz.underlying146 rfl (by kernel_rfl),
 Refl.tdOk_ar Tryz.underlying147 (by kernel_rfl) rfl (by kernel_rfl) rfl,
 Refl.tdOk_fn Tryz.underlying148 rfl (by kernel_rfl),
 Refl.tdOk_fn Tryz.underlying149 rfl (by kernel_rfl),
 Refl.tdOk_fn Tryz.underlying150 rfl (by kernel_rfl),
 Refl.tdOk_fn Tryz.underlying152 rfl (by kernel_rfl),
 Refl.tdOk_fn Tryz.underlying153 rfl (by kernel_rfl),
 Refl.tdOk_fn Tryz.underlying154 rfl (by kernel_rfl),
 Refl.tdOk_ar Tryz.underlying155 (by kernel_rfl) rfl (by kernel_rfl) rfl,
 Refl.tdOk_ar Tryz.underlying156 (by kernel_rfl) rfl (by kernel_rfl) rfl,
 Refl.tdOk_fn Tryz.underlying157 rfl (by kernel_rfl),
 Refl.tdOk_fn Tryz.underlying159 rfl (by kernel_rfl),
 Refl.tdOk_fn Tryz.underlying160 rfl (by kernel_rfl),
 Refl.tdOk_fn Tryz.underlying163 rfl (by kernel_rfl),
 Refl.tdOk_fn Tryz.underlying164 rfl (by kernel_rfl),
 Refl.tdOk_fn Tryz.underlying165 rfl (by kernel_rfl),
 Refl.tdOk_sl (z := .agg #[.int .i64 0, .int .i64 0, .int .i64 0, .int .i64 0, .int .i64 0, .bool false]) Tryz.underlying166 (by kernel_rfl) (by kernel_rfl) (by kernel_rfl) rfl,
 Refl.tdOk_fn Tryz.underlying168 rfl (by kernel_rfl),
 Refl.tdOk_fn Tryz.underlying169 rfl (by kernel_rfl),
 Refl.tdOk_fn Tryz.underlying170 rfl (by kernel_rfl),
 Refl.tdOk_fn Tryz.underlying171 rfl (by kernel_rfl),
 Refl.tdOk_fn Tryz.underlying172 rfl (by kernel_rfl),
 Refl.tdOk_int Tryz.underlying173 (by kernel_rfl),
 Refl.tdOk_int Tryz.underlying180 (by kernel_rfl),
 Refl.tdOk_fn Tryz.underlying182 rfl (by kernel_rfl),
 Refl.tdOk_fn Tryz.underlying184 rfl (by kernel_rfl),
 Refl.tdOk_fn Tryz.underlying185 rfl (by kernel_rfl),
 Refl.tdOk_fn Tryz.underlying186 rfl (by kernel_rfl),
 Refl.tdOk_fn Tryz.underlying196 rfl (by kernel_rfl),
 Refl.tdOk_fn Tryz.underlying198 rfl (by kernel_rfl),
 Refl.tdOk_fn Tryz.underlying199 rfl (by kernel_rfl),
 Refl.tdOk_ar Tryz.underlying200 (by kernel_rfl) rfl (by kernel_rfl) rfl,
 Refl.tdOk_fn Tryz.underlying201 rfl (by kernel_rfl),
 Refl.tdOk_fn Tryz.underlying202 rfl (by kernel_rfl),
 Refl.tdOk_fn Tryz.underlying204 rfl (by kernel_rfl),
 Refl.tdOk_fn Tryz.underlying205 rfl (by kernel_rfl),
 Refl.tdOk_fn Tryz.underlying207 rfl (by kernel_rfl),
 Refl.tdOk_fn Tryz.underlying210 rfl (by kernel_rfl),
 Refl.tdOk_sl (z := .bool false) Tryz.underlying211 (by kernel_rfl) (by kernel_rfl) (by kernel_rfl) rfl,
 Refl.tdOk_fn Tryz.underlying212 rfl (by kernel_rfl),
 Refl.tdOk_fn Tryz.underlying213 rfl (by kernel_rfl),
 Refl.tdOk_fn Tryz.underlying229 rfl (by kernel_rfl),
 Refl.tdOk_fn Tryz.underlying230 rfl (by kernel_rfl),
 Refl.tdOk_ar Tryz.underlying231 (by kernel_rfl) rfl (by kernel_rfl) rfl,
 Refl.tdOk_ar Tryz.underlying232 (by kernel_rfl) rfl (by kernel_rfl) rfl,
 Refl.tdOk_fn Tryz.underlying233 rfl (by kernel_rfl),
 Refl.tdOk_fn Tryz.underlying234 rfl (by kernel_rfl),
 Refl.tdOk_fn Tryz.underlying242 rfl (by kernel_rfl),
 Refl.tdOk_fn Tryz.underlying244 rfl (by kernel_rfl),
 Refl.tdOk_fn Tryz.underlying245 rfl (by kernel_rfl),
 Refl.tdOk_fn Tryz.underlying247 rfl (by kernel_rfl),
 Refl.tdOk_fn Tryz.underlying249 rfl (by kernel_rfl),
 Refl.tdOk_fn Tryz.underlying251 rfl (by kernel_rfl),
 Refl.tdOk_ar Tryz.underlying260 (by kernel_rfl) rfl (by kernel_rfl) rfl,
 Refl.tdOk_fn Tryz.underlying263 rfl (by kernel_rfl),
 Refl.tdOk_fn Tryz.underlying264 rfl (by kernel_rfl),
 Refl.tdOk_fn Tryz.underlying275 rfl (by kernel_rfl),
 Refl.tdOk_fn Tryz.underlying277 rfl (by kernel_rfl),
 Refl.tdOk_fn Tryz.underlying279 rfl (by kernel_rfl),
 Refl.tdOk_fn Tryz.underlying281 rfl (by kernel_rfl),
 Refl.tdOk_fn Tryz.underlying286 rfl (by kernel_rfl),
 Refl.tdOk_fn Tryz.underlying287 rfl (by kernel_rfl),
 Refl.tdOk_int Tryz.underlying294 (by kernel_rfl),
 Refl.tdOk_fn Tryz.underlying295 rfl (by kernel_rfl), trivial⟩
theorem GC : Refl.CtxOK Tryz.prog G := ⟨Refl.tds_ok gT_ok, by kernel_rfl⟩

end Go.Proofs.YtaaldnaefdodkaaGreatDoor.PA
