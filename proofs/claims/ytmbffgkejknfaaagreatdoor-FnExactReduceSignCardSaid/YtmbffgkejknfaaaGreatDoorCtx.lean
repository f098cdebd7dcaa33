import Derived.Test.YtmbffgkejknfaaaGreatDoorPAx0
import Derived.KernelRfl
import Derived.Test.YtmbffgkejknfaaaGreatDoorRefl
set_option autoImplicit false
set_option linter.unusedVariables false
set_option linter.unusedSimpArgs false
namespace Go.Proofs.YtmbffgkejknfaaaGreatDoor.PA
open Go.RowKit
/-- Rows of one kind of number. -/
def rkInt (k : IntKind) : Refl.RK Int where
 sz := 1
 enc x := [.int k x]
 dec | [.int k' x] => if k' = k then some x else none
     | _ => none
 d := 0
 pos := by decide
 len _ := rfl
 one := by intro x v h; simp at h; subst h; rfl
 de := by
  intro c x h
  split at h
  · split at h
    · cases h; subst_vars; rfl
    · cases h
  · cases h
def rkStr : Refl.RK ByteArray where
 sz := 1
 enc x := [.string x]
 dec | [.string x] => some x
     | _ => none
 d := ⟨#[]⟩
 pos := by decide
 len _ := rfl
 one := by intro x v h; simp at h; subst h; rfl
 de := by
  intro c x h
  split at h
  · cases h; rfl
  · cases h
def rkBool : Refl.RK Bool where
 sz := 1
 enc x := [.bool x]
 dec | [.bool x] => some x
     | _ => none
 d := false
 pos := by decide
 len _ := rfl
 one := by intro x v h; simp at h; subst h; rfl
 de := by
  intro c x h
  split at h
  · cases h; rfl
  · cases h
abbrev li : Refl.LC := .int .i64
def zi (k : IntKind) : Refl.Zc := .v (.int k 0)
def zb : Refl.Zc := .v (.bool false)
def zs : Refl.Zc := .v (.string ⟨#[]⟩)
def zk (k : IntKind) : Refl.BC := .k (.int k 0)
def zkb : Refl.BC := .k (.bool false)
def zks : Refl.BC := .k (.string ⟨#[]⟩)
def rk37 : Refl.RK S37 where
 sz := 6
 enc x := [.int .i64 x.f0, .int .i64 x.f1, .int .i64 x.f2, .int .i64 x.f3, .int .i64 x.f4, .bool x.f5]
 dec | [.int .i64 a0, .int .i64 a1, .int .i64 a2, .int .i64 a3, .int .i64 a4, .bool a5] => some ⟨a0, a1, a2, a3, a4, a5⟩
     | _ => none
 d := z37
 pos := by decide
 len _ := rfl
 one := by intro x v h; simp at h; rcases h with rfl | rfl | rfl | rfl | rfl | rfl <;> rfl
 de := by
  intro c x h
  split at h
  · cases h; rfl
  · cases h
def gL0 : List Refl.LC := [li, li, li, li, li, .bool, li, li, li, li, .bool, .str, li]
def gL1 : List Refl.LC := [li, li, li, li, li, .bool, li, li, li, li, .bool, .str, li, .bool, li, li, li, li, li, .bool, li, li, li, li, .bool, .str, li]
def gL2 : List Refl.BC := [zk .i64, zk .i64, zk .i64, zk .i64, zk .i64, zkb]
def gL3 : List Refl.BC := [.l .str, .l (.int .i64)]
def gL4 : List Refl.BC := [zks, zk .i64]
def gL5 : List Refl.BC := [.l (.int .i64), .l (.int .i64), .l (.int .i64), .l (.int .i64), .l (.int .i64), .l .bool, .l (.int .i64), .l (.int .i64), .l (.int .i64), .l (.int .i64), .l .bool, .l .str, .l (.int .i64)]
def gL6 : List Refl.BC := [.l (.int .i64), .l (.int .i64), .l (.int .i64), .l (.int .i64), .l (.int .i64), .l .bool]
def gT : List (Nat × Refl.TD) := [(2, .int .i64),
 (3, .int .i64),
 (4, .bool),
 (5, .int .u8),
 (9, .str),
 (12, .int .u64),
 (21, .int .i32),
 (22, .st 6 [zi .i64, zi .i64, zi .i64, zi .i64, zi .i64, zb] [⟨0, 1, false, 3⟩, ⟨1, 1, false, 3⟩, ⟨2, 1, false, 3⟩, ⟨3, 1, false, 3⟩, ⟨4, 1, false, 3⟩, ⟨5, 1, false, 4⟩]),
 (23, .st 6 [zi .i64, zi .i64, zi .i64, zi .i64, zi .i64, zb] [⟨0, 1, false, 3⟩, ⟨1, 1, false, 3⟩, ⟨2, 1, false, 3⟩, ⟨3, 1, false, 3⟩, ⟨4, 1, false, 3⟩, ⟨5, 1, false, 4⟩]),
 (24, .st 2 [zi .i64, zi .i64] [⟨0, 1, false, 3⟩, ⟨1, 1, false, 3⟩]),
 (25, .st 2 [zi .i64, zi .i64] [⟨0, 1, false, 3⟩, ⟨1, 1, false, 3⟩]),
 (26, .st 3 [zi .i64, zi .i64, zb] [⟨0, 1, false, 3⟩, ⟨1, 1, false, 3⟩, ⟨2, 1, false, 4⟩]),
 (27, .st 3 [zi .i64, zi .i64, zb] [⟨0, 1, false, 3⟩, ⟨1, 1, false, 3⟩, ⟨2, 1, false, 4⟩]),
 (28, .st 2 [zs, zi .i64] [⟨0, 1, false, 9⟩, ⟨1, 1, false, 3⟩]),
 (29, .st 2 [zs, zi .i64] [⟨0, 1, false, 9⟩, ⟨1, 1, false, 3⟩]),
 (30, .st 13 [zi .i64, zi .i64, zi .i64, zi .i64, zi .i64, zb, zi .i64, zi .i64, zi .i64, zi .i64, zb, zs, zi .i64] [⟨0, 6, true, 23⟩, ⟨6, 2, true, 25⟩, ⟨8, 3, true, 27⟩, ⟨11, 2, true, 29⟩]),
 (31, .st 13 [zi .i64, zi .i64, zi .i64, zi .i64, zi .i64, zb, zi .i64, zi .i64, zi .i64, zi .i64, zb, zs, zi .i64] [⟨0, 6, true, 23⟩, ⟨6, 2, true, 25⟩, ⟨8, 3, true, 27⟩, ⟨11, 2, true, 29⟩]),
 (32, .st 27 [zi .i64, zi .i64, zi .i64, zi .i64, zi .i64, zb, zi .i64, zi .i64, zi .i64, zi .i64, zb, zs, zi .i64, zb, zi .i64, zi .i64, zi .i64, zi .i64, zi .i64, zb, zi .i64, zi .i64, zi .i64, zi .i64, zb, zs, zi .i64] [⟨0, 13, true, 31⟩, ⟨13, 1, false, 4⟩, ⟨14, 13, true, 31⟩]),
 (33, .st 27 [zi .i64, zi .i64, zi .i64, zi .i64, zi .i64, zb, zi .i64, zi .i64, zi .i64, zi .i64, zb, zs, zi .i64, zb, zi .i64, zi .i64, zi .i64, zi .i64, zi .i64, zb, zi .i64, zi .i64, zi .i64, zi .i64, zb, zs, zi .i64] [⟨0, 13, true, 31⟩, ⟨13, 1, false, 4⟩, ⟨14, 13, true, 31⟩]),
 (37, .st 6 [zi .i64, zi .i64, zi .i64, zi .i64, zi .i64, zb] [⟨0, 1, false, 3⟩, ⟨1, 1, false, 3⟩, ⟨2, 1, false, 3⟩, ⟨3, 1, false, 3⟩, ⟨4, 1, false, 3⟩, ⟨5, 1, false, 4⟩]),
 (38, .st 2 [zi .i64, zi .i64] [⟨0, 1, false, 3⟩, ⟨1, 1, false, 3⟩]),
 (39, .st 3 [zi .i64, zi .i64, zb] [⟨0, 1, false, 3⟩, ⟨1, 1, false, 3⟩, ⟨2, 1, false, 4⟩]),
 (40, .st 2 [zs, zi .i64] [⟨0, 1, false, 9⟩, ⟨1, 1, false, 3⟩]),
 (41, .st 13 [zi .i64, zi .i64, zi .i64, zi .i64, zi .i64, zb, zi .i64, zi .i64, zi .i64, zi .i64, zb, zs, zi .i64] [⟨0, 6, true, 37⟩, ⟨6, 2, true, 38⟩, ⟨8, 3, true, 39⟩, ⟨11, 2, true, 40⟩]),
 (42, .st 13 [zi .i64, zi .i64, zi .i64, zi .i64, zi .i64, zb, zi .i64, zi .i64, zi .i64, zi .i64, zb, zs, zi .i64] [⟨0, 6, true, 37⟩, ⟨6, 2, true, 38⟩, ⟨8, 3, true, 39⟩, ⟨11, 2, true, 40⟩]),
 (43, .st 27 [zi .i64, zi .i64, zi .i64, zi .i64, zi .i64, zb, zi .i64, zi .i64, zi .i64, zi .i64, zb, zs, zi .i64, zb, zi .i64, zi .i64, zi .i64, zi .i64, zi .i64, zb, zi .i64, zi .i64, zi .i64, zi .i64, zb, zs, zi .i64] [⟨0, 13, true, 42⟩, ⟨13, 1, false, 4⟩, ⟨14, 13, true, 42⟩]),
 (44, .st 27 [zi .i64, zi .i64, zi .i64, zi .i64, zi .i64, zb, zi .i64, zi .i64, zi .i64, zi .i64, zb, zs, zi .i64, zb, zi .i64, zi .i64, zi .i64, zi .i64, zi .i64, zb, zi .i64, zi .i64, zi .i64, zi .i64, zb, zs, zi .i64] [⟨0, 13, true, 42⟩, ⟨13, 1, false, 4⟩, ⟨14, 13, true, 42⟩]),
 (49, .st 2 [zi .i64, zi .i64] [⟨0, 1, false, 3⟩, ⟨1, 1, false, 3⟩]),
 (50, .st 2 [zi .i64, zi .i64] [⟨0, 1, false, 3⟩, ⟨1, 1, false, 3⟩]),
 (53, .st 2 [zi .i64, zi .i64] [⟨0, 1, false, 3⟩, ⟨1, 1, false, 3⟩]),
 (63, .sl 4 1),
 (81, .sl 3 8),
 (90, .ar 5 3 1 [zi .i64, zi .i64, zi .i64, zi .i64, zi .i64]),
 (106, .sl 37 48),
 (124, .sl 9 16),
 (133, .int .u64),
 (137, .sl 5 1),
 (147, .ar 10 9 1 [zs, zs, zs, zs, zs, zs, zs, zs, zs, zs]),
 (148, .ar 3 9 1 [zs, zs, zs]),
 (156, .int .u32),
 (172, .int .u64),
 (198, .ar 24 5 1 [zi .u8, zi .u8, zi .u8, zi .u8, zi .u8, zi .u8, zi .u8, zi .u8, zi .u8, zi .u8, zi .u8, zi .u8, zi .u8, zi .u8, zi .u8, zi .u8, zi .u8, zi .u8, zi .u8, zi .u8, zi .u8, zi .u8, zi .u8, zi .u8]),
 (218, .ar 20 172 1 [zi .u64, zi .u64, zi .u64, zi .u64, zi .u64, zi .u64, zi .u64, zi .u64, zi .u64, zi .u64, zi .u64, zi .u64, zi .u64, zi .u64, zi .u64, zi .u64, zi .u64, zi .u64, zi .u64, zi .u64]),
 (219, .ar 65 5 1 [zi .u8, zi .u8, zi .u8, zi .u8, zi .u8, zi .u8, zi .u8, zi .u8, zi .u8, zi .u8, zi .u8, zi .u8, zi .u8, zi .u8, zi .u8, zi .u8, zi .u8, zi .u8, zi .u8, zi .u8, zi .u8, zi .u8, zi .u8, zi .u8, zi .u8, zi .u8, zi .u8, zi .u8, zi .u8, zi .u8, zi .u8, zi .u8, zi .u8, zi .u8, zi .u8, zi .u8, zi .u8, zi .u8, zi .u8, zi .u8, zi .u8, zi .u8, zi .u8, zi .u8, zi .u8, zi .u8, zi .u8, zi .u8, zi .u8, zi .u8, zi .u8, zi .u8, zi .u8, zi .u8, zi .u8, zi .u8, zi .u8, zi .u8, zi .u8, zi .u8, zi .u8, zi .u8, zi .u8, zi .u8, zi .u8]),
 (235, .ar 32 5 1 [zi .u8, zi .u8, zi .u8, zi .u8, zi .u8, zi .u8, zi .u8, zi .u8, zi .u8, zi .u8, zi .u8, zi .u8, zi .u8, zi .u8, zi .u8, zi .u8, zi .u8, zi .u8, zi .u8, zi .u8, zi .u8, zi .u8, zi .u8, zi .u8, zi .u8, zi .u8, zi .u8, zi .u8, zi .u8, zi .u8, zi .u8, zi .u8]),
 (236, .ar 64 5 1 [zi .u8, zi .u8, zi .u8, zi .u8, zi .u8, zi .u8, zi .u8, zi .u8, zi .u8, zi .u8, zi .u8, zi .u8, zi .u8, zi .u8, zi .u8, zi .u8, zi .u8, zi .u8, zi .u8, zi .u8, zi .u8, zi .u8, zi .u8, zi .u8, zi .u8, zi .u8, zi .u8, zi .u8, zi .u8, zi .u8, zi .u8, zi .u8, zi .u8, zi .u8, zi .u8, zi .u8, zi .u8, zi .u8, zi .u8, zi .u8, zi .u8, zi .u8, zi .u8, zi .u8, zi .u8, zi .u8, zi .u8, zi .u8, zi .u8, zi .u8, zi .u8, zi .u8, zi .u8, zi .u8, zi .u8, zi .u8, zi .u8, zi .u8, zi .u8, zi .u8, zi .u8, zi .u8, zi .u8, zi .u8]),
 (242, .int .u8),
 (243, .int .u8),
 (245, .int .i32),
 (246, .int .i32),
 (251, .sl 5 1)]
def gK : List (Nat × Refl.KD) := [(3, ⟨Int, rkInt .i64⟩), (4, ⟨Bool, rkBool⟩), (5, ⟨Int, rkInt .u8⟩), (9, ⟨ByteArray, rkStr⟩), (37, ⟨S37, rk37⟩), (172, ⟨Int, rkInt .u64⟩)]
def G : Refl.Ctx := ⟨Refl.kdGet ⟨Int, rkInt .i64⟩ gK, Refl.tdGet gT⟩
theorem gT_ok : Refl.TDsOK Tryz.prog G gT := ⟨Refl.tdOk_int Tryz.underlying2 (by kernel_rfl),
 Refl.tdOk_int Tryz.underlying3 (by kernel_rfl),
 Refl.tdOk_bool Tryz.underlying4 (by kernel_rfl),
 Refl.tdOk_int Tryz.underlying5 (by kernel_rfl),
 Refl.tdOk_str Tryz.underlying9 (by kernel_rfl),
 Refl.tdOk_int Tryz.underlying12 (by kernel_rfl),
 Refl.tdOk_int Tryz.underlying21 (by kernel_rfl),
 Refl.tdOk_st Tryz.underlying22 (by kernel_rfl) rfl (by kernel_rfl) (by kernel_rfl) (by kernel_rfl),
 Refl.tdOk_st Tryz.underlying23 (by kernel_rfl) rfl (by kernel_rfl) (by kernel_rfl) (by kernel_rfl),
 Refl.tdOk_st Tryz.underlying24 (by kernel_rfl) rfl (by kernel_rfl) (by kernel_rfl) (by kernel_rfl),
 Refl.tdOk_st Tryz.underlying25 (by kernel_rfl) rfl (by kernel_rfl) (by kernel_rfl) (by kernel_rfl),
 Refl.tdOk_st Tryz.underlying26 (by kernel_rfl) rfl (by kernel_rfl) (by kernel_rfl) (by kernel_rfl),
 Refl.tdOk_st Tryz.underlying27 (by kernel_rfl) rfl (by kernel_rfl) (by kernel_rfl) (by kernel_rfl),
 Refl.tdOk_st Tryz.underlying28 (by kernel_rfl) rfl (by kernel_rfl) (by kernel_rfl) (by kernel_rfl),
 Refl.tdOk_st Tryz.underlying29 (by kernel_rfl) rfl (by kernel_rfl) (by kernel_rfl) (by kernel_rfl),
 Refl.tdOk_st Tryz.underlying30 (by kernel_rfl) rfl (by kernel_rfl) (by kernel_rfl) (by kernel_rfl),
 Refl.tdOk_st Tryz.underlying31 (by kernel_rfl) rfl (by kernel_rfl) (by kernel_rfl) (by kernel_rfl),
 Refl.tdOk_st Tryz.underlying32 (by kernel_rfl) rfl (by kernel_rfl) (by kernel_rfl) (by kernel_rfl),
 Refl.tdOk_st Tryz.underlying33 (by kernel_rfl) rfl (by kernel_rfl) (by kernel_rfl) (by kernel_rfl),
 Refl.tdOk_st Tryz.underlying37 (by kernel_rfl) rfl (by kernel_rfl) (by kernel_rfl) (by kernel_rfl),
 Refl.tdOk_st Tryz.underlying38 (by kernel_rfl) rfl (by kernel_rfl) (by kernel_rfl) (by kernel_rfl),
 Refl.tdOk_st Tryz.underlying39 (by kernel_rfl) rfl (by kernel_rfl) (by kernel_rfl) (by kernel_rfl),
 Refl.tdOk_st Tryz.underlying40 (by kernel_rfl) rfl (by kernel_rfl) (by kernel_rfl) (by kernel_rfl),
 Refl.tdOk_st Tryz.underlying41 (by kernel_rfl) rfl (by kernel_rfl) (by kernel_rfl) (by kernel_rfl),
 Refl.tdOk_st Tryz.underlying42 (by kernel_rfl) rfl (by kernel_rfl) (by kernel_rfl) (by kernel_rfl),
 Refl.tdOk_st Tryz.underlying43 (by kernel_rfl) rfl (by kernel_rfl) (by kernel_rfl) (by kernel_rfl),
 Refl.tdOk_st Tryz.underlying44 (by kernel_rfl) rfl (by kernel_rfl) (by kernel_rfl) (by kernel_rfl),
 Refl.tdOk_st Tryz.underlying49 (by kernel_rfl) rfl (by kernel_rfl) (by kernel_rfl) (by kernel_rfl),
 Refl.tdOk_st Tryz.underlying50 (by kernel_rfl) rfl (by kernel_rfl) (by kernel_rfl) (by kernel_rfl),
 Refl.tdOk_st Tryz.underlying53 (by kernel_rfl) rfl (by kernel_rfl) (by kernel_rfl) (by kernel_rfl),
 Refl.tdOk_sl (z := .bool false) Tryz.underlying63 (by kernel_rfl) (by kernel_rfl) (by kernel_rfl) rfl,
 Refl.tdOk_sl (z := .int .i64 0) Tryz.underlying81 (by kernel_rfl) (by kernel_rfl) (by kernel_rfl) rfl,
 Refl.tdOk_ar Tryz.underlying90 (by kernel_rfl) rfl (by kernel_rfl) rfl,
 Refl.tdOk_sl (z := .agg #[.int .i64 0, .int .i64 0, .int .i64 0, .int .i64 0, .int .i64 0, .bool false]) Tryz.underlying106 (by kernel_rfl) (by kernel_rfl) (by kernel_rfl) rfl,
 Refl.tdOk_sl (z := .string ⟨#[]⟩) Tryz.underlying124 (by kernel_rfl) (by kernel_rfl) (by kernel_rfl) rfl,
 Refl.tdOk_int Tryz.underlying133 (by kernel_rfl),
 Refl.tdOk_sl (z := .int .u8 0) Tryz.underlying137 (by kernel_rfl) (by kernel_rfl) (by kernel_rfl) rfl,
 Refl.tdOk_ar Tryz.underlying147 (by kernel_rfl) rfl (by kernel_rfl) rfl,
 Refl.tdOk_ar Tryz.underlying148 (by kernel_rfl) rfl (by kernel_rfl) rfl,
 Refl.tdOk_int Tryz.underlying156 (by kernel_rfl),
 Refl.tdOk_int Tryz.underlying172 (by kernel_rfl),
 Refl.tdOk_ar Tryz.underlying198 (by kernel_rfl) rfl (by kernel_rfl) rfl,
 Refl.tdOk_ar Tryz.underlying218 (by kernel_rfl) rfl (by kernel_rfl) rfl,
 Refl.tdOk_ar Tryz.underlying219 (by kernel_rfl) rfl (by kernel_rfl) rfl,
 Refl.tdOk_ar Tryz.underlying235 (by kernel_rfl) rfl (by kernel_rfl) rfl,
 Refl.tdOk_ar Tryz.underlying236 (by kernel_rfl) rfl (by kernel_rfl) rfl,
 Refl.tdOk_int Tryz.underlying242 (by kernel_rfl),
 Refl.tdOk_int Tryz.underlying243 (by kernel_rfl),
 Refl.tdOk_int Tryz.underlying245 (by kernel_rfl),
 Refl.tdOk_int Tryz.underlying246 (by kernel_rfl),
 Refl.tdOk_sl (z := .int .u8 0) Tryz.underlying251 (by kernel_rfl) (by kernel_rfl) (by kernel_rfl) rfl, trivial⟩
theorem GC : Refl.CtxOK Tryz.prog G := ⟨Refl.tds_ok gT_ok, by kernel_rfl⟩

end Go.Proofs.YtmbffgkejknfaaaGreatDoor.PA
