/- The types of this seat's program, as the evaluator has them. No condition. -/
import Derived.Test.YtmegollghdmpfaaGreatDoorEd
import Derived.Test.YtmegollghdmpfaaGreatDoorProg
namespace Go.V
set_option maxRecDepth 100000
abbrev Y234 : Ty := (.pair (.int .u8) (.pair (.int .u8) .unit))
abbrev D234 : Type := (Int × (Int × Unit))
abbrev Y72 : Ty := (.pair .str (.pair .bool .unit))
abbrev D72 : Type := (List UInt8 × (Bool × Unit))
abbrev Y253 : Ty := (.pair .str Y72)
abbrev D253 : Type := (List UInt8 × D72)
abbrev Y52 : Ty := (.pair (.int .i64) (.pair (.int .i64) (.pair .str .unit)))
abbrev D52 : Type := (Int × (Int × (List UInt8 × Unit)))
abbrev Y7 : Ty := (.pair (.int .i64) (.pair (.int .i64) (.pair .bool (.pair (.int .u8) .unit))))
abbrev D7 : Type := (Int × (Int × (Bool × (Int × Unit))))
abbrev Y112 : Ty := (.pair .str (.pair Y52 .unit))
abbrev D112 : Type := (List UInt8 × (D52 × Unit))
abbrev Y102 : Ty := (.pair (.int .i64) Y112)
abbrev D102 : Type := (Int × D112)
abbrev Y96 : Ty := (.pair (.slice Y102) .unit)
abbrev D96 : Type := (List (D102) × Unit)
abbrev Y23 : Ty := (.pair (.slice Y96) .unit)
abbrev D23 : Type := (List (D96) × Unit)
abbrev Y27 : Ty := (.pair Y23 (.pair (.slice Y72) (.pair (.int .i64) (.pair (.int .i64) (.pair (.slice .str) (.pair .str .unit))))))
abbrev D27 : Type := (D23 × (List (D72) × (Int × (Int × (List (List UInt8) × (List UInt8 × Unit))))))

def tys : List (TypeId × Ty) := [(2, (.int .i64)),
  (3, (.int .i64)),
  (4, .bool),
  (5, (.int .u8)),
  (6, (.int .u8)),
  (7, Y7),
  (8, Y7),
  (9, .str),
  (10, .str),
  (11, .str),
  (12, (.int .u64)),
  (21, (.int .i32)),
  (22, (.slice Y96)),
  (23, Y23),
  (24, Y23),
  (25, (.slice Y72)),
  (26, (.slice .str)),
  (27, Y27),
  (28, Y27),
  (29, (.slice Y52)),
  (32, (.slice Y52)),
  (35, (.slice Y96)),
  (36, Y23),
  (37, Y23),
  (38, (.slice Y72)),
  (39, Y27),
  (40, Y27),
  (52, Y52),
  (53, Y52),
  (60, Y52),
  (72, Y72),
  (73, Y72),
  (77, Y72),
  (93, (.slice (.int .u8))),
  (95, (.slice Y102)),
  (96, Y96),
  (97, Y96),
  (98, (.slice Y102)),
  (99, Y96),
  (100, Y96),
  (102, Y102),
  (103, Y102),
  (109, (.slice Y112)),
  (112, Y112),
  (113, Y112),
  (150, (.int .u64)),
  (161, Y72),
  (162, Y72),
  (170, Y102),
  (171, Y102),
  (182, (.int .i64)),
  (189, (.int .u32)),
  (191, (.int .u64)),
  (192, (.slice (.int .i64))),
  (200, (.int .u64)),
  (234, Y234),
  (235, Y234),
  (243, (.int .u8)),
  (244, (.int .u8)),
  (246, (.int .i32)),
  (247, (.int .i32)),
  (253, Y253),
  (254, Y253)]
def ones : List TypeId := [1, 15, 16, 17, 30, 31, 34, 41, 42, 43, 44, 45, 46, 47, 48, 49, 50, 51, 54, 55, 56, 57, 58, 59, 61, 62, 63, 64, 65, 66, 67, 68, 69, 70, 71, 74, 75, 76, 78, 79, 80, 81, 82, 83, 84, 85, 86, 88, 89, 90, 91, 92, 94, 101, 104, 106, 107, 108, 111, 114, 115, 116, 117, 118, 119, 120, 121, 122, 123, 124, 125, 126, 127, 128, 129, 130, 131, 132, 133, 134, 136, 137, 138, 139, 140, 141, 142, 143, 144, 145, 146, 147, 148, 149, 151, 152, 154, 155, 156, 157, 158, 159, 160, 163, 164, 165, 166, 167, 168, 169, 172, 173, 174, 175, 176, 177, 178, 179, 180, 181, 184, 185, 186, 187, 188, 190, 193, 194, 195, 196, 197, 198, 199, 201, 202, 203, 204, 205, 207, 208, 209, 212, 216, 217, 218, 219, 220, 222, 224, 226, 227, 229, 230, 232, 237, 245, 250, 251, 252]
theorem tys_ok : tysC Go.Proofs.Tryz.prog tys ones = true := by kernel_rfl
theorem ty_ok {env : Env} (h1 : env.ty = tyTab tys := by rfl) (h2 : env.one = oneTab ones := by rfl) : env.TyOk Go.Proofs.Tryz.prog := tysC_ok tys_ok h1 h2
end Go.V
