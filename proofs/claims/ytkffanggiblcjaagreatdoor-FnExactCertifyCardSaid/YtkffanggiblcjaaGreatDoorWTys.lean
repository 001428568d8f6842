/- The types of this seat's program, as the evaluator has them. No condition. -/
import Derived.Test.YtkffanggiblcjaaGreatDoorEc
import Derived.Test.YtkffanggiblcjaaGreatDoorProg
namespace Go.V
set_option maxRecDepth 100000
abbrev Y306 : Ty := (.pair (.int .u8) (.pair (.int .u8) .unit))
abbrev D306 : Type := (Int × (Int × Unit))
abbrev Y133 : Ty := (.pair .str (.pair .bool .unit))
abbrev D133 : Type := (List UInt8 × (Bool × Unit))
abbrev Y324 : Ty := (.pair .str Y133)
abbrev D324 : Type := (List UInt8 × D133)
abbrev Y84 : Ty := (.pair (.int .i64) (.pair (.int .i64) (.pair .str .unit)))
abbrev D84 : Type := (Int × (Int × (List UInt8 × Unit)))
abbrev Y7 : Ty := (.pair (.int .i64) (.pair (.int .i64) (.pair .bool (.pair (.int .u8) .unit))))
abbrev D7 : Type := (Int × (Int × (Bool × (Int × Unit))))
abbrev Y180 : Ty := (.pair .str (.pair Y84 .unit))
abbrev D180 : Type := (List UInt8 × (D84 × Unit))
abbrev Y170 : Ty := (.pair (.int .i64) Y180)
abbrev D170 : Type := (Int × D180)
abbrev Y106 : Ty := (.pair .str (.pair (.int .i64) (.pair .bool (.pair Y84 .unit))))
abbrev D106 : Type := (List UInt8 × (Int × (Bool × (D84 × Unit))))
abbrev Y157 : Ty := (.pair (.slice Y170) .unit)
abbrev D157 : Type := (List (D170) × Unit)
abbrev Y44 : Ty := (.pair (.slice Y157) .unit)
abbrev D44 : Type := (List (D157) × Unit)
abbrev Y103 : Ty := (.pair .str (.pair Y44 .unit))
abbrev D103 : Type := (List UInt8 × (D44 × Unit))
abbrev Y108 : Ty := (.pair Y106 (.pair Y84 (.pair .bool .unit)))
abbrev D108 : Type := (D106 × (D84 × (Bool × Unit)))
abbrev Y48 : Ty := (.pair Y44 (.pair (.slice Y133) (.pair (.int .i64) (.pair (.int .i64) (.pair (.slice .str) (.pair .str .unit))))))
abbrev D48 : Type := (D44 × (List (D133) × (Int × (Int × (List (List UInt8) × (List UInt8 × Unit))))))
abbrev Y25 : Ty := (.pair (.int .i64) (.pair (.int .i64) (.pair (.slice Y103) (.pair (.slice Y108) (.pair .bool (.pair .bool .unit))))))
abbrev D25 : Type := (Int × (Int × (List (D103) × (List (D108) × (Bool × (Bool × Unit))))))

def tys : List (TypeId × Ty) := [(2, (.int .i64)),
  (3, (.int .i64)),
  (4, .bool),
  (5, (.int .u8)),
  (6, (.int .u8)),
  (7, Y7),
  (8, Y7),
  (9, .str),
  (10, .str),
  (11, .str),
  (12, (.int .u64)),
  (21, (.int .i32)),
  (22, (.slice Y25)),
  (23, (.slice Y103)),
  (24, (.slice Y108)),
  (25, Y25),
  (26, Y25),
  (29, (.slice Y25)),
  (33, (.slice Y103)),
  (34, (.slice Y108)),
  (35, Y25),
  (36, Y25),
  (43, (.slice Y157)),
  (44, Y44),
  (45, Y44),
  (46, (.slice Y133)),
  (47, (.slice .str)),
  (48, Y48),
  (49, Y48),
  (50, (.slice Y84)),
  (53, (.slice Y84)),
  (56, (.slice Y157)),
  (57, Y44),
  (58, Y44),
  (59, (.slice Y133)),
  (60, Y48),
  (61, Y48),
  (84, Y84),
  (85, Y84),
  (92, Y84),
  (103, Y103),
  (104, Y103),
  (106, Y106),
  (107, Y106),
  (108, Y108),
  (109, Y108),
  (114, Y103),
  (115, Y103),
  (117, Y106),
  (118, Y106),
  (119, Y108),
  (120, Y108),
  (133, Y133),
  (134, Y133),
  (137, Y133),
  (152, (.slice (.int .u8))),
  (156, (.slice Y170)),
  (157, Y157),
  (158, Y157),
  (166, (.slice Y170)),
  (167, Y157),
  (168, Y157),
  (170, Y170),
  (171, Y170),
  (177, (.slice Y180)),
  (180, Y180),
  (181, Y180),
  (222, (.int .u64)),
  (233, Y133),
  (234, Y133),
  (243, Y170),
  (244, Y170),
  (255, (.int .i64)),
  (262, (.int .u32)),
  (264, (.int .u64)),
  (265, (.slice (.int .i64))),
  (272, (.int .u64)),
  (306, Y306),
  (307, Y306),
  (315, (.int .u8)),
  (316, (.int .u8)),
  (318, (.int .i32)),
  (319, (.int .i32)),
  (324, Y324),
  (325, Y324)]
def ones : List TypeId := [1, 15, 16, 17, 27, 28, 31, 32, 37, 38, 39, 40, 41, 42, 51, 52, 55, 62, 63, 64, 65, 66, 67, 68, 69, 70, 71, 72, 73, 74, 75, 76, 77, 78, 79, 80, 81, 82, 83, 86, 87, 88, 89, 90, 91, 93, 94, 95, 96, 97, 98, 99, 100, 101, 102, 105, 110, 111, 112, 113, 116, 121, 122, 123, 124, 125, 126, 127, 128, 129, 130, 131, 132, 135, 136, 138, 139, 140, 141, 142, 143, 144, 145, 146, 148, 149, 150, 151, 153, 154, 155, 159, 160, 161, 162, 163, 164, 165, 169, 172, 174, 175, 176, 179, 182, 183, 184, 185, 186, 187, 188, 189, 190, 191, 192, 193, 194, 195, 196, 197, 198, 199, 200, 201, 202, 203, 204, 205, 206, 208, 209, 210, 211, 212, 213, 214, 215, 216, 217, 218, 219, 220, 221, 223, 224, 226, 227, 228, 229, 230, 231, 232, 235, 236, 237, 238, 239, 240, 241, 242, 245, 246, 247, 248, 249, 250, 251, 252, 253, 254, 257, 258, 259, 260, 261, 263, 266, 267, 268, 269, 270, 271, 273, 274, 275, 276, 277, 279, 280, 281, 284, 288, 289, 290, 291, 292, 294, 296, 298, 299, 301, 302, 304, 309, 317, 322, 323]
theorem tys_ok : tysC Go.Proofs.Tryz.prog tys ones = true := by kernel_rfl
theorem ty_ok {env : Env} (h1 : env.ty = tyTab tys := by rfl) (h2 : env.one = oneTab ones := by rfl) : env.TyOk Go.Proofs.Tryz.prog := tysC_ok tys_ok h1 h2
end Go.V
