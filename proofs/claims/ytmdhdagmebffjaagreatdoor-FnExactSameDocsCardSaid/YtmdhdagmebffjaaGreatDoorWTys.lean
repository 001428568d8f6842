/- The types of this seat's program, as the evaluator has them. No condition. -/
import Derived.Test.YtmdhdagmebffjaaGreatDoorEc
import Derived.Test.YtmdhdagmebffjaaGreatDoorProg
namespace Go.V
set_option maxRecDepth 100000
abbrev Y304 : Ty := (.pair (.int .u8) (.pair (.int .u8) .unit))
abbrev D304 : Type := (Int × (Int × Unit))
abbrev Y187 : Ty := (.pair .str (.pair .bool .unit))
abbrev D187 : Type := (List UInt8 × (Bool × Unit))
abbrev Y334 : Ty := (.pair .str Y187)
abbrev D334 : Type := (List UInt8 × D187)
abbrev Y72 : Ty := (.pair (.int .i64) (.pair (.int .i64) (.pair .str .unit)))
abbrev D72 : Type := (Int × (Int × (List UInt8 × Unit)))
abbrev Y7 : Ty := (.pair (.int .i64) (.pair (.int .i64) (.pair .bool (.pair (.int .u8) .unit))))
abbrev D7 : Type := (Int × (Int × (Bool × (Int × Unit))))
abbrev Y137 : Ty := (.pair .str (.pair (.slice Y187) .unit))
abbrev D137 : Type := (List UInt8 × (List (D187) × Unit))
abbrev Y244 : Ty := (.pair .str (.pair Y72 .unit))
abbrev D244 : Type := (List UInt8 × (D72 × Unit))
abbrev Y195 : Ty := (.pair (.int .i64) Y244)
abbrev D195 : Type := (Int × D244)
abbrev Y74 : Ty := (.pair (.int .i64) (.pair .bool (.pair Y72 .unit)))
abbrev D74 : Type := (Int × (Bool × (D72 × Unit)))
abbrev Y82 : Ty := (.pair .str Y74)
abbrev D82 : Type := (List UInt8 × D74)
abbrev Y192 : Ty := (.pair (.slice Y195) .unit)
abbrev D192 : Type := (List (D195) × Unit)
abbrev Y70 : Ty := (.pair (.int .i64) (.pair (.slice Y74) .unit))
abbrev D70 : Type := (Int × (List (D74) × Unit))
abbrev Y109 : Ty := (.pair (.slice Y192) .unit)
abbrev D109 : Type := (List (D192) × Unit)
abbrev Y111 : Ty := (.pair .str (.pair Y109 .unit))
abbrev D111 : Type := (List UInt8 × (D109 × Unit))
abbrev Y150 : Ty := (.pair Y82 (.pair Y72 (.pair .bool .unit)))
abbrev D150 : Type := (D82 × (D72 × (Bool × Unit)))
abbrev Y51 : Ty := (.pair .str (.pair (.slice Y70) (.pair (.slice Y137) .unit)))
abbrev D51 : Type := (List UInt8 × (List (D70) × (List (D137) × Unit)))
abbrev Y56 : Ty := (.pair (.int .i64) (.pair (.int .i64) (.pair (.slice Y111) (.pair (.slice Y82) .unit))))
abbrev D56 : Type := (Int × (Int × (List (D111) × (List (D82) × Unit))))
abbrev Y60 : Ty := (.pair (.int .i64) (.pair (.int .i64) (.pair (.slice Y111) (.pair (.slice Y150) (.pair .bool (.pair .bool .unit))))))
abbrev D60 : Type := (Int × (Int × (List (D111) × (List (D150) × (Bool × (Bool × Unit))))))
abbrev Y25 : Ty := (.pair (.slice Y51) (.pair (.slice Y56) (.pair (.slice Y60) (.pair (.int .i64) .unit))))
abbrev D25 : Type := (List (D51) × (List (D56) × (List (D60) × (Int × Unit))))

def tys : List (TypeId × Ty) := [(2, (.int .i64)),
  (3, (.int .i64)),
  (4, .bool),
  (5, (.int .u8)),
  (6, (.int .u8)),
  (7, Y7),
  (8, Y7),
  (9, .str),
  (10, .str),
  (11, .str),
  (12, (.int .u64)),
  (21, (.int .i32)),
  (22, (.slice Y51)),
  (23, (.slice Y56)),
  (24, (.slice Y60)),
  (25, Y25),
  (26, Y25),
  (30, (.slice Y51)),
  (31, (.slice Y56)),
  (32, (.slice Y60)),
  (33, Y25),
  (34, Y25),
  (49, (.slice Y70)),
  (50, (.slice Y137)),
  (51, Y51),
  (52, Y51),
  (54, (.slice Y111)),
  (55, (.slice Y82)),
  (56, Y56),
  (57, Y56),
  (59, (.slice Y150)),
  (60, Y60),
  (61, Y60),
  (65, (.slice Y70)),
  (66, (.slice Y137)),
  (67, Y51),
  (68, Y51),
  (69, (.slice Y74)),
  (70, Y70),
  (71, Y70),
  (72, Y72),
  (73, Y72),
  (74, Y74),
  (75, Y74),
  (77, (.slice Y111)),
  (78, (.slice Y82)),
  (79, Y56),
  (80, Y56),
  (82, Y82),
  (83, Y82),
  (84, (.slice Y150)),
  (85, Y60),
  (86, Y60),
  (87, (.slice Y72)),
  (108, (.slice Y192)),
  (109, Y109),
  (110, Y109),
  (111, Y111),
  (112, Y111),
  (132, (.slice Y74)),
  (133, Y70),
  (134, Y70),
  (136, (.slice Y187)),
  (137, Y137),
  (138, Y137),
  (140, (.slice Y192)),
  (141, Y109),
  (142, Y109),
  (143, Y111),
  (144, Y111),
  (146, Y72),
  (147, Y82),
  (148, Y82),
  (150, Y150),
  (151, Y150),
  (154, (.slice Y187)),
  (155, Y137),
  (156, Y137),
  (164, Y150),
  (165, Y150),
  (187, Y187),
  (188, Y187),
  (191, (.slice Y195)),
  (192, Y192),
  (193, Y192),
  (195, Y195),
  (196, Y195),
  (215, Y74),
  (216, Y74),
  (218, Y187),
  (220, (.slice .str)),
  (232, (.slice (.int .i64))),
  (237, (.slice Y195)),
  (238, Y192),
  (239, Y192),
  (241, (.slice Y244)),
  (244, Y244),
  (245, Y244),
  (267, Y195),
  (268, Y195),
  (272, Y187),
  (273, Y187),
  (287, (.slice (.int .u8))),
  (288, (.int .u64)),
  (304, Y304),
  (305, Y304),
  (307, (.int .u32)),
  (311, (.int .u64)),
  (323, (.int .u8)),
  (324, (.int .u8)),
  (326, (.int .i32)),
  (327, (.int .i32)),
  (334, Y334),
  (335, Y334)]
def ones : List TypeId := [1, 15, 16, 17, 27, 29, 35, 36, 37, 38, 39, 40, 41, 42, 43, 44, 45, 46, 47, 48, 53, 58, 62, 63, 64, 76, 81, 88, 89, 90, 91, 92, 93, 94, 95, 96, 97, 98, 99, 100, 101, 102, 103, 104, 105, 106, 107, 113, 114, 115, 116, 117, 118, 119, 120, 121, 122, 123, 124, 125, 126, 127, 128, 129, 130, 131, 135, 139, 145, 149, 152, 153, 157, 158, 159, 160, 161, 162, 163, 166, 167, 168, 169, 170, 171, 172, 173, 174, 175, 176, 177, 178, 179, 180, 181, 182, 183, 184, 185, 186, 189, 190, 194, 197, 198, 199, 200, 201, 202, 203, 204, 205, 206, 207, 208, 209, 210, 211, 212, 213, 214, 217, 219, 221, 223, 224, 225, 226, 227, 229, 230, 231, 233, 234, 235, 236, 240, 243, 246, 247, 248, 249, 250, 251, 252, 253, 255, 257, 258, 259, 260, 261, 262, 263, 264, 265, 266, 269, 270, 271, 274, 275, 276, 277, 278, 279, 280, 281, 283, 284, 285, 286, 289, 291, 292, 293, 296, 300, 301, 302, 309, 310, 313, 314, 316, 317, 325, 330, 331, 332, 333]
theorem tys_ok : tysC Go.Proofs.Tryz.prog tys ones = true := by kernel_rfl
theorem ty_ok {env : Env} (h1 : env.ty = tyTab tys := by rfl) (h2 : env.one = oneTab ones := by rfl) : env.TyOk Go.Proofs.Tryz.prog := tysC_ok tys_ok h1 h2
end Go.V
