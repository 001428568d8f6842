/- The types of this seat's program, as the evaluator has them. No condition. -/
import Derived.Test.YtaghikdjjoaebaaGreatDoorEc
import Derived.Test.YtaghikdjjoaebaaGreatDoorProg
namespace Go.V
set_option maxRecDepth 100000
abbrev Y310 : Ty := (.pair (.int .u8) (.pair (.int .u8) .unit))
abbrev D310 : Type := (Int × (Int × Unit))
abbrev Y190 : Ty := (.pair .str (.pair .bool .unit))
abbrev D190 : Type := (List UInt8 × (Bool × Unit))
abbrev Y340 : Ty := (.pair .str Y190)
abbrev D340 : Type := (List UInt8 × D190)
abbrev Y83 : Ty := (.pair (.int .i64) (.pair (.int .i64) (.pair .str .unit)))
abbrev D83 : Type := (Int × (Int × (List UInt8 × Unit)))
abbrev Y7 : Ty := (.pair (.int .i64) (.pair (.int .i64) (.pair .bool (.pair (.int .u8) .unit))))
abbrev D7 : Type := (Int × (Int × (Bool × (Int × Unit))))
abbrev Y138 : Ty := (.pair .str (.pair (.slice Y190) .unit))
abbrev D138 : Type := (List UInt8 × (List (D190) × Unit))
abbrev Y251 : Ty := (.pair .str (.pair Y83 .unit))
abbrev D251 : Type := (List UInt8 × (D83 × Unit))
abbrev Y203 : Ty := (.pair (.int .i64) Y251)
abbrev D203 : Type := (Int × D251)
abbrev Y85 : Ty := (.pair (.int .i64) (.pair .bool (.pair Y83 .unit)))
abbrev D85 : Type := (Int × (Bool × (D83 × Unit)))
abbrev Y89 : Ty := (.pair .str Y85)
abbrev D89 : Type := (List UInt8 × D85)
abbrev Y194 : Ty := (.pair (.slice Y203) .unit)
abbrev D194 : Type := (List (D203) × Unit)
abbrev Y81 : Ty := (.pair (.int .i64) (.pair (.slice Y85) .unit))
abbrev D81 : Type := (Int × (List (D85) × Unit))
abbrev Y117 : Ty := (.pair (.slice Y194) .unit)
abbrev D117 : Type := (List (D194) × Unit)
abbrev Y119 : Ty := (.pair .str (.pair Y117 .unit))
abbrev D119 : Type := (List UInt8 × (D117 × Unit))
abbrev Y142 : Ty := (.pair Y89 (.pair Y83 (.pair .bool .unit)))
abbrev D142 : Type := (D89 × (D83 × (Bool × Unit)))
abbrev Y62 : Ty := (.pair .str (.pair (.slice Y81) (.pair (.slice Y138) .unit)))
abbrev D62 : Type := (List UInt8 × (List (D81) × (List (D138) × Unit)))
abbrev Y48 : Ty := (.pair (.int .i64) (.pair (.int .i64) (.pair (.slice Y119) (.pair (.slice Y89) .unit))))
abbrev D48 : Type := (Int × (Int × (List (D119) × (List (D89) × Unit))))
abbrev Y71 : Ty := (.pair (.int .i64) (.pair (.int .i64) (.pair (.slice Y119) (.pair (.slice Y142) (.pair .bool (.pair .bool .unit))))))
abbrev D71 : Type := (Int × (Int × (List (D119) × (List (D142) × (Bool × (Bool × Unit))))))
abbrev Y25 : Ty := (.pair (.slice Y62) (.pair (.slice Y48) (.pair (.slice Y71) (.pair (.int .i64) .unit))))
abbrev D25 : Type := (List (D62) × (List (D48) × (List (D71) × (Int × Unit))))

def tys : List (TypeId × Ty) := [(2, (.int .i64)),
  (3, (.int .i64)),
  (4, .bool),
  (5, (.int .u8)),
  (6, (.int .u8)),
  (7, Y7),
  (8, Y7),
  (9, .str),
  (10, .str),
  (11, .str),
  (12, (.int .u64)),
  (21, (.int .i32)),
  (22, (.slice Y62)),
  (23, (.slice Y48)),
  (24, (.slice Y71)),
  (25, Y25),
  (26, Y25),
  (28, (.slice (.int .i64))),
  (31, (.slice Y62)),
  (32, (.slice Y48)),
  (33, (.slice Y71)),
  (34, Y25),
  (35, Y25),
  (46, (.slice Y119)),
  (47, (.slice Y89)),
  (48, Y48),
  (49, Y48),
  (60, (.slice Y81)),
  (61, (.slice Y138)),
  (62, Y62),
  (63, Y62),
  (65, (.slice Y119)),
  (66, (.slice Y89)),
  (67, Y48),
  (68, Y48),
  (70, (.slice Y142)),
  (71, Y71),
  (72, Y71),
  (76, (.slice Y81)),
  (77, (.slice Y138)),
  (78, Y62),
  (79, Y62),
  (80, (.slice Y85)),
  (81, Y81),
  (82, Y81),
  (83, Y83),
  (84, Y83),
  (85, Y85),
  (86, Y85),
  (89, Y89),
  (90, Y89),
  (91, (.slice Y142)),
  (92, Y71),
  (93, Y71),
  (116, (.slice Y194)),
  (117, Y117),
  (118, Y117),
  (119, Y119),
  (120, Y119),
  (135, (.slice (.int .u8))),
  (137, (.slice Y190)),
  (138, Y138),
  (139, Y138),
  (142, Y142),
  (143, Y142),
  (145, (.slice Y85)),
  (146, Y81),
  (147, Y81),
  (149, (.slice Y190)),
  (150, Y138),
  (151, Y138),
  (153, (.slice Y194)),
  (154, Y117),
  (155, Y117),
  (156, Y119),
  (157, Y119),
  (159, Y83),
  (160, Y89),
  (161, Y89),
  (163, Y142),
  (164, Y142),
  (190, Y190),
  (191, Y190),
  (193, (.slice Y203)),
  (194, Y194),
  (195, Y194),
  (203, Y203),
  (204, Y203),
  (223, Y85),
  (224, Y85),
  (226, Y190),
  (228, (.slice .str)),
  (244, (.slice Y203)),
  (245, Y194),
  (246, Y194),
  (248, (.slice Y251)),
  (251, Y251),
  (252, Y251),
  (261, (.slice Y83)),
  (275, Y203),
  (276, Y203),
  (280, Y190),
  (281, Y190),
  (294, (.int .u64)),
  (310, Y310),
  (311, Y310),
  (313, (.int .u32)),
  (317, (.int .u64)),
  (329, (.int .u8)),
  (330, (.int .u8)),
  (332, (.int .i32)),
  (333, (.int .i32)),
  (340, Y340),
  (341, Y340)]
def ones : List TypeId := [1, 15, 16, 17, 27, 30, 36, 37, 38, 39, 40, 41, 42, 43, 44, 45, 50, 51, 52, 53, 54, 55, 56, 57, 58, 59, 64, 69, 73, 74, 75, 87, 88, 94, 95, 96, 97, 98, 99, 100, 101, 102, 103, 104, 105, 106, 107, 108, 109, 110, 111, 112, 113, 114, 115, 121, 122, 123, 124, 125, 126, 127, 128, 129, 130, 131, 132, 133, 134, 136, 140, 141, 144, 148, 152, 158, 162, 165, 166, 167, 168, 169, 170, 171, 172, 173, 174, 175, 176, 177, 178, 179, 180, 181, 182, 183, 184, 185, 186, 187, 188, 189, 192, 196, 197, 198, 199, 200, 201, 202, 205, 206, 207, 208, 209, 210, 211, 212, 213, 214, 215, 216, 217, 218, 219, 220, 221, 222, 225, 227, 229, 231, 232, 233, 234, 235, 237, 238, 239, 240, 241, 242, 243, 247, 250, 253, 254, 255, 256, 257, 258, 259, 260, 263, 265, 266, 267, 268, 269, 270, 271, 272, 273, 274, 277, 278, 279, 282, 283, 284, 285, 286, 287, 288, 290, 291, 292, 293, 295, 297, 298, 299, 302, 306, 307, 308, 315, 316, 319, 320, 322, 323, 331, 336, 337, 338, 339]
theorem tys_ok : tysC Go.Proofs.Tryz.prog tys ones = true := by kernel_rfl
theorem ty_ok {env : Env} (h1 : env.ty = tyTab tys := by rfl) (h2 : env.one = oneTab ones := by rfl) : env.TyOk Go.Proofs.Tryz.prog := tysC_ok tys_ok h1 h2
end Go.V
