/- The types of this seat's program, as the evaluator has them. No condition. -/
import Derived.Test.YtafhmggfbojpdaaGreatDoorEc
import Derived.Test.YtafhmggfbojpdaaGreatDoorProg
namespace Go.V
set_option maxRecDepth 100000
abbrev Y323 : Ty := (.pair (.int .u8) (.pair (.int .u8) .unit))
abbrev D323 : Type := (Int × (Int × Unit))
abbrev Y209 : Ty := (.pair .str (.pair .bool .unit))
abbrev D209 : Type := (List UInt8 × (Bool × Unit))
abbrev Y353 : Ty := (.pair .str Y209)
abbrev D353 : Type := (List UInt8 × D209)
abbrev Y74 : Ty := (.pair (.int .i64) (.pair (.int .i64) (.pair .str .unit)))
abbrev D74 : Type := (Int × (Int × (List UInt8 × Unit)))
abbrev Y7 : Ty := (.pair (.int .i64) (.pair (.int .i64) (.pair .bool (.pair (.int .u8) .unit))))
abbrev D7 : Type := (Int × (Int × (Bool × (Int × Unit))))
abbrev Y158 : Ty := (.pair .str (.pair (.slice Y209) .unit))
abbrev D158 : Type := (List UInt8 × (List (D209) × Unit))
abbrev Y268 : Ty := (.pair .str (.pair Y74 .unit))
abbrev D268 : Type := (List UInt8 × (D74 × Unit))
abbrev Y222 : Ty := (.pair (.int .i64) Y268)
abbrev D222 : Type := (Int × D268)
abbrev Y94 : Ty := (.pair (.int .i64) (.pair .bool (.pair Y74 .unit)))
abbrev D94 : Type := (Int × (Bool × (D74 × Unit)))
abbrev Y101 : Ty := (.pair .str Y94)
abbrev D101 : Type := (List UInt8 × D94)
abbrev Y213 : Ty := (.pair (.slice Y222) .unit)
abbrev D213 : Type := (List (D222) × Unit)
abbrev Y58 : Ty := (.pair (.int .i64) (.pair (.slice Y94) .unit))
abbrev D58 : Type := (Int × (List (D94) × Unit))
abbrev Y137 : Ty := (.pair (.slice Y213) .unit)
abbrev D137 : Type := (List (D213) × Unit)
abbrev Y139 : Ty := (.pair .str (.pair Y137 .unit))
abbrev D139 : Type := (List UInt8 × (D137 × Unit))
abbrev Y162 : Ty := (.pair Y101 (.pair Y74 (.pair .bool .unit)))
abbrev D162 : Type := (D101 × (D74 × (Bool × Unit)))
abbrev Y55 : Ty := (.pair .str (.pair (.slice Y58) (.pair (.slice Y158) .unit)))
abbrev D55 : Type := (List UInt8 × (List (D58) × (List (D158) × Unit)))
abbrev Y85 : Ty := (.pair (.int .i64) (.pair (.int .i64) (.pair (.slice Y139) (.pair (.slice Y101) .unit))))
abbrev D85 : Type := (Int × (Int × (List (D139) × (List (D101) × Unit))))
abbrev Y89 : Ty := (.pair (.int .i64) (.pair (.int .i64) (.pair (.slice Y139) (.pair (.slice Y162) (.pair .bool (.pair .bool .unit))))))
abbrev D89 : Type := (Int × (Int × (List (D139) × (List (D162) × (Bool × (Bool × Unit))))))
abbrev Y25 : Ty := (.pair (.slice Y55) (.pair (.slice Y85) (.pair (.slice Y89) (.pair (.int .i64) .unit))))
abbrev D25 : Type := (List (D55) × (List (D85) × (List (D89) × (Int × Unit))))

def tys : List (TypeId × Ty) := [(2, (.int .i64)),
  (3, (.int .i64)),
  (4, .bool),
  (5, (.int .u8)),
  (6, (.int .u8)),
  (7, Y7),
  (8, Y7),
  (9, .str),
  (10, .str),
  (11, .str),
  (12, (.int .u64)),
  (21, (.int .i32)),
  (22, (.slice Y55)),
  (23, (.slice Y85)),
  (24, (.slice Y89)),
  (25, Y25),
  (26, Y25),
  (28, (.slice (.int .i64))),
  (31, (.slice Y55)),
  (32, (.slice Y85)),
  (33, (.slice Y89)),
  (34, Y25),
  (35, Y25),
  (42, (.slice Y74)),
  (53, (.slice Y58)),
  (54, (.slice Y158)),
  (55, Y55),
  (56, Y55),
  (57, (.slice Y94)),
  (58, Y58),
  (59, Y58),
  (74, Y74),
  (75, Y74),
  (78, (.slice Y58)),
  (79, (.slice Y158)),
  (80, Y55),
  (81, Y55),
  (83, (.slice Y139)),
  (84, (.slice Y101)),
  (85, Y85),
  (86, Y85),
  (88, (.slice Y162)),
  (89, Y89),
  (90, Y89),
  (94, Y94),
  (95, Y94),
  (97, (.slice Y139)),
  (98, (.slice Y101)),
  (99, Y85),
  (100, Y85),
  (101, Y101),
  (102, Y101),
  (103, (.slice Y162)),
  (104, Y89),
  (105, Y89),
  (126, (.slice .str)),
  (129, (.slice (.int .u8))),
  (136, (.slice Y213)),
  (137, Y137),
  (138, Y137),
  (139, Y139),
  (140, Y139),
  (157, (.slice Y209)),
  (158, Y158),
  (159, Y158),
  (162, Y162),
  (163, Y162),
  (166, (.slice Y94)),
  (167, Y58),
  (168, Y58),
  (170, (.slice Y209)),
  (171, Y158),
  (172, Y158),
  (174, (.slice Y213)),
  (175, Y137),
  (176, Y137),
  (177, Y139),
  (178, Y139),
  (180, Y74),
  (181, Y101),
  (182, Y101),
  (184, Y162),
  (185, Y162),
  (209, Y209),
  (210, Y209),
  (212, (.slice Y222)),
  (213, Y213),
  (214, Y213),
  (222, Y222),
  (223, Y222),
  (241, Y94),
  (242, Y94),
  (244, Y209),
  (261, (.slice Y222)),
  (262, Y213),
  (263, Y213),
  (265, (.slice Y268)),
  (268, Y268),
  (269, Y268),
  (289, Y222),
  (290, Y222),
  (294, Y209),
  (295, Y209),
  (308, (.int .u64)),
  (323, Y323),
  (324, Y323),
  (326, (.int .u32)),
  (330, (.int .u64)),
  (342, (.int .u8)),
  (343, (.int .u8)),
  (345, (.int .i32)),
  (346, (.int .i32)),
  (353, Y353),
  (354, Y353)]
def ones : List TypeId := [1, 15, 16, 17, 27, 30, 36, 37, 38, 39, 40, 41, 44, 45, 46, 47, 48, 49, 50, 51, 52, 60, 61, 62, 63, 64, 65, 66, 67, 68, 69, 70, 71, 72, 73, 76, 77, 82, 87, 91, 92, 93, 96, 106, 107, 108, 109, 110, 111, 112, 113, 114, 115, 116, 117, 118, 119, 120, 121, 122, 123, 124, 125, 127, 128, 130, 131, 132, 133, 134, 135, 141, 142, 143, 144, 145, 146, 147, 148, 149, 150, 151, 152, 153, 154, 155, 156, 160, 161, 164, 165, 169, 173, 179, 183, 186, 187, 188, 189, 190, 191, 192, 193, 194, 195, 196, 197, 198, 199, 200, 201, 202, 203, 204, 205, 206, 207, 208, 211, 215, 216, 217, 218, 219, 220, 221, 224, 225, 226, 227, 228, 229, 230, 231, 232, 233, 234, 235, 236, 237, 238, 239, 240, 243, 245, 246, 248, 249, 250, 251, 252, 254, 255, 256, 257, 258, 259, 260, 264, 267, 270, 271, 272, 273, 274, 275, 276, 278, 280, 281, 282, 283, 284, 285, 286, 287, 288, 291, 292, 293, 296, 297, 298, 299, 300, 301, 302, 304, 305, 306, 307, 309, 311, 312, 313, 316, 320, 321, 328, 329, 332, 333, 335, 336, 344, 349, 350, 351, 352]
theorem tys_ok : tysC Go.Proofs.Tryz.prog tys ones = true := by kernel_rfl
theorem ty_ok {env : Env} (h1 : env.ty = tyTab tys := by rfl) (h2 : env.one = oneTab ones := by rfl) : env.TyOk Go.Proofs.Tryz.prog := tysC_ok tys_ok h1 h2
end Go.V
