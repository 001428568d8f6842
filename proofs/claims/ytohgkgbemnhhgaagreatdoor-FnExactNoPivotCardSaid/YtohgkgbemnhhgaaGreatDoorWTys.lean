/- The types of this seat's program, as the evaluator has them. No condition. -/
import Derived.Test.YtohgkgbemnhhgaaGreatDoorEc
import Derived.Test.YtohgkgbemnhhgaaGreatDoorProg
namespace Go.V
set_option maxRecDepth 100000
abbrev Y308 : Ty := (.pair (.int .u8) (.pair (.int .u8) .unit))
abbrev D308 : Type := (Int × (Int × Unit))
abbrev Y193 : Ty := (.pair .str (.pair .bool .unit))
abbrev D193 : Type := (List UInt8 × (Bool × Unit))
abbrev Y338 : Ty := (.pair .str Y193)
abbrev D338 : Type := (List UInt8 × D193)
abbrev Y78 : Ty := (.pair (.int .i64) (.pair (.int .i64) (.pair .str .unit)))
abbrev D78 : Type := (Int × (Int × (List UInt8 × Unit)))
abbrev Y7 : Ty := (.pair (.int .i64) (.pair (.int .i64) (.pair .bool (.pair (.int .u8) .unit))))
abbrev D7 : Type := (Int × (Int × (Bool × (Int × Unit))))
abbrev Y139 : Ty := (.pair .str (.pair (.slice Y193) .unit))
abbrev D139 : Type := (List UInt8 × (List (D193) × Unit))
abbrev Y253 : Ty := (.pair .str (.pair Y78 .unit))
abbrev D253 : Type := (List UInt8 × (D78 × Unit))
abbrev Y182 : Ty := (.pair (.int .i64) Y253)
abbrev D182 : Type := (Int × D253)
abbrev Y80 : Ty := (.pair (.int .i64) (.pair .bool (.pair Y78 .unit)))
abbrev D80 : Type := (Int × (Bool × (D78 × Unit)))
abbrev Y87 : Ty := (.pair .str Y80)
abbrev D87 : Type := (List UInt8 × D80)
abbrev Y163 : Ty := (.pair (.slice Y182) .unit)
abbrev D163 : Type := (List (D182) × Unit)
abbrev Y76 : Ty := (.pair (.int .i64) (.pair (.slice Y80) .unit))
abbrev D76 : Type := (Int × (List (D80) × Unit))
abbrev Y91 : Ty := (.pair (.slice Y163) .unit)
abbrev D91 : Type := (List (D163) × Unit)
abbrev Y93 : Ty := (.pair .str (.pair Y91 .unit))
abbrev D93 : Type := (List UInt8 × (D91 × Unit))
abbrev Y95 : Ty := (.pair Y87 (.pair Y78 (.pair .bool .unit)))
abbrev D95 : Type := (D87 × (D78 × (Bool × Unit)))
abbrev Y57 : Ty := (.pair .str (.pair (.slice Y76) (.pair (.slice Y139) .unit)))
abbrev D57 : Type := (List UInt8 × (List (D76) × (List (D139) × Unit)))
abbrev Y62 : Ty := (.pair (.int .i64) (.pair (.int .i64) (.pair (.slice Y93) (.pair (.slice Y87) .unit))))
abbrev D62 : Type := (Int × (Int × (List (D93) × (List (D87) × Unit))))
abbrev Y44 : Ty := (.pair (.int .i64) (.pair (.int .i64) (.pair (.slice Y93) (.pair (.slice Y95) (.pair .bool (.pair .bool .unit))))))
abbrev D44 : Type := (Int × (Int × (List (D93) × (List (D95) × (Bool × (Bool × Unit))))))
abbrev Y25 : Ty := (.pair (.slice Y57) (.pair (.slice Y62) (.pair (.slice Y44) (.pair (.int .i64) .unit))))
abbrev D25 : Type := (List (D57) × (List (D62) × (List (D44) × (Int × Unit))))

def tys : List (TypeId × Ty) := [(2, (.int .i64)),
  (3, (.int .i64)),
  (4, .bool),
  (5, (.int .u8)),
  (6, (.int .u8)),
  (7, Y7),
  (8, Y7),
  (9, .str),
  (10, .str),
  (11, .str),
  (12, (.int .u64)),
  (21, (.int .i32)),
  (22, (.slice Y57)),
  (23, (.slice Y62)),
  (24, (.slice Y44)),
  (25, Y25),
  (26, Y25),
  (30, (.slice Y57)),
  (31, (.slice Y62)),
  (32, (.slice Y44)),
  (33, Y25),
  (34, Y25),
  (42, (.slice Y93)),
  (43, (.slice Y95)),
  (44, Y44),
  (45, Y44),
  (55, (.slice Y76)),
  (56, (.slice Y139)),
  (57, Y57),
  (58, Y57),
  (60, (.slice Y93)),
  (61, (.slice Y87)),
  (62, Y62),
  (63, Y62),
  (65, (.slice Y95)),
  (66, Y44),
  (67, Y44),
  (71, (.slice Y76)),
  (72, (.slice Y139)),
  (73, Y57),
  (74, Y57),
  (75, (.slice Y80)),
  (76, Y76),
  (77, Y76),
  (78, Y78),
  (79, Y78),
  (80, Y80),
  (81, Y80),
  (83, (.slice Y87)),
  (84, Y62),
  (85, Y62),
  (87, Y87),
  (88, Y87),
  (90, (.slice Y163)),
  (91, Y91),
  (92, Y91),
  (93, Y93),
  (94, Y93),
  (95, Y95),
  (96, Y95),
  (134, (.slice Y80)),
  (135, Y76),
  (136, Y76),
  (138, (.slice Y193)),
  (139, Y139),
  (140, Y139),
  (142, (.slice Y163)),
  (143, Y91),
  (144, Y91),
  (145, Y93),
  (146, Y93),
  (148, Y78),
  (149, Y87),
  (150, Y87),
  (152, Y95),
  (153, Y95),
  (156, (.slice Y193)),
  (157, Y139),
  (158, Y139),
  (162, (.slice Y182)),
  (163, Y163),
  (164, Y163),
  (182, Y182),
  (183, Y182),
  (193, Y193),
  (194, Y193),
  (210, (.slice Y78)),
  (218, Y80),
  (219, Y80),
  (221, Y193),
  (223, (.slice .str)),
  (234, (.slice (.int .i64))),
  (246, (.slice Y182)),
  (247, Y163),
  (248, Y163),
  (250, (.slice Y253)),
  (253, Y253),
  (254, Y253),
  (264, Y193),
  (265, Y193),
  (281, Y182),
  (282, Y182),
  (291, (.slice (.int .u8))),
  (293, (.int .u64)),
  (308, Y308),
  (309, Y308),
  (311, (.int .u32)),
  (315, (.int .u64)),
  (327, (.int .u8)),
  (328, (.int .u8)),
  (330, (.int .i32)),
  (331, (.int .i32)),
  (338, Y338),
  (339, Y338)]
def ones : List TypeId := [1, 15, 16, 17, 27, 29, 35, 36, 37, 38, 39, 40, 41, 46, 47, 48, 49, 50, 51, 52, 53, 54, 59, 64, 68, 69, 70, 82, 86, 89, 97, 98, 99, 100, 101, 102, 103, 104, 105, 106, 107, 108, 109, 110, 111, 112, 113, 114, 115, 116, 117, 118, 119, 120, 121, 122, 123, 124, 125, 126, 127, 128, 129, 130, 131, 132, 133, 137, 141, 147, 151, 154, 155, 159, 160, 161, 165, 166, 167, 168, 169, 170, 171, 172, 173, 174, 175, 176, 177, 178, 179, 180, 181, 184, 185, 186, 187, 188, 189, 190, 191, 192, 195, 196, 197, 198, 199, 200, 201, 202, 203, 204, 205, 206, 207, 208, 209, 211, 212, 213, 214, 215, 216, 217, 220, 222, 224, 226, 227, 228, 229, 230, 232, 233, 235, 236, 237, 238, 240, 241, 242, 243, 244, 245, 249, 252, 255, 256, 257, 258, 259, 260, 261, 262, 263, 266, 267, 268, 269, 271, 272, 273, 274, 275, 276, 277, 278, 279, 280, 283, 284, 285, 287, 288, 289, 290, 292, 295, 296, 297, 300, 304, 305, 306, 313, 314, 317, 318, 320, 321, 329, 334, 335, 336, 337]
theorem tys_ok : tysC Go.Proofs.Tryz.prog tys ones = true := by kernel_rfl
end Go.V
