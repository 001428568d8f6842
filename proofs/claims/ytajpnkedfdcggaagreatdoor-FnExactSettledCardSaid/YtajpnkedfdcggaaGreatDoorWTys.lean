/- The types of this seat's program, as the evaluator has them. No condition. -/
import Derived.Test.YtajpnkedfdcggaaGreatDoorEc
import Derived.Test.YtajpnkedfdcggaaGreatDoorProg
namespace Go.V
set_option maxRecDepth 100000
abbrev Y298 : Ty := (.pair (.int .u8) (.pair (.int .u8) .unit))
abbrev D298 : Type := (Int × (Int × Unit))
abbrev Y181 : Ty := (.pair .str (.pair .bool .unit))
abbrev D181 : Type := (List UInt8 × (Bool × Unit))
abbrev Y328 : Ty := (.pair .str Y181)
abbrev D328 : Type := (List UInt8 × D181)
abbrev Y59 : Ty := (.pair (.int .i64) (.pair (.int .i64) (.pair .str .unit)))
abbrev D59 : Type := (Int × (Int × (List UInt8 × Unit)))
abbrev Y7 : Ty := (.pair (.int .i64) (.pair (.int .i64) (.pair .bool (.pair (.int .u8) .unit))))
abbrev D7 : Type := (Int × (Int × (Bool × (Int × Unit))))
abbrev Y132 : Ty := (.pair .str (.pair (.slice Y181) .unit))
abbrev D132 : Type := (List UInt8 × (List (D181) × Unit))
abbrev Y238 : Ty := (.pair .str (.pair Y59 .unit))
abbrev D238 : Type := (List UInt8 × (D59 × Unit))
abbrev Y189 : Ty := (.pair (.int .i64) Y238)
abbrev D189 : Type := (Int × D238)
abbrev Y61 : Ty := (.pair (.int .i64) (.pair .bool (.pair Y59 .unit)))
abbrev D61 : Type := (Int × (Bool × (D59 × Unit)))
abbrev Y86 : Ty := (.pair .str Y61)
abbrev D86 : Type := (List UInt8 × D61)
abbrev Y186 : Ty := (.pair (.slice Y189) .unit)
abbrev D186 : Type := (List (D189) × Unit)
abbrev Y57 : Ty := (.pair (.int .i64) (.pair (.slice Y61) .unit))
abbrev D57 : Type := (Int × (List (D61) × Unit))
abbrev Y108 : Ty := (.pair (.slice Y186) .unit)
abbrev D108 : Type := (List (D186) × Unit)
abbrev Y110 : Ty := (.pair .str (.pair Y108 .unit))
abbrev D110 : Type := (List UInt8 × (D108 × Unit))
abbrev Y145 : Ty := (.pair Y86 (.pair Y59 (.pair .bool .unit)))
abbrev D145 : Type := (D86 × (D59 × (Bool × Unit)))
abbrev Y54 : Ty := (.pair .str (.pair (.slice Y57) (.pair (.slice Y132) .unit)))
abbrev D54 : Type := (List UInt8 × (List (D57) × (List (D132) × Unit)))
abbrev Y71 : Ty := (.pair (.int .i64) (.pair (.int .i64) (.pair (.slice Y110) (.pair (.slice Y86) .unit))))
abbrev D71 : Type := (Int × (Int × (List (D110) × (List (D86) × Unit))))
abbrev Y75 : Ty := (.pair (.int .i64) (.pair (.int .i64) (.pair (.slice Y110) (.pair (.slice Y145) (.pair .bool (.pair .bool .unit))))))
abbrev D75 : Type := (Int × (Int × (List (D110) × (List (D145) × (Bool × (Bool × Unit))))))
abbrev Y25 : Ty := (.pair (.slice Y54) (.pair (.slice Y71) (.pair (.slice Y75) (.pair (.int .i64) .unit))))
abbrev D25 : Type := (List (D54) × (List (D71) × (List (D75) × (Int × Unit))))

def tys : List (TypeId × Ty) := [(2, (.int .i64)),
  (3, (.int .i64)),
  (4, .bool),
  (5, (.int .u8)),
  (6, (.int .u8)),
  (7, Y7),
  (8, Y7),
  (9, .str),
  (10, .str),
  (11, .str),
  (12, (.int .u64)),
  (21, (.int .i32)),
  (22, (.slice Y54)),
  (23, (.slice Y71)),
  (24, (.slice Y75)),
  (25, Y25),
  (26, Y25),
  (30, (.slice Y54)),
  (31, (.slice Y71)),
  (32, (.slice Y75)),
  (33, Y25),
  (34, Y25),
  (52, (.slice Y57)),
  (53, (.slice Y132)),
  (54, Y54),
  (55, Y54),
  (56, (.slice Y61)),
  (57, Y57),
  (58, Y57),
  (59, Y59),
  (60, Y59),
  (61, Y61),
  (62, Y61),
  (64, (.slice Y57)),
  (65, (.slice Y132)),
  (66, Y54),
  (67, Y54),
  (69, (.slice Y110)),
  (70, (.slice Y86)),
  (71, Y71),
  (72, Y71),
  (74, (.slice Y145)),
  (75, Y75),
  (76, Y75),
  (81, (.slice Y110)),
  (82, (.slice Y86)),
  (83, Y71),
  (84, Y71),
  (86, Y86),
  (87, Y86),
  (88, (.slice Y145)),
  (89, Y75),
  (90, Y75),
  (107, (.slice Y186)),
  (108, Y108),
  (109, Y108),
  (110, Y110),
  (111, Y110),
  (127, (.slice Y61)),
  (128, Y57),
  (129, Y57),
  (131, (.slice Y181)),
  (132, Y132),
  (133, Y132),
  (135, (.slice Y186)),
  (136, Y108),
  (137, Y108),
  (138, Y110),
  (139, Y110),
  (141, Y59),
  (142, Y86),
  (143, Y86),
  (145, Y145),
  (146, Y145),
  (149, (.slice Y181)),
  (150, Y132),
  (151, Y132),
  (159, Y145),
  (160, Y145),
  (181, Y181),
  (182, Y181),
  (185, (.slice Y189)),
  (186, Y186),
  (187, Y186),
  (189, Y189),
  (190, Y189),
  (209, Y61),
  (210, Y61),
  (212, Y181),
  (214, (.slice .str)),
  (226, (.slice (.int .i64))),
  (231, (.slice Y189)),
  (232, Y186),
  (233, Y186),
  (235, (.slice Y238)),
  (238, Y238),
  (239, Y238),
  (248, (.slice Y59)),
  (262, Y189),
  (263, Y189),
  (267, Y181),
  (268, Y181),
  (282, (.slice (.int .u8))),
  (283, (.int .u64)),
  (298, Y298),
  (299, Y298),
  (301, (.int .u32)),
  (305, (.int .u64)),
  (317, (.int .u8)),
  (318, (.int .u8)),
  (320, (.int .i32)),
  (321, (.int .i32)),
  (328, Y328),
  (329, Y328)]
def ones : List TypeId := [1, 15, 16, 17, 27, 29, 35, 36, 37, 39, 40, 41, 42, 43, 44, 45, 46, 47, 48, 49, 50, 51, 63, 68, 73, 77, 78, 79, 80, 85, 91, 92, 93, 94, 95, 96, 97, 98, 99, 100, 101, 102, 103, 104, 105, 106, 112, 113, 114, 115, 116, 117, 118, 119, 120, 121, 122, 123, 124, 125, 126, 130, 134, 140, 144, 147, 148, 152, 153, 154, 155, 156, 157, 158, 161, 162, 163, 164, 165, 166, 167, 168, 169, 170, 171, 172, 173, 174, 175, 176, 177, 178, 179, 180, 183, 184, 188, 191, 192, 193, 194, 195, 196, 197, 198, 199, 200, 201, 202, 203, 204, 205, 206, 207, 208, 211, 213, 215, 217, 218, 219, 220, 221, 223, 224, 225, 227, 228, 229, 230, 234, 237, 240, 241, 242, 243, 244, 245, 246, 247, 250, 252, 253, 254, 255, 256, 257, 258, 259, 260, 261, 264, 265, 266, 269, 270, 271, 272, 273, 274, 275, 276, 278, 279, 280, 281, 284, 286, 287, 288, 291, 295, 296, 303, 304, 307, 308, 310, 311, 319, 324, 325, 326, 327]
theorem tys_ok : tysC Go.Proofs.Tryz.prog tys ones = true := by kernel_rfl
end Go.V
