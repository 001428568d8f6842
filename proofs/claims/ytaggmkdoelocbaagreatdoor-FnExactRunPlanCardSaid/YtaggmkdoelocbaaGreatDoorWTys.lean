/- The types of this seat's program, as the evaluator has them. No condition. -/
import Derived.Test.YtaggmkdoelocbaaGreatDoorEc
import Derived.Test.YtaggmkdoelocbaaGreatDoorProg
namespace Go.V
set_option maxRecDepth 100000
abbrev Y374:Ty:=(.pair (.int .u8) (.pair (.int .u8) .unit))
abbrev D374:Type:=(Int×(Int×Unit))
abbrev Y139:Ty:=(.pair .str (.pair .bool .unit))
abbrev D139:Type:=(List UInt8×(Bool×Unit))
abbrev Y114:Ty:=(.pair .str (.pair (.int .i64) .unit))
abbrev D114:Type:=(List UInt8×(Int×Unit))
abbrev Y76:Ty:=(.pair (.int .i64) (.pair (.int .i64) (.pair .str .unit)))
abbrev D76:Type:=(Int×(Int×(List UInt8×Unit)))
abbrev Y22:Ty:=(.pair .str Y139)
abbrev D22:Type:=(List UInt8×D139)
abbrev Y7:Ty:=(.pair (.int .i64) (.pair (.int .i64) (.pair .bool (.pair (.int .u8) .unit))))
abbrev D7:Type:=(Int×(Int×(Bool×(Int×Unit))))
abbrev Y162:Ty:=(.pair (.int .i64) (.pair (.slice Y114) .unit))
abbrev D162:Type:=(Int×(List (D114)×Unit))
abbrev Y79:Ty:=(.pair .str (.pair (.slice Y139) .unit))
abbrev D79:Type:=(List UInt8×(List (D139)×Unit))
abbrev Y211:Ty:=(.pair .str (.pair Y76 .unit))
abbrev D211:Type:=(List UInt8×(D76×Unit))
abbrev Y190:Ty:=(.pair (.int .i64) Y211)
abbrev D190:Type:=(Int×D211)
abbrev Y24:Ty:=(.pair .str (.pair Y22 (.pair (.int .i64) .unit)))
abbrev D24:Type:=(List UInt8×(D22×(Int×Unit)))
abbrev Y82:Ty:=(.pair (.slice Y162) (.pair (.int .i64) .unit))
abbrev D82:Type:=(List (D162)×(Int×Unit))
abbrev Y183:Ty:=(.pair (.slice Y190) .unit)
abbrev D183:Type:=(List (D190)×Unit)
abbrev Y27:Ty:=(.pair (.slice Y183) .unit)
abbrev D27:Type:=(List (D183)×Unit)
abbrev Y84:Ty:=(.pair Y79 (.pair Y82 .unit))
abbrev D84:Type:=(D79×(D82×Unit))
abbrev Y31:Ty:=(.pair Y27 (.pair (.slice Y139) (.pair (.int .i64) (.pair (.int .i64) (.pair (.slice .str) (.pair .str .unit))))))
abbrev D31:Type:=(D27×(List (D139)×(Int×(Int×(List (List UInt8)×(List UInt8×Unit))))))

def tys:List (TypeId×Ty):=[(2,(.int .i64)),
  (3,(.int .i64)),
  (4,.bool),
  (5,(.int .u8)),
  (6,(.int .u8)),
  (7,Y7),
  (8,Y7),
  (9,.str),
  (10,.str),
  (11,.str),
  (12,(.int .u64)),
  (21,(.int .i32)),
  (22,Y22),
  (23,Y22),
  (24,Y24),
  (25,Y24),
  (26,(.slice Y183)),
  (27,Y27),
  (28,Y27),
  (29,(.slice Y139)),
  (30,(.slice .str)),
  (31,Y31),
  (32,Y31),
  (33,(.slice Y76)),
  (34,(.slice Y84)),
  (39,(.slice Y76)),
  (42,Y22),
  (43,Y24),
  (44,Y24),
  (46,(.slice Y183)),
  (47,Y27),
  (48,Y27),
  (49,(.slice Y139)),
  (50,Y31),
  (51,Y31),
  (54,(.slice Y84)),
  (63,(.slice Y79)),
  (67,(.slice Y79)),
  (76,Y76),
  (77,Y76),
  (79,Y79),
  (80,Y79),
  (81,(.slice Y162)),
  (82,Y82),
  (83,Y82),
  (84,Y84),
  (85,Y84),
  (95,Y76),
  (97,Y79),
  (98,Y79),
  (99,(.slice Y162)),
  (100,Y82),
  (101,Y82),
  (102,Y84),
  (103,Y84),
  (106,(.slice Y114)),
  (107,(.slice (.int .i64))),
  (114,Y114),
  (115,Y114),
  (139,Y139),
  (140,Y139),
  (145,Y139),
  (162,Y162),
  (163,Y162),
  (172,(.slice (.int .u8))),
  (182,(.slice Y190)),
  (183,Y183),
  (184,Y183),
  (186,(.slice Y190)),
  (187,Y183),
  (188,Y183),
  (190,Y190),
  (191,Y190),
  (206,(.slice Y211)),
  (211,Y211),
  (212,Y211),
  (233,(.slice Y114)),
  (234,Y162),
  (235,Y162),
  (249,(.int .u64)),
  (260,Y139),
  (261,Y139),
  (284,Y190),
  (285,Y190),
  (294,(.int .i64)),
  (301,(.int .u32)),
  (303,(.int .u64)),
  (325,Y114),
  (329,(.int .u64)),
  (374,Y374),
  (375,Y374),
  (383,(.int .u8)),
  (384,(.int .u8)),
  (386,(.int .i32)),
  (387,(.int .i32))]
def ones:List TypeId:=[1,15,16,17,35,36,37,38,41,45,52,53,55,56,57,58,59,60,61,62,64,66,68,69,70,71,72,73,74,75,78,86,87,88,89,90,91,92,93,94,96,104,105,109,110,112,113,116,117,118,119,120,121,122,123,124,125,126,127,128,129,131,132,133,135,136,137,138,141,142,143,144,146,147,149,150,151,152,153,154,155,156,157,158,159,160,161,164,166,167,168,169,170,171,173,174,175,176,177,178,179,180,181,185,189,192,193,194,195,196,197,198,199,200,201,202,203,204,205,208,209,210,213,214,215,216,217,218,219,220,221,222,223,224,226,227,228,229,230,231,232,236,237,238,239,240,241,242,243,244,245,246,247,248,250,251,253,254,255,256,257,258,259,262,263,264,265,266,267,268,269,270,271,272,274,275,276,277,278,279,281,282,283,286,287,288,289,290,291,292,293,296,297,298,299,300,302,304,305,306,307,308,309,310,311,312,313,314,315,317,318,319,320,321,322,323,324,326,327,328,330,331,332,333,334,336,337,338,341,345,346,347,348,349,350,351,352,353,354,355,356,357,359,361,362,364,366,367,369,370,371,372,377,385,390]
theorem tys_ok:tysC Go.Proofs.Tryz.prog tys ones=true:=by kernel_rfl
theorem ty_ok {env:Env} (h1:env.ty=tyTab tys:=by rfl) (h2:env.one=oneTab ones:=by rfl):env.TyOk Go.Proofs.Tryz.prog:=tysC_ok tys_ok h1 h2
end Go.V
