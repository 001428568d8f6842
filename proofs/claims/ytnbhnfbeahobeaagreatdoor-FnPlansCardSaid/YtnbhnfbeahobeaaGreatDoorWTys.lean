/- The types of this seat's program, as the evaluator has them. No condition. -/
import Derived.Test.YtnbhnfbeahobeaaGreatDoorEd
import Derived.Test.YtnbhnfbeahobeaaGreatDoorProg
namespace Go.V
set_option maxRecDepth 100000
abbrev rJ:Ty:=(.pair (.int .u8) (.pair (.int .u8) .unit))
abbrev yg:Type:=(Int×(Int×Unit))
abbrev If:Ty:=(.pair .str (.pair .bool .unit))
abbrev Hp:Type:=(List UInt8×(Bool×Unit))
abbrev En:Ty:=(.pair .str (.pair (.int .i64) .unit))
abbrev Gz:Type:=(List UInt8×(Int×Unit))
abbrev Ax:Ty:=(.pair (.int .i64) (.pair (.int .i64) (.pair .str .unit)))
abbrev AE:Type:=(Int×(Int×(List UInt8×Unit)))
abbrev IB:Ty:=(.pair .str If)
abbrev NO:Type:=(List UInt8×Hp)
abbrev MI:Ty:=(.pair (.slice (.int .u8)) (.pair (.int .i64) (.pair (.int .i64) .unit)))
abbrev Hq:Type:=(List (Int)×yg)
abbrev Y7:Ty:=(.pair (.int .i64) (.pair (.int .i64) (.pair .bool (.pair (.int .u8) .unit))))
abbrev D7:Type:=(Int×(Int×(Bool×(Int×Unit))))
abbrev LN:Ty:=(.pair (.int .i64) (.pair (.slice En) .unit))
abbrev MJ:Type:=(Int×(List (Gz)×Unit))
abbrev Xs:Ty:=(.pair .str (.pair (.slice If) .unit))
abbrev UU:Type:=(List UInt8×(List (Hp)×Unit))
abbrev AX:Ty:=(.pair .str (.pair Ax .unit))
abbrev BN:Type:=(List UInt8×(AE×Unit))
abbrev GI:Ty:=(.pair (.int .i64) AX)
abbrev DC:Type:=(Int×BN)
abbrev Y':Ty:=(.pair .str (.pair IB (.pair (.int .i64) .unit)))
abbrev fN:Type:=(List UInt8×(NO×(Int×Unit)))
abbrev JG:Ty:=(.pair (.slice LN) (.pair (.int .i64) .unit))
abbrev Lq:Type:=(List (MJ)×(Int×Unit))
abbrev IC:Ty:=(.pair (.slice GI) .unit)
abbrev HI:Type:=(List (DC)×Unit)
abbrev Rk:Ty:=(.pair (.slice IC) .unit)
abbrev SG:Type:=(List (HI)×Unit)
abbrev HF:Ty:=(.pair Xs (.pair JG .unit))
abbrev Ig:Type:=(UU×(Lq×Unit))
abbrev Mi:Ty:=(.pair Rk (.pair (.slice If) (.pair (.int .i64) (.pair (.int .i64) (.pair (.slice .str) (.pair .str .unit))))))
abbrev LO:Type:=(SG×(List (Hp)×(Int×(Int×(List (List UInt8)×(List UInt8×Unit))))))

def tys:List (TypeId×Ty):=[(2,(.int .i64)),
  (3,(.int .i64)),
  (4,.bool),
  (5,(.int .u8)),
  (6,(.int .u8)),
  (7,Y7),
  (8,Y7),
  (9,.str),
  (10,.str),
  (11,.str),
  (12,(.int .u64)),
  (21,(.int .i32)),
  (22,(.slice (.int .u8))),
  (23,(.slice IC)),
  (24,Rk),
  (25,Rk),
  (26,(.slice If)),
  (27,(.slice .str)),
  (28,Mi),
  (29,Mi),
  (31,(.slice Ax)),
  (33,Xs),
  (34,Xs),
  (36,(.slice LN)),
  (37,JG),
  (38,JG),
  (39,HF),
  (40,HF),
  (43,(.slice HF)),
  (46,IB),
  (47,IB),
  (48,Y'),
  (49,Y'),
  (68,(.slice En)),
  (71,(.slice (.int .i64))),
  (75,Ax),
  (76,Ax),
  (80,En),
  (81,En),
  (89,MI),
  (90,MI),
  (95,If),
  (96,If),
  (109,LN),
  (110,LN),
  (121,(.slice GI)),
  (122,IC),
  (123,IC),
  (125,GI),
  (126,GI),
  (136,AX),
  (137,AX),
  (138,(.slice AX)),
  (177,(.int .u64)),
  (188,If),
  (189,If),
  (212,(.int .i64)),
  (219,(.int .u32)),
  (221,(.int .u64)),
  (232,(.int .u64)),
  (269,rJ),
  (270,rJ),
  (278,(.int .u8)),
  (279,(.int .u8)),
  (281,(.int .i32)),
  (282,(.int .i32))]
def ones:List TypeId:=[1,15,16,17,30,32,35,42,45,51,52,53,54,55,56,57,58,59,60,61,62,63,64,65,66,67,69,70,73,74,78,79,82,83,84,85,86,87,88,91,92,93,94,97,98,99,100,101,102,103,104,105,106,107,108,111,112,113,114,115,116,118,119,120,124,127,128,129,130,131,132,133,134,135,139,140,142,143,144,145,146,148,149,150,151,152,153,154,155,157,158,159,160,161,162,163,164,165,166,167,168,169,170,171,172,173,174,175,176,178,179,181,182,183,184,185,186,187,190,191,192,193,194,195,197,198,199,200,201,202,203,204,205,206,207,208,209,210,211,214,215,216,217,218,220,222,223,224,225,226,227,228,229,230,231,233,234,235,236,237,239,240,241,244,248,249,250,251,252,254,256,258,259,260,262,264,265,267,272,280,285]
theorem tys_ok:nU Go.Proofs.Tryz.prog tys ones=true:=by kernel_rfl
theorem Ag {env:Bf} (h1:env.ty=Et tys:=by rfl) (h2:env.one=CK ones:=by rfl):env.TyOk Go.Proofs.Tryz.prog:=tysC_ok tys_ok h1 h2
end Go.V
