/- What functions of the program compute, printed by a program of ours. No condition. -/
import Derived.Test.YtaggmkdoelocbaaGreatDoorWF1
namespace Go.V
open Go.Proofs
noncomputable section
set_option maxRecDepth 100000
set_option linter.unusedVariables false
def F41_R3 (e0_0:List (List UInt8)×Unit→Option (List (List UInt8)×Unit)) (rec:List (List UInt8)×Int×List (List UInt8)×Unit→Option (List (List UInt8)×Unit)) (x2:List (List UInt8)×Int×List (List UInt8)×Unit):Option (List (List UInt8)×Unit):=
 (cond (decide (x2.2.1<(x2.1.length:Int)))
 (gd (decide ((0:Int)≤x2.2.1))
 (x2.1[x2.2.1.toNat]?.bind fun y4=>
 (gd (decide ((0:Int)≤x2.2.1))
 (gd (decide (x2.2.1<(x2.2.2.1.length:Int)))
 (x2.2.2.1[x2.2.1.toNat]?.bind fun y5=>
 (rec (x2.1,(IntKind.wrap .i64 (x2.2.1+(1:Int))),(List.set x2.2.2.1 x2.2.1.toNat y4),())))))))
 (e0_0 (x2.2.2.1,())))
def F41 (a0:List (List UInt8)):Option (List (List UInt8)×Unit):=
 (gd (decide ((a0.length:Int)≤((4294967296:Nat):Int)))
 (gd (decide ((a0.length:Int)≤(((a0.length:Int).toNat:Nat):Int)))
 (iter (F41_R3
 (fun y6=>
 (some (y6.1,())))) fuel (a0,(0:Int),(List.replicate (a0.length:Int).toNat []),()))))
def C41:Fun:=⟨[(.ro (.slice .str))],[((.slice .str),(.own .z))],fun z=>F41 z.1⟩
def E41:Env:=⟨22,tyTab tys,oneTab ones,fnTab [],true,[],[(3,[0,3,4],[]),(5,[0,3,4],[]),(6,[3],[]),(100000,[3],[]),(100001,[0,3,4],[]),(99999,[2],[])],none,[],[]⟩
def L41:List (LoopS (List (List UInt8)×Unit)):=[⟨3,⟨[(0,(.pv (.slice .str))),(3,(.ref (.slice .str) 56 [])),(4,(.pv (.int .i64)))],[(56,(.data false (.slice .str) (.own .z)))]⟩,fun κ=>F41_R3 (fun y=>κ.exit 0 (SSh.mk' ⟨[(3,(.ref (.slice .str) 56 []))],[(56,(.data false (.slice .str) (.own .z)))]⟩ y))⟩]
theorem L41_3:RoundEq E41 L41 L41[0] (nthLoop (codeOf Tryz.f41) 0):=fun κ N x=>by kernel_rfl
theorem C41_ok:FreshOk Tryz.prog 41 C41:=tF E41 L41 [nthLoop (codeOf Tryz.f41) 0] Tryz.func41 ty_ok .nil (.cons L41[0] (by kernel_rfl) L41_3 .nil)
def F11 (a0:D31):Option (D31×Unit):=
 ((F39 a0.1).bind fun y0=>
 ((F40 a0.2.1).bind fun y1=>
 ((F41 a0.2.2.2.2.1).bind fun y2=>
 (some ((y0.1,(y1.1,(a0.2.2.1,(a0.2.2.2.1,(y2.1,(a0.2.2.2.2.2.1,())))))),())))))
def C11:Fun:=⟨[(.ro Y31)],[(Y31,(.pr (.pr (.own (.pr (.own .z) .z)) .z) (.pr (.own .z) (.pr .z (.pr .z (.pr (.own .z) .z))))))],fun z=>F11 z.1⟩
def E11:Env:=⟨26,tyTab tys,oneTab ones,fnTab [(39,C39),(40,C40),(41,C41)],true,[],[(99999,[2],[])],none,[],[]⟩
def L11:List (LoopS (D31×Unit)):=[]
theorem C11_ok:FreshOk Tryz.prog 11 C11:=tF E11 L11 [] Tryz.func11 ty_ok (.consFr C39_ok (.consFr C40_ok (.consFr C41_ok .nil))) .nil
def F12_R3 (e0_0:List (D76)×Unit→Option (List (D76)×Unit)) (rec:List (D76)×Int×List (D76)×Unit→Option (List (D76)×Unit)) (x2:List (D76)×Int×List (D76)×Unit):Option (List (D76)×Unit):=
 (cond (decide (x2.2.1<(x2.1.length:Int)))
 (gd (decide ((0:Int)≤x2.2.1))
 (x2.1[x2.2.1.toNat]?.bind fun y4=>
 ((F42 y4).bind fun y5=>
 (gd (decide ((0:Int)≤x2.2.1))
 (gd (decide (x2.2.1<(x2.2.2.1.length:Int)))
 (x2.2.2.1[x2.2.1.toNat]?.bind fun y6=>
 (rec (x2.1,(IntKind.wrap .i64 (x2.2.1+(1:Int))),(List.set x2.2.2.1 x2.2.1.toNat y5.1),()))))))))
 (e0_0 (x2.2.2.1,())))
def F12 (a0:List (D76)):Option (List (D76)×Unit):=
 (gd (decide ((a0.length:Int)≤((4294967296:Nat):Int)))
 (gd (decide ((a0.length:Int)≤(((a0.length:Int).toNat:Nat):Int)))
 (iter (F12_R3
 (fun y7=>
 (some (y7.1,())))) fuel (a0,(0:Int),(List.replicate (a0.length:Int).toNat ((0:Int),((0:Int),([],())))),()))))
def C12:Fun:=⟨[(.ro (.slice Y76))],[((.slice Y76),(.own .z))],fun z=>F12 z.1⟩
def E12:Env:=⟨23,tyTab tys,oneTab ones,fnTab [(42,C42)],true,[],[(3,[0,3,4],[]),(5,[0,3,4],[]),(6,[3],[]),(100000,[3],[]),(100001,[0,3,4],[]),(99999,[2],[])],none,[],[]⟩
def L12:List (LoopS (List (D76)×Unit)):=[⟨3,⟨[(0,(.pv (.slice Y76))),(3,(.ref (.slice Y76) 56 [])),(4,(.pv (.int .i64)))],[(56,(.data false (.slice Y76) (.own .z)))]⟩,fun κ=>F12_R3 (fun y=>κ.exit 0 (SSh.mk' ⟨[(3,(.ref (.slice Y76) 56 []))],[(56,(.data false (.slice Y76) (.own .z)))]⟩ y))⟩]
theorem L12_3:RoundEq E12 L12 L12[0] (nthLoop (codeOf Tryz.f12) 0):=fun κ N x=>by kernel_rfl
theorem C12_ok:FreshOk Tryz.prog 12 C12:=tF E12 L12 [nthLoop (codeOf Tryz.f12) 0] Tryz.func12 ty_ok (.cons C42_ok .nil) (.cons L12[0] (by kernel_rfl) L12_3 .nil)
def F72 (a0:D79):Option (D79×Unit):=
 ((F40 a0.2.1).bind fun y0=>
 (some ((a0.1,(y0.1,())),())))
def C72:Fun:=⟨[(.ro Y79)],[(Y79,(.pr .z (.pr (.own .z) .z)))],fun z=>F72 z.1⟩
def E72:Env:=⟨12,tyTab tys,oneTab ones,fnTab [(40,C40)],true,[],[(99999,[2],[])],none,[],[]⟩
def L72:List (LoopS (D79×Unit)):=[]
theorem C72_ok:FreshOk Tryz.prog 72 C72:=tF E72 L72 [] Tryz.func72 ty_ok (.consFr C40_ok .nil) .nil
def F285 (a0:D114):Option (D114×Unit):=
 (some ((a0.1,(a0.2.1,())),()))
def C285:Fun:=⟨[(.ro Y114)],[(Y114,.z)],fun z=>F285 z.1⟩
def E285:Env:=⟨11,tyTab tys,oneTab ones,fnTab [],true,[],[(99999,[2],[])],none,[],[]⟩
def L285:List (LoopS (D114×Unit)):=[]
theorem C285_ok:QuietOk Tryz.prog 285 C285:=tQ E285 L285 [] Tryz.func285 ty_ok .nil .nil
def F246_R3 (e0_0:List (D114)×Unit→Option (List (D114)×Unit)) (rec:List (D114)×Int×List (D114)×Unit→Option (List (D114)×Unit)) (x2:List (D114)×Int×List (D114)×Unit):Option (List (D114)×Unit):=
 (cond (decide (x2.2.1<(x2.1.length:Int)))
 (gd (decide ((0:Int)≤x2.2.1))
 (x2.1[x2.2.1.toNat]?.bind fun y4=>
 ((F285 y4).bind fun y5=>
 (gd (decide ((0:Int)≤x2.2.1))
 (gd (decide (x2.2.1<(x2.2.2.1.length:Int)))
 (x2.2.2.1[x2.2.1.toNat]?.bind fun y6=>
 (rec (x2.1,(IntKind.wrap .i64 (x2.2.1+(1:Int))),(List.set x2.2.2.1 x2.2.1.toNat y5.1),()))))))))
 (e0_0 (x2.2.2.1,())))
def F246 (a0:List (D114)):Option (List (D114)×Unit):=
 (gd (decide ((a0.length:Int)≤((4294967296:Nat):Int)))
 (gd (decide ((a0.length:Int)≤(((a0.length:Int).toNat:Nat):Int)))
 (iter (F246_R3
 (fun y7=>
 (some (y7.1,())))) fuel (a0,(0:Int),(List.replicate (a0.length:Int).toNat ([],((0:Int),()))),()))))
def C246:Fun:=⟨[(.ro (.slice Y114))],[((.slice Y114),(.own .z))],fun z=>F246 z.1⟩
def E246:Env:=⟨23,tyTab tys,oneTab ones,fnTab [(285,C285)],true,[],[(3,[0,3,4],[]),(5,[0,3,4],[]),(6,[3],[]),(100000,[3],[]),(100001,[0,3,4],[]),(99999,[2],[])],none,[],[]⟩
def L246:List (LoopS (List (D114)×Unit)):=[⟨3,⟨[(0,(.pv (.slice Y114))),(3,(.ref (.slice Y114) 56 [])),(4,(.pv (.int .i64)))],[(56,(.data false (.slice Y114) (.own .z)))]⟩,fun κ=>F246_R3 (fun y=>κ.exit 0 (SSh.mk' ⟨[(3,(.ref (.slice Y114) 56 []))],[(56,(.data false (.slice Y114) (.own .z)))]⟩ y))⟩]
theorem L246_3:RoundEq E246 L246 L246[0] (nthLoop (codeOf Tryz.f246) 0):=fun κ N x=>by kernel_rfl
theorem C246_ok:FreshOk Tryz.prog 246 C246:=tF E246 L246 [nthLoop (codeOf Tryz.f246) 0] Tryz.func246 ty_ok (.cons C285_ok .nil) (.cons L246[0] (by kernel_rfl) L246_3 .nil)
def F193 (a0:D162):Option (D162×Unit):=
 ((F246 a0.2.1).bind fun y0=>
 (some ((a0.1,(y0.1,())),())))
def C193:Fun:=⟨[(.ro Y162)],[(Y162,(.pr .z (.pr (.own .z) .z)))],fun z=>F193 z.1⟩
def E193:Env:=⟨12,tyTab tys,oneTab ones,fnTab [(246,C246)],true,[],[(99999,[2],[])],none,[],[]⟩
def L193:List (LoopS (D162×Unit)):=[]
theorem C193_ok:FreshOk Tryz.prog 193 C193:=tF E193 L193 [] Tryz.func193 ty_ok (.consFr C246_ok .nil) .nil
def F140_R3 (e0_0:List (D162)×Unit→Option (List (D162)×Unit)) (rec:List (D162)×Int×List (D162)×Unit→Option (List (D162)×Unit)) (x2:List (D162)×Int×List (D162)×Unit):Option (List (D162)×Unit):=
 (cond (decide (x2.2.1<(x2.1.length:Int)))
 (gd (decide ((0:Int)≤x2.2.1))
 (x2.1[x2.2.1.toNat]?.bind fun y4=>
 ((F193 y4).bind fun y5=>
 (gd (decide ((0:Int)≤x2.2.1))
 (gd (decide (x2.2.1<(x2.2.2.1.length:Int)))
 (x2.2.2.1[x2.2.1.toNat]?.bind fun y6=>
 (rec (x2.1,(IntKind.wrap .i64 (x2.2.1+(1:Int))),(List.set x2.2.2.1 x2.2.1.toNat y5.1),()))))))))
 (e0_0 (x2.2.2.1,())))
def F140 (a0:List (D162)):Option (List (D162)×Unit):=
 (gd (decide ((a0.length:Int)≤((4294967296:Nat):Int)))
 (gd (decide ((a0.length:Int)≤(((a0.length:Int).toNat:Nat):Int)))
 (iter (F140_R3
 (fun y7=>
 (some (y7.1,())))) fuel (a0,(0:Int),(List.replicate (a0.length:Int).toNat ((0:Int),([],()))),()))))
def C140:Fun:=⟨[(.ro (.slice Y162))],[((.slice Y162),(.own (.pr .z (.pr (.own .z) .z))))],fun z=>F140 z.1⟩
def E140:Env:=⟨23,tyTab tys,oneTab ones,fnTab [(193,C193)],true,[],[(3,[0,3,4],[]),(5,[0,3,4],[]),(6,[3],[]),(100000,[3],[]),(100001,[0,3,4],[]),(99999,[2],[])],none,[],[]⟩
def L140:List (LoopS (List (D162)×Unit)):=[⟨3,⟨[(0,(.pv (.slice Y162))),(3,(.ref (.slice Y162) 56 [])),(4,(.pv (.int .i64)))],[(56,(.data false (.slice Y162) (.own (.pr .z (.pr (.own .z) .z)))))]⟩,fun κ=>F140_R3 (fun y=>κ.exit 0 (SSh.mk' ⟨[(3,(.ref (.slice Y162) 56 []))],[(56,(.data false (.slice Y162) (.own (.pr .z (.pr (.own .z) .z)))))]⟩ y))⟩]
theorem L140_3:RoundEq E140 L140 L140[0] (nthLoop (codeOf Tryz.f140) 0):=fun κ N x=>by kernel_rfl
theorem C140_ok:FreshOk Tryz.prog 140 C140:=tF E140 L140 [nthLoop (codeOf Tryz.f140) 0] Tryz.func140 ty_ok (.consFr C193_ok .nil) (.cons L140[0] (by kernel_rfl) L140_3 .nil)
def F90 (a0:D82):Option (D82×Unit):=
 ((F140 a0.1).bind fun y0=>
 (some ((y0.1,(a0.2.1,())),())))
def C90:Fun:=⟨[(.ro Y82)],[(Y82,(.pr (.own (.pr .z (.pr (.own .z) .z))) .z))],fun z=>F90 z.1⟩
def E90:Env:=⟨12,tyTab tys,oneTab ones,fnTab [(140,C140)],true,[],[(99999,[2],[])],none,[],[]⟩
def L90:List (LoopS (D82×Unit)):=[]
theorem C90_ok:FreshOk Tryz.prog 90 C90:=tF E90 L90 [] Tryz.func90 ty_ok (.consFr C140_ok .nil) .nil
def F43 (a0:D84):Option (D84×Unit):=
 ((F72 a0.1).bind fun y0=>
 ((F90 a0.2.1).bind fun y1=>
 (some ((y0.1,(y1.1,())),()))))
def C43:Fun:=⟨[(.ro Y84)],[(Y84,(.pr (.pr .z (.pr (.own .z) .z)) (.pr (.pr (.own (.pr .z (.pr (.own .z) .z))) .z) .z)))],fun z=>F43 z.1⟩
def E43:Env:=⟨13,tyTab tys,oneTab ones,fnTab [(72,C72),(90,C90)],true,[],[(99999,[2],[])],none,[],[]⟩
def L43:List (LoopS (D84×Unit)):=[]
theorem C43_ok:FreshOk Tryz.prog 43 C43:=tF E43 L43 [] Tryz.func43 ty_ok (.consFr C72_ok (.consFr C90_ok .nil)) .nil
def F13_R3 (e0_0:List (D84)×Unit→Option (List (D84)×Unit)) (rec:List (D84)×Int×List (D84)×Unit→Option (List (D84)×Unit)) (x2:List (D84)×Int×List (D84)×Unit):Option (List (D84)×Unit):=
 (cond (decide (x2.2.1<(x2.1.length:Int)))
 (gd (decide ((0:Int)≤x2.2.1))
 (x2.1[x2.2.1.toNat]?.bind fun y4=>
 ((F43 y4).bind fun y5=>
 (gd (decide ((0:Int)≤x2.2.1))
 (gd (decide (x2.2.1<(x2.2.2.1.length:Int)))
 (x2.2.2.1[x2.2.1.toNat]?.bind fun y6=>
 (rec (x2.1,(IntKind.wrap .i64 (x2.2.1+(1:Int))),(List.set x2.2.2.1 x2.2.1.toNat y5.1),()))))))))
 (e0_0 (x2.2.2.1,())))
def F13 (a0:List (D84)):Option (List (D84)×Unit):=
 (gd (decide ((a0.length:Int)≤((4294967296:Nat):Int)))
 (gd (decide ((a0.length:Int)≤(((a0.length:Int).toNat:Nat):Int)))
 (iter (F13_R3
 (fun y7=>
 (some (y7.1,())))) fuel (a0,(0:Int),(List.replicate (a0.length:Int).toNat (([],([],())),(([],((0:Int),())),()))),()))))
def C13:Fun:=⟨[(.ro (.slice Y84))],[((.slice Y84),(.own (.pr (.pr .z (.pr (.own .z) .z)) (.pr (.pr (.own (.pr .z (.pr (.own .z) .z))) .z) .z))))],fun z=>F13 z.1⟩
def E13:Env:=⟨23,tyTab tys,oneTab ones,fnTab [(43,C43)],true,[],[(3,[0,3,4],[]),(5,[0,3,4],[]),(6,[3],[]),(100000,[3],[]),(100001,[0,3,4],[]),(99999,[2],[])],none,[],[]⟩
def L13:List (LoopS (List (D84)×Unit)):=[⟨3,⟨[(0,(.pv (.slice Y84))),(3,(.ref (.slice Y84) 56 [])),(4,(.pv (.int .i64)))],[(56,(.data false (.slice Y84) (.own (.pr (.pr .z (.pr (.own .z) .z)) (.pr (.pr (.own (.pr .z (.pr (.own .z) .z))) .z) .z)))))]⟩,fun κ=>F13_R3 (fun y=>κ.exit 0 (SSh.mk' ⟨[(3,(.ref (.slice Y84) 56 []))],[(56,(.data false (.slice Y84) (.own (.pr (.pr .z (.pr (.own .z) .z)) (.pr (.pr (.own (.pr .z (.pr (.own .z) .z))) .z) .z)))))]⟩ y))⟩]
theorem L13_3:RoundEq E13 L13 L13[0] (nthLoop (codeOf Tryz.f13) 0):=fun κ N x=>by kernel_rfl
theorem C13_ok:FreshOk Tryz.prog 13 C13:=tF E13 L13 [nthLoop (codeOf Tryz.f13) 0] Tryz.func13 ty_ok (.consFr C43_ok .nil) (.cons L13[0] (by kernel_rfl) L13_3 .nil)
def F91_R2 (e0_0:Unit→Option (Int×Unit)) (er_1:Int×Unit→Option (Int×Unit)) (rec:List (D84)×(D84→Option (Bool))×Int×Int×Unit→Option (Int×Unit)) (x2:List (D84)×(D84→Option (Bool))×Int×Int×Unit):Option (Int×Unit):=
 (cond (decide (x2.2.2.2.1<x2.2.2.1))
 (gd (decide ((0:Int)≤x2.2.2.2.1))
 (x2.1[x2.2.2.2.1.toNat]?.bind fun y5=>
 ((x2.2.1 y5).bind fun y6=>
 (cond y6
 (er_1 (x2.2.2.2.1,()))
 (rec (x2.1,x2.2.1,x2.2.2.1,(IntKind.wrap .i64 (x2.2.2.2.1+(1:Int))),()))))))
 (e0_0 (())))
def F91 (a0:List (D84)) (a1:(D84→Option (Bool))):Option (Int×Unit):=
 (iter (F91_R2
 (fun y7=>
 (some ((-(1:Int)),())))
 (fun y8=>
 (some (y8.1,())))) fuel (a0,a1,(a0.length:Int),(0:Int),()))
def C91:Fun:=⟨[(.ro (.slice Y84)),(.fn Y84 .bool)],[((.int .i64),.z)],fun z=>F91 z.1 z.2.1⟩
def E91:=en 19 [] [(2,[0,1,7,8],[]),(3,[0,1,7,8],[]),(6,[0,1,7,8],[]),(7,[],[]),(100000,[],[]),(100001,[0,1,7,8],[]),(99999,[4],[])]
def L91:List (LoopS (Int×Unit)):=[⟨2,⟨[(0,(.pv (.slice Y84))),(1,(.fnA Y84 .bool)),(7,(.pv (.int .i64))),(8,(.pv (.int .i64)))],[]⟩,fun κ=>F91_R2 (fun y=>κ.exit 0 (SSh.mk' ⟨[],[]⟩ y)) (fun y=>κ.ret (SSh.mk' ⟨[(4,(.pv (.int .i64)))],[]⟩ y))⟩]
theorem L91_2:RoundEq E91 L91 L91[0] (nthLoop (codeOf Tryz.f91) 0):=fun κ N x=>by kernel_rfl
theorem C91_ok:QuietOk Tryz.prog 91 C91:=tQ E91 L91 [nthLoop (codeOf Tryz.f91) 0] Tryz.func91 ty_ok .nil (.cons L91[0] (by kernel_rfl) L91_2 .nil)
def F92 (a0:D84) (a1:List UInt8):Option (Bool×Unit):=
 (some ((a0.1.1==a1),()))
def C92:Fun:=⟨[(.ro Y84),(.rp .str)],[(.bool,.z)],fun z=>F92 z.1 z.2.1⟩
def E92:=en 9 [] [(99999,[3],[])]
def L92:List (LoopS (Bool×Unit)):=[]
theorem C92_ok:QuietOk Tryz.prog 92 C92:=tQ E92 L92 [] Tryz.func92 ty_ok .nil .nil
def F44 (a0:List (D84)) (a1:List UInt8):Option (Int×Unit):=
 ((F91 a0 (fun (v3:D84)=>(Option.map (fun (v4:(Bool×Unit))=>v4.1) (F92 v3 a1)))).bind fun y0=>
 (some (y0.1,())))
def C44:Fun:=⟨[(.ro (.slice Y84)),(.ro .str)],[((.int .i64),.z)],fun z=>F44 z.1 z.2.1⟩
def E44:=en 8 [(91,C91),(92,C92)] [(99999,[4],[])]
def L44:List (LoopS (Int×Unit)):=[]
theorem C44_ok:QuietOk Tryz.prog 44 C44:=tQ E44 L44 [] Tryz.func44 ty_ok (.cons C91_ok (.cons C92_ok .nil)) .nil
def F95 (a0:Int) (a1:Int) (a2:Int):Option (Bool×Unit):=
 (cond (decide (a1≤a0))
 (some ((decide (a0≤a2)),()))
 (some (false,())))
def C95:Fun:=⟨[(.ro (.int .i64)),(.ro (.int .i64)),(.ro (.int .i64))],[(.bool,.z)],fun z=>F95 z.1 z.2.1 z.2.2.1⟩
def E95:=en 15 [] [(99999,[6],[])]
def L95:List (LoopS (Bool×Unit)):=[]
theorem C95_ok:QuietOk Tryz.prog 95 C95:=tQ E95 L95 [] Tryz.func95 ty_ok .nil .nil
def F194_R2 (e0_0:Unit→Option (Int×Unit)) (er_1:Int×Unit→Option (Int×Unit)) (rec:List (D183)×(D183→Option (Bool))×Int×Int×Unit→Option (Int×Unit)) (x2:List (D183)×(D183→Option (Bool))×Int×Int×Unit):Option (Int×Unit):=
 (cond (decide (x2.2.2.2.1<x2.2.2.1))
 (gd (decide ((0:Int)≤x2.2.2.2.1))
 (x2.1[x2.2.2.2.1.toNat]?.bind fun y5=>
 ((x2.2.1 y5).bind fun y6=>
 (cond y6
 (er_1 (x2.2.2.2.1,()))
 (rec (x2.1,x2.2.1,x2.2.2.1,(IntKind.wrap .i64 (x2.2.2.2.1+(1:Int))),()))))))
 (e0_0 (())))
def F194 (a0:List (D183)) (a1:(D183→Option (Bool))):Option (Int×Unit):=
 (iter (F194_R2
 (fun y7=>
 (some ((-(1:Int)),())))
 (fun y8=>
 (some (y8.1,())))) fuel (a0,a1,(a0.length:Int),(0:Int),()))
def C194:Fun:=⟨[(.ro (.slice Y183)),(.fn Y183 .bool)],[((.int .i64),.z)],fun z=>F194 z.1 z.2.1⟩
def E194:=en 19 [] [(2,[0,1,7,8],[]),(3,[0,1,7,8],[]),(6,[0,1,7,8],[]),(7,[],[]),(100000,[],[]),(100001,[0,1,7,8],[]),(99999,[4],[])]
def L194:List (LoopS (Int×Unit)):=[⟨2,⟨[(0,(.pv (.slice Y183))),(1,(.fnA Y183 .bool)),(7,(.pv (.int .i64))),(8,(.pv (.int .i64)))],[]⟩,fun κ=>F194_R2 (fun y=>κ.exit 0 (SSh.mk' ⟨[],[]⟩ y)) (fun y=>κ.ret (SSh.mk' ⟨[(4,(.pv (.int .i64)))],[]⟩ y))⟩]
theorem L194_2:RoundEq E194 L194 L194[0] (nthLoop (codeOf Tryz.f194) 0):=fun κ N x=>by kernel_rfl
theorem C194_ok:QuietOk Tryz.prog 194 C194:=tQ E194 L194 [nthLoop (codeOf Tryz.f194) 0] Tryz.func194 ty_ok .nil (.cons L194[0] (by kernel_rfl) L194_2 .nil)
def F141 (a0:List (D183)) (a1:(D183→Option (Bool))):Option (Bool×Unit):=
 ((F194 a0 a1).bind fun y0=>
 (some ((decide (y0.1≥(0:Int))),())))
def C141:Fun:=⟨[(.ro (.slice Y183)),(.fn Y183 .bool)],[(.bool,.z)],fun z=>F141 z.1 z.2.1⟩
def E141:=en 9 [(194,C194)] [(99999,[4],[])]
def L141:List (LoopS (Bool×Unit)):=[]
theorem C141_ok:QuietOk Tryz.prog 141 C141:=tQ E141 L141 [] Tryz.func141 ty_ok (.cons C194_ok .nil) .nil
def F195_R2 (e0_0:Unit→Option (Int×Unit)) (er_1:Int×Unit→Option (Int×Unit)) (rec:List (D190)×(D190→Option (Bool))×Int×Int×Unit→Option (Int×Unit)) (x2:List (D190)×(D190→Option (Bool))×Int×Int×Unit):Option (Int×Unit):=
 (cond (decide (x2.2.2.2.1<x2.2.2.1))
 (gd (decide ((0:Int)≤x2.2.2.2.1))
 (x2.1[x2.2.2.2.1.toNat]?.bind fun y5=>
 ((x2.2.1 y5).bind fun y6=>
 (cond y6
 (er_1 (x2.2.2.2.1,()))
 (rec (x2.1,x2.2.1,x2.2.2.1,(IntKind.wrap .i64 (x2.2.2.2.1+(1:Int))),()))))))
 (e0_0 (())))
def F195 (a0:List (D190)) (a1:(D190→Option (Bool))):Option (Int×Unit):=
 (iter (F195_R2
 (fun y7=>
 (some ((-(1:Int)),())))
 (fun y8=>
 (some (y8.1,())))) fuel (a0,a1,(a0.length:Int),(0:Int),()))
def C195:Fun:=⟨[(.ro (.slice Y190)),(.fn Y190 .bool)],[((.int .i64),.z)],fun z=>F195 z.1 z.2.1⟩
def E195:=en 19 [] [(2,[0,1,7,8],[]),(3,[0,1,7,8],[]),(6,[0,1,7,8],[]),(7,[],[]),(100000,[],[]),(100001,[0,1,7,8],[]),(99999,[4],[])]
def L195:List (LoopS (Int×Unit)):=[⟨2,⟨[(0,(.pv (.slice Y190))),(1,(.fnA Y190 .bool)),(7,(.pv (.int .i64))),(8,(.pv (.int .i64)))],[]⟩,fun κ=>F195_R2 (fun y=>κ.exit 0 (SSh.mk' ⟨[],[]⟩ y)) (fun y=>κ.ret (SSh.mk' ⟨[(4,(.pv (.int .i64)))],[]⟩ y))⟩]
theorem L195_2:RoundEq E195 L195 L195[0] (nthLoop (codeOf Tryz.f195) 0):=fun κ N x=>by kernel_rfl
theorem C195_ok:QuietOk Tryz.prog 195 C195:=tQ E195 L195 [nthLoop (codeOf Tryz.f195) 0] Tryz.func195 ty_ok .nil (.cons L195[0] (by kernel_rfl) L195_2 .nil)
def F143 (a0:List (D190)) (a1:(D190→Option (Bool))):Option (Bool×Unit):=
 ((F195 a0 a1).bind fun y0=>
 (some ((decide (y0.1≥(0:Int))),())))
def C143:Fun:=⟨[(.ro (.slice Y190)),(.fn Y190 .bool)],[(.bool,.z)],fun z=>F143 z.1 z.2.1⟩
def E143:=en 9 [(195,C195)] [(99999,[4],[])]
def L143:List (LoopS (Bool×Unit)):=[]
theorem C143_ok:QuietOk Tryz.prog 143 C143:=tQ E143 L143 [] Tryz.func143 ty_ok (.cons C195_ok .nil) .nil
def F199_R2 (e0_0:Unit→Option (Int×Unit)) (er_1:Int×Unit→Option (Int×Unit)) (rec:List (List UInt8)×(List UInt8→Option (Bool))×Int×Int×Unit→Option (Int×Unit)) (x2:List (List UInt8)×(List UInt8→Option (Bool))×Int×Int×Unit):Option (Int×Unit):=
 (cond (decide (x2.2.2.2.1<x2.2.2.1))
 (gd (decide ((0:Int)≤x2.2.2.2.1))
 (x2.1[x2.2.2.2.1.toNat]?.bind fun y5=>
 ((x2.2.1 y5).bind fun y6=>
 (cond y6
 (er_1 (x2.2.2.2.1,()))
 (rec (x2.1,x2.2.1,x2.2.2.1,(IntKind.wrap .i64 (x2.2.2.2.1+(1:Int))),()))))))
 (e0_0 (())))
def F199 (a0:List (List UInt8)) (a1:(List UInt8→Option (Bool))):Option (Int×Unit):=
 (iter (F199_R2
 (fun y7=>
 (some ((-(1:Int)),())))
 (fun y8=>
 (some (y8.1,())))) fuel (a0,a1,(a0.length:Int),(0:Int),()))
def C199:Fun:=⟨[(.ro (.slice .str)),(.fn .str .bool)],[((.int .i64),.z)],fun z=>F199 z.1 z.2.1⟩
def E199:=en 19 [] [(2,[0,1,7,8],[]),(3,[0,1,7,8],[]),(6,[0,1,7,8],[]),(7,[],[]),(100000,[],[]),(100001,[0,1,7,8],[]),(99999,[4],[])]
def L199:List (LoopS (Int×Unit)):=[⟨2,⟨[(0,(.pv (.slice .str))),(1,(.fnA .str .bool)),(7,(.pv (.int .i64))),(8,(.pv (.int .i64)))],[]⟩,fun κ=>F199_R2 (fun y=>κ.exit 0 (SSh.mk' ⟨[],[]⟩ y)) (fun y=>κ.ret (SSh.mk' ⟨[(4,(.pv (.int .i64)))],[]⟩ y))⟩]
theorem L199_2:RoundEq E199 L199 L199[0] (nthLoop (codeOf Tryz.f199) 0):=fun κ N x=>by kernel_rfl
theorem C199_ok:QuietOk Tryz.prog 199 C199:=tQ E199 L199 [nthLoop (codeOf Tryz.f199) 0] Tryz.func199 ty_ok .nil (.cons L199[0] (by kernel_rfl) L199_2 .nil)
def F149 (a0:List (List UInt8)) (a1:(List UInt8→Option (Bool))):Option (Bool×Unit):=
 ((F199 a0 a1).bind fun y0=>
 (some ((decide (y0.1≥(0:Int))),())))
def C149:Fun:=⟨[(.ro (.slice .str)),(.fn .str .bool)],[(.bool,.z)],fun z=>F149 z.1 z.2.1⟩
def E149:=en 9 [(199,C199)] [(99999,[4],[])]
def L149:List (LoopS (Bool×Unit)):=[]
theorem C149_ok:QuietOk Tryz.prog 149 C149:=tQ E149 L149 [] Tryz.func149 ty_ok (.cons C199_ok .nil) .nil
def F340 (a0:List UInt8) (a1:Int):Option (Int×Unit):=
 ((F344 a0 a1).bind fun y0=>
 (some (y0.1,())))
def C340:Fun:=⟨[(.ro .str),(.ro (.int .u8))],[((.int .i64),.z)],fun z=>F340 z.1 z.2.1⟩
def E340:Env:=⟨8,tyTab tys,oneTab ones,fnTab [],false,[],[(99999,[4],[])],none,[(344,C344)],[]⟩
def L340:List (LoopS (Int×Unit)):=[]
theorem C340_ok:QuietOk Tryz.prog 340 C340:=tQ E340 L340 [] Tryz.func340 ty_ok .nil .nil (hx:=(.cons C344_ok .nil))
def F342 (a0:Int):Option (Int×Unit):=
 (some ((IntKind.wrap .i64 (Int.tdiv (IntKind.wrap .i64 (a0+(16:Int))) (8:Int))),()))
def C342:Fun:=⟨[(.ro (.int .i64))],[((.int .i64),.z)],fun z=>F342 z.1⟩
def E342:=en 6 [] [(99999,[2],[])]
def L342:List (LoopS (Int×Unit)):=[]
theorem C342_ok:QuietOk Tryz.prog 342 C342:=tQ E342 L342 [] Tryz.func342 ty_ok .nil .nil
def F333 (a0:List UInt8) (a1:List UInt8):Option (Int×Unit):=
 (cond ((a1.length:Int)==(0:Int))
 (some ((0:Int),()))
 (cond (a1==a0)
 (some ((0:Int),()))
 (cond ((a1.length:Int)==(1:Int))
 (a1[(0:Int).toNat]?.bind fun y1=>
 ((F340 a0 (((UInt8.toNat y1):Nat):Int)).bind fun y2=>
 (some (y2.1,()))))
 (gd (decide ((a1.length:Int)≥(a0.length:Int)))
 (some ((-(1:Int)),()))))))
def C333:Fun:=⟨[(.ro .str),(.ro .str)],[((.int .i64),.z)],fun z=>F333 z.1 z.2.1⟩
def E333:=en 143 [(340,C340),(342,C342)] [(10,[0,1,5],[]),(15,[0,1,5,6,7,8,9,10],[]),(16,[0,1,5,6,7,8,9,10],[]),(20,[0,1,5,6,7,8,9,10,11],[]),(21,[0,1,5,6,7,8,9,10],[]),(23,[0,1,5,6,7,8,9,10],[]),(29,[],[]),(34,[8,13],[]),(35,[],[]),(100000,[0,1,5],[]),(100001,[],[]),(100002,[0,1,5,6,7,8,9,10],[]),(99999,[4],[])]
def L333:List (LoopS (Int×Unit)):=[]
theorem C333_ok:QuietOk Tryz.prog 333 C333:=tQ E333 L333 [nthLoop (codeOf Tryz.f333) 0] Tryz.func333 ty_ok (.cons C340_ok (.cons C342_ok .nil)) (.skip (by kernel_rfl) .nil)
def F319 (a0:List UInt8) (a1:List UInt8):Option (Int×Unit):=
 ((F333 a0 a1).bind fun y0=>
 (some (y0.1,())))
def C319:Fun:=⟨[(.ro .str),(.ro .str)],[((.int .i64),.z)],fun z=>F319 z.1 z.2.1⟩
def E319:=en 8 [(333,C333)] [(99999,[4],[])]
def L319:List (LoopS (Int×Unit)):=[]
theorem C319_ok:QuietOk Tryz.prog 319 C319:=tQ E319 L319 [] Tryz.func319 ty_ok (.cons C333_ok .nil) .nil
def F318_R6 (er_0:Int×Unit→Option (Int×Unit)) (rec:List UInt8×List UInt8×Int×Unit→Option (Int×Unit)) (x5:List UInt8×List UInt8×Int×Unit):Option (Int×Unit):=
 ((F319 x5.1 x5.2.1).bind fun y6=>
 (cond (y6.1==(-(1:Int)))
 (er_0 (x5.2.2.1,()))
 (gd (decide ((x5.1.length:Int)≤(x5.1.length:Int)))
 (gd (decide ((0:Int)≤(IntKind.wrap .i64 (y6.1+(x5.2.1.length:Int)))))
 (gd (decide ((IntKind.wrap .i64 (y6.1+(x5.2.1.length:Int)))≤(((x5.1.length:Int).toNat:Nat):Int)))
 (rec ((List.drop (IntKind.wrap .i64 (y6.1+(x5.2.1.length:Int))).toNat (List.take (x5.1.length:Int).toNat x5.1)),x5.2.1,(IntKind.wrap .i64 (x5.2.2.1+(1:Int))),())))))))
def F318 (a0:List UInt8) (a1:List UInt8):Option (Int×Unit):=
 (cond ((a1.length:Int)==(0:Int))
 none
 (cond ((a1.length:Int)==(1:Int))
 (a1[(0:Int).toNat]?.bind fun y2=>
 ((F332 a0 (((UInt8.toNat y2):Nat):Int)).bind fun y3=>
 (some (y3.1,()))))
 (iter (F318_R6
 (fun y8=>
 (some (y8.1,())))) fuel (a0,a1,(0:Int),()))))
def C318:Fun:=⟨[(.ro .str),(.ro .str)],[((.int .i64),.z)],fun z=>F318 z.1 z.2.1⟩
def E318:Env:=⟨34,tyTab tys,oneTab ones,fnTab [(319,C319)],false,[],[(3,[0,1],[]),(5,[0,1],[]),(6,[0,1,5],[]),(9,[0,1,5,6],[]),(100000,[],[]),(100001,[0,1,5],[]),(99999,[4],[])],none,[(332,C332)],[]⟩
def L318:List (LoopS (Int×Unit)):=[⟨6,⟨[(0,(.pv .str)),(1,(.pv .str)),(5,(.pv (.int .i64)))],[]⟩,fun κ=>F318_R6 (fun y=>κ.ret (SSh.mk' ⟨[(4,(.pv (.int .i64)))],[]⟩ y))⟩]
theorem L318_6:RoundEq E318 L318 L318[0] (nthLoop (codeOf Tryz.f318) 0):=fun κ N x=>by kernel_rfl
theorem C318_ok:QuietOk Tryz.prog 318 C318:=tQ E318 L318 [nthLoop (codeOf Tryz.f318) 0] Tryz.func318 ty_ok (.cons C319_ok .nil) (.cons L318[0] (by kernel_rfl) L318_6 .nil) (hx:=(.cons C332_ok .nil))
def F286_R11 (e0_0:List UInt8×Int×List (List UInt8)×Unit→Option (List (List UInt8)×Unit)) (rec:List UInt8×List UInt8×Int×Int×Int×List (List UInt8)×Unit→Option (List (List UInt8)×Unit)) (x8:List UInt8×List UInt8×Int×Int×Int×List (List UInt8)×Unit):Option (List (List UInt8)×Unit):=
 (cond (decide (x8.2.2.2.2.1<x8.2.2.2.1))
 ((F319 x8.1 x8.2.1).bind fun y10=>
 (cond (decide (y10.1<(0:Int)))
 (e0_0 (x8.1,x8.2.2.2.2.1,x8.2.2.2.2.2.1,()))
 (gd (decide ((0:Int)≤(IntKind.wrap .i64 (y10.1+x8.2.2.1))))
 (gd (decide ((IntKind.wrap .i64 (y10.1+x8.2.2.1))≤(x8.1.length:Int)))
 (gd (decide ((0:Int)≤x8.2.2.2.2.1))
 (gd (decide (x8.2.2.2.2.1<(x8.2.2.2.2.2.1.length:Int)))
 (x8.2.2.2.2.2.1[x8.2.2.2.2.1.toNat]?.bind fun y12=>
 (gd (decide ((x8.1.length:Int)≤(x8.1.length:Int)))
 (gd (decide ((0:Int)≤(IntKind.wrap .i64 (y10.1+(x8.2.1.length:Int)))))
 (gd (decide ((IntKind.wrap .i64 (y10.1+(x8.2.1.length:Int)))≤(((x8.1.length:Int).toNat:Nat):Int)))
 (rec ((List.drop (IntKind.wrap .i64 (y10.1+(x8.2.1.length:Int))).toNat (List.take (x8.1.length:Int).toNat x8.1)),x8.2.1,x8.2.2.1,x8.2.2.2.1,(IntKind.wrap .i64 (x8.2.2.2.2.1+(1:Int))),(List.set x8.2.2.2.2.2.1 x8.2.2.2.2.1.toNat (List.drop (0:Int).toNat (List.take (IntKind.wrap .i64 (y10.1+x8.2.2.1)).toNat x8.1))),()))))))))))))
 (e0_0 (x8.1,x8.2.2.2.2.1,x8.2.2.2.2.2.1,())))
def F286 (a0:List UInt8) (a1:List UInt8) (a2:Int) (a3:Int):Option (List (List UInt8)×Unit):=
 (cond (a3==(0:Int))
 (some ([],()))
 (cond (a1==[])
 none
 (let j4:List UInt8×List UInt8×Int×Int×Unit→Option (List (List UInt8)×Unit):=fun (y5:List UInt8×List UInt8×Int×Int×Unit)=>
 (gd (decide ((0:Int)≤(cond (decide ((IntKind.wrap .i64 ((y5.1.length:Int)+(1:Int)))<y5.2.2.2.1)) (IntKind.wrap .i64 ((y5.1.length:Int)+(1:Int))) y5.2.2.2.1)))
 (gd (decide ((cond (decide ((IntKind.wrap .i64 ((y5.1.length:Int)+(1:Int)))<y5.2.2.2.1)) (IntKind.wrap .i64 ((y5.1.length:Int)+(1:Int))) y5.2.2.2.1)≤((4294967296:Nat):Int)))
 (gd (decide ((0:Int)≤(cond (decide ((IntKind.wrap .i64 ((y5.1.length:Int)+(1:Int)))<y5.2.2.2.1)) (IntKind.wrap .i64 ((y5.1.length:Int)+(1:Int))) y5.2.2.2.1)))
 (gd (decide ((cond (decide ((IntKind.wrap .i64 ((y5.1.length:Int)+(1:Int)))<y5.2.2.2.1)) (IntKind.wrap .i64 ((y5.1.length:Int)+(1:Int))) y5.2.2.2.1)≤(((cond (decide ((IntKind.wrap .i64 ((y5.1.length:Int)+(1:Int)))<y5.2.2.2.1)) (IntKind.wrap .i64 ((y5.1.length:Int)+(1:Int))) y5.2.2.2.1).toNat:Nat):Int)))
 (iter (F286_R11
 (fun y13=>
 (gd (decide ((0:Int)≤y13.2.1))
 (gd (decide (y13.2.1<(y13.2.2.1.length:Int)))
 (y13.2.2.1[y13.2.1.toNat]?.bind fun y14=>
 (gd (decide ((0:Int)≤(IntKind.wrap .i64 (y13.2.1+(1:Int)))))
 (gd (decide ((IntKind.wrap .i64 (y13.2.1+(1:Int)))≤(((List.set y13.2.2.1 y13.2.1.toNat y13.1).length:Nat):Int)))
 (some ((List.drop (0:Int).toNat (List.take (IntKind.wrap .i64 (y13.2.1+(1:Int))).toNat (List.set y13.2.2.1 y13.2.1.toNat y13.1))),()))))))))) fuel (y5.1,y5.2.1,y5.2.2.1,(IntKind.wrap .i64 ((cond (decide ((IntKind.wrap .i64 ((y5.1.length:Int)+(1:Int)))<y5.2.2.2.1)) (IntKind.wrap .i64 ((y5.1.length:Int)+(1:Int))) y5.2.2.2.1)-(1:Int))),(0:Int),(List.replicate (cond (decide ((IntKind.wrap .i64 ((y5.1.length:Int)+(1:Int)))<y5.2.2.2.1)) (IntKind.wrap .i64 ((y5.1.length:Int)+(1:Int))) y5.2.2.2.1).toNat []),()))))))
 (cond (decide (a3<(0:Int)))
 ((F318 a0 a1).bind fun y3=>
 (j4 (a0,a1,a2,(IntKind.wrap .i64 (y3.1+(1:Int))),())))
 (j4 (a0,a1,a2,a3,()))))))
def C286:Fun:=⟨[(.ro .str),(.ro .str),(.ro (.int .i64)),(.ro (.int .i64))],[((.slice .str),.z)],fun z=>F286 z.1 z.2.1 z.2.2.1 z.2.2.2.1⟩
def E286:=en 66 [(318,C318),(319,C319)] [(3,[0,1,2,3],[]),(5,[0,1,2,3],[]),(7,[0,1,2,3],[]),(11,[0,1,2,3,9,10],[]),(12,[0,1,2,3,9,10],[]),(14,[0,1,2,3,9,10,11],[]),(17,[0,9,10],[]),(100000,[0,9,10],[]),(100001,[0,1,2,3,9,10],[]),(99999,[8],[])]
def L286:List (LoopS (List (List UInt8)×Unit)):=[⟨11,⟨[(0,(.pv .str)),(1,(.pv .str)),(2,(.pv (.int .i64))),(3,(.pv (.int .i64))),(9,(.ref (.slice .str) 248 [])),(10,(.pv (.int .i64)))],[(248,(.data false (.slice .str) (.own .z)))]⟩,fun κ=>F286_R11 (fun y=>κ.exit 0 (SSh.mk' ⟨[(0,(.pv .str)),(9,(.ref (.slice .str) 248 [])),(10,(.pv (.int .i64)))],[(248,(.data false (.slice .str) (.own .z)))]⟩ y))⟩]
theorem L286_11:RoundEq E286 L286 L286[0] (nthLoop (codeOf Tryz.f286) 0):=fun κ N x=>by kernel_rfl
theorem C286_ok:QuietOk Tryz.prog 286 C286:=tQ E286 L286 [nthLoop (codeOf Tryz.f286) 0] Tryz.func286 ty_ok (.cons C318_ok (.cons C319_ok .nil)) (.cons L286[0] (by kernel_rfl) L286_11 .nil)
def F247 (a0:List UInt8) (a1:List UInt8):Option (List (List UInt8)×Unit):=
 ((F286 a0 a1 (0:Int) (-(1:Int))).bind fun y0=>
 (some (y0.1,())))
def C247:Fun:=⟨[(.ro .str),(.ro .str)],[((.slice .str),.z)],fun z=>F247 z.1 z.2.1⟩
def E247:=en 8 [(286,C286)] [(99999,[4],[])]
def L247:List (LoopS (List (List UInt8)×Unit)):=[]
theorem C247_ok:QuietOk Tryz.prog 247 C247:=tQ E247 L247 [] Tryz.func247 ty_ok (.cons C286_ok .nil) .nil
def F200 (a0:Int):Option (Bool×Unit):=
 (cond (decide (a0≥(97:Int)))
 (cond (decide (a0≤(122:Int)))
 (some (true,()))
 (cond (decide (a0≥(65:Int)))
 (cond (decide (a0≤(90:Int)))
 (some (true,()))
 (some ((a0==(95:Int)),())))
 (some ((a0==(95:Int)),()))))
 (cond (decide (a0≥(65:Int)))
 (cond (decide (a0≤(90:Int)))
 (some (true,()))
 (some ((a0==(95:Int)),())))
 (some ((a0==(95:Int)),()))))
def C200:Fun:=⟨[(.ro (.int .u8))],[(.bool,.z)],fun z=>F200 z.1⟩
def E200:=en 21 [] [(99999,[2],[])]
def L200:List (LoopS (Bool×Unit)):=[]
theorem C200_ok:QuietOk Tryz.prog 200 C200:=tQ E200 L200 [] Tryz.func200 ty_ok .nil .nil
def F201 (a0:Int):Option (Bool×Unit):=
 (cond (decide (a0≥(48:Int)))
 (some ((decide (a0≤(57:Int))),()))
 (some (false,())))
def C201:Fun:=⟨[(.ro (.int .u8))],[(.bool,.z)],fun z=>F201 z.1⟩
def E201:=en 9 [] [(99999,[2],[])]
def L201:List (LoopS (Bool×Unit)):=[]
theorem C201_ok:QuietOk Tryz.prog 201 C201:=tQ E201 L201 [] Tryz.func201 ty_ok .nil .nil
def F151_R2 (e0_0:List UInt8×Unit→Option (Bool×Unit)) (er_1:Bool×Unit→Option (Bool×Unit)) (rec:List UInt8×Int×Int×Unit→Option (Bool×Unit)) (x2:List UInt8×Int×Int×Unit):Option (Bool×Unit):=
 (cond (decide (x2.2.2.1<x2.2.1))
 (let j9:List UInt8×Int×Int×Unit→Option (Bool×Unit):=fun (y10:List UInt8×Int×Int×Unit)=>
 (rec (y10.1,y10.2.1,(IntKind.wrap .i64 (y10.2.2.1+(1:Int))),()))
 (gd (decide ((0:Int)≤x2.2.2.1))
 (x2.1[x2.2.2.1.toNat]?.bind fun y5=>
 ((F200 (((UInt8.toNat y5):Nat):Int)).bind fun y6=>
 (cond (!y6.1)
 (gd (decide ((0:Int)≤x2.2.2.1))
 (x2.1[x2.2.2.1.toNat]?.bind fun y7=>
 ((F201 (((UInt8.toNat y7):Nat):Int)).bind fun y8=>
 (cond (!y8.1)
 (er_1 (false,()))
 (cond (x2.2.2.1==(0:Int))
 (er_1 (false,()))
 (j9 (x2.1,x2.2.1,x2.2.2.1,())))))))
 (j9 (x2.1,x2.2.1,x2.2.2.1,())))))))
 (e0_0 (x2.1,())))
def F151 (a0:List UInt8):Option (Bool×Unit):=
 (iter (F151_R2
 (fun y11=>
 ((F95 (y11.1.length:Int) (1:Int) (40:Int)).bind fun y13=>
 (some (y13.1,()))))
 (fun y12=>
 (some (y12.1,())))) fuel (a0,(a0.length:Int),(0:Int),()))
def C151:Fun:=⟨[(.ro .str)],[(.bool,.z)],fun z=>F151 z.1⟩
def E151:=en 29 [(95,C95),(200,C200),(201,C201)] [(2,[0,5,6],[]),(3,[0,5,6],[]),(6,[0,5,6],[]),(7,[0],[]),(100000,[0],[]),(100001,[0,5,6],[]),(99999,[2],[])]
def L151:List (LoopS (Bool×Unit)):=[⟨2,⟨[(0,(.pv .str)),(5,(.pv (.int .i64))),(6,(.pv (.int .i64)))],[]⟩,fun κ=>F151_R2 (fun y=>κ.exit 0 (SSh.mk' ⟨[(0,(.pv .str))],[]⟩ y)) (fun y=>κ.ret (SSh.mk' ⟨[(2,(.pv .bool))],[]⟩ y))⟩]
theorem L151_2:RoundEq E151 L151 L151[0] (nthLoop (codeOf Tryz.f151) 0):=fun κ N x=>by kernel_rfl
theorem C151_ok:QuietOk Tryz.prog 151 C151:=tQ E151 L151 [nthLoop (codeOf Tryz.f151) 0] Tryz.func151 ty_ok (.cons C95_ok (.cons C200_ok (.cons C201_ok .nil))) (.cons L151[0] (by kernel_rfl) L151_2 .nil)
def F97 (a0:List UInt8):Option (Bool×Unit):=
 (cond (decide ((a0.length:Int)≤(12:Int)))
 ((F151 a0).bind fun y0=>
 (some (y0.1,())))
 (some (false,())))
def C97:Fun:=⟨[(.ro .str)],[(.bool,.z)],fun z=>F97 z.1⟩
def E97:=en 10 [(151,C151)] [(99999,[2],[])]
def L97:List (LoopS (Bool×Unit)):=[]
theorem C97_ok:QuietOk Tryz.prog 97 C97:=tQ E97 L97 [] Tryz.func97 ty_ok (.cons C151_ok .nil) .nil
def F248 (a0:List UInt8):Option (Bool×Unit):=
 ((F97 a0).bind fun y0=>
 (some ((!y0.1),())))
def C248:Fun:=⟨[(.ro .str)],[(.bool,.z)],fun z=>F248 z.1⟩
def E248:=en 6 [(97,C97)] [(99999,[2],[])]
def L248:List (LoopS (Bool×Unit)):=[]
theorem C248_ok:QuietOk Tryz.prog 248 C248:=tQ E248 L248 [] Tryz.func248 ty_ok (.cons C97_ok .nil) .nil
def F196 (a0:List UInt8):Option (Bool×Unit):=
 ((F247 a0 [(46:UInt8)]).bind fun y0=>
 (cond (decide ((a0.length:Int)≤(50:Int)))
 (cond (decide ((y0.1.length:Int)≤(4:Int)))
 ((F149 y0.1 (fun (v3:List UInt8)=>(Option.map (fun (v4:(Bool×Unit))=>v4.1) (F248 v3)))).bind fun y1=>
 (some ((!y1.1),())))
 (some (false,())))
 (some (false,()))))
def C196:Fun:=⟨[(.ro .str)],[(.bool,.z)],fun z=>F196 z.1⟩
def E196:=en 19 [(149,C149),(247,C247),(248,C248)] [(99999,[2],[])]
def L196:List (LoopS (Bool×Unit)):=[]
theorem C196_ok:QuietOk Tryz.prog 196 C196:=tQ E196 L196 [] Tryz.func196 ty_ok (.cons C149_ok (.cons C247_ok (.cons C248_ok .nil))) .nil
def F110_R2 (e0_0:Unit→Option (Int×Unit)) (er_1:Int×Unit→Option (Int×Unit)) (rec:List (D76)×(D76→Option (Bool))×Int×Int×Unit→Option (Int×Unit)) (x2:List (D76)×(D76→Option (Bool))×Int×Int×Unit):Option (Int×Unit):=
 (cond (decide (x2.2.2.2.1<x2.2.2.1))
 (gd (decide ((0:Int)≤x2.2.2.2.1))
 (x2.1[x2.2.2.2.1.toNat]?.bind fun y5=>
 ((x2.2.1 y5).bind fun y6=>
 (cond y6
 (er_1 (x2.2.2.2.1,()))
 (rec (x2.1,x2.2.1,x2.2.2.1,(IntKind.wrap .i64 (x2.2.2.2.1+(1:Int))),()))))))
 (e0_0 (())))
def F110 (a0:List (D76)) (a1:(D76→Option (Bool))):Option (Int×Unit):=
 (iter (F110_R2
 (fun y7=>
 (some ((-(1:Int)),())))
 (fun y8=>
 (some (y8.1,())))) fuel (a0,a1,(a0.length:Int),(0:Int),()))
def C110:Fun:=⟨[(.ro (.slice Y76)),(.fn Y76 .bool)],[((.int .i64),.z)],fun z=>F110 z.1 z.2.1⟩
def E110:=en 19 [] [(2,[0,1,7,8],[]),(3,[0,1,7,8],[]),(6,[0,1,7,8],[]),(7,[],[]),(100000,[],[]),(100001,[0,1,7,8],[]),(99999,[4],[])]
def L110:List (LoopS (Int×Unit)):=[⟨2,⟨[(0,(.pv (.slice Y76))),(1,(.fnA Y76 .bool)),(7,(.pv (.int .i64))),(8,(.pv (.int .i64)))],[]⟩,fun κ=>F110_R2 (fun y=>κ.exit 0 (SSh.mk' ⟨[],[]⟩ y)) (fun y=>κ.ret (SSh.mk' ⟨[(4,(.pv (.int .i64)))],[]⟩ y))⟩]
theorem L110_2:RoundEq E110 L110 L110[0] (nthLoop (codeOf Tryz.f110) 0):=fun κ N x=>by kernel_rfl
theorem C110_ok:QuietOk Tryz.prog 110 C110:=tQ E110 L110 [nthLoop (codeOf Tryz.f110) 0] Tryz.func110 ty_ok .nil (.cons L110[0] (by kernel_rfl) L110_2 .nil)
def F203 (a0:List (D76)) (a1:(D76→Option (Bool))):Option (Bool×Unit):=
 ((F110 a0 a1).bind fun y0=>
 (some ((decide (y0.1≥(0:Int))),())))
def C203:Fun:=⟨[(.ro (.slice Y76)),(.fn Y76 .bool)],[(.bool,.z)],fun z=>F203 z.1 z.2.1⟩
def E203:=en 9 [(110,C110)] [(99999,[4],[])]
def L203:List (LoopS (Bool×Unit)):=[]
theorem C203_ok:QuietOk Tryz.prog 203 C203:=tQ E203 L203 [] Tryz.func203 ty_ok (.cons C110_ok .nil) .nil
def F287 (a0:Int):Option (Bool×Unit):=
 ((F95 a0 (-(1000000000000:Int)) (1000000000000:Int)).bind fun y0=>
 (some (y0.1,())))
def C287:Fun:=⟨[(.ro (.int .i64))],[(.bool,.z)],fun z=>F287 z.1⟩
def E287:=en 5 [(95,C95)] [(99999,[2],[])]
def L287:List (LoopS (Bool×Unit)):=[]
theorem C287_ok:QuietOk Tryz.prog 287 C287:=tQ E287 L287 [] Tryz.func287 ty_ok (.cons C95_ok .nil) .nil
def F215 (a0:D139) (a1:Int):Option (List UInt8×D139×Unit):=
 (cond (decide (a1>(a0.1.length:Int)))
 ((F264 [(0:UInt8)] a1).bind fun y1=>
 (some (y1.1,((a0.1,(true,a0.2.2)),()))))
 (gd (decide ((0:Int)≤a1))
 (gd (decide (a1≤(a0.1.length:Int)))
 (gd (decide ((a0.1.length:Int)≤(a0.1.length:Int)))
 (gd (decide ((0:Int)≤a1))
 (gd (decide (a1≤(((a0.1.length:Int).toNat:Nat):Int)))
 (some ((List.drop (0:Int).toNat (List.take a1.toNat a0.1)),(((List.drop a1.toNat (List.take (a0.1.length:Int).toNat a0.1)),a0.2),())))))))))
def C215:Fun:=⟨[(.io Y139 .z),(.ro (.int .i64))],[(.str,.z)],fun z=>F215 z.1 z.2.1⟩
def E215:=en 34 [(264,C264)] [(4,[0,1],[4]),(99999,[4],[4])]
def L215:List (LoopS (List UInt8×D139×Unit)):=[]
theorem C215_ok:IoOk Tryz.prog 215 C215:=tI E215 L215 [] Tryz.func215 ty_ok (.cons C264_ok .nil) (fun p=>.nil)
def F265_R3 (e0_0:Int×Unit→Option (Int×Unit)) (rec:Int×List (Int)×Int×Int×Unit→Option (Int×Unit)) (x2:Int×List (Int)×Int×Int×Unit):Option (Int×Unit):=
 (cond (decide (x2.2.2.2.1<x2.2.2.1))
 (gd (decide ((0:Int)≤x2.2.2.2.1))
 (x2.2.1[x2.2.2.2.1.toNat]?.bind fun y4=>
 (rec ((IntKind.wrap .i64 (((BitVec.toNat (HOr.hOr (BitVec.ofInt (IntKind.bits IntKind.i64) (IntKind.wrap .i64 (x2.1*((2:Int) ^ (Min.min (8:Int).toNat (IntKind.bits IntKind.i64)))))) (BitVec.ofInt (IntKind.bits IntKind.i64) (IntKind.wrap .i64 y4)))):Nat):Int)),x2.2.1,x2.2.2.1,(IntKind.wrap .i64 (x2.2.2.2.1+(1:Int))),()))))
 (e0_0 (x2.1,())))
def F265 (a0:List (Int)):Option (Int×Unit):=
 (iter (F265_R3
 (fun y5=>
 (some (y5.1,())))) fuel ((0:Int),a0,(a0.length:Int),(0:Int),()))
def C265:Fun:=⟨[(.ro (.slice (.int .u8)))],[((.int .i64),.z)],fun z=>F265 z.1⟩
def E265:=en 19 [] [(3,[3,6,7,8],[]),(4,[3,6,7,8],[]),(7,[3],[]),(100000,[3],[]),(100001,[3,6,7,8],[]),(99999,[2],[])]
def L265:List (LoopS (Int×Unit)):=[⟨3,⟨[(3,(.pv (.int .i64))),(6,(.pv (.slice (.int .u8)))),(7,(.pv (.int .i64))),(8,(.pv (.int .i64)))],[]⟩,fun κ=>F265_R3 (fun y=>κ.exit 0 (SSh.mk' ⟨[(3,(.pv (.int .i64)))],[]⟩ y))⟩]
theorem L265_3:RoundEq E265 L265 L265[0] (nthLoop (codeOf Tryz.f265) 0):=fun κ N x=>by kernel_rfl
theorem C265_ok:QuietOk Tryz.prog 265 C265:=tQ E265 L265 [nthLoop (codeOf Tryz.f265) 0] Tryz.func265 ty_ok .nil (.cons L265[0] (by kernel_rfl) L265_3 .nil)
def F216 (a0:D139) (a1:Int):Option (Int×D139×Unit):=
 ((F215 a0 a1).bind fun y0=>
 ((F265 (List.map (fun (v4:UInt8)=>(((UInt8.toNat v4):Nat):Int)) y0.1)).bind fun y1=>
 (some (y1.1,(y0.2.1,())))))
def C216:Fun:=⟨[(.io Y139 .z),(.ro (.int .i64))],[((.int .i64),.z)],fun z=>F216 z.1 z.2.1⟩
def E216:=en 10 [(215,C215),(265,C265)] [(99999,[4],[4])]
def L216:List (LoopS (Int×D139×Unit)):=[]
theorem C216_ok:IoOk Tryz.prog 216 C216:=tI E216 L216 [] Tryz.func216 ty_ok (.consIo C215_ok (.cons C265_ok .nil)) (fun p=>.nil)
end
end Go.V
