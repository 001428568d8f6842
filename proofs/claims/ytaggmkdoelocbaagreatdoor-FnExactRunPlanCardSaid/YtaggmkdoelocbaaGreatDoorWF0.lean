/- What functions of the program compute, printed by a program of ours. No condition. -/
import Derived.Test.YtaggmkdoelocbaaGreatDoorWSort
namespace Go.V
open Go.Proofs
noncomputable section
set_option maxRecDepth 100000
set_option linter.unusedVariables false
def en (n:Nat) (l:List (FuncId×Fun)) (h:List (Nat×List Nat×List Name)):Env:=⟨n,tyTab tys,oneTab ones,fnTab l,false,[],h,none,[],[]⟩
def F27 (a0:D22) (a1:Int):Option (Int×Unit):=
 (cond (decide ((IntKind.wrap .i64 (a1-(a0.1.length:Int)))<(0:Int)))
 (some ((-(1:Int)),()))
 (cond (decide ((IntKind.wrap .i64 ((IntKind.wrap .i64 (a1-(a0.1.length:Int)))-(a0.2.1.length:Int)))<(0:Int)))
 (some ((-(1:Int)),()))
 (some ((IntKind.wrap .i64 ((IntKind.wrap .i64 (a1-(a0.1.length:Int)))-(a0.2.1.length:Int))),()))))
def C27:Fun:=⟨[(.ro Y22),(.ro (.int .i64))],[((.int .i64),.z)],fun z=>F27 z.1 z.2.1⟩
def E27:=en 20 [] [(4,[1,2],[]),(7,[1],[]),(99999,[4],[])]
def L27:List (LoopS (Int×Unit)):=[]
theorem C27_ok:QuietOk Tryz.prog 27 C27:=tQ E27 L27 [] Tryz.func27 ty_ok .nil .nil
def F5 (a0:D24) (a1:Int):Option (Int×Unit):=
 (cond (decide ((IntKind.wrap .i64 (a1-(a0.1.length:Int)))<(0:Int)))
 (some ((-(1:Int)),()))
 ((F27 a0.2.1 (IntKind.wrap .i64 (a1-(a0.1.length:Int)))).bind fun y1=>
 (cond (decide (y1.1<(0:Int)))
 (some ((-(1:Int)),()))
 (some (y1.1,())))))
def C5:Fun:=⟨[(.ro Y24),(.ro (.int .i64))],[((.int .i64),.z)],fun z=>F5 z.1 z.2.1⟩
def E5:=en 19 [(27,C27)] [(4,[1,2],[]),(7,[1],[]),(99999,[4],[])]
def L5:List (LoopS (Int×Unit)):=[]
theorem C5_ok:QuietOk Tryz.prog 5 C5:=tQ E5 L5 [] Tryz.func5 ty_ok (.cons C27_ok .nil) .nil
def F31 (a0:D76) (a1:Int):Option (Int×Unit):=
 (cond (decide ((IntKind.wrap .i64 (a1-(a0.2.2.1.length:Int)))<(0:Int)))
 (some ((-(1:Int)),()))
 (some ((IntKind.wrap .i64 (a1-(a0.2.2.1.length:Int))),())))
def C31:Fun:=⟨[(.ro Y76),(.ro (.int .i64))],[((.int .i64),.z)],fun z=>F31 z.1 z.2.1⟩
def E31:=en 13 [] [(4,[1],[]),(99999,[4],[])]
def L31:List (LoopS (Int×Unit)):=[]
theorem C31_ok:QuietOk Tryz.prog 31 C31:=tQ E31 L31 [] Tryz.func31 ty_ok .nil .nil
def F240 (a0:D190) (a1:Int):Option (Int×Unit):=
 (cond (decide ((IntKind.wrap .i64 (a1-(a0.2.1.length:Int)))<(0:Int)))
 (some ((-(1:Int)),()))
 ((F31 a0.2.2.1 (IntKind.wrap .i64 (a1-(a0.2.1.length:Int)))).bind fun y1=>
 (cond (decide (y1.1<(0:Int)))
 (some ((-(1:Int)),()))
 (some (y1.1,())))))
def C240:Fun:=⟨[(.ro Y190),(.ro (.int .i64))],[((.int .i64),.z)],fun z=>F240 z.1 z.2.1⟩
def E240:=en 19 [(31,C31)] [(4,[1,2],[]),(7,[1],[]),(99999,[4],[])]
def L240:List (LoopS (Int×Unit)):=[]
theorem C240_ok:QuietOk Tryz.prog 240 C240:=tQ E240 L240 [] Tryz.func240 ty_ok (.cons C31_ok .nil) .nil
def F186_R5 (e0_0:Int×Unit→Option (Int×Unit)) (er_1:Int×Unit→Option (Int×Unit)) (rec:List (D190)×Int×Int×Unit→Option (Int×Unit)) (x3:List (D190)×Int×Int×Unit):Option (Int×Unit):=
 (cond (decide (x3.2.2.1<(x3.1.length:Int)))
 (gd (decide ((0:Int)≤x3.2.2.1))
 (x3.1[x3.2.2.1.toNat]?.bind fun y6=>
 ((F240 y6 x3.2.1).bind fun y7=>
 (cond (decide (y7.1<(0:Int)))
 (er_1 ((-(1:Int)),()))
 (rec (x3.1,y7.1,(IntKind.wrap .i64 (x3.2.2.1+(1:Int))),()))))))
 (e0_0 (x3.2.1,())))
def F186 (a0:List (D190)) (a1:Int):Option (Int×Unit):=
 (cond (decide ((IntKind.wrap .i64 (a1-(a0.length:Int)))<(0:Int)))
 (some ((-(1:Int)),()))
 (iter (F186_R5
 (fun y8=>
 (some (y8.1,())))
 (fun y9=>
 (some (y9.1,())))) fuel (a0,(IntKind.wrap .i64 (a1-(a0.length:Int))),(0:Int),())))
def C186:Fun:=⟨[(.ro (.slice Y190)),(.ro (.int .i64))],[((.int .i64),.z)],fun z=>F186 z.1 z.2.1⟩
def E186:=en 27 [(240,C240)] [(4,[0,1],[]),(5,[0,1,5],[]),(6,[0,1,5],[]),(7,[0,1,5],[]),(10,[1],[]),(100000,[1],[]),(100001,[0,1,5],[]),(99999,[4],[])]
def L186:List (LoopS (Int×Unit)):=[⟨5,⟨[(0,(.pv (.slice Y190))),(1,(.pv (.int .i64))),(5,(.pv (.int .i64)))],[]⟩,fun κ=>F186_R5 (fun y=>κ.exit 0 (SSh.mk' ⟨[(1,(.pv (.int .i64)))],[]⟩ y)) (fun y=>κ.ret (SSh.mk' ⟨[(4,(.pv (.int .i64)))],[]⟩ y))⟩]
theorem L186_5:RoundEq E186 L186 L186[0] (nthLoop (codeOf Tryz.f186) 0):=fun κ N x=>by kernel_rfl
theorem C186_ok:QuietOk Tryz.prog 186 C186:=tQ E186 L186 [nthLoop (codeOf Tryz.f186) 0] Tryz.func186 ty_ok (.cons C240_ok .nil) (.cons L186[0] (by kernel_rfl) L186_5 .nil)
def F129 (a0:D183) (a1:Int):Option (Int×Unit):=
 ((F186 a0.1 a1).bind fun y0=>
 (cond (decide (y0.1<(0:Int)))
 (some ((-(1:Int)),()))
 (some (y0.1,()))))
def C129:Fun:=⟨[(.ro Y183),(.ro (.int .i64))],[((.int .i64),.z)],fun z=>F129 z.1 z.2.1⟩
def E129:=en 12 [(186,C186)] [(4,[1],[]),(99999,[4],[])]
def L129:List (LoopS (Int×Unit)):=[]
theorem C129_ok:QuietOk Tryz.prog 129 C129:=tQ E129 L129 [] Tryz.func129 ty_ok (.cons C186_ok .nil) .nil
def F77_R5 (e0_0:Int×Unit→Option (Int×Unit)) (er_1:Int×Unit→Option (Int×Unit)) (rec:List (D183)×Int×Int×Unit→Option (Int×Unit)) (x3:List (D183)×Int×Int×Unit):Option (Int×Unit):=
 (cond (decide (x3.2.2.1<(x3.1.length:Int)))
 (gd (decide ((0:Int)≤x3.2.2.1))
 (x3.1[x3.2.2.1.toNat]?.bind fun y6=>
 ((F129 y6 x3.2.1).bind fun y7=>
 (cond (decide (y7.1<(0:Int)))
 (er_1 ((-(1:Int)),()))
 (rec (x3.1,y7.1,(IntKind.wrap .i64 (x3.2.2.1+(1:Int))),()))))))
 (e0_0 (x3.2.1,())))
def F77 (a0:List (D183)) (a1:Int):Option (Int×Unit):=
 (cond (decide ((IntKind.wrap .i64 (a1-(a0.length:Int)))<(0:Int)))
 (some ((-(1:Int)),()))
 (iter (F77_R5
 (fun y8=>
 (some (y8.1,())))
 (fun y9=>
 (some (y9.1,())))) fuel (a0,(IntKind.wrap .i64 (a1-(a0.length:Int))),(0:Int),())))
def C77:Fun:=⟨[(.ro (.slice Y183)),(.ro (.int .i64))],[((.int .i64),.z)],fun z=>F77 z.1 z.2.1⟩
def E77:=en 27 [(129,C129)] [(4,[0,1],[]),(5,[0,1,5],[]),(6,[0,1,5],[]),(7,[0,1,5],[]),(10,[1],[]),(100000,[1],[]),(100001,[0,1,5],[]),(99999,[4],[])]
def L77:List (LoopS (Int×Unit)):=[⟨5,⟨[(0,(.pv (.slice Y183))),(1,(.pv (.int .i64))),(5,(.pv (.int .i64)))],[]⟩,fun κ=>F77_R5 (fun y=>κ.exit 0 (SSh.mk' ⟨[(1,(.pv (.int .i64)))],[]⟩ y)) (fun y=>κ.ret (SSh.mk' ⟨[(4,(.pv (.int .i64)))],[]⟩ y))⟩]
theorem L77_5:RoundEq E77 L77 L77[0] (nthLoop (codeOf Tryz.f77) 0):=fun κ N x=>by kernel_rfl
theorem C77_ok:QuietOk Tryz.prog 77 C77:=tQ E77 L77 [nthLoop (codeOf Tryz.f77) 0] Tryz.func77 ty_ok (.cons C129_ok .nil) (.cons L77[0] (by kernel_rfl) L77_5 .nil)
def F28 (a0:D27) (a1:Int):Option (Int×Unit):=
 ((F77 a0.1 a1).bind fun y0=>
 (cond (decide (y0.1<(0:Int)))
 (some ((-(1:Int)),()))
 (some (y0.1,()))))
def C28:Fun:=⟨[(.ro Y27),(.ro (.int .i64))],[((.int .i64),.z)],fun z=>F28 z.1 z.2.1⟩
def E28:=en 12 [(77,C77)] [(4,[1],[]),(99999,[4],[])]
def L28:List (LoopS (Int×Unit)):=[]
theorem C28_ok:QuietOk Tryz.prog 28 C28:=tQ E28 L28 [] Tryz.func28 ty_ok (.cons C77_ok .nil) .nil
def F78 (a0:D139) (a1:Int):Option (Int×Unit):=
 (cond (decide ((IntKind.wrap .i64 (a1-(a0.1.length:Int)))<(0:Int)))
 (some ((-(1:Int)),()))
 (some ((IntKind.wrap .i64 (a1-(a0.1.length:Int))),())))
def C78:Fun:=⟨[(.ro Y139),(.ro (.int .i64))],[((.int .i64),.z)],fun z=>F78 z.1 z.2.1⟩
def E78:=en 13 [] [(4,[1],[]),(99999,[4],[])]
def L78:List (LoopS (Int×Unit)):=[]
theorem C78_ok:QuietOk Tryz.prog 78 C78:=tQ E78 L78 [] Tryz.func78 ty_ok .nil .nil
def F29_R5 (e0_0:Int×Unit→Option (Int×Unit)) (er_1:Int×Unit→Option (Int×Unit)) (rec:List (D139)×Int×Int×Unit→Option (Int×Unit)) (x3:List (D139)×Int×Int×Unit):Option (Int×Unit):=
 (cond (decide (x3.2.2.1<(x3.1.length:Int)))
 (gd (decide ((0:Int)≤x3.2.2.1))
 (x3.1[x3.2.2.1.toNat]?.bind fun y6=>
 ((F78 y6 x3.2.1).bind fun y7=>
 (cond (decide (y7.1<(0:Int)))
 (er_1 ((-(1:Int)),()))
 (rec (x3.1,y7.1,(IntKind.wrap .i64 (x3.2.2.1+(1:Int))),()))))))
 (e0_0 (x3.2.1,())))
def F29 (a0:List (D139)) (a1:Int):Option (Int×Unit):=
 (cond (decide ((IntKind.wrap .i64 (a1-(a0.length:Int)))<(0:Int)))
 (some ((-(1:Int)),()))
 (iter (F29_R5
 (fun y8=>
 (some (y8.1,())))
 (fun y9=>
 (some (y9.1,())))) fuel (a0,(IntKind.wrap .i64 (a1-(a0.length:Int))),(0:Int),())))
def C29:Fun:=⟨[(.ro (.slice Y139)),(.ro (.int .i64))],[((.int .i64),.z)],fun z=>F29 z.1 z.2.1⟩
def E29:=en 27 [(78,C78)] [(4,[0,1],[]),(5,[0,1,5],[]),(6,[0,1,5],[]),(7,[0,1,5],[]),(10,[1],[]),(100000,[1],[]),(100001,[0,1,5],[]),(99999,[4],[])]
def L29:List (LoopS (Int×Unit)):=[⟨5,⟨[(0,(.pv (.slice Y139))),(1,(.pv (.int .i64))),(5,(.pv (.int .i64)))],[]⟩,fun κ=>F29_R5 (fun y=>κ.exit 0 (SSh.mk' ⟨[(1,(.pv (.int .i64)))],[]⟩ y)) (fun y=>κ.ret (SSh.mk' ⟨[(4,(.pv (.int .i64)))],[]⟩ y))⟩]
theorem L29_5:RoundEq E29 L29 L29[0] (nthLoop (codeOf Tryz.f29) 0):=fun κ N x=>by kernel_rfl
theorem C29_ok:QuietOk Tryz.prog 29 C29:=tQ E29 L29 [nthLoop (codeOf Tryz.f29) 0] Tryz.func29 ty_ok (.cons C78_ok .nil) (.cons L29[0] (by kernel_rfl) L29_5 .nil)
def F30_R5 (e0_0:Int×Unit→Option (Int×Unit)) (er_1:Int×Unit→Option (Int×Unit)) (rec:List (List UInt8)×Int×Int×Unit→Option (Int×Unit)) (x3:List (List UInt8)×Int×Int×Unit):Option (Int×Unit):=
 (cond (decide (x3.2.2.1<(x3.1.length:Int)))
 (gd (decide ((0:Int)≤x3.2.2.1))
 (x3.1[x3.2.2.1.toNat]?.bind fun y6=>
 (cond (decide ((IntKind.wrap .i64 (x3.2.1-(y6.length:Int)))<(0:Int)))
 (er_1 ((-(1:Int)),()))
 (rec (x3.1,(IntKind.wrap .i64 (x3.2.1-(y6.length:Int))),(IntKind.wrap .i64 (x3.2.2.1+(1:Int))),())))))
 (e0_0 (x3.2.1,())))
def F30 (a0:List (List UInt8)) (a1:Int):Option (Int×Unit):=
 (cond (decide ((IntKind.wrap .i64 (a1-(a0.length:Int)))<(0:Int)))
 (some ((-(1:Int)),()))
 (iter (F30_R5
 (fun y7=>
 (some (y7.1,())))
 (fun y8=>
 (some (y8.1,())))) fuel (a0,(IntKind.wrap .i64 (a1-(a0.length:Int))),(0:Int),())))
def C30:Fun:=⟨[(.ro (.slice .str)),(.ro (.int .i64))],[((.int .i64),.z)],fun z=>F30 z.1 z.2.1⟩
def E30:=en 28 [] [(4,[0,1],[]),(5,[0,1,5],[]),(6,[0,1,5],[]),(7,[0,1,5],[]),(10,[1],[]),(100000,[1],[]),(100001,[0,1,5],[]),(99999,[4],[])]
def L30:List (LoopS (Int×Unit)):=[⟨5,⟨[(0,(.pv (.slice .str))),(1,(.pv (.int .i64))),(5,(.pv (.int .i64)))],[]⟩,fun κ=>F30_R5 (fun y=>κ.exit 0 (SSh.mk' ⟨[(1,(.pv (.int .i64)))],[]⟩ y)) (fun y=>κ.ret (SSh.mk' ⟨[(4,(.pv (.int .i64)))],[]⟩ y))⟩]
theorem L30_5:RoundEq E30 L30 L30[0] (nthLoop (codeOf Tryz.f30) 0):=fun κ N x=>by kernel_rfl
theorem C30_ok:QuietOk Tryz.prog 30 C30:=tQ E30 L30 [nthLoop (codeOf Tryz.f30) 0] Tryz.func30 ty_ok .nil (.cons L30[0] (by kernel_rfl) L30_5 .nil)
def F6 (a0:D31) (a1:Int):Option (Int×Unit):=
 ((F28 a0.1 a1).bind fun y0=>
 (cond (decide (y0.1<(0:Int)))
 (some ((-(1:Int)),()))
 ((F29 a0.2.1 y0.1).bind fun y2=>
 (cond (decide (y2.1<(0:Int)))
 (some ((-(1:Int)),()))
 ((F30 a0.2.2.2.2.1 y2.1).bind fun y4=>
 (cond (decide (y4.1<(0:Int)))
 (some ((-(1:Int)),()))
 (cond (decide ((IntKind.wrap .i64 (y4.1-(a0.2.2.2.2.2.1.length:Int)))<(0:Int)))
 (some ((-(1:Int)),()))
 (some ((IntKind.wrap .i64 (y4.1-(a0.2.2.2.2.2.1.length:Int))),())))))))))
def C6:Fun:=⟨[(.ro Y31),(.ro (.int .i64))],[((.int .i64),.z)],fun z=>F6 z.1 z.2.1⟩
def E6:=en 31 [(28,C28),(29,C29),(30,C30)] [(4,[1,2],[]),(7,[1,2],[]),(10,[1,2],[]),(13,[1],[]),(99999,[4],[])]
def L6:List (LoopS (Int×Unit)):=[]
theorem C6_ok:QuietOk Tryz.prog 6 C6:=tQ E6 L6 [] Tryz.func6 ty_ok (.cons C28_ok (.cons C29_ok (.cons C30_ok .nil))) .nil
def F7_R5 (e0_0:Int×Unit→Option (Int×Unit)) (er_1:Int×Unit→Option (Int×Unit)) (rec:List (D76)×Int×Int×Unit→Option (Int×Unit)) (x3:List (D76)×Int×Int×Unit):Option (Int×Unit):=
 (cond (decide (x3.2.2.1<(x3.1.length:Int)))
 (gd (decide ((0:Int)≤x3.2.2.1))
 (x3.1[x3.2.2.1.toNat]?.bind fun y6=>
 ((F31 y6 x3.2.1).bind fun y7=>
 (cond (decide (y7.1<(0:Int)))
 (er_1 ((-(1:Int)),()))
 (rec (x3.1,y7.1,(IntKind.wrap .i64 (x3.2.2.1+(1:Int))),()))))))
 (e0_0 (x3.2.1,())))
def F7 (a0:List (D76)) (a1:Int):Option (Int×Unit):=
 (cond (decide ((IntKind.wrap .i64 (a1-(a0.length:Int)))<(0:Int)))
 (some ((-(1:Int)),()))
 (iter (F7_R5
 (fun y8=>
 (some (y8.1,())))
 (fun y9=>
 (some (y9.1,())))) fuel (a0,(IntKind.wrap .i64 (a1-(a0.length:Int))),(0:Int),())))
def C7:Fun:=⟨[(.ro (.slice Y76)),(.ro (.int .i64))],[((.int .i64),.z)],fun z=>F7 z.1 z.2.1⟩
def E7:=en 27 [(31,C31)] [(4,[0,1],[]),(5,[0,1,5],[]),(6,[0,1,5],[]),(7,[0,1,5],[]),(10,[1],[]),(100000,[1],[]),(100001,[0,1,5],[]),(99999,[4],[])]
def L7:List (LoopS (Int×Unit)):=[⟨5,⟨[(0,(.pv (.slice Y76))),(1,(.pv (.int .i64))),(5,(.pv (.int .i64)))],[]⟩,fun κ=>F7_R5 (fun y=>κ.exit 0 (SSh.mk' ⟨[(1,(.pv (.int .i64)))],[]⟩ y)) (fun y=>κ.ret (SSh.mk' ⟨[(4,(.pv (.int .i64)))],[]⟩ y))⟩]
theorem L7_5:RoundEq E7 L7 L7[0] (nthLoop (codeOf Tryz.f7) 0):=fun κ N x=>by kernel_rfl
theorem C7_ok:QuietOk Tryz.prog 7 C7:=tQ E7 L7 [nthLoop (codeOf Tryz.f7) 0] Tryz.func7 ty_ok (.cons C31_ok .nil) (.cons L7[0] (by kernel_rfl) L7_5 .nil)
def F66 (a0:D79) (a1:Int):Option (Int×Unit):=
 (cond (decide ((IntKind.wrap .i64 (a1-(a0.1.length:Int)))<(0:Int)))
 (some ((-(1:Int)),()))
 ((F29 a0.2.1 (IntKind.wrap .i64 (a1-(a0.1.length:Int)))).bind fun y1=>
 (cond (decide (y1.1<(0:Int)))
 (some ((-(1:Int)),()))
 (some (y1.1,())))))
def C66:Fun:=⟨[(.ro Y79),(.ro (.int .i64))],[((.int .i64),.z)],fun z=>F66 z.1 z.2.1⟩
def E66:=en 19 [(29,C29)] [(4,[1,2],[]),(7,[1],[]),(99999,[4],[])]
def L66:List (LoopS (Int×Unit)):=[]
theorem C66_ok:QuietOk Tryz.prog 66 C66:=tQ E66 L66 [] Tryz.func66 ty_ok (.cons C29_ok .nil) .nil
def F284 (a0:D114) (a1:Int):Option (Int×Unit):=
 (cond (decide ((IntKind.wrap .i64 (a1-(a0.1.length:Int)))<(0:Int)))
 (some ((-(1:Int)),()))
 (some ((IntKind.wrap .i64 (a1-(a0.1.length:Int))),())))
def C284:Fun:=⟨[(.ro Y114),(.ro (.int .i64))],[((.int .i64),.z)],fun z=>F284 z.1 z.2.1⟩
def E284:=en 13 [] [(4,[1],[]),(99999,[4],[])]
def L284:List (LoopS (Int×Unit)):=[]
theorem C284_ok:QuietOk Tryz.prog 284 C284:=tQ E284 L284 [] Tryz.func284 ty_ok .nil .nil
def F241_R5 (e0_0:Int×Unit→Option (Int×Unit)) (er_1:Int×Unit→Option (Int×Unit)) (rec:List (D114)×Int×Int×Unit→Option (Int×Unit)) (x3:List (D114)×Int×Int×Unit):Option (Int×Unit):=
 (cond (decide (x3.2.2.1<(x3.1.length:Int)))
 (gd (decide ((0:Int)≤x3.2.2.1))
 (x3.1[x3.2.2.1.toNat]?.bind fun y6=>
 ((F284 y6 x3.2.1).bind fun y7=>
 (cond (decide (y7.1<(0:Int)))
 (er_1 ((-(1:Int)),()))
 (rec (x3.1,y7.1,(IntKind.wrap .i64 (x3.2.2.1+(1:Int))),()))))))
 (e0_0 (x3.2.1,())))
def F241 (a0:List (D114)) (a1:Int):Option (Int×Unit):=
 (cond (decide ((IntKind.wrap .i64 (a1-(a0.length:Int)))<(0:Int)))
 (some ((-(1:Int)),()))
 (iter (F241_R5
 (fun y8=>
 (some (y8.1,())))
 (fun y9=>
 (some (y9.1,())))) fuel (a0,(IntKind.wrap .i64 (a1-(a0.length:Int))),(0:Int),())))
def C241:Fun:=⟨[(.ro (.slice Y114)),(.ro (.int .i64))],[((.int .i64),.z)],fun z=>F241 z.1 z.2.1⟩
def E241:=en 27 [(284,C284)] [(4,[0,1],[]),(5,[0,1,5],[]),(6,[0,1,5],[]),(7,[0,1,5],[]),(10,[1],[]),(100000,[1],[]),(100001,[0,1,5],[]),(99999,[4],[])]
def L241:List (LoopS (Int×Unit)):=[⟨5,⟨[(0,(.pv (.slice Y114))),(1,(.pv (.int .i64))),(5,(.pv (.int .i64)))],[]⟩,fun κ=>F241_R5 (fun y=>κ.exit 0 (SSh.mk' ⟨[(1,(.pv (.int .i64)))],[]⟩ y)) (fun y=>κ.ret (SSh.mk' ⟨[(4,(.pv (.int .i64)))],[]⟩ y))⟩]
theorem L241_5:RoundEq E241 L241 L241[0] (nthLoop (codeOf Tryz.f241) 0):=fun κ N x=>by kernel_rfl
theorem C241_ok:QuietOk Tryz.prog 241 C241:=tQ E241 L241 [nthLoop (codeOf Tryz.f241) 0] Tryz.func241 ty_ok (.cons C284_ok .nil) (.cons L241[0] (by kernel_rfl) L241_5 .nil)
def F187 (a0:D162) (a1:Int):Option (Int×Unit):=
 ((F241 a0.2.1 a1).bind fun y0=>
 (cond (decide (y0.1<(0:Int)))
 (some ((-(1:Int)),()))
 (some (y0.1,()))))
def C187:Fun:=⟨[(.ro Y162),(.ro (.int .i64))],[((.int .i64),.z)],fun z=>F187 z.1 z.2.1⟩
def E187:=en 12 [(241,C241)] [(4,[1],[]),(99999,[4],[])]
def L187:List (LoopS (Int×Unit)):=[]
theorem C187_ok:QuietOk Tryz.prog 187 C187:=tQ E187 L187 [] Tryz.func187 ty_ok (.cons C241_ok .nil) .nil
def F130_R5 (e0_0:Int×Unit→Option (Int×Unit)) (er_1:Int×Unit→Option (Int×Unit)) (rec:List (D162)×Int×Int×Unit→Option (Int×Unit)) (x3:List (D162)×Int×Int×Unit):Option (Int×Unit):=
 (cond (decide (x3.2.2.1<(x3.1.length:Int)))
 (gd (decide ((0:Int)≤x3.2.2.1))
 (x3.1[x3.2.2.1.toNat]?.bind fun y6=>
 ((F187 y6 x3.2.1).bind fun y7=>
 (cond (decide (y7.1<(0:Int)))
 (er_1 ((-(1:Int)),()))
 (rec (x3.1,y7.1,(IntKind.wrap .i64 (x3.2.2.1+(1:Int))),()))))))
 (e0_0 (x3.2.1,())))
def F130 (a0:List (D162)) (a1:Int):Option (Int×Unit):=
 (cond (decide ((IntKind.wrap .i64 (a1-(a0.length:Int)))<(0:Int)))
 (some ((-(1:Int)),()))
 (iter (F130_R5
 (fun y8=>
 (some (y8.1,())))
 (fun y9=>
 (some (y9.1,())))) fuel (a0,(IntKind.wrap .i64 (a1-(a0.length:Int))),(0:Int),())))
def C130:Fun:=⟨[(.ro (.slice Y162)),(.ro (.int .i64))],[((.int .i64),.z)],fun z=>F130 z.1 z.2.1⟩
def E130:=en 27 [(187,C187)] [(4,[0,1],[]),(5,[0,1,5],[]),(6,[0,1,5],[]),(7,[0,1,5],[]),(10,[1],[]),(100000,[1],[]),(100001,[0,1,5],[]),(99999,[4],[])]
def L130:List (LoopS (Int×Unit)):=[⟨5,⟨[(0,(.pv (.slice Y162))),(1,(.pv (.int .i64))),(5,(.pv (.int .i64)))],[]⟩,fun κ=>F130_R5 (fun y=>κ.exit 0 (SSh.mk' ⟨[(1,(.pv (.int .i64)))],[]⟩ y)) (fun y=>κ.ret (SSh.mk' ⟨[(4,(.pv (.int .i64)))],[]⟩ y))⟩]
theorem L130_5:RoundEq E130 L130 L130[0] (nthLoop (codeOf Tryz.f130) 0):=fun κ N x=>by kernel_rfl
theorem C130_ok:QuietOk Tryz.prog 130 C130:=tQ E130 L130 [nthLoop (codeOf Tryz.f130) 0] Tryz.func130 ty_ok (.cons C187_ok .nil) (.cons L130[0] (by kernel_rfl) L130_5 .nil)
def F79 (a0:D82) (a1:Int):Option (Int×Unit):=
 ((F130 a0.1 a1).bind fun y0=>
 (cond (decide (y0.1<(0:Int)))
 (some ((-(1:Int)),()))
 (some (y0.1,()))))
def C79:Fun:=⟨[(.ro Y82),(.ro (.int .i64))],[((.int .i64),.z)],fun z=>F79 z.1 z.2.1⟩
def E79:=en 12 [(130,C130)] [(4,[1],[]),(99999,[4],[])]
def L79:List (LoopS (Int×Unit)):=[]
theorem C79_ok:QuietOk Tryz.prog 79 C79:=tQ E79 L79 [] Tryz.func79 ty_ok (.cons C130_ok .nil) .nil
def F32 (a0:D84) (a1:Int):Option (Int×Unit):=
 ((F66 a0.1 a1).bind fun y0=>
 (cond (decide (y0.1<(0:Int)))
 (some ((-(1:Int)),()))
 ((F79 a0.2.1 y0.1).bind fun y2=>
 (cond (decide (y2.1<(0:Int)))
 (some ((-(1:Int)),()))
 (some (y2.1,()))))))
def C32:Fun:=⟨[(.ro Y84),(.ro (.int .i64))],[((.int .i64),.z)],fun z=>F32 z.1 z.2.1⟩
def E32:=en 18 [(66,C66),(79,C79)] [(4,[1,2],[]),(7,[1],[]),(99999,[4],[])]
def L32:List (LoopS (Int×Unit)):=[]
theorem C32_ok:QuietOk Tryz.prog 32 C32:=tQ E32 L32 [] Tryz.func32 ty_ok (.cons C66_ok (.cons C79_ok .nil)) .nil
def F8_R5 (e0_0:Int×Unit→Option (Int×Unit)) (er_1:Int×Unit→Option (Int×Unit)) (rec:List (D84)×Int×Int×Unit→Option (Int×Unit)) (x3:List (D84)×Int×Int×Unit):Option (Int×Unit):=
 (cond (decide (x3.2.2.1<(x3.1.length:Int)))
 (gd (decide ((0:Int)≤x3.2.2.1))
 (x3.1[x3.2.2.1.toNat]?.bind fun y6=>
 ((F32 y6 x3.2.1).bind fun y7=>
 (cond (decide (y7.1<(0:Int)))
 (er_1 ((-(1:Int)),()))
 (rec (x3.1,y7.1,(IntKind.wrap .i64 (x3.2.2.1+(1:Int))),()))))))
 (e0_0 (x3.2.1,())))
def F8 (a0:List (D84)) (a1:Int):Option (Int×Unit):=
 (cond (decide ((IntKind.wrap .i64 (a1-(a0.length:Int)))<(0:Int)))
 (some ((-(1:Int)),()))
 (iter (F8_R5
 (fun y8=>
 (some (y8.1,())))
 (fun y9=>
 (some (y9.1,())))) fuel (a0,(IntKind.wrap .i64 (a1-(a0.length:Int))),(0:Int),())))
def C8:Fun:=⟨[(.ro (.slice Y84)),(.ro (.int .i64))],[((.int .i64),.z)],fun z=>F8 z.1 z.2.1⟩
def E8:=en 27 [(32,C32)] [(4,[0,1],[]),(5,[0,1,5],[]),(6,[0,1,5],[]),(7,[0,1,5],[]),(10,[1],[]),(100000,[1],[]),(100001,[0,1,5],[]),(99999,[4],[])]
def L8:List (LoopS (Int×Unit)):=[⟨5,⟨[(0,(.pv (.slice Y84))),(1,(.pv (.int .i64))),(5,(.pv (.int .i64)))],[]⟩,fun κ=>F8_R5 (fun y=>κ.exit 0 (SSh.mk' ⟨[(1,(.pv (.int .i64)))],[]⟩ y)) (fun y=>κ.ret (SSh.mk' ⟨[(4,(.pv (.int .i64)))],[]⟩ y))⟩]
theorem L8_5:RoundEq E8 L8 L8[0] (nthLoop (codeOf Tryz.f8) 0):=fun κ N x=>by kernel_rfl
theorem C8_ok:QuietOk Tryz.prog 8 C8:=tQ E8 L8 [nthLoop (codeOf Tryz.f8) 0] Tryz.func8 ty_ok (.cons C32_ok .nil) (.cons L8[0] (by kernel_rfl) L8_5 .nil)
def F81 (a0:Int) (a1:Int) (a2:Int):Option (Bool×Unit):=
 (cond (decide (a1≤a0))
 (some ((decide (a0≤a2)),()))
 (some (false,())))
def C81:Fun:=⟨[(.ro (.int .i64)),(.ro (.int .i64)),(.ro (.int .i64))],[(.bool,.z)],fun z=>F81 z.1 z.2.1 z.2.2.1⟩
def E81:=en 15 [] [(99999,[6],[])]
def L81:List (LoopS (Bool×Unit)):=[]
theorem C81_ok:QuietOk Tryz.prog 81 C81:=tQ E81 L81 [] Tryz.func81 ty_ok .nil .nil
def F242 (a0:Int):Option (Bool×Unit):=
 (cond (decide (a0≥(97:Int)))
 (cond (decide (a0≤(122:Int)))
 (some (true,()))
 (cond (decide (a0≥(65:Int)))
 (cond (decide (a0≤(90:Int)))
 (some (true,()))
 (some ((a0==(95:Int)),())))
 (some ((a0==(95:Int)),()))))
 (cond (decide (a0≥(65:Int)))
 (cond (decide (a0≤(90:Int)))
 (some (true,()))
 (some ((a0==(95:Int)),())))
 (some ((a0==(95:Int)),()))))
def C242:Fun:=⟨[(.ro (.int .u8))],[(.bool,.z)],fun z=>F242 z.1⟩
def E242:=en 21 [] [(99999,[2],[])]
def L242:List (LoopS (Bool×Unit)):=[]
theorem C242_ok:QuietOk Tryz.prog 242 C242:=tQ E242 L242 [] Tryz.func242 ty_ok .nil .nil
def F243 (a0:Int):Option (Bool×Unit):=
 (cond (decide (a0≥(48:Int)))
 (some ((decide (a0≤(57:Int))),()))
 (some (false,())))
def C243:Fun:=⟨[(.ro (.int .u8))],[(.bool,.z)],fun z=>F243 z.1⟩
def E243:=en 9 [] [(99999,[2],[])]
def L243:List (LoopS (Bool×Unit)):=[]
theorem C243_ok:QuietOk Tryz.prog 243 C243:=tQ E243 L243 [] Tryz.func243 ty_ok .nil .nil
def F188_R4 (e0_0:Unit→Option (Bool×Unit)) (er_1:Bool×Unit→Option (Bool×Unit)) (rec:List UInt8×Int×Unit→Option (Bool×Unit)) (x5:List UInt8×Int×Unit):Option (Bool×Unit):=
 (cond (decide (x5.2.1<(x5.1.length:Int)))
 (let j12:List UInt8×Int×Unit→Option (Bool×Unit):=fun (y13:List UInt8×Int×Unit)=>
 (rec (y13.1,(IntKind.wrap .i64 (y13.2.1+(1:Int))),()))
 (gd (decide ((0:Int)≤x5.2.1))
 (x5.1[x5.2.1.toNat]?.bind fun y8=>
 ((F242 (((UInt8.toNat y8):Nat):Int)).bind fun y9=>
 (cond (!y9.1)
 (gd (decide ((0:Int)≤x5.2.1))
 (x5.1[x5.2.1.toNat]?.bind fun y10=>
 ((F243 (((UInt8.toNat y10):Nat):Int)).bind fun y11=>
 (cond (!y11.1)
 (er_1 (false,()))
 (j12 (x5.1,x5.2.1,()))))))
 (j12 (x5.1,x5.2.1,())))))))
 (e0_0 (())))
def F188 (a0:List UInt8):Option (Bool×Unit):=
 (cond (decide ((a0.length:Int)<(1:Int)))
 (some (false,()))
 (cond (decide ((a0.length:Int)>(40:Int)))
 (some (false,()))
 (a0[(0:Int).toNat]?.bind fun y1=>
 ((F242 (((UInt8.toNat y1):Nat):Int)).bind fun y2=>
 (cond (!y2.1)
 (some (false,()))
 (iter (F188_R4
 (fun y14=>
 (some (true,())))
 (fun y15=>
 (some (y15.1,())))) fuel (a0,(1:Int),())))))))
def C188:Fun:=⟨[(.ro .str)],[(.bool,.z)],fun z=>F188 z.1⟩
def E188:=en 36 [(242,C242),(243,C243)] [(3,[0],[]),(4,[0,3],[]),(5,[0,3],[]),(6,[0,3],[]),(8,[],[]),(100000,[],[]),(100001,[0,3],[]),(99999,[2],[])]
def L188:List (LoopS (Bool×Unit)):=[⟨4,⟨[(0,(.pv .str)),(3,(.pv (.int .i64)))],[]⟩,fun κ=>F188_R4 (fun y=>κ.exit 0 (SSh.mk' ⟨[],[]⟩ y)) (fun y=>κ.ret (SSh.mk' ⟨[(2,(.pv .bool))],[]⟩ y))⟩]
theorem L188_4:RoundEq E188 L188 L188[0] (nthLoop (codeOf Tryz.f188) 0):=fun κ N x=>by kernel_rfl
theorem C188_ok:QuietOk Tryz.prog 188 C188:=tQ E188 L188 [nthLoop (codeOf Tryz.f188) 0] Tryz.func188 ty_ok (.cons C242_ok (.cons C243_ok .nil)) (.cons L188[0] (by kernel_rfl) L188_4 .nil)
def F132 (a0:List UInt8):Option (Bool×Unit):=
 ((F188 a0).bind fun y0=>
 (some (y0.1,())))
def C132:Fun:=⟨[(.ro .str)],[(.bool,.z)],fun z=>F132 z.1⟩
def E132:=en 5 [(188,C188)] [(99999,[2],[])]
def L132:List (LoopS (Bool×Unit)):=[]
theorem C132_ok:QuietOk Tryz.prog 132 C132:=tQ E132 L132 [] Tryz.func132 ty_ok (.cons C188_ok .nil) .nil
def F82 (a0:List UInt8):Option (Bool×Unit):=
 ((F132 a0).bind fun y0=>
 (cond y0.1
 (some ((decide ((a0.length:Int)≤(12:Int))),()))
 (some (false,()))))
def C82:Fun:=⟨[(.ro .str)],[(.bool,.z)],fun z=>F82 z.1⟩
def E82:=en 10 [(132,C132)] [(99999,[2],[])]
def L82:List (LoopS (Bool×Unit)):=[]
theorem C82_ok:QuietOk Tryz.prog 82 C82:=tQ E82 L82 [] Tryz.func82 ty_ok (.cons C132_ok .nil) .nil
def F133_R4 (e0_0:List UInt8×Int×List (List UInt8)×Unit→Option (List (List UInt8)×Unit)) (rec:List UInt8×Int×Int×Int×List (List UInt8)×Unit→Option (List (List UInt8)×Unit)) (x2:List UInt8×Int×Int×Int×List (List UInt8)×Unit):Option (List (List UInt8)×Unit):=
 (cond (decide (x2.2.2.2.1<(x2.1.length:Int)))
 (let j6:List UInt8×Int×Int×Int×List (List UInt8)×Unit→Option (List (List UInt8)×Unit):=fun (y7:List UInt8×Int×Int×Int×List (List UInt8)×Unit)=>
 (rec (y7.1,y7.2.1,y7.2.2.1,(IntKind.wrap .i64 (y7.2.2.2.1+(1:Int))),y7.2.2.2.2.1,()))
 (gd (decide ((0:Int)≤x2.2.2.2.1))
 (x2.1[x2.2.2.2.1.toNat]?.bind fun y5=>
 (cond ((((UInt8.toNat y5):Nat):Int)==x2.2.1)
 (gd (decide ((0:Int)≤x2.2.2.2.1))
 (gd (decide (x2.2.2.2.1≤(x2.1.length:Int)))
 (gd (decide ((0:Int)≤x2.2.2.1))
 (gd (decide (x2.2.2.1≤((x2.2.2.2.1.toNat:Nat):Int)))
 (gd (decide ((x2.2.2.2.2.1.length+(List.length [(List.drop x2.2.2.1.toNat (List.take x2.2.2.2.1.toNat x2.1))]))≤lim))
 (j6 (x2.1,x2.2.1,(IntKind.wrap .i64 (x2.2.2.2.1+(1:Int))),x2.2.2.2.1,(x2.2.2.2.2.1++[(List.drop x2.2.2.1.toNat (List.take x2.2.2.2.1.toNat x2.1))]),())))))))
 (j6 (x2.1,x2.2.1,x2.2.2.1,x2.2.2.2.1,x2.2.2.2.2.1,()))))))
 (e0_0 (x2.1,x2.2.2.1,x2.2.2.2.2.1,())))
def F133 (a0:List UInt8) (a1:Int):Option (List (List UInt8)×Unit):=
 (iter (F133_R4
 (fun y8=>
 (gd (decide ((y8.1.length:Int)≤(y8.1.length:Int)))
 (gd (decide ((0:Int)≤y8.2.1))
 (gd (decide (y8.2.1≤(((y8.1.length:Int).toNat:Nat):Int)))
 (gd (decide ((y8.2.2.1.length+(List.length [(List.drop y8.2.1.toNat (List.take (y8.1.length:Int).toNat y8.1))]))≤lim))
 (some ((y8.2.2.1++[(List.drop y8.2.1.toNat (List.take (y8.1.length:Int).toNat y8.1))]),())))))))) fuel (a0,a1,(0:Int),(0:Int),[],()))
def C133:Fun:=⟨[(.ro .str),(.ro (.int .u8))],[((.slice .str),.z)],fun z=>F133 z.1 z.2.1⟩
def E133:=en 35 [] [(4,[0,1,5,6,7],[]),(5,[0,1,5,6,7],[]),(6,[0,1,5,6,7],[]),(9,[0,5,6],[]),(100000,[0,5,6],[]),(100001,[0,1,5,6,7],[]),(99999,[4],[])]
def L133:List (LoopS (List (List UInt8)×Unit)):=[⟨4,⟨[(0,(.pv .str)),(1,(.pv (.int .u8))),(5,(.ref (.slice .str) 64 [])),(6,(.pv (.int .i64))),(7,(.pv (.int .i64)))],[(64,(.data false (.slice .str) (.own .z)))]⟩,fun κ=>F133_R4 (fun y=>κ.exit 0 (SSh.mk' ⟨[(0,(.pv .str)),(5,(.ref (.slice .str) 64 [])),(6,(.pv (.int .i64)))],[(64,(.data false (.slice .str) (.own .z)))]⟩ y))⟩]
theorem L133_4:RoundEq E133 L133 L133[0] (nthLoop (codeOf Tryz.f133) 0):=fun κ N x=>by kernel_rfl
theorem C133_ok:QuietOk Tryz.prog 133 C133:=tQ E133 L133 [nthLoop (codeOf Tryz.f133) 0] Tryz.func133 ty_ok .nil (.cons L133[0] (by kernel_rfl) L133_4 .nil)
def F83_R7 (e0_0:Unit→Option (Bool×Unit)) (er_1:Bool×Unit→Option (Bool×Unit)) (rec:List (List UInt8)×Int×Unit→Option (Bool×Unit)) (x5:List (List UInt8)×Int×Unit):Option (Bool×Unit):=
 (cond (decide (x5.2.1<(x5.1.length:Int)))
 (gd (decide ((0:Int)≤x5.2.1))
 (x5.1[x5.2.1.toNat]?.bind fun y8=>
 ((F82 y8).bind fun y9=>
 (cond (!y9.1)
 (er_1 (false,()))
 (rec (x5.1,(IntKind.wrap .i64 (x5.2.1+(1:Int))),()))))))
 (e0_0 (())))
def F83 (a0:List UInt8):Option (Bool×Unit):=
 (cond (decide ((a0.length:Int)>(65536:Int)))
 (some (false,()))
 ((F133 a0 (46:Int)).bind fun y1=>
 (cond (decide ((y1.1.length:Int)>(4:Int)))
 (some (false,()))
 (cond (decide ((a0.length:Int)>(50:Int)))
 (some (false,()))
 (iter (F83_R7
 (fun y10=>
 (some (true,())))
 (fun y11=>
 (some (y11.1,())))) fuel (y1.1,(0:Int),()))))))
def C83:Fun:=⟨[(.ro .str)],[(.bool,.z)],fun z=>F83 z.1⟩
def E83:=en 30 [(82,C82),(133,C133)] [(3,[0],[]),(6,[3],[]),(7,[3,4],[]),(8,[3,4],[]),(9,[3,4],[]),(11,[],[]),(100000,[],[]),(100001,[3,4],[]),(99999,[2],[])]
def L83:List (LoopS (Bool×Unit)):=[⟨7,⟨[(3,(.pv (.slice .str))),(4,(.pv (.int .i64)))],[]⟩,fun κ=>F83_R7 (fun y=>κ.exit 0 (SSh.mk' ⟨[],[]⟩ y)) (fun y=>κ.ret (SSh.mk' ⟨[(2,(.pv .bool))],[]⟩ y))⟩]
theorem L83_7:RoundEq E83 L83 L83[0] (nthLoop (codeOf Tryz.f83) 0):=fun κ N x=>by kernel_rfl
theorem C83_ok:QuietOk Tryz.prog 83 C83:=tQ E83 L83 [nthLoop (codeOf Tryz.f83) 0] Tryz.func83 ty_ok (.cons C82_ok (.cons C133_ok .nil)) (.cons L83[0] (by kernel_rfl) L83_7 .nil)
def F272_R3 (e0_0:Int×Unit→Option (Int×Unit)) (rec:List UInt8×Int×Int×Unit→Option (Int×Unit)) (x2:List UInt8×Int×Int×Unit):Option (Int×Unit):=
 (cond (decide (x2.2.2.1<(x2.1.length:Int)))
 (gd (decide ((0:Int)≤x2.2.2.1))
 (x2.1[x2.2.2.1.toNat]?.bind fun y4=>
 (rec (x2.1,(IntKind.wrap .i64 ((IntKind.wrap .i64 (x2.2.1*(256:Int)))+(IntKind.wrap .i64 (((UInt8.toNat y4):Nat):Int)))),(IntKind.wrap .i64 (x2.2.2.1+(1:Int))),()))))
 (e0_0 (x2.2.1,())))
def F272 (a0:List UInt8):Option (Int×Unit):=
 (iter (F272_R3
 (fun y5=>
 (some (y5.1,())))) fuel (a0,(0:Int),(0:Int),()))
def C272:Fun:=⟨[(.ro .str)],[((.int .i64),.z)],fun z=>F272 z.1⟩
def E272:=en 19 [] [(3,[0,3,4],[]),(5,[0,3,4],[]),(6,[3],[]),(100000,[3],[]),(100001,[0,3,4],[]),(99999,[2],[])]
def L272:List (LoopS (Int×Unit)):=[⟨3,⟨[(0,(.pv .str)),(3,(.pv (.int .i64))),(4,(.pv (.int .i64)))],[]⟩,fun κ=>F272_R3 (fun y=>κ.exit 0 (SSh.mk' ⟨[(3,(.pv (.int .i64)))],[]⟩ y))⟩]
theorem L272_3:RoundEq E272 L272 L272[0] (nthLoop (codeOf Tryz.f272) 0):=fun κ N x=>by kernel_rfl
theorem C272_ok:QuietOk Tryz.prog 272 C272:=tQ E272 L272 [nthLoop (codeOf Tryz.f272) 0] Tryz.func272 ty_ok .nil (.cons L272[0] (by kernel_rfl) L272_3 .nil)
def F229 (a0:List UInt8):Option (D76×List UInt8×Bool×Unit):=
 (cond ((a0.length:Int)==(0:Int))
 (some (((0:Int),((0:Int),([],()))),([],(false,()))))
 (a0[(0:Int).toNat]?.bind fun y1=>
 (let j13:List UInt8×Int×D76×D76×Unit→Option (D76×List UInt8×Bool×Unit):=fun (y14:List UInt8×Int×D76×D76×Unit)=>
 (cond (decide ((y14.1.length:Int)<(IntKind.wrap .i64 ((1:Int)+y14.2.1))))
 (some (((0:Int),((0:Int),([],()))),([],(false,()))))
 (let j21:List UInt8×Int×D76×D76×Unit→Option (D76×List UInt8×Bool×Unit):=fun (y22:List UInt8×Int×D76×D76×Unit)=>
 (gd (decide ((y22.1.length:Int)≤(y22.1.length:Int)))
 (gd (decide ((0:Int)≤(IntKind.wrap .i64 ((1:Int)+y22.2.1))))
 (gd (decide ((IntKind.wrap .i64 ((1:Int)+y22.2.1))≤(((y22.1.length:Int).toNat:Nat):Int)))
 (some (y22.2.2.2.1,((List.drop (IntKind.wrap .i64 ((1:Int)+y22.2.1)).toNat (List.take (y22.1.length:Int).toNat y22.1)),(true,())))))))
 (cond (y14.2.1==(1:Int))
 (y14.1[(1:Int).toNat]?.bind fun y17=>
 (j21 (y14.1,y14.2.1,y14.2.2.1,(y14.2.2.2.1.1,((IntKind.wrap .i64 (((UInt8.toNat y17):Nat):Int)),y14.2.2.2.1.2.2)),())))
 (y14.1[(1:Int).toNat]?.bind fun y19=>
 (cond (decide ((((UInt8.toNat y19):Nat):Int)>(127:Int)))
 (some (((0:Int),((0:Int),([],()))),([],(false,()))))
 (gd (decide ((9:Int)≤(y14.1.length:Int)))
 ((F272 (List.drop (1:Int).toNat (List.take (9:Int).toNat y14.1))).bind fun y20=>
 (j21 (y14.1,y14.2.1,y14.2.2.1,(y14.2.2.2.1.1,((IntKind.wrap .i64 (y20.1-(4611686018427387904:Int))),y14.2.2.2.1.2.2)),())))))))))
 (cond ((IntKind.wrap .i64 (((UInt8.toNat y1):Nat):Int))==(0:Int))
 (gd (decide ((a0.length:Int)≤(a0.length:Int)))
 (gd (decide ((1:Int)≤(((a0.length:Int).toNat:Nat):Int)))
 (some (((IntKind.wrap .i64 (((UInt8.toNat y1):Nat):Int)),((0:Int),([],()))),((List.drop (1:Int).toNat (List.take (a0.length:Int).toNat a0)),(true,()))))))
 (cond ((IntKind.wrap .i64 (((UInt8.toNat y1):Nat):Int))==(1:Int))
 (j13 (a0,(1:Int),((0:Int),((0:Int),([],()))),((IntKind.wrap .i64 (((UInt8.toNat y1):Nat):Int)),((0:Int),([],()))),()))
 (cond ((IntKind.wrap .i64 (((UInt8.toNat y1):Nat):Int))==(2:Int))
 (j13 (a0,(8:Int),((0:Int),((0:Int),([],()))),((IntKind.wrap .i64 (((UInt8.toNat y1):Nat):Int)),((0:Int),([],()))),()))
 (cond ((IntKind.wrap .i64 (((UInt8.toNat y1):Nat):Int))==(3:Int))
 (cond ((IntKind.wrap .i64 (((UInt8.toNat y1):Nat):Int))==(3:Int))
 (cond (decide ((a0.length:Int)<(3:Int)))
 (some (((0:Int),((0:Int),([],()))),([],(false,()))))
 (gd (decide ((3:Int)≤(a0.length:Int)))
 ((F272 (List.drop (1:Int).toNat (List.take (3:Int).toNat a0))).bind fun y5=>
 (cond (decide ((a0.length:Int)<(IntKind.wrap .i64 ((3:Int)+y5.1))))
 (some (((0:Int),((0:Int),([],()))),([],(false,()))))
 (gd (decide ((0:Int)≤(IntKind.wrap .i64 ((3:Int)+y5.1))))
 (gd (decide ((IntKind.wrap .i64 ((3:Int)+y5.1))≤(a0.length:Int)))
 (gd (decide ((3:Int)≤(((IntKind.wrap .i64 ((3:Int)+y5.1)).toNat:Nat):Int)))
 (gd (decide ((a0.length:Int)≤(a0.length:Int)))
 (gd (decide ((0:Int)≤(IntKind.wrap .i64 ((3:Int)+y5.1))))
 (gd (decide ((IntKind.wrap .i64 ((3:Int)+y5.1))≤(((a0.length:Int).toNat:Nat):Int)))
 (some (((IntKind.wrap .i64 (((UInt8.toNat y1):Nat):Int)),((0:Int),((List.drop (3:Int).toNat (List.take (IntKind.wrap .i64 ((3:Int)+y5.1)).toNat a0)),()))),((List.drop (IntKind.wrap .i64 ((3:Int)+y5.1)).toNat (List.take (a0.length:Int).toNat a0)),(true,()))))))))))))))
 (some (((0:Int),((0:Int),([],()))),([],(false,())))))
 (cond ((IntKind.wrap .i64 (((UInt8.toNat y1):Nat):Int))==(4:Int))
 (cond ((IntKind.wrap .i64 (((UInt8.toNat y1):Nat):Int))==(4:Int))
 (cond (decide ((a0.length:Int)<(3:Int)))
 (some (((0:Int),((0:Int),([],()))),([],(false,()))))
 (gd (decide ((3:Int)≤(a0.length:Int)))
 ((F272 (List.drop (1:Int).toNat (List.take (3:Int).toNat a0))).bind fun y8=>
 (cond (decide ((a0.length:Int)<(IntKind.wrap .i64 ((3:Int)+y8.1))))
 (some (((0:Int),((0:Int),([],()))),([],(false,()))))
 (gd (decide ((0:Int)≤(IntKind.wrap .i64 ((3:Int)+y8.1))))
 (gd (decide ((IntKind.wrap .i64 ((3:Int)+y8.1))≤(a0.length:Int)))
 (gd (decide ((3:Int)≤(((IntKind.wrap .i64 ((3:Int)+y8.1)).toNat:Nat):Int)))
 (gd (decide ((a0.length:Int)≤(a0.length:Int)))
 (gd (decide ((0:Int)≤(IntKind.wrap .i64 ((3:Int)+y8.1))))
 (gd (decide ((IntKind.wrap .i64 ((3:Int)+y8.1))≤(((a0.length:Int).toNat:Nat):Int)))
 (some (((IntKind.wrap .i64 (((UInt8.toNat y1):Nat):Int)),((0:Int),((List.drop (3:Int).toNat (List.take (IntKind.wrap .i64 ((3:Int)+y8.1)).toNat a0)),()))),((List.drop (IntKind.wrap .i64 ((3:Int)+y8.1)).toNat (List.take (a0.length:Int).toNat a0)),(true,()))))))))))))))
 (some (((0:Int),((0:Int),([],()))),([],(false,())))))
 (cond ((IntKind.wrap .i64 (((UInt8.toNat y1):Nat):Int))==(5:Int))
 (cond (decide ((a0.length:Int)<(3:Int)))
 (some (((0:Int),((0:Int),([],()))),([],(false,()))))
 (gd (decide ((3:Int)≤(a0.length:Int)))
 ((F272 (List.drop (1:Int).toNat (List.take (3:Int).toNat a0))).bind fun y11=>
 (cond (decide ((a0.length:Int)<(IntKind.wrap .i64 ((3:Int)+y11.1))))
 (some (((0:Int),((0:Int),([],()))),([],(false,()))))
 (gd (decide ((0:Int)≤(IntKind.wrap .i64 ((3:Int)+y11.1))))
 (gd (decide ((IntKind.wrap .i64 ((3:Int)+y11.1))≤(a0.length:Int)))
 (gd (decide ((3:Int)≤(((IntKind.wrap .i64 ((3:Int)+y11.1)).toNat:Nat):Int)))
 (gd (decide ((a0.length:Int)≤(a0.length:Int)))
 (gd (decide ((0:Int)≤(IntKind.wrap .i64 ((3:Int)+y11.1))))
 (gd (decide ((IntKind.wrap .i64 ((3:Int)+y11.1))≤(((a0.length:Int).toNat:Nat):Int)))
 (some (((IntKind.wrap .i64 (((UInt8.toNat y1):Nat):Int)),((0:Int),((List.drop (3:Int).toNat (List.take (IntKind.wrap .i64 ((3:Int)+y11.1)).toNat a0)),()))),((List.drop (IntKind.wrap .i64 ((3:Int)+y11.1)).toNat (List.take (a0.length:Int).toNat a0)),(true,()))))))))))))))
 (some (((0:Int),((0:Int),([],()))),([],(false,())))))))))))))
def C229:Fun:=⟨[(.ro .str)],[(Y76,.z),(.str,.z),(.bool,.z)],fun z=>F229 z.1⟩
def E229:=en 81 [(272,C272)] [(3,[0,2],[]),(18,[0,2,5],[]),(21,[0,2,5,7],[]),(23,[0,2,5,6],[]),(25,[0,2,5,6],[]),(29,[0,2,5,6],[]),(30,[0,2,5,6],[]),(100000,[0,2,5,6],[]),(99999,[2,3,4],[])]
def L229:List (LoopS (D76×List UInt8×Bool×Unit)):=[]
theorem C229_ok:QuietOk Tryz.prog 229 C229:=tQ E229 L229 [] Tryz.func229 ty_ok (.cons C272_ok .nil) .nil
def F175_R2 (e0_0:List (D211)×Unit→Option (List (D211)×Bool×Unit)) (er_1:Bool×List (D211)×Unit→Option (List (D211)×Bool×Unit)) (er_2:Bool×List (D211)×Unit→Option (List (D211)×Bool×Unit)) (rec:List UInt8×List (D211)×Unit→Option (List (D211)×Bool×Unit)) (x2:List UInt8×List (D211)×Unit):Option (List (D211)×Bool×Unit):=
 (cond (decide ((x2.1.length:Int)>(0:Int)))
 (x2.1[(0:Int).toNat]?.bind fun y4=>
 (cond (decide ((x2.1.length:Int)<(IntKind.wrap .i64 ((1:Int)+(IntKind.wrap .i64 (((UInt8.toNat y4):Nat):Int))))))
 (er_1 (false,[],()))
 (gd (decide ((0:Int)≤(IntKind.wrap .i64 ((1:Int)+(IntKind.wrap .i64 (((UInt8.toNat y4):Nat):Int))))))
 (gd (decide ((IntKind.wrap .i64 ((1:Int)+(IntKind.wrap .i64 (((UInt8.toNat y4):Nat):Int))))≤(x2.1.length:Int)))
 (gd (decide ((1:Int)≤(((IntKind.wrap .i64 ((1:Int)+(IntKind.wrap .i64 (((UInt8.toNat y4):Nat):Int)))).toNat:Nat):Int)))
 (gd (decide ((x2.1.length:Int)≤(x2.1.length:Int)))
 (gd (decide ((0:Int)≤(IntKind.wrap .i64 ((1:Int)+(IntKind.wrap .i64 (((UInt8.toNat y4):Nat):Int))))))
 (gd (decide ((IntKind.wrap .i64 ((1:Int)+(IntKind.wrap .i64 (((UInt8.toNat y4):Nat):Int))))≤(((x2.1.length:Int).toNat:Nat):Int)))
 ((F229 (List.drop (IntKind.wrap .i64 ((1:Int)+(IntKind.wrap .i64 (((UInt8.toNat y4):Nat):Int)))).toNat (List.take (x2.1.length:Int).toNat x2.1))).bind fun y6=>
 (cond (!y6.2.2.1)
 (er_2 (false,[],()))
 (gd (decide ((x2.2.1.length+(List.length [((List.drop (1:Int).toNat (List.take (IntKind.wrap .i64 ((1:Int)+(IntKind.wrap .i64 (((UInt8.toNat y4):Nat):Int)))).toNat x2.1)),(y6.1,()))]))≤lim))
 (rec (y6.2.1,(x2.2.1++[((List.drop (1:Int).toNat (List.take (IntKind.wrap .i64 ((1:Int)+(IntKind.wrap .i64 (((UInt8.toNat y4):Nat):Int)))).toNat x2.1)),(y6.1,()))]),())))))))))))))
 (e0_0 (x2.2.1,())))
def F175 (a0:List UInt8):Option (List (D211)×Bool×Unit):=
 (iter (F175_R2
 (fun y8=>
 (some (y8.1,(true,()))))
 (fun y9=>
 (some (y9.2.1,(y9.1,()))))
 (fun y10=>
 (some (y10.2.1,(y10.1,()))))) fuel (a0,[],()))
def C175:Fun:=⟨[(.ro .str)],[((.slice Y211),.z),(.bool,.z)],fun z=>F175 z.1⟩
def E175:=en 47 [(229,C229)] [(2,[0,4],[]),(3,[0,4],[]),(6,[0,4,5],[]),(10,[4,6,7,8],[]),(12,[4],[]),(100000,[4],[]),(100001,[0,4],[]),(99999,[2,3],[])]
def L175:List (LoopS (List (D211)×Bool×Unit)):=[⟨2,⟨[(0,(.pv .str)),(4,(.ref (.slice Y211) 80 []))],[(80,(.data false (.slice Y211) (.own .z)))]⟩,fun κ=>F175_R2 (fun y=>κ.exit 0 (SSh.mk' ⟨[(4,(.ref (.slice Y211) 80 []))],[(80,(.data false (.slice Y211) (.own .z)))]⟩ y)) (fun y=>κ.ret (SSh.mk' ⟨[(2,(.ref (.slice Y211) 176 [])),(3,(.pv .bool))],[(176,(.data false (.slice Y211) (.own .z)))]⟩ y)) (fun y=>κ.ret (SSh.mk' ⟨[(2,(.ref (.slice Y211) 304 [])),(3,(.pv .bool))],[(304,(.data false (.slice Y211) (.own .z)))]⟩ y))⟩]
theorem L175_2:RoundEq E175 L175 L175[0] (nthLoop (codeOf Tryz.f175) 0):=fun κ N x=>by kernel_rfl
theorem C175_ok:QuietOk Tryz.prog 175 C175:=tQ E175 L175 [nthLoop (codeOf Tryz.f175) 0] Tryz.func175 ty_ok (.cons C229_ok .nil) (.cons L175[0] (by kernel_rfl) L175_2 .nil)
def F244_R2 (e0_0:List (D76)×Unit→Option (List (D76)×Bool×Unit)) (er_1:Bool×List (D76)×Unit→Option (List (D76)×Bool×Unit)) (rec:List UInt8×List (D76)×Unit→Option (List (D76)×Bool×Unit)) (x2:List UInt8×List (D76)×Unit):Option (List (D76)×Bool×Unit):=
 (cond (decide ((x2.1.length:Int)>(0:Int)))
 ((F229 x2.1).bind fun y4=>
 (cond (!y4.2.2.1)
 (er_1 (false,[],()))
 (gd (decide ((x2.2.1.length+(List.length [y4.1]))≤lim))
 (rec (y4.2.1,(x2.2.1++[y4.1]),())))))
 (e0_0 (x2.2.1,())))
def F244 (a0:List UInt8):Option (List (D76)×Bool×Unit):=
 (iter (F244_R2
 (fun y6=>
 (some (y6.1,(true,()))))
 (fun y7=>
 (some (y7.2.1,(y7.1,()))))) fuel (a0,[],()))
def C244:Fun:=⟨[(.ro .str)],[((.slice Y76),.z),(.bool,.z)],fun z=>F244 z.1⟩
def E244:=en 27 [(229,C229)] [(2,[0,4],[]),(3,[0,4],[]),(6,[4,5,6],[]),(8,[4],[]),(100000,[4],[]),(100001,[0,4],[]),(99999,[2,3],[])]
def L244:List (LoopS (List (D76)×Bool×Unit)):=[⟨2,⟨[(0,(.pv .str)),(4,(.ref (.slice Y76) 64 []))],[(64,(.data false (.slice Y76) (.own .z)))]⟩,fun κ=>F244_R2 (fun y=>κ.exit 0 (SSh.mk' ⟨[(4,(.ref (.slice Y76) 64 []))],[(64,(.data false (.slice Y76) (.own .z)))]⟩ y)) (fun y=>κ.ret (SSh.mk' ⟨[(2,(.ref (.slice Y76) 160 [])),(3,(.pv .bool))],[(160,(.data false (.slice Y76) (.own .z)))]⟩ y))⟩]
theorem L244_2:RoundEq E244 L244 L244[0] (nthLoop (codeOf Tryz.f244) 0):=fun κ N x=>by kernel_rfl
theorem C244_ok:QuietOk Tryz.prog 244 C244:=tQ E244 L244 [nthLoop (codeOf Tryz.f244) 0] Tryz.func244 ty_ok (.cons C229_ok .nil) (.cons L244[0] (by kernel_rfl) L244_2 .nil)
abbrev G189:Type:=(D76)→(Int)→Option (Bool×Unit)
def H189 (g:G189):Fun:=⟨[(.ro Y76),(.ro (.int .i64))],[(.bool,.z)],fun z=>g z.1 z.2.1⟩
def B189_R15 (g:G189) (e1_0:Unit→Option (Bool×Unit)) (er_1:Bool×Unit→Option (Bool×Unit)) (rec:Int×List (D76)×Int×Unit→Option (Bool×Unit)) (x7:Int×List (D76)×Int×Unit):Option (Bool×Unit):=
 (cond (decide (x7.2.2.1<(x7.2.1.length:Int)))
 (gd (decide ((0:Int)≤x7.2.2.1))
 (x7.2.1[x7.2.2.1.toNat]?.bind fun y10=>
 ((g y10 (IntKind.wrap .i64 (x7.1-(1:Int)))).bind fun y11=>
 (cond (!y11.1)
 (er_1 (false,()))
 (rec (x7.1,x7.2.1,(IntKind.wrap .i64 (x7.2.2.1+(1:Int))),()))))))
 (e1_0 (())))
def B189_R25 (g:G189) (e3_0:Unit→Option (Bool×Unit)) (er_1:Bool×Unit→Option (Bool×Unit)) (rec:Int×List (D211)×Int×Unit→Option (Bool×Unit)) (x18:Int×List (D211)×Int×Unit):Option (Bool×Unit):=
 (cond (decide (x18.2.2.1<(x18.2.1.length:Int)))
 (let j29:Int×List (D211)×Int×Unit→Option (Bool×Unit):=fun (y30:Int×List (D211)×Int×Unit)=>
 (rec (y30.1,y30.2.1,(IntKind.wrap .i64 (y30.2.2.1+(1:Int))),()))
 (gd (decide ((0:Int)≤x18.2.2.1))
 (x18.2.1[x18.2.2.1.toNat]?.bind fun y21=>
 ((F82 y21.1).bind fun y22=>
 (cond (!y22.1)
 (er_1 (false,()))
 (cond (decide (x18.2.2.1>(0:Int)))
 (gd (decide ((0:Int)≤(IntKind.wrap .i64 (x18.2.2.1-(1:Int)))))
 (x18.2.1[(IntKind.wrap .i64 (x18.2.2.1-(1:Int))).toNat]?.bind fun y23=>
 (gd (decide ((0:Int)≤x18.2.2.1))
 (x18.2.1[x18.2.2.1.toNat]?.bind fun y24=>
 (cond (!(Op.bytesLess y23.1 y24.1))
 (er_1 (false,()))
 (gd (decide ((0:Int)≤x18.2.2.1))
 (x18.2.1[x18.2.2.1.toNat]?.bind fun y25=>
 ((g y25.2.1 (IntKind.wrap .i64 (x18.1-(1:Int)))).bind fun y26=>
 (cond (!y26.1)
 (er_1 (false,()))
 (j29 (x18.1,x18.2.1,x18.2.2.1,())))))))))))
 (gd (decide ((0:Int)≤x18.2.2.1))
 (x18.2.1[x18.2.2.1.toNat]?.bind fun y27=>
 ((g y27.2.1 (IntKind.wrap .i64 (x18.1-(1:Int)))).bind fun y28=>
 (cond (!y28.1)
 (er_1 (false,()))
 (j29 (x18.1,x18.2.1,x18.2.2.1,()))))))))))))
 (e3_0 (())))
def B189 (g:G189) (a0:D76) (a1:Int):Option (Bool×Unit):=
 (cond (a0.1==(0:Int))
 (cond (a0.2.1==(0:Int))
 (some ((a0.2.2.1==[]),()))
 (some (false,())))
 (cond (a0.1==(1:Int))
 ((F81 a0.2.1 (0:Int) (1:Int)).bind fun y1=>
 (cond y1.1
 (some ((a0.2.2.1==[]),()))
 (some (false,()))))
 (cond (a0.1==(2:Int))
 ((F81 a0.2.1 (-(1000000000000:Int)) (1000000000000:Int)).bind fun y2=>
 (cond y2.1
 (some ((a0.2.2.1==[]),()))
 (some (false,()))))
 (cond (a0.1==(3:Int))
 (cond (a0.2.1==(0:Int))
 (some ((decide ((a0.2.2.1.length:Int)≤(300:Int))),()))
 (some (false,())))
 (cond (a0.1==(4:Int))
 ((F244 a0.2.2.1).bind fun y3=>
 (cond (a0.2.1 != (0:Int))
 (some (false,()))
 (cond (!y3.2.1)
 (some (false,()))
 (cond (decide ((a0.2.2.1.length:Int)>(300:Int)))
 (some (false,()))
 (cond (a1==(0:Int))
 (some (false,()))
 (iter (B189_R15 g
 (fun y12=>
 (some (true,())))
 (fun y13=>
 (some (y13.1,())))) fuel (a1,y3.1,(0:Int),())))))))
 (cond (a0.1==(5:Int))
 ((F175 a0.2.2.1).bind fun y14=>
 (cond (a0.2.1 != (0:Int))
 (some (false,()))
 (cond (!y14.2.1)
 (some (false,()))
 (cond (decide ((a0.2.2.1.length:Int)>(300:Int)))
 (some (false,()))
 (cond (a1==(0:Int))
 (some (false,()))
 (iter (B189_R25 g
 (fun y31=>
 (some (true,())))
 (fun y32=>
 (some (y32.1,())))) fuel (a1,y14.1,(0:Int),())))))))
 (some (false,()))))))))
def K189 (g:G189):Fun:=⟨[(.ro Y76),(.ro (.int .i64))],[(.bool,.z)],fun z=>B189 g z.1 z.2.1⟩
def E189 (g:G189):Env:=⟨160,tyTab tys,oneTab ones,fnTab [(81,C81),(82,C82),(175,C175),(189,(H189 g)),(244,C244)],false,[],[(14,[1,5],[]),(15,[1,5,7],[]),(16,[1,5,7],[]),(17,[1,5,7],[]),(19,[],[]),(24,[1,8],[]),(25,[1,8,10],[]),(26,[1,8,10],[]),(27,[1,8,10],[]),(29,[],[]),(30,[],[]),(100000,[],[]),(100001,[],[]),(100002,[1,5,7],[]),(100003,[],[]),(100004,[1,8,10],[]),(99999,[4],[])],none,[],[]⟩
def L189 (g:G189):List (LoopS (Bool×Unit)):=[⟨15,⟨[(1,(.pv (.int .i64))),(5,(.pv (.slice Y76))),(7,(.pv (.int .i64)))],[]⟩,fun κ=>B189_R15 g (fun y=>κ.exit 1 (SSh.mk' ⟨[],[]⟩ y)) (fun y=>κ.ret (SSh.mk' ⟨[(4,(.pv .bool))],[]⟩ y))⟩,
  ⟨25,⟨[(1,(.pv (.int .i64))),(8,(.pv (.slice Y211))),(10,(.pv (.int .i64)))],[]⟩,fun κ=>B189_R25 g (fun y=>κ.exit 3 (SSh.mk' ⟨[],[]⟩ y)) (fun y=>κ.ret (SSh.mk' ⟨[(4,(.pv .bool))],[]⟩ y))⟩]
theorem L189_25 (g:G189):RoundEq (E189 g) (L189 g) ((L189 g)[1]'(Nat.le_of_ble_eq_true rfl)) (nthLoop (codeOf Tryz.f189) 1):=fun κ N x=>by kernel_rfl
theorem L189_15 (g:G189):RoundEq (E189 g) (L189 g) ((L189 g)[0]'(Nat.le_of_ble_eq_true rfl)) (nthLoop (codeOf Tryz.f189) 0):=fun κ N x=>by kernel_rfl
theorem K189_ok (g:G189) (hg:QuietOk Tryz.prog 189 (H189 g)):QuietOk Tryz.prog 189 (K189 g):=tQ (E189 g) (L189 g) [nthLoop (codeOf Tryz.f189) 0,nthLoop (codeOf Tryz.f189) 1] Tryz.func189 ty_ok (.cons C81_ok (.cons C82_ok (.cons C175_ok (.cons hg (.cons C244_ok .nil))))) (.cons ((L189 g)[0]'(Nat.le_of_ble_eq_true rfl)) (by kernel_rfl) (L189_15 g) (.cons ((L189 g)[1]'(Nat.le_of_ble_eq_true rfl)) (by kernel_rfl) (L189_25 g) .nil))
def S189:Nat→G189
  |0=>fun _ _=>none
  |k+1=>B189 (S189 k)
def F189:G189:=S189 fuel
def C189:Fun:=H189 F189
theorem C189_all:∀ k,QuietOk Tryz.prog 189 (H189 (S189 k))
  |0=>QuietOk.none Tryz.func189 (by rfl) (by decide) fun _=>rfl
  |k+1=>K189_ok (S189 k) (C189_all k)
theorem C189_ok:QuietOk Tryz.prog 189 C189:=C189_all fuel
def F134 (a0:D76):Option (Bool×Unit):=
 (cond (decide ((a0.2.2.1.length:Int)≤(65536:Int)))
 ((F189 a0 (5:Int)).bind fun y0=>
 (some (y0.1,())))
 (some (false,())))
def C134:Fun:=⟨[(.ro Y76)],[(.bool,.z)],fun z=>F134 z.1⟩
def E134:=en 11 [(189,C189)] [(99999,[2],[])]
def L134:List (LoopS (Bool×Unit)):=[]
theorem C134_ok:QuietOk Tryz.prog 134 C134:=tQ E134 L134 [] Tryz.func134 ty_ok (.cons C189_ok .nil) .nil
def F131 (a0:D190):Option (Bool×Unit):=
 (cond (decide ((a0.2.1.length:Int)>(65536:Int)))
 (some (false,()))
 ((F83 a0.2.1).bind fun y1=>
 (cond (!y1.1)
 (some (false,()))
 ((F134 a0.2.2.1).bind fun y2=>
 (cond (!y2.1)
 (some (false,()))
 (let j11:Unit→Option (Bool×Unit):=fun (y12:Unit)=>
 (some (false,()))
 (cond (a0.1==(1:Int))
 (cond (a0.1==(1:Int))
 (some (true,()))
 (cond (a0.1==(7:Int))
 (some ((a0.2.2.1.1==(4:Int)),()))
 (cond (a0.1==(8:Int))
 (some ((a0.2.2.1.1==(1:Int)),()))
 (cond (a0.1==(9:Int))
 (cond (a0.2.2.1.1==(2:Int))
 ((F81 a0.2.2.1.2.1 (0:Int) (5:Int)).bind fun y5=>
 (some (y5.1,())))
 (some (false,())))
 (cond (a0.1==(10:Int))
 (cond (a0.2.2.1.1==(2:Int))
 (some ((decide (a0.2.2.1.2.1≥(0:Int))),()))
 (some (false,())))
 (j11 (())))))))
 (cond (a0.1==(2:Int))
 (cond (a0.1==(2:Int))
 (some (true,()))
 (cond (a0.1==(7:Int))
 (some ((a0.2.2.1.1==(4:Int)),()))
 (cond (a0.1==(8:Int))
 (some ((a0.2.2.1.1==(1:Int)),()))
 (cond (a0.1==(9:Int))
 (cond (a0.2.2.1.1==(2:Int))
 ((F81 a0.2.2.1.2.1 (0:Int) (5:Int)).bind fun y6=>
 (some (y6.1,())))
 (some (false,())))
 (cond (a0.1==(10:Int))
 (cond (a0.2.2.1.1==(2:Int))
 (some ((decide (a0.2.2.1.2.1≥(0:Int))),()))
 (some (false,())))
 (j11 (())))))))
 (cond (a0.1==(3:Int))
 (cond (a0.1==(3:Int))
 (some (true,()))
 (cond (a0.1==(7:Int))
 (some ((a0.2.2.1.1==(4:Int)),()))
 (cond (a0.1==(8:Int))
 (some ((a0.2.2.1.1==(1:Int)),()))
 (cond (a0.1==(9:Int))
 (cond (a0.2.2.1.1==(2:Int))
 ((F81 a0.2.2.1.2.1 (0:Int) (5:Int)).bind fun y7=>
 (some (y7.1,())))
 (some (false,())))
 (cond (a0.1==(10:Int))
 (cond (a0.2.2.1.1==(2:Int))
 (some ((decide (a0.2.2.1.2.1≥(0:Int))),()))
 (some (false,())))
 (j11 (())))))))
 (cond (a0.1==(4:Int))
 (cond (a0.1==(4:Int))
 (some (true,()))
 (cond (a0.1==(7:Int))
 (some ((a0.2.2.1.1==(4:Int)),()))
 (cond (a0.1==(8:Int))
 (some ((a0.2.2.1.1==(1:Int)),()))
 (cond (a0.1==(9:Int))
 (cond (a0.2.2.1.1==(2:Int))
 ((F81 a0.2.2.1.2.1 (0:Int) (5:Int)).bind fun y8=>
 (some (y8.1,())))
 (some (false,())))
 (cond (a0.1==(10:Int))
 (cond (a0.2.2.1.1==(2:Int))
 (some ((decide (a0.2.2.1.2.1≥(0:Int))),()))
 (some (false,())))
 (j11 (())))))))
 (cond (a0.1==(5:Int))
 (cond (a0.1==(5:Int))
 (some (true,()))
 (cond (a0.1==(7:Int))
 (some ((a0.2.2.1.1==(4:Int)),()))
 (cond (a0.1==(8:Int))
 (some ((a0.2.2.1.1==(1:Int)),()))
 (cond (a0.1==(9:Int))
 (cond (a0.2.2.1.1==(2:Int))
 ((F81 a0.2.2.1.2.1 (0:Int) (5:Int)).bind fun y9=>
 (some (y9.1,())))
 (some (false,())))
 (cond (a0.1==(10:Int))
 (cond (a0.2.2.1.1==(2:Int))
 (some ((decide (a0.2.2.1.2.1≥(0:Int))),()))
 (some (false,())))
 (j11 (())))))))
 (cond (a0.1==(6:Int))
 (some (true,()))
 (cond (a0.1==(7:Int))
 (some ((a0.2.2.1.1==(4:Int)),()))
 (cond (a0.1==(8:Int))
 (some ((a0.2.2.1.1==(1:Int)),()))
 (cond (a0.1==(9:Int))
 (cond (a0.2.2.1.1==(2:Int))
 ((F81 a0.2.2.1.2.1 (0:Int) (5:Int)).bind fun y10=>
 (some (y10.1,())))
 (some (false,())))
 (cond (a0.1==(10:Int))
 (cond (a0.2.2.1.1==(2:Int))
 (some ((decide (a0.2.2.1.2.1≥(0:Int))),()))
 (some (false,())))
 (j11 (()))))))))))))))))))
def C131:Fun:=⟨[(.ro Y190)],[(.bool,.z)],fun z=>F131 z.1⟩
def E131:=en 64 [(81,C81),(83,C83),(134,C134)] [(3,[1],[]),(19,[],[]),(100000,[],[]),(99999,[2],[])]
def L131:List (LoopS (Bool×Unit)):=[]
theorem C131_ok:QuietOk Tryz.prog 131 C131:=tQ E131 L131 [] Tryz.func131 ty_ok (.cons C81_ok (.cons C83_ok (.cons C134_ok .nil))) .nil
def F80_R9 (e2_0:Int×D27×Unit→Option (Bool×Unit)) (er_1:Bool×Unit→Option (Bool×Unit)) (rec:Int×Int×D27×Unit→Option (Bool×Unit)) (x10:Int×Int×D27×Unit):Option (Bool×Unit):=
 (gd (decide ((0:Int)≤x10.1))
 (x10.2.2.1.1[x10.1.toNat]?.bind fun y12=>
 (cond (decide (x10.2.1<(y12.1.length:Int)))
 (gd (decide ((0:Int)≤x10.1))
 (x10.2.2.1.1[x10.1.toNat]?.bind fun y14=>
 (gd (decide ((0:Int)≤x10.2.1))
 (y14.1[x10.2.1.toNat]?.bind fun y15=>
 ((F131 y15).bind fun y16=>
 (cond (!y16.1)
 (er_1 (false,()))
 (rec (x10.1,(IntKind.wrap .i64 (x10.2.1+(1:Int))),x10.2.2.1,()))))))))
 (e2_0 (x10.1,x10.2.2.1,())))))
def F80_R4 (e0_0:Unit→Option (Bool×Unit)) (er_1:Bool×Unit→Option (Bool×Unit)) (rec:Int×D27×Unit→Option (Bool×Unit)) (x4:Int×D27×Unit):Option (Bool×Unit):=
 (cond (decide (x4.1<(x4.2.1.1.length:Int)))
 (gd (decide ((0:Int)≤x4.1))
 (x4.2.1.1[x4.1.toNat]?.bind fun y8=>
 (cond (decide ((y8.1.length:Int)>(4:Int)))
 (er_1 (false,()))
 (iter (F80_R9
 (fun y17=>
 (rec ((IntKind.wrap .i64 (y17.1+(1:Int))),y17.2.1,())))
 (fun y18=>
 (er_1 (y18.1,())))) fuel (x4.1,(0:Int),x4.2.1,())))))
 (e0_0 (())))
def F80 (a0:D27):Option (Bool×Unit):=
 ((F81 (a0.1.length:Int) (1:Int) (3:Int)).bind fun y1=>
 (cond (!y1.1)
 (some (false,()))
 (iter (F80_R4
 (fun y19=>
 (some (true,())))
 (fun y20=>
 (some (y20.1,())))) fuel ((0:Int),a0,()))))
def C80:Fun:=⟨[(.ro Y27)],[(.bool,.z)],fun z=>F80 z.1⟩
def E80:=en 47 [(81,C81),(131,C131)] [(3,[1],[]),(4,[1,3],[]),(5,[1,3],[]),(6,[1,3],[]),(8,[1,3],[]),(9,[1,3,4],[]),(10,[1,3,4],[]),(11,[1,3,4],[]),(13,[],[]),(100000,[],[]),(100001,[1,3],[]),(100002,[1,3],[]),(100003,[1,3,4],[]),(99999,[2],[])]
def L80:List (LoopS (Bool×Unit)):=[⟨9,⟨[(1,(.ptr 8 [])),(3,(.pv (.int .i64))),(4,(.pv (.int .i64)))],[(8,(.data true Y27 .z))]⟩,fun κ=>F80_R9 (fun y=>κ.exit 2 (SSh.mk' ⟨[(1,(.ptr 8 [])),(3,(.pv (.int .i64)))],[(8,(.data true Y27 .z))]⟩ y)) (fun y=>κ.ret (SSh.mk' ⟨[(2,(.pv .bool))],[]⟩ y))⟩,
  ⟨4,⟨[(1,(.ptr 8 [])),(3,(.pv (.int .i64)))],[(8,(.data true Y27 .z))]⟩,fun κ=>F80_R4 (fun y=>κ.exit 0 (SSh.mk' ⟨[],[]⟩ y)) (fun y=>κ.ret (SSh.mk' ⟨[(2,(.pv .bool))],[]⟩ y))⟩]
theorem L80_9:RoundEq E80 L80 L80[0] (nthLoop (codeOf Tryz.f80) 1):=fun κ N x=>by kernel_rfl
theorem L80_4:RoundEq E80 L80 L80[1] (nthLoop (codeOf Tryz.f80) 0):=fun κ N x=>by kernel_rfl
theorem C80_ok:QuietOk Tryz.prog 80 C80:=tQ E80 L80 [nthLoop (codeOf Tryz.f80) 0,nthLoop (codeOf Tryz.f80) 1] Tryz.func80 ty_ok (.cons C81_ok (.cons C131_ok .nil)) (.cons L80[1] (by kernel_rfl) L80_4 (.cons L80[0] (by kernel_rfl) L80_9 .nil))
def F33_R4 (e0_0:D31×Unit→Option (Bool×Unit)) (er_1:Bool×Unit→Option (Bool×Unit)) (rec:Int×D31×Unit→Option (Bool×Unit)) (x9:Int×D31×Unit):Option (Bool×Unit):=
 (cond (decide (x9.1<(x9.2.1.2.1.length:Int)))
 (gd (decide ((0:Int)≤x9.1))
 (x9.2.1.2.1[x9.1.toNat]?.bind fun y12=>
 ((F83 y12.1).bind fun y13=>
 (cond (!y13.1)
 (er_1 (false,()))
 (rec ((IntKind.wrap .i64 (x9.1+(1:Int))),x9.2.1,()))))))
 (e0_0 (x9.2.1,())))
def F33_R9 (e2_0:Unit→Option (Bool×Unit)) (er_1:Bool×Unit→Option (Bool×Unit)) (rec:Int×D31×Unit→Option (Bool×Unit)) (x18:Int×D31×Unit):Option (Bool×Unit):=
 (cond (decide (x18.1<(x18.2.1.2.2.2.2.1.length:Int)))
 (gd (decide ((0:Int)≤x18.1))
 (x18.2.1.2.2.2.2.1[x18.1.toNat]?.bind fun y21=>
 ((F82 y21).bind fun y22=>
 (cond (!y22.1)
 (er_1 (false,()))
 (rec ((IntKind.wrap .i64 (x18.1+(1:Int))),x18.2.1,()))))))
 (e2_0 (())))
def F33 (a0:D31):Option (Bool×Unit):=
 (let j5:D31×Unit→Option (Bool×Unit):=fun (y6:D31×Unit)=>
 (iter (F33_R4
 (fun y14=>
 (iter (F33_R9
 (fun y23=>
 (some (true,())))
 (fun y24=>
 (some (y24.1,())))) fuel ((0:Int),y14.1,())))
 (fun y15=>
 (some (y15.1,())))) fuel ((0:Int),y6.1,()))
 ((F80 a0.1).bind fun y1=>
 (cond (!y1.1)
 (some (false,()))
 (cond (decide ((a0.2.1.length:Int)>(2:Int)))
 (some (false,()))
 ((F81 a0.2.2.1 (0:Int) (100:Int)).bind fun y2=>
 (cond (!y2.1)
 (some (false,()))
 ((F81 a0.2.2.2.1 (0:Int) (100:Int)).bind fun y3=>
 (cond (!y3.1)
 (some (false,()))
 (cond (decide ((a0.2.2.2.2.1.length:Int)>(4:Int)))
 (some (false,()))
 (cond (!(a0.2.2.2.2.2.1==[]))
 ((F82 a0.2.2.2.2.2.1).bind fun y4=>
 (cond (!y4.1)
 (some (false,()))
 (j5 (a0,()))))
 (j5 (a0,()))))))))))))
def C33:Fun:=⟨[(.ro Y31)],[(.bool,.z)],fun z=>F33 z.1⟩
def E33:=en 73 [(80,C80),(81,C81),(82,C82),(83,C83)] [(3,[1],[]),(4,[1,3],[]),(5,[1,3],[]),(6,[1,3],[]),(8,[1],[]),(9,[1,4],[]),(10,[1,4],[]),(11,[1,4],[]),(13,[],[]),(100000,[1],[]),(100001,[1,3],[]),(100002,[],[]),(100003,[1,4],[]),(99999,[2],[])]
def L33:List (LoopS (Bool×Unit)):=[⟨4,⟨[(1,(.ptr 8 [])),(3,(.pv (.int .i64)))],[(8,(.data true Y31 .z))]⟩,fun κ=>F33_R4 (fun y=>κ.exit 0 (SSh.mk' ⟨[(1,(.ptr 8 []))],[(8,(.data true Y31 .z))]⟩ y)) (fun y=>κ.ret (SSh.mk' ⟨[(2,(.pv .bool))],[]⟩ y))⟩,
  ⟨9,⟨[(1,(.ptr 8 [])),(4,(.pv (.int .i64)))],[(8,(.data true Y31 .z))]⟩,fun κ=>F33_R9 (fun y=>κ.exit 2 (SSh.mk' ⟨[],[]⟩ y)) (fun y=>κ.ret (SSh.mk' ⟨[(2,(.pv .bool))],[]⟩ y))⟩]
theorem L33_9:RoundEq E33 L33 L33[1] (nthLoop (codeOf Tryz.f33) 1):=fun κ N x=>by kernel_rfl
theorem L33_4:RoundEq E33 L33 L33[0] (nthLoop (codeOf Tryz.f33) 0):=fun κ N x=>by kernel_rfl
theorem C33_ok:QuietOk Tryz.prog 33 C33:=tQ E33 L33 [nthLoop (codeOf Tryz.f33) 0,nthLoop (codeOf Tryz.f33) 1] Tryz.func33 ty_ok (.cons C80_ok (.cons C81_ok (.cons C82_ok (.cons C83_ok .nil)))) (.cons L33[0] (by kernel_rfl) L33_4 (.cons L33[1] (by kernel_rfl) L33_9 .nil))
def F84 (a0:D76):Option (Bool×Unit):=
 ((F134 a0).bind fun y0=>
 (cond y0.1
 (some ((a0.1==(5:Int)),()))
 (some (false,()))))
def C84:Fun:=⟨[(.ro Y76)],[(.bool,.z)],fun z=>F84 z.1⟩
def E84:=en 10 [(134,C134)] [(99999,[2],[])]
def L84:List (LoopS (Bool×Unit)):=[]
theorem C84_ok:QuietOk Tryz.prog 84 C84:=tQ E84 L84 [] Tryz.func84 ty_ok (.cons C134_ok .nil) .nil
def F135_R3 (e0_0:D76×Unit→Option (D76×Bool×Unit)) (er_1:Bool×D76×Unit→Option (D76×Bool×Unit)) (rec:List UInt8×List (D211)×Int×D76×Unit→Option (D76×Bool×Unit)) (x3:List UInt8×List (D211)×Int×D76×Unit):Option (D76×Bool×Unit):=
 (cond (decide (x3.2.2.1<(x3.2.1.length:Int)))
 (gd (decide ((0:Int)≤x3.2.2.1))
 (x3.2.1[x3.2.2.1.toNat]?.bind fun y6=>
 (cond (y6.1==x3.1)
 (gd (decide ((0:Int)≤x3.2.2.1))
 (x3.2.1[x3.2.2.1.toNat]?.bind fun y7=>
 (er_1 (true,y7.2.1,()))))
 (rec (x3.1,x3.2.1,(IntKind.wrap .i64 (x3.2.2.1+(1:Int))),x3.2.2.2.1,())))))
 (e0_0 (x3.2.2.2.1,())))
def F135 (a0:D76) (a1:List UInt8):Option (D76×Bool×Unit):=
 ((F175 a0.2.2.1).bind fun y0=>
 (iter (F135_R3
 (fun y8=>
 (some (((0:Int),((0:Int),([],()))),(false,()))))
 (fun y9=>
 (some (y9.2.1,(y9.1,()))))) fuel (a1,y0.1,(0:Int),((0:Int),((0:Int),([],()))),())))
def C135:Fun:=⟨[(.ro Y76),(.ro .str)],[(Y76,.z),(.bool,.z)],fun z=>F135 z.1 z.2.1⟩
def E135:=en 34 [(175,C175)] [(3,[1,4,6,8],[]),(4,[1,4,6,8],[]),(5,[1,4,6,8],[]),(7,[4],[]),(100000,[4],[]),(100001,[1,4,6,8],[]),(99999,[4,5],[])]
def L135:List (LoopS (D76×Bool×Unit)):=[⟨3,⟨[(1,(.pv .str)),(4,(.ptr 32 [])),(6,(.pv (.slice Y211))),(8,(.pv (.int .i64)))],[(32,(.data true Y76 .z))]⟩,fun κ=>F135_R3 (fun y=>κ.exit 0 (SSh.mk' ⟨[(4,(.ptr 32 []))],[(32,(.data true Y76 .z))]⟩ y)) (fun y=>κ.ret (SSh.mk' ⟨[(4,(.ptr 32 [])),(5,(.pv .bool))],[(32,(.data true Y76 .z))]⟩ y))⟩]
theorem L135_3:RoundEq E135 L135 L135[0] (nthLoop (codeOf Tryz.f135) 0):=fun κ N x=>by kernel_rfl
theorem C135_ok:QuietOk Tryz.prog 135 C135:=tQ E135 L135 [nthLoop (codeOf Tryz.f135) 0] Tryz.func135 ty_ok (.cons C175_ok .nil) (.cons L135[0] (by kernel_rfl) L135_3 .nil)
end
end Go.V
