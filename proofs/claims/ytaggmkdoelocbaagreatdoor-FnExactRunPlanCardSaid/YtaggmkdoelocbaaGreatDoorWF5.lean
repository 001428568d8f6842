/- What functions of the program compute, printed by a program of ours. No condition. -/
import Derived.Test.YtaggmkdoelocbaaGreatDoorWF4
namespace Go.V
open Go.Proofs
noncomputable section
set_option maxRecDepth 100000
set_option linter.unusedVariables false
def F56 (a0:D76) (a1:D76):Option (Bool×Unit):=
 (cond (a0.1 != a1.1)
 (some (false,()))
 (cond (a0.2.1 != a1.2.1)
 (some (false,()))
 (cond (!(a0.2.2.1==a1.2.2.1))
 (some (false,()))
 (some (true,())))))
def C56:Fun:=⟨[(.ro Y76),(.ro Y76)],[(.bool,.z)],fun z=>F56 z.1 z.2.1⟩
def E56:=en 20 [] [(3,[2,3],[]),(5,[2,3],[]),(7,[],[]),(99999,[4],[])]
def L56:List (LoopS (Bool×Unit)):=[]
theorem C56_ok:QuietOk Tryz.prog 56 C56:=tQ E56 L56 [] Tryz.func56 ty_ok .nil .nil
def F15_R4 (e0_0:Unit→Option (Bool×Unit)) (er_1:Bool×Unit→Option (Bool×Unit)) (rec:List (D76)×List (D76)×Int×Unit→Option (Bool×Unit)) (x3:List (D76)×List (D76)×Int×Unit):Option (Bool×Unit):=
 (cond (decide (x3.2.2.1<(x3.1.length:Int)))
 (gd (decide ((0:Int)≤x3.2.2.1))
 (x3.1[x3.2.2.1.toNat]?.bind fun y6=>
 (gd (decide ((0:Int)≤x3.2.2.1))
 (x3.2.1[x3.2.2.1.toNat]?.bind fun y7=>
 ((F56 y6 y7).bind fun y8=>
 (cond (!y8.1)
 (er_1 (false,()))
 (rec (x3.1,x3.2.1,(IntKind.wrap .i64 (x3.2.2.1+(1:Int))),()))))))))
 (e0_0 (())))
def F15 (a0:List (D76)) (a1:List (D76)):Option (Bool×Unit):=
 (cond ((a0.length:Int) != (a1.length:Int))
 (some (false,()))
 (iter (F15_R4
 (fun y9=>
 (some (true,())))
 (fun y10=>
 (some (y10.1,())))) fuel (a0,a1,(0:Int),())))
def C15:Fun:=⟨[(.ro (.slice Y76)),(.ro (.slice Y76))],[(.bool,.z)],fun z=>F15 z.1 z.2.1⟩
def E15:=en 27 [(56,C56)] [(3,[0,1],[]),(4,[0,1,5],[]),(5,[0,1,5],[]),(6,[0,1,5],[]),(8,[],[]),(100000,[],[]),(100001,[0,1,5],[]),(99999,[4],[])]
def L15:List (LoopS (Bool×Unit)):=[⟨4,⟨[(0,(.pv (.slice Y76))),(1,(.pv (.slice Y76))),(5,(.pv (.int .i64)))],[]⟩,fun κ=>F15_R4 (fun y=>κ.exit 0 (SSh.mk' ⟨[],[]⟩ y)) (fun y=>κ.ret (SSh.mk' ⟨[(4,(.pv .bool))],[]⟩ y))⟩]
theorem L15_4:RoundEq E15 L15 L15[0] (nthLoop (codeOf Tryz.f15) 0):=fun κ N x=>by kernel_rfl
theorem C15_ok:QuietOk Tryz.prog 15 C15:=tQ E15 L15 [nthLoop (codeOf Tryz.f15) 0] Tryz.func15 ty_ok (.cons C56_ok .nil) (.cons L15[0] (by kernel_rfl) L15_4 .nil)
def F267 (a0:D190) (a1:D190):Option (Bool×Unit):=
 (cond (a0.1 != a1.1)
 (some (false,()))
 (cond (!(a0.2.1==a1.2.1))
 (some (false,()))
 ((F56 a0.2.2.1 a1.2.2.1).bind fun y3=>
 (cond (!y3.1)
 (some (false,()))
 (some (true,()))))))
def C267:Fun:=⟨[(.ro Y190),(.ro Y190)],[(.bool,.z)],fun z=>F267 z.1 z.2.1⟩
def E267:=en 21 [(56,C56)] [(3,[2,3],[]),(5,[2,3],[]),(7,[],[]),(99999,[4],[])]
def L267:List (LoopS (Bool×Unit)):=[]
theorem C267_ok:QuietOk Tryz.prog 267 C267:=tQ E267 L267 [] Tryz.func267 ty_ok (.cons C56_ok .nil) .nil
def F224_R4 (e0_0:Unit→Option (Bool×Unit)) (er_1:Bool×Unit→Option (Bool×Unit)) (rec:List (D190)×List (D190)×Int×Unit→Option (Bool×Unit)) (x3:List (D190)×List (D190)×Int×Unit):Option (Bool×Unit):=
 (cond (decide (x3.2.2.1<(x3.1.length:Int)))
 (gd (decide ((0:Int)≤x3.2.2.1))
 (x3.1[x3.2.2.1.toNat]?.bind fun y6=>
 (gd (decide ((0:Int)≤x3.2.2.1))
 (x3.2.1[x3.2.2.1.toNat]?.bind fun y7=>
 ((F267 y6 y7).bind fun y8=>
 (cond (!y8.1)
 (er_1 (false,()))
 (rec (x3.1,x3.2.1,(IntKind.wrap .i64 (x3.2.2.1+(1:Int))),()))))))))
 (e0_0 (())))
def F224 (a0:List (D190)) (a1:List (D190)):Option (Bool×Unit):=
 (cond ((a0.length:Int) != (a1.length:Int))
 (some (false,()))
 (iter (F224_R4
 (fun y9=>
 (some (true,())))
 (fun y10=>
 (some (y10.1,())))) fuel (a0,a1,(0:Int),())))
def C224:Fun:=⟨[(.ro (.slice Y190)),(.ro (.slice Y190))],[(.bool,.z)],fun z=>F224 z.1 z.2.1⟩
def E224:=en 27 [(267,C267)] [(3,[0,1],[]),(4,[0,1,5],[]),(5,[0,1,5],[]),(6,[0,1,5],[]),(8,[],[]),(100000,[],[]),(100001,[0,1,5],[]),(99999,[4],[])]
def L224:List (LoopS (Bool×Unit)):=[⟨4,⟨[(0,(.pv (.slice Y190))),(1,(.pv (.slice Y190))),(5,(.pv (.int .i64)))],[]⟩,fun κ=>F224_R4 (fun y=>κ.exit 0 (SSh.mk' ⟨[],[]⟩ y)) (fun y=>κ.ret (SSh.mk' ⟨[(4,(.pv .bool))],[]⟩ y))⟩]
theorem L224_4:RoundEq E224 L224 L224[0] (nthLoop (codeOf Tryz.f224) 0):=fun κ N x=>by kernel_rfl
theorem C224_ok:QuietOk Tryz.prog 224 C224:=tQ E224 L224 [nthLoop (codeOf Tryz.f224) 0] Tryz.func224 ty_ok (.cons C267_ok .nil) (.cons L224[0] (by kernel_rfl) L224_4 .nil)
def F170 (a0:D183) (a1:D183):Option (Bool×Unit):=
 ((F224 a0.1 a1.1).bind fun y1=>
 (cond (!y1.1)
 (some (false,()))
 (some (true,()))))
def C170:Fun:=⟨[(.ro Y183),(.ro Y183)],[(.bool,.z)],fun z=>F170 z.1 z.2.1⟩
def E170:=en 11 [(224,C224)] [(3,[],[]),(99999,[4],[])]
def L170:List (LoopS (Bool×Unit)):=[]
theorem C170_ok:QuietOk Tryz.prog 170 C170:=tQ E170 L170 [] Tryz.func170 ty_ok (.cons C224_ok .nil) .nil
def F113_R4 (e0_0:Unit→Option (Bool×Unit)) (er_1:Bool×Unit→Option (Bool×Unit)) (rec:List (D183)×List (D183)×Int×Unit→Option (Bool×Unit)) (x3:List (D183)×List (D183)×Int×Unit):Option (Bool×Unit):=
 (cond (decide (x3.2.2.1<(x3.1.length:Int)))
 (gd (decide ((0:Int)≤x3.2.2.1))
 (x3.1[x3.2.2.1.toNat]?.bind fun y6=>
 (gd (decide ((0:Int)≤x3.2.2.1))
 (x3.2.1[x3.2.2.1.toNat]?.bind fun y7=>
 ((F170 y6 y7).bind fun y8=>
 (cond (!y8.1)
 (er_1 (false,()))
 (rec (x3.1,x3.2.1,(IntKind.wrap .i64 (x3.2.2.1+(1:Int))),()))))))))
 (e0_0 (())))
def F113 (a0:List (D183)) (a1:List (D183)):Option (Bool×Unit):=
 (cond ((a0.length:Int) != (a1.length:Int))
 (some (false,()))
 (iter (F113_R4
 (fun y9=>
 (some (true,())))
 (fun y10=>
 (some (y10.1,())))) fuel (a0,a1,(0:Int),())))
def C113:Fun:=⟨[(.ro (.slice Y183)),(.ro (.slice Y183))],[(.bool,.z)],fun z=>F113 z.1 z.2.1⟩
def E113:=en 27 [(170,C170)] [(3,[0,1],[]),(4,[0,1,5],[]),(5,[0,1,5],[]),(6,[0,1,5],[]),(8,[],[]),(100000,[],[]),(100001,[0,1,5],[]),(99999,[4],[])]
def L113:List (LoopS (Bool×Unit)):=[⟨4,⟨[(0,(.pv (.slice Y183))),(1,(.pv (.slice Y183))),(5,(.pv (.int .i64)))],[]⟩,fun κ=>F113_R4 (fun y=>κ.exit 0 (SSh.mk' ⟨[],[]⟩ y)) (fun y=>κ.ret (SSh.mk' ⟨[(4,(.pv .bool))],[]⟩ y))⟩]
theorem L113_4:RoundEq E113 L113 L113[0] (nthLoop (codeOf Tryz.f113) 0):=fun κ N x=>by kernel_rfl
theorem C113_ok:QuietOk Tryz.prog 113 C113:=tQ E113 L113 [nthLoop (codeOf Tryz.f113) 0] Tryz.func113 ty_ok (.cons C170_ok .nil) (.cons L113[0] (by kernel_rfl) L113_4 .nil)
def F57 (a0:D27) (a1:D27):Option (Bool×Unit):=
 ((F113 a0.1 a1.1).bind fun y1=>
 (cond (!y1.1)
 (some (false,()))
 (some (true,()))))
def C57:Fun:=⟨[(.ro Y27),(.ro Y27)],[(.bool,.z)],fun z=>F57 z.1 z.2.1⟩
def E57:=en 11 [(113,C113)] [(3,[],[]),(99999,[4],[])]
def L57:List (LoopS (Bool×Unit)):=[]
theorem C57_ok:QuietOk Tryz.prog 57 C57:=tQ E57 L57 [] Tryz.func57 ty_ok (.cons C113_ok .nil) .nil
def F114 (a0:D139) (a1:D139):Option (Bool×Unit):=
 (cond (!(a0.1==a1.1))
 (some (false,()))
 (cond (!(a0.2.1==a1.2.1))
 (some (false,()))
 (some (true,()))))
def C114:Fun:=⟨[(.ro Y139),(.ro Y139)],[(.bool,.z)],fun z=>F114 z.1 z.2.1⟩
def E114:=en 15 [] [(3,[2,3],[]),(5,[],[]),(99999,[4],[])]
def L114:List (LoopS (Bool×Unit)):=[]
theorem C114_ok:QuietOk Tryz.prog 114 C114:=tQ E114 L114 [] Tryz.func114 ty_ok .nil .nil
def F58_R4 (e0_0:Unit→Option (Bool×Unit)) (er_1:Bool×Unit→Option (Bool×Unit)) (rec:List (D139)×List (D139)×Int×Unit→Option (Bool×Unit)) (x3:List (D139)×List (D139)×Int×Unit):Option (Bool×Unit):=
 (cond (decide (x3.2.2.1<(x3.1.length:Int)))
 (gd (decide ((0:Int)≤x3.2.2.1))
 (x3.1[x3.2.2.1.toNat]?.bind fun y6=>
 (gd (decide ((0:Int)≤x3.2.2.1))
 (x3.2.1[x3.2.2.1.toNat]?.bind fun y7=>
 ((F114 y6 y7).bind fun y8=>
 (cond (!y8.1)
 (er_1 (false,()))
 (rec (x3.1,x3.2.1,(IntKind.wrap .i64 (x3.2.2.1+(1:Int))),()))))))))
 (e0_0 (())))
def F58 (a0:List (D139)) (a1:List (D139)):Option (Bool×Unit):=
 (cond ((a0.length:Int) != (a1.length:Int))
 (some (false,()))
 (iter (F58_R4
 (fun y9=>
 (some (true,())))
 (fun y10=>
 (some (y10.1,())))) fuel (a0,a1,(0:Int),())))
def C58:Fun:=⟨[(.ro (.slice Y139)),(.ro (.slice Y139))],[(.bool,.z)],fun z=>F58 z.1 z.2.1⟩
def E58:=en 27 [(114,C114)] [(3,[0,1],[]),(4,[0,1,5],[]),(5,[0,1,5],[]),(6,[0,1,5],[]),(8,[],[]),(100000,[],[]),(100001,[0,1,5],[]),(99999,[4],[])]
def L58:List (LoopS (Bool×Unit)):=[⟨4,⟨[(0,(.pv (.slice Y139))),(1,(.pv (.slice Y139))),(5,(.pv (.int .i64)))],[]⟩,fun κ=>F58_R4 (fun y=>κ.exit 0 (SSh.mk' ⟨[],[]⟩ y)) (fun y=>κ.ret (SSh.mk' ⟨[(4,(.pv .bool))],[]⟩ y))⟩]
theorem L58_4:RoundEq E58 L58 L58[0] (nthLoop (codeOf Tryz.f58) 0):=fun κ N x=>by kernel_rfl
theorem C58_ok:QuietOk Tryz.prog 58 C58:=tQ E58 L58 [nthLoop (codeOf Tryz.f58) 0] Tryz.func58 ty_ok (.cons C114_ok .nil) (.cons L58[0] (by kernel_rfl) L58_4 .nil)
def F59_R4 (e0_0:Unit→Option (Bool×Unit)) (er_1:Bool×Unit→Option (Bool×Unit)) (rec:List (List UInt8)×List (List UInt8)×Int×Unit→Option (Bool×Unit)) (x3:List (List UInt8)×List (List UInt8)×Int×Unit):Option (Bool×Unit):=
 (cond (decide (x3.2.2.1<(x3.1.length:Int)))
 (gd (decide ((0:Int)≤x3.2.2.1))
 (x3.1[x3.2.2.1.toNat]?.bind fun y6=>
 (gd (decide ((0:Int)≤x3.2.2.1))
 (x3.2.1[x3.2.2.1.toNat]?.bind fun y7=>
 (cond (!(y6==y7))
 (er_1 (false,()))
 (rec (x3.1,x3.2.1,(IntKind.wrap .i64 (x3.2.2.1+(1:Int))),())))))))
 (e0_0 (())))
def F59 (a0:List (List UInt8)) (a1:List (List UInt8)):Option (Bool×Unit):=
 (cond ((a0.length:Int) != (a1.length:Int))
 (some (false,()))
 (iter (F59_R4
 (fun y8=>
 (some (true,())))
 (fun y9=>
 (some (y9.1,())))) fuel (a0,a1,(0:Int),())))
def C59:Fun:=⟨[(.ro (.slice .str)),(.ro (.slice .str))],[(.bool,.z)],fun z=>F59 z.1 z.2.1⟩
def E59:=en 26 [] [(3,[0,1],[]),(4,[0,1,5],[]),(5,[0,1,5],[]),(6,[0,1,5],[]),(8,[],[]),(100000,[],[]),(100001,[0,1,5],[]),(99999,[4],[])]
def L59:List (LoopS (Bool×Unit)):=[⟨4,⟨[(0,(.pv (.slice .str))),(1,(.pv (.slice .str))),(5,(.pv (.int .i64)))],[]⟩,fun κ=>F59_R4 (fun y=>κ.exit 0 (SSh.mk' ⟨[],[]⟩ y)) (fun y=>κ.ret (SSh.mk' ⟨[(4,(.pv .bool))],[]⟩ y))⟩]
theorem L59_4:RoundEq E59 L59 L59[0] (nthLoop (codeOf Tryz.f59) 0):=fun κ N x=>by kernel_rfl
theorem C59_ok:QuietOk Tryz.prog 59 C59:=tQ E59 L59 [nthLoop (codeOf Tryz.f59) 0] Tryz.func59 ty_ok .nil (.cons L59[0] (by kernel_rfl) L59_4 .nil)
def F16 (a0:D31) (a1:D31):Option (Bool×Unit):=
 ((F57 a0.1 a1.1).bind fun y1=>
 (cond (!y1.1)
 (some (false,()))
 ((F58 a0.2.1 a1.2.1).bind fun y3=>
 (cond (!y3.1)
 (some (false,()))
 (cond (a0.2.2.1 != a1.2.2.1)
 (some (false,()))
 (cond (a0.2.2.2.1 != a1.2.2.2.1)
 (some (false,()))
 ((F59 a0.2.2.2.2.1 a1.2.2.2.2.1).bind fun y7=>
 (cond (!y7.1)
 (some (false,()))
 (cond (!(a0.2.2.2.2.2.1==a1.2.2.2.2.2.1))
 (some (false,()))
 (some (true,())))))))))))
def C16:Fun:=⟨[(.ro Y31),(.ro Y31)],[(.bool,.z)],fun z=>F16 z.1 z.2.1⟩
def E16:=en 38 [(57,C57),(58,C58),(59,C59)] [(3,[2,3],[]),(5,[2,3],[]),(7,[2,3],[]),(9,[2,3],[]),(11,[2,3],[]),(13,[],[]),(99999,[4],[])]
def L16:List (LoopS (Bool×Unit)):=[]
theorem C16_ok:QuietOk Tryz.prog 16 C16:=tQ E16 L16 [] Tryz.func16 ty_ok (.cons C57_ok (.cons C58_ok (.cons C59_ok .nil))) .nil
def F76 (a0:D79) (a1:D79):Option (Bool×Unit):=
 (cond (!(a0.1==a1.1))
 (some (false,()))
 ((F58 a0.2.1 a1.2.1).bind fun y2=>
 (cond (!y2.1)
 (some (false,()))
 (some (true,())))))
def C76:Fun:=⟨[(.ro Y79),(.ro Y79)],[(.bool,.z)],fun z=>F76 z.1 z.2.1⟩
def E76:=en 16 [(58,C58)] [(3,[2,3],[]),(5,[],[]),(99999,[4],[])]
def L76:List (LoopS (Bool×Unit)):=[]
theorem C76_ok:QuietOk Tryz.prog 76 C76:=tQ E76 L76 [] Tryz.func76 ty_ok (.cons C58_ok .nil) .nil
def F303 (a0:D114) (a1:D114):Option (Bool×Unit):=
 (cond (!(a0.1==a1.1))
 (some (false,()))
 (cond (a0.2.1 != a1.2.1)
 (some (false,()))
 (some (true,()))))
def C303:Fun:=⟨[(.ro Y114),(.ro Y114)],[(.bool,.z)],fun z=>F303 z.1 z.2.1⟩
def E303:=en 15 [] [(3,[2,3],[]),(5,[],[]),(99999,[4],[])]
def L303:List (LoopS (Bool×Unit)):=[]
theorem C303_ok:QuietOk Tryz.prog 303 C303:=tQ E303 L303 [] Tryz.func303 ty_ok .nil .nil
def F268_R4 (e0_0:Unit→Option (Bool×Unit)) (er_1:Bool×Unit→Option (Bool×Unit)) (rec:List (D114)×List (D114)×Int×Unit→Option (Bool×Unit)) (x3:List (D114)×List (D114)×Int×Unit):Option (Bool×Unit):=
 (cond (decide (x3.2.2.1<(x3.1.length:Int)))
 (gd (decide ((0:Int)≤x3.2.2.1))
 (x3.1[x3.2.2.1.toNat]?.bind fun y6=>
 (gd (decide ((0:Int)≤x3.2.2.1))
 (x3.2.1[x3.2.2.1.toNat]?.bind fun y7=>
 ((F303 y6 y7).bind fun y8=>
 (cond (!y8.1)
 (er_1 (false,()))
 (rec (x3.1,x3.2.1,(IntKind.wrap .i64 (x3.2.2.1+(1:Int))),()))))))))
 (e0_0 (())))
def F268 (a0:List (D114)) (a1:List (D114)):Option (Bool×Unit):=
 (cond ((a0.length:Int) != (a1.length:Int))
 (some (false,()))
 (iter (F268_R4
 (fun y9=>
 (some (true,())))
 (fun y10=>
 (some (y10.1,())))) fuel (a0,a1,(0:Int),())))
def C268:Fun:=⟨[(.ro (.slice Y114)),(.ro (.slice Y114))],[(.bool,.z)],fun z=>F268 z.1 z.2.1⟩
def E268:=en 27 [(303,C303)] [(3,[0,1],[]),(4,[0,1,5],[]),(5,[0,1,5],[]),(6,[0,1,5],[]),(8,[],[]),(100000,[],[]),(100001,[0,1,5],[]),(99999,[4],[])]
def L268:List (LoopS (Bool×Unit)):=[⟨4,⟨[(0,(.pv (.slice Y114))),(1,(.pv (.slice Y114))),(5,(.pv (.int .i64)))],[]⟩,fun κ=>F268_R4 (fun y=>κ.exit 0 (SSh.mk' ⟨[],[]⟩ y)) (fun y=>κ.ret (SSh.mk' ⟨[(4,(.pv .bool))],[]⟩ y))⟩]
theorem L268_4:RoundEq E268 L268 L268[0] (nthLoop (codeOf Tryz.f268) 0):=fun κ N x=>by kernel_rfl
theorem C268_ok:QuietOk Tryz.prog 268 C268:=tQ E268 L268 [nthLoop (codeOf Tryz.f268) 0] Tryz.func268 ty_ok (.cons C303_ok .nil) (.cons L268[0] (by kernel_rfl) L268_4 .nil)
def F225 (a0:D162) (a1:D162):Option (Bool×Unit):=
 (cond (a0.1 != a1.1)
 (some (false,()))
 ((F268 a0.2.1 a1.2.1).bind fun y2=>
 (cond (!y2.1)
 (some (false,()))
 (some (true,())))))
def C225:Fun:=⟨[(.ro Y162),(.ro Y162)],[(.bool,.z)],fun z=>F225 z.1 z.2.1⟩
def E225:=en 16 [(268,C268)] [(3,[2,3],[]),(5,[],[]),(99999,[4],[])]
def L225:List (LoopS (Bool×Unit)):=[]
theorem C225_ok:QuietOk Tryz.prog 225 C225:=tQ E225 L225 [] Tryz.func225 ty_ok (.cons C268_ok .nil) .nil
def F171_R4 (e0_0:Unit→Option (Bool×Unit)) (er_1:Bool×Unit→Option (Bool×Unit)) (rec:List (D162)×List (D162)×Int×Unit→Option (Bool×Unit)) (x3:List (D162)×List (D162)×Int×Unit):Option (Bool×Unit):=
 (cond (decide (x3.2.2.1<(x3.1.length:Int)))
 (gd (decide ((0:Int)≤x3.2.2.1))
 (x3.1[x3.2.2.1.toNat]?.bind fun y6=>
 (gd (decide ((0:Int)≤x3.2.2.1))
 (x3.2.1[x3.2.2.1.toNat]?.bind fun y7=>
 ((F225 y6 y7).bind fun y8=>
 (cond (!y8.1)
 (er_1 (false,()))
 (rec (x3.1,x3.2.1,(IntKind.wrap .i64 (x3.2.2.1+(1:Int))),()))))))))
 (e0_0 (())))
def F171 (a0:List (D162)) (a1:List (D162)):Option (Bool×Unit):=
 (cond ((a0.length:Int) != (a1.length:Int))
 (some (false,()))
 (iter (F171_R4
 (fun y9=>
 (some (true,())))
 (fun y10=>
 (some (y10.1,())))) fuel (a0,a1,(0:Int),())))
def C171:Fun:=⟨[(.ro (.slice Y162)),(.ro (.slice Y162))],[(.bool,.z)],fun z=>F171 z.1 z.2.1⟩
def E171:=en 27 [(225,C225)] [(3,[0,1],[]),(4,[0,1,5],[]),(5,[0,1,5],[]),(6,[0,1,5],[]),(8,[],[]),(100000,[],[]),(100001,[0,1,5],[]),(99999,[4],[])]
def L171:List (LoopS (Bool×Unit)):=[⟨4,⟨[(0,(.pv (.slice Y162))),(1,(.pv (.slice Y162))),(5,(.pv (.int .i64)))],[]⟩,fun κ=>F171_R4 (fun y=>κ.exit 0 (SSh.mk' ⟨[],[]⟩ y)) (fun y=>κ.ret (SSh.mk' ⟨[(4,(.pv .bool))],[]⟩ y))⟩]
theorem L171_4:RoundEq E171 L171 L171[0] (nthLoop (codeOf Tryz.f171) 0):=fun κ N x=>by kernel_rfl
theorem C171_ok:QuietOk Tryz.prog 171 C171:=tQ E171 L171 [nthLoop (codeOf Tryz.f171) 0] Tryz.func171 ty_ok (.cons C225_ok .nil) (.cons L171[0] (by kernel_rfl) L171_4 .nil)
def F115 (a0:D82) (a1:D82):Option (Bool×Unit):=
 ((F171 a0.1 a1.1).bind fun y1=>
 (cond (!y1.1)
 (some (false,()))
 (cond (a0.2.1 != a1.2.1)
 (some (false,()))
 (some (true,())))))
def C115:Fun:=⟨[(.ro Y82),(.ro Y82)],[(.bool,.z)],fun z=>F115 z.1 z.2.1⟩
def E115:=en 16 [(171,C171)] [(3,[2,3],[]),(5,[],[]),(99999,[4],[])]
def L115:List (LoopS (Bool×Unit)):=[]
theorem C115_ok:QuietOk Tryz.prog 115 C115:=tQ E115 L115 [] Tryz.func115 ty_ok (.cons C171_ok .nil) .nil
def F60 (a0:D84) (a1:D84):Option (Bool×Unit):=
 ((F76 a0.1 a1.1).bind fun y1=>
 (cond (!y1.1)
 (some (false,()))
 ((F115 a0.2.1 a1.2.1).bind fun y3=>
 (cond (!y3.1)
 (some (false,()))
 (some (true,()))))))
def C60:Fun:=⟨[(.ro Y84),(.ro Y84)],[(.bool,.z)],fun z=>F60 z.1 z.2.1⟩
def E60:=en 17 [(76,C76),(115,C115)] [(3,[2,3],[]),(5,[],[]),(99999,[4],[])]
def L60:List (LoopS (Bool×Unit)):=[]
theorem C60_ok:QuietOk Tryz.prog 60 C60:=tQ E60 L60 [] Tryz.func60 ty_ok (.cons C76_ok (.cons C115_ok .nil)) .nil
def F17_R4 (e0_0:Unit→Option (Bool×Unit)) (er_1:Bool×Unit→Option (Bool×Unit)) (rec:List (D84)×List (D84)×Int×Unit→Option (Bool×Unit)) (x3:List (D84)×List (D84)×Int×Unit):Option (Bool×Unit):=
 (cond (decide (x3.2.2.1<(x3.1.length:Int)))
 (gd (decide ((0:Int)≤x3.2.2.1))
 (x3.1[x3.2.2.1.toNat]?.bind fun y6=>
 (gd (decide ((0:Int)≤x3.2.2.1))
 (x3.2.1[x3.2.2.1.toNat]?.bind fun y7=>
 ((F60 y6 y7).bind fun y8=>
 (cond (!y8.1)
 (er_1 (false,()))
 (rec (x3.1,x3.2.1,(IntKind.wrap .i64 (x3.2.2.1+(1:Int))),()))))))))
 (e0_0 (())))
def F17 (a0:List (D84)) (a1:List (D84)):Option (Bool×Unit):=
 (cond ((a0.length:Int) != (a1.length:Int))
 (some (false,()))
 (iter (F17_R4
 (fun y9=>
 (some (true,())))
 (fun y10=>
 (some (y10.1,())))) fuel (a0,a1,(0:Int),())))
def C17:Fun:=⟨[(.ro (.slice Y84)),(.ro (.slice Y84))],[(.bool,.z)],fun z=>F17 z.1 z.2.1⟩
def E17:=en 27 [(60,C60)] [(3,[0,1],[]),(4,[0,1,5],[]),(5,[0,1,5],[]),(6,[0,1,5],[]),(8,[],[]),(100000,[],[]),(100001,[0,1,5],[]),(99999,[4],[])]
def L17:List (LoopS (Bool×Unit)):=[⟨4,⟨[(0,(.pv (.slice Y84))),(1,(.pv (.slice Y84))),(5,(.pv (.int .i64)))],[]⟩,fun κ=>F17_R4 (fun y=>κ.exit 0 (SSh.mk' ⟨[],[]⟩ y)) (fun y=>κ.ret (SSh.mk' ⟨[(4,(.pv .bool))],[]⟩ y))⟩]
theorem L17_4:RoundEq E17 L17 L17[0] (nthLoop (codeOf Tryz.f17) 0):=fun κ N x=>by kernel_rfl
theorem C17_ok:QuietOk Tryz.prog 17 C17:=tQ E17 L17 [nthLoop (codeOf Tryz.f17) 0] Tryz.func17 ty_ok (.cons C60_ok .nil) (.cons L17[0] (by kernel_rfl) L17_4 .nil)
def F64_R4 (e0_0:List UInt8×Unit→Option (List UInt8×Unit)) (rec:Int×List UInt8×Unit→Option (List UInt8×Unit)) (x3:Int×List UInt8×Unit):Option (List UInt8×Unit):=
 (cond (decide (x3.1>(0:Int)))
 (gd (decide (((List.map (fun (v8:Int)=>(UInt8.ofNat v8.toNat)) [(IntKind.wrap .u8 (IntKind.wrap .i64 ((48:Int)+(Int.tmod x3.1 (10:Int)))))]).length+x3.2.1.length)≤9223372036854775807))
 (rec ((IntKind.wrap .i64 (Int.tdiv x3.1 (10:Int))),((List.map (fun (v8:Int)=>(UInt8.ofNat v8.toNat)) [(IntKind.wrap .u8 (IntKind.wrap .i64 ((48:Int)+(Int.tmod x3.1 (10:Int)))))])++x3.2.1),())))
 (e0_0 (x3.2.1,())))
def F64 (a0:Int):Option (List UInt8×Unit):=
 (cond (decide (a0≤(0:Int)))
 (some ([(109:UInt8),(48:UInt8)],()))
 (iter (F64_R4
 (fun y5=>
 (gd (decide ((([(109:UInt8)]:List UInt8).length+y5.1.length)≤9223372036854775807))
 (some (([(109:UInt8)]++y5.1),()))))) fuel (a0,[],())))
def C64:Fun:=⟨[(.ro (.int .i64))],[(.str,.z)],fun z=>F64 z.1⟩
def E64:=en 20 [] [(3,[0],[]),(4,[0,3],[]),(5,[0,3],[]),(7,[3],[]),(100000,[3],[]),(100001,[0,3],[]),(99999,[2],[])]
def L64:List (LoopS (List UInt8×Unit)):=[⟨4,⟨[(0,(.pv (.int .i64))),(3,(.pv .str))],[]⟩,fun κ=>F64_R4 (fun y=>κ.exit 0 (SSh.mk' ⟨[(3,(.pv .str))],[]⟩ y))⟩]
theorem L64_4:RoundEq E64 L64 L64[0] (nthLoop (codeOf Tryz.f64) 0):=fun κ N x=>by kernel_rfl
theorem C64_ok:QuietOk Tryz.prog 64 C64:=tQ E64 L64 [nthLoop (codeOf Tryz.f64) 0] Tryz.func64 ty_ok .nil (.cons L64[0] (by kernel_rfl) L64_4 .nil)
def F172_R2 (e0_0:Int×List (D190)×Unit→Option (Int×List (D190)×Unit)) (rec:Int×Int×List (D190)×Unit→Option (Int×List (D190)×Unit)) (x2:Int×Int×List (D190)×Unit):Option (Int×List (D190)×Unit):=
 (cond (decide (x2.2.1<(x2.2.2.1.length:Int)))
 (gd (decide ((0:Int)≤x2.2.1))
 (gd (decide (x2.2.1<(x2.2.2.1.length:Int)))
 (x2.2.2.1[x2.2.1.toNat]?.bind fun y4=>
 ((F64 (IntKind.wrap .i64 (x2.1+(1:Int)))).bind fun y5=>
 (gd (decide ((0:Int)≤x2.2.1))
 (gd (decide (x2.2.1<(((List.set x2.2.2.1 x2.2.1.toNat (x2.1,y4.2)).length:Nat):Int)))
 ((List.set x2.2.2.1 x2.2.1.toNat (x2.1,y4.2))[x2.2.1.toNat]?.bind fun y6=>
 (gd (decide ((0:Int)≤x2.2.1))
 (gd (decide (x2.2.1<(((List.set (List.set x2.2.2.1 x2.2.1.toNat (x2.1,y4.2)) x2.2.1.toNat (y6.1,(y5.1,y6.2.2))).length:Nat):Int)))
 ((List.set (List.set x2.2.2.1 x2.2.1.toNat (x2.1,y4.2)) x2.2.1.toNat (y6.1,(y5.1,y6.2.2)))[x2.2.1.toNat]?.bind fun y7=>
 (gd (decide ((0:Int)≤x2.2.1))
 (gd (decide (x2.2.1<(((List.set (List.set (List.set x2.2.2.1 x2.2.1.toNat (x2.1,y4.2)) x2.2.1.toNat (y6.1,(y5.1,y6.2.2))) x2.2.1.toNat (y7.1,(y7.2.1,(((IntKind.wrap .i64 ((IntKind.wrap .i64 (x2.1+(1:Int)))+(1:Int))),y7.2.2.1.2),y7.2.2.2)))).length:Nat):Int)))
 ((List.set (List.set (List.set x2.2.2.1 x2.2.1.toNat (x2.1,y4.2)) x2.2.1.toNat (y6.1,(y5.1,y6.2.2))) x2.2.1.toNat (y7.1,(y7.2.1,(((IntKind.wrap .i64 ((IntKind.wrap .i64 (x2.1+(1:Int)))+(1:Int))),y7.2.2.1.2),y7.2.2.2))))[x2.2.1.toNat]?.bind fun y8=>
 ((F64 (IntKind.wrap .i64 ((IntKind.wrap .i64 ((IntKind.wrap .i64 ((IntKind.wrap .i64 (x2.1+(1:Int)))+(1:Int)))+(1:Int)))+(1:Int)))).bind fun y9=>
 (gd (decide ((0:Int)≤x2.2.1))
 (gd (decide (x2.2.1<(((List.set (List.set (List.set (List.set x2.2.2.1 x2.2.1.toNat (x2.1,y4.2)) x2.2.1.toNat (y6.1,(y5.1,y6.2.2))) x2.2.1.toNat (y7.1,(y7.2.1,(((IntKind.wrap .i64 ((IntKind.wrap .i64 (x2.1+(1:Int)))+(1:Int))),y7.2.2.1.2),y7.2.2.2)))) x2.2.1.toNat (y8.1,(y8.2.1,((y8.2.2.1.1,((IntKind.wrap .i64 ((IntKind.wrap .i64 ((IntKind.wrap .i64 (x2.1+(1:Int)))+(1:Int)))+(1:Int))),y8.2.2.1.2.2)),y8.2.2.2)))).length:Nat):Int)))
 ((List.set (List.set (List.set (List.set x2.2.2.1 x2.2.1.toNat (x2.1,y4.2)) x2.2.1.toNat (y6.1,(y5.1,y6.2.2))) x2.2.1.toNat (y7.1,(y7.2.1,(((IntKind.wrap .i64 ((IntKind.wrap .i64 (x2.1+(1:Int)))+(1:Int))),y7.2.2.1.2),y7.2.2.2)))) x2.2.1.toNat (y8.1,(y8.2.1,((y8.2.2.1.1,((IntKind.wrap .i64 ((IntKind.wrap .i64 ((IntKind.wrap .i64 (x2.1+(1:Int)))+(1:Int)))+(1:Int))),y8.2.2.1.2.2)),y8.2.2.2))))[x2.2.1.toNat]?.bind fun y10=>
 (rec ((IntKind.wrap .i64 ((IntKind.wrap .i64 ((IntKind.wrap .i64 ((IntKind.wrap .i64 ((IntKind.wrap .i64 (x2.1+(1:Int)))+(1:Int)))+(1:Int)))+(1:Int)))+(1:Int))),(IntKind.wrap .i64 (x2.2.1+(1:Int))),(List.set (List.set (List.set (List.set (List.set x2.2.2.1 x2.2.1.toNat (x2.1,y4.2)) x2.2.1.toNat (y6.1,(y5.1,y6.2.2))) x2.2.1.toNat (y7.1,(y7.2.1,(((IntKind.wrap .i64 ((IntKind.wrap .i64 (x2.1+(1:Int)))+(1:Int))),y7.2.2.1.2),y7.2.2.2)))) x2.2.1.toNat (y8.1,(y8.2.1,((y8.2.2.1.1,((IntKind.wrap .i64 ((IntKind.wrap .i64 ((IntKind.wrap .i64 (x2.1+(1:Int)))+(1:Int)))+(1:Int))),y8.2.2.1.2.2)),y8.2.2.2)))) x2.2.1.toNat (y10.1,(y10.2.1,((y10.2.2.1.1,(y10.2.2.1.2.1,(y9.1,y10.2.2.1.2.2.2))),y10.2.2.2)))),())))))))))))))))))))
 (e0_0 (x2.1,x2.2.2.1,())))
def F172 (a0:List (D190)) (a1:Int):Option (Int×List (D190)×Unit):=
 (iter (F172_R2
 (fun y11=>
 (some (y11.1,(y11.2.1,()))))) fuel (a1,(0:Int),a0,()))
def C172:Fun:=⟨[(.io (.slice Y190) (.own .z)),(.ro (.int .i64))],[((.int .i64),.z)],fun z=>F172 z.1 z.2.1⟩
def E172:=en 53 [(64,C64)] [(2,[0,1,5],[4]),(4,[0,1,5],[4]),(14,[1],[4]),(100000,[1],[4]),(100001,[0,1,5],[4]),(99999,[4],[4])]
def L172:List (LoopS (Int×List (D190)×Unit)):=[⟨2,⟨[(0,(.ref (.slice Y190) 4 [])),(1,(.pv (.int .i64))),(5,(.pv (.int .i64)))],[(4,(.data false (.slice Y190) (.own .z)))]⟩,fun κ=>F172_R2 (fun y=>κ.exit 0 (SSh.mk' ⟨[(1,(.pv (.int .i64)))],[(4,(.data false (.slice Y190) (.own .z)))]⟩ y))⟩]
theorem L172_2:∀ p:Option Src,RoundEq {E172 with pin:=p} L172 L172[0] (nthLoop (codeOf Tryz.f172) 0):=fun p κ N x=>by kernel_rfl
theorem C172_ok:IoOk Tryz.prog 172 C172:=tO E172 L172 [nthLoop (codeOf Tryz.f172) 0] Tryz.func172 ty_ok (.cons C64_ok .nil) (fun p=>(.cons L172[0] (by kernel_rfl) (L172_2 p) .nil))
def F116_R2 (e0_0:Int×List (D183)×Unit→Option (Int×List (D183)×Unit)) (rec:Int×Int×List (D183)×Unit→Option (Int×List (D183)×Unit)) (x2:Int×Int×List (D183)×Unit):Option (Int×List (D183)×Unit):=
 (cond (decide (x2.2.1<(x2.2.2.1.length:Int)))
 (gd (decide ((0:Int)≤x2.2.1))
 (gd (decide (x2.2.1<(x2.2.2.1.length:Int)))
 (x2.2.2.1[x2.2.1.toNat]?.bind fun y4=>
 (x2.2.2.1[x2.2.1.toNat]?.bind fun y5=>
 ((F172 y5.1 x2.1).bind fun y6=>
 (x2.2.2.1[x2.2.1.toNat]?.bind fun y7=>
 (rec (y6.1,(IntKind.wrap .i64 (x2.2.1+(1:Int))),(List.set x2.2.2.1 x2.2.1.toNat (y6.2.1,y7.2)),()))))))))
 (e0_0 (x2.1,x2.2.2.1,())))
def F116 (a0:List (D183)) (a1:Int):Option (Int×List (D183)×Unit):=
 (iter (F116_R2
 (fun y8=>
 (some (y8.1,(y8.2.1,()))))) fuel (a1,(0:Int),a0,()))
def C116:Fun:=⟨[(.io (.slice Y183) (.own (.pr (.own .z) .z))),(.ro (.int .i64))],[((.int .i64),.z)],fun z=>F116 z.1 z.2.1⟩
def E116:=en 20 [(172,C172)] [(2,[0,1,5],[4]),(4,[0,1,5],[4]),(5,[1],[4]),(100000,[1],[4]),(100001,[0,1,5],[4]),(99999,[4],[4])]
def L116:List (LoopS (Int×List (D183)×Unit)):=[⟨2,⟨[(0,(.ref (.slice Y183) 4 [])),(1,(.pv (.int .i64))),(5,(.pv (.int .i64)))],[(4,(.data false (.slice Y183) (.own (.pr (.own .z) .z))))]⟩,fun κ=>F116_R2 (fun y=>κ.exit 0 (SSh.mk' ⟨[(1,(.pv (.int .i64)))],[(4,(.data false (.slice Y183) (.own (.pr (.own .z) .z))))]⟩ y))⟩]
theorem L116_2:∀ p:Option Src,RoundEq {E116 with pin:=p} L116 L116[0] (nthLoop (codeOf Tryz.f116) 0):=fun p κ N x=>by kernel_rfl
theorem C116_ok:IoOk Tryz.prog 116 C116:=tO E116 L116 [nthLoop (codeOf Tryz.f116) 0] Tryz.func116 ty_ok (.consIo C172_ok .nil) (fun p=>(.cons L116[0] (by kernel_rfl) (L116_2 p) .nil))
def F61 (a0:D27) (a1:Int):Option (Int×Unit):=
 ((F116 a0.1 a1).bind fun y0=>
 (some (y0.1,())))
def C61:Fun:=⟨[(.tk Y27 (.pr (.own (.pr (.own .z) .z)) .z)),(.ro (.int .i64))],[((.int .i64),.z)],fun z=>F61 z.1 z.2.1⟩
def E61:=en 10 [(116,C116)] [(99999,[4],[])]
def L61:List (LoopS (Int×Unit)):=[]
theorem C61_ok:IoOk Tryz.prog 61 C61:=tK E61 L61 [] Tryz.func61 ty_ok (.consIo C116_ok .nil) .nil
def F62_R2 (e0_0:Int×List (D139)×Unit→Option (Int×List (D139)×Unit)) (rec:Int×Int×List (D139)×Unit→Option (Int×List (D139)×Unit)) (x2:Int×Int×List (D139)×Unit):Option (Int×List (D139)×Unit):=
 (cond (decide (x2.2.1<(x2.2.2.1.length:Int)))
 ((F64 x2.1).bind fun y4=>
 (gd (decide ((0:Int)≤x2.2.1))
 (gd (decide (x2.2.1<(x2.2.2.1.length:Int)))
 (x2.2.2.1[x2.2.1.toNat]?.bind fun y5=>
 (gd (decide ((0:Int)≤x2.2.1))
 (gd (decide (x2.2.1<(((List.set x2.2.2.1 x2.2.1.toNat (y4.1,y5.2)).length:Nat):Int)))
 ((List.set x2.2.2.1 x2.2.1.toNat (y4.1,y5.2))[x2.2.1.toNat]?.bind fun y6=>
 (rec ((IntKind.wrap .i64 ((IntKind.wrap .i64 (x2.1+(1:Int)))+(1:Int))),(IntKind.wrap .i64 (x2.2.1+(1:Int))),(List.set (List.set x2.2.2.1 x2.2.1.toNat (y4.1,y5.2)) x2.2.1.toNat (y6.1,(((Int.tmod (IntKind.wrap .i64 (x2.1+(1:Int))) (3:Int))==(0:Int)),y6.2.2))),())))))))))
 (e0_0 (x2.1,x2.2.2.1,())))
def F62 (a0:List (D139)) (a1:Int):Option (Int×List (D139)×Unit):=
 (iter (F62_R2
 (fun y7=>
 (some (y7.1,(y7.2.1,()))))) fuel (a1,(0:Int),a0,()))
def C62:Fun:=⟨[(.io (.slice Y139) (.own .z)),(.ro (.int .i64))],[((.int .i64),.z)],fun z=>F62 z.1 z.2.1⟩
def E62:=en 30 [(64,C64)] [(2,[0,1,5],[4]),(4,[0,1,5],[4]),(8,[1],[4]),(100000,[1],[4]),(100001,[0,1,5],[4]),(99999,[4],[4])]
def L62:List (LoopS (Int×List (D139)×Unit)):=[⟨2,⟨[(0,(.ref (.slice Y139) 4 [])),(1,(.pv (.int .i64))),(5,(.pv (.int .i64)))],[(4,(.data false (.slice Y139) (.own .z)))]⟩,fun κ=>F62_R2 (fun y=>κ.exit 0 (SSh.mk' ⟨[(1,(.pv (.int .i64)))],[(4,(.data false (.slice Y139) (.own .z)))]⟩ y))⟩]
theorem L62_2:∀ p:Option Src,RoundEq {E62 with pin:=p} L62 L62[0] (nthLoop (codeOf Tryz.f62) 0):=fun p κ N x=>by kernel_rfl
theorem C62_ok:IoOk Tryz.prog 62 C62:=tO E62 L62 [nthLoop (codeOf Tryz.f62) 0] Tryz.func62 ty_ok (.cons C64_ok .nil) (fun p=>(.cons L62[0] (by kernel_rfl) (L62_2 p) .nil))
def F63_R2 (e0_0:Int×List (List UInt8)×Unit→Option (Int×List (List UInt8)×Unit)) (rec:Int×Int×List (List UInt8)×Unit→Option (Int×List (List UInt8)×Unit)) (x2:Int×Int×List (List UInt8)×Unit):Option (Int×List (List UInt8)×Unit):=
 (cond (decide (x2.2.1<(x2.2.2.1.length:Int)))
 ((F64 x2.1).bind fun y4=>
 (gd (decide ((0:Int)≤x2.2.1))
 (gd (decide (x2.2.1<(x2.2.2.1.length:Int)))
 (x2.2.2.1[x2.2.1.toNat]?.bind fun y5=>
 (rec ((IntKind.wrap .i64 (x2.1+(1:Int))),(IntKind.wrap .i64 (x2.2.1+(1:Int))),(List.set x2.2.2.1 x2.2.1.toNat y4.1),()))))))
 (e0_0 (x2.1,x2.2.2.1,())))
def F63 (a0:List (List UInt8)) (a1:Int):Option (Int×List (List UInt8)×Unit):=
 (iter (F63_R2
 (fun y6=>
 (some (y6.1,(y6.2.1,()))))) fuel (a1,(0:Int),a0,()))
def C63:Fun:=⟨[(.io (.slice .str) (.own .z)),(.ro (.int .i64))],[((.int .i64),.z)],fun z=>F63 z.1 z.2.1⟩
def E63:=en 20 [(64,C64)] [(2,[0,1,5],[4]),(4,[0,1,5],[4]),(6,[1],[4]),(100000,[1],[4]),(100001,[0,1,5],[4]),(99999,[4],[4])]
def L63:List (LoopS (Int×List (List UInt8)×Unit)):=[⟨2,⟨[(0,(.ref (.slice .str) 4 [])),(1,(.pv (.int .i64))),(5,(.pv (.int .i64)))],[(4,(.data false (.slice .str) (.own .z)))]⟩,fun κ=>F63_R2 (fun y=>κ.exit 0 (SSh.mk' ⟨[(1,(.pv (.int .i64)))],[(4,(.data false (.slice .str) (.own .z)))]⟩ y))⟩]
theorem L63_2:∀ p:Option Src,RoundEq {E63 with pin:=p} L63 L63[0] (nthLoop (codeOf Tryz.f63) 0):=fun p κ N x=>by kernel_rfl
theorem C63_ok:IoOk Tryz.prog 63 C63:=tO E63 L63 [nthLoop (codeOf Tryz.f63) 0] Tryz.func63 ty_ok (.cons C64_ok .nil) (fun p=>(.cons L63[0] (by kernel_rfl) (L63_2 p) .nil))
def F18 (a0:D31) (a1:Int):Option (Int×Unit):=
 ((F61 a0.1 a1).bind fun y0=>
 ((F62 a0.2.1 y0.1).bind fun y1=>
 ((F63 a0.2.2.2.2.1 y1.1).bind fun y2=>
 (some (y2.1,())))))
def C18:Fun:=⟨[(.tk Y31 (.pr (.pr (.own (.pr (.own .z) .z)) .z) (.pr (.own .z) (.pr .z (.pr .z (.pr (.own .z) .z)))))),(.ro (.int .i64))],[((.int .i64),.z)],fun z=>F18 z.1 z.2.1⟩
def E18:=en 18 [(61,C61),(62,C62),(63,C63)] [(99999,[4],[])]
def L18:List (LoopS (Int×Unit)):=[]
theorem C18_ok:IoOk Tryz.prog 18 C18:=tK E18 L18 [] Tryz.func18 ty_ok (.consIo C61_ok (.consIo C62_ok (.consIo C63_ok .nil))) .nil
def F19_R2 (e0_0:Int×List (D76)×Unit→Option (Int×List (D76)×Unit)) (rec:Int×Int×List (D76)×Unit→Option (Int×List (D76)×Unit)) (x2:Int×Int×List (D76)×Unit):Option (Int×List (D76)×Unit):=
 (cond (decide (x2.2.1<(x2.2.2.1.length:Int)))
 (gd (decide ((0:Int)≤x2.2.1))
 (gd (decide (x2.2.1<(x2.2.2.1.length:Int)))
 (x2.2.2.1[x2.2.1.toNat]?.bind fun y4=>
 (gd (decide ((0:Int)≤x2.2.1))
 (gd (decide (x2.2.1<(((List.set x2.2.2.1 x2.2.1.toNat (x2.1,y4.2)).length:Nat):Int)))
 ((List.set x2.2.2.1 x2.2.1.toNat (x2.1,y4.2))[x2.2.1.toNat]?.bind fun y5=>
 ((F64 (IntKind.wrap .i64 ((IntKind.wrap .i64 (x2.1+(1:Int)))+(1:Int)))).bind fun y6=>
 (gd (decide ((0:Int)≤x2.2.1))
 (gd (decide (x2.2.1<(((List.set (List.set x2.2.2.1 x2.2.1.toNat (x2.1,y4.2)) x2.2.1.toNat (y5.1,((IntKind.wrap .i64 (x2.1+(1:Int))),y5.2.2))).length:Nat):Int)))
 ((List.set (List.set x2.2.2.1 x2.2.1.toNat (x2.1,y4.2)) x2.2.1.toNat (y5.1,((IntKind.wrap .i64 (x2.1+(1:Int))),y5.2.2)))[x2.2.1.toNat]?.bind fun y7=>
 (rec ((IntKind.wrap .i64 ((IntKind.wrap .i64 ((IntKind.wrap .i64 (x2.1+(1:Int)))+(1:Int)))+(1:Int))),(IntKind.wrap .i64 (x2.2.1+(1:Int))),(List.set (List.set (List.set x2.2.2.1 x2.2.1.toNat (x2.1,y4.2)) x2.2.1.toNat (y5.1,((IntKind.wrap .i64 (x2.1+(1:Int))),y5.2.2))) x2.2.1.toNat (y7.1,(y7.2.1,(y6.1,y7.2.2.2)))),()))))))))))))
 (e0_0 (x2.1,x2.2.2.1,())))
def F19 (a0:List (D76)) (a1:Int):Option (Int×List (D76)×Unit):=
 (iter (F19_R2
 (fun y8=>
 (some (y8.1,(y8.2.1,()))))) fuel (a1,(0:Int),a0,()))
def C19:Fun:=⟨[(.io (.slice Y76) (.own .z)),(.ro (.int .i64))],[((.int .i64),.z)],fun z=>F19 z.1 z.2.1⟩
def E19:=en 35 [(64,C64)] [(2,[0,1,5],[4]),(4,[0,1,5],[4]),(10,[1],[4]),(100000,[1],[4]),(100001,[0,1,5],[4]),(99999,[4],[4])]
def L19:List (LoopS (Int×List (D76)×Unit)):=[⟨2,⟨[(0,(.ref (.slice Y76) 4 [])),(1,(.pv (.int .i64))),(5,(.pv (.int .i64)))],[(4,(.data false (.slice Y76) (.own .z)))]⟩,fun κ=>F19_R2 (fun y=>κ.exit 0 (SSh.mk' ⟨[(1,(.pv (.int .i64)))],[(4,(.data false (.slice Y76) (.own .z)))]⟩ y))⟩]
theorem L19_2:∀ p:Option Src,RoundEq {E19 with pin:=p} L19 L19[0] (nthLoop (codeOf Tryz.f19) 0):=fun p κ N x=>by kernel_rfl
theorem C19_ok:IoOk Tryz.prog 19 C19:=tO E19 L19 [nthLoop (codeOf Tryz.f19) 0] Tryz.func19 ty_ok (.cons C64_ok .nil) (fun p=>(.cons L19[0] (by kernel_rfl) (L19_2 p) .nil))
def F117_R2 (e0_0:Int×List (D114)×Unit→Option (Int×List (D114)×Unit)) (rec:Int×Int×List (D114)×Unit→Option (Int×List (D114)×Unit)) (x2:Int×Int×List (D114)×Unit):Option (Int×List (D114)×Unit):=
 (cond (decide (x2.2.1<(x2.2.2.1.length:Int)))
 ((F64 x2.1).bind fun y4=>
 (gd (decide ((0:Int)≤x2.2.1))
 (gd (decide (x2.2.1<(x2.2.2.1.length:Int)))
 (x2.2.2.1[x2.2.1.toNat]?.bind fun y5=>
 (gd (decide ((0:Int)≤x2.2.1))
 (gd (decide (x2.2.1<(((List.set x2.2.2.1 x2.2.1.toNat (y4.1,y5.2)).length:Nat):Int)))
 ((List.set x2.2.2.1 x2.2.1.toNat (y4.1,y5.2))[x2.2.1.toNat]?.bind fun y6=>
 (rec ((IntKind.wrap .i64 ((IntKind.wrap .i64 (x2.1+(1:Int)))+(1:Int))),(IntKind.wrap .i64 (x2.2.1+(1:Int))),(List.set (List.set x2.2.2.1 x2.2.1.toNat (y4.1,y5.2)) x2.2.1.toNat (y6.1,((IntKind.wrap .i64 (x2.1+(1:Int))),y6.2.2))),())))))))))
 (e0_0 (x2.1,x2.2.2.1,())))
def F117 (a0:List (D114)) (a1:Int):Option (Int×List (D114)×Unit):=
 (iter (F117_R2
 (fun y7=>
 (some (y7.1,(y7.2.1,()))))) fuel (a1,(0:Int),a0,()))
def C117:Fun:=⟨[(.io (.slice Y114) (.own .z)),(.ro (.int .i64))],[((.int .i64),.z)],fun z=>F117 z.1 z.2.1⟩
def E117:=en 28 [(64,C64)] [(2,[0,1,5],[4]),(4,[0,1,5],[4]),(8,[1],[4]),(100000,[1],[4]),(100001,[0,1,5],[4]),(99999,[4],[4])]
def L117:List (LoopS (Int×List (D114)×Unit)):=[⟨2,⟨[(0,(.ref (.slice Y114) 4 [])),(1,(.pv (.int .i64))),(5,(.pv (.int .i64)))],[(4,(.data false (.slice Y114) (.own .z)))]⟩,fun κ=>F117_R2 (fun y=>κ.exit 0 (SSh.mk' ⟨[(1,(.pv (.int .i64)))],[(4,(.data false (.slice Y114) (.own .z)))]⟩ y))⟩]
theorem L117_2:∀ p:Option Src,RoundEq {E117 with pin:=p} L117 L117[0] (nthLoop (codeOf Tryz.f117) 0):=fun p κ N x=>by kernel_rfl
theorem C117_ok:IoOk Tryz.prog 117 C117:=tO E117 L117 [nthLoop (codeOf Tryz.f117) 0] Tryz.func117 ty_ok (.cons C64_ok .nil) (fun p=>(.cons L117[0] (by kernel_rfl) (L117_2 p) .nil))
def F65_R2 (e0_0:Int×List (D162)×Unit→Option (Int×List (D162)×Unit)) (rec:Int×Int×List (D162)×Unit→Option (Int×List (D162)×Unit)) (x2:Int×Int×List (D162)×Unit):Option (Int×List (D162)×Unit):=
 (cond (decide (x2.2.1<(x2.2.2.1.length:Int)))
 (gd (decide ((0:Int)≤x2.2.1))
 (gd (decide (x2.2.1<(x2.2.2.1.length:Int)))
 (x2.2.2.1[x2.2.1.toNat]?.bind fun y4=>
 (gd (decide ((0:Int)≤x2.2.1))
 (gd (decide (x2.2.1<(((List.set x2.2.2.1 x2.2.1.toNat (x2.1,y4.2)).length:Nat):Int)))
 ((List.set x2.2.2.1 x2.2.1.toNat (x2.1,y4.2))[x2.2.1.toNat]?.bind fun y5=>
 ((List.set x2.2.2.1 x2.2.1.toNat (x2.1,y4.2))[x2.2.1.toNat]?.bind fun y6=>
 ((F117 y6.2.1 (IntKind.wrap .i64 (x2.1+(1:Int)))).bind fun y7=>
 ((List.set x2.2.2.1 x2.2.1.toNat (x2.1,y4.2))[x2.2.1.toNat]?.bind fun y8=>
 (rec (y7.1,(IntKind.wrap .i64 (x2.2.1+(1:Int))),(List.set (List.set x2.2.2.1 x2.2.1.toNat (x2.1,y4.2)) x2.2.1.toNat (y8.1,(y7.2.1,y8.2.2))),())))))))))))
 (e0_0 (x2.1,x2.2.2.1,())))
def F65 (a0:List (D162)) (a1:Int):Option (Int×List (D162)×Unit):=
 (iter (F65_R2
 (fun y9=>
 (some (y9.1,(y9.2.1,()))))) fuel (a1,(0:Int),a0,()))
def C65:Fun:=⟨[(.io (.slice Y162) (.own (.pr .z (.pr (.own .z) .z)))),(.ro (.int .i64))],[((.int .i64),.z)],fun z=>F65 z.1 z.2.1⟩
def E65:=en 27 [(117,C117)] [(2,[0,1,5],[4]),(4,[0,1,5],[4]),(7,[1],[4]),(100000,[1],[4]),(100001,[0,1,5],[4]),(99999,[4],[4])]
def L65:List (LoopS (Int×List (D162)×Unit)):=[⟨2,⟨[(0,(.ref (.slice Y162) 4 [])),(1,(.pv (.int .i64))),(5,(.pv (.int .i64)))],[(4,(.data false (.slice Y162) (.own (.pr .z (.pr (.own .z) .z)))))]⟩,fun κ=>F65_R2 (fun y=>κ.exit 0 (SSh.mk' ⟨[(1,(.pv (.int .i64)))],[(4,(.data false (.slice Y162) (.own (.pr .z (.pr (.own .z) .z)))))]⟩ y))⟩]
theorem L65_2:∀ p:Option Src,RoundEq {E65 with pin:=p} L65 L65[0] (nthLoop (codeOf Tryz.f65) 0):=fun p κ N x=>by kernel_rfl
theorem C65_ok:IoOk Tryz.prog 65 C65:=tO E65 L65 [nthLoop (codeOf Tryz.f65) 0] Tryz.func65 ty_ok (.consIo C117_ok .nil) (fun p=>(.cons L65[0] (by kernel_rfl) (L65_2 p) .nil))
def F20_R2 (e0_0:Int×List (D84)×Unit→Option (Int×List (D84)×Unit)) (rec:Int×Int×List (D84)×Unit→Option (Int×List (D84)×Unit)) (x2:Int×Int×List (D84)×Unit):Option (Int×List (D84)×Unit):=
 (cond (decide (x2.2.1<(x2.2.2.1.length:Int)))
 ((F64 x2.1).bind fun y4=>
 (gd (decide ((0:Int)≤x2.2.1))
 (gd (decide (x2.2.1<(x2.2.2.1.length:Int)))
 (x2.2.2.1[x2.2.1.toNat]?.bind fun y5=>
 (gd (decide ((0:Int)≤x2.2.1))
 (gd (decide (x2.2.1<(((List.set x2.2.2.1 x2.2.1.toNat ((y4.1,y5.1.2),y5.2)).length:Nat):Int)))
 ((List.set x2.2.2.1 x2.2.1.toNat ((y4.1,y5.1.2),y5.2))[x2.2.1.toNat]?.bind fun y6=>
 ((List.set x2.2.2.1 x2.2.1.toNat ((y4.1,y5.1.2),y5.2))[x2.2.1.toNat]?.bind fun y7=>
 ((F62 y7.1.2.1 (IntKind.wrap .i64 (x2.1+(1:Int)))).bind fun y8=>
 ((List.set x2.2.2.1 x2.2.1.toNat ((y4.1,y5.1.2),y5.2))[x2.2.1.toNat]?.bind fun y9=>
 (gd (decide ((0:Int)≤x2.2.1))
 (gd (decide (x2.2.1<(((List.set (List.set x2.2.2.1 x2.2.1.toNat ((y4.1,y5.1.2),y5.2)) x2.2.1.toNat ((y9.1.1,(y8.2.1,y9.1.2.2)),y9.2)).length:Nat):Int)))
 ((List.set (List.set x2.2.2.1 x2.2.1.toNat ((y4.1,y5.1.2),y5.2)) x2.2.1.toNat ((y9.1.1,(y8.2.1,y9.1.2.2)),y9.2))[x2.2.1.toNat]?.bind fun y10=>
 ((List.set (List.set x2.2.2.1 x2.2.1.toNat ((y4.1,y5.1.2),y5.2)) x2.2.1.toNat ((y9.1.1,(y8.2.1,y9.1.2.2)),y9.2))[x2.2.1.toNat]?.bind fun y11=>
 ((F65 y11.2.1.1 y8.1).bind fun y12=>
 ((List.set (List.set x2.2.2.1 x2.2.1.toNat ((y4.1,y5.1.2),y5.2)) x2.2.1.toNat ((y9.1.1,(y8.2.1,y9.1.2.2)),y9.2))[x2.2.1.toNat]?.bind fun y13=>
 (gd (decide ((0:Int)≤x2.2.1))
 (gd (decide (x2.2.1<(((List.set (List.set (List.set x2.2.2.1 x2.2.1.toNat ((y4.1,y5.1.2),y5.2)) x2.2.1.toNat ((y9.1.1,(y8.2.1,y9.1.2.2)),y9.2)) x2.2.1.toNat (y13.1,((y12.2.1,y13.2.1.2),y13.2.2))).length:Nat):Int)))
 ((List.set (List.set (List.set x2.2.2.1 x2.2.1.toNat ((y4.1,y5.1.2),y5.2)) x2.2.1.toNat ((y9.1.1,(y8.2.1,y9.1.2.2)),y9.2)) x2.2.1.toNat (y13.1,((y12.2.1,y13.2.1.2),y13.2.2)))[x2.2.1.toNat]?.bind fun y14=>
 (rec ((IntKind.wrap .i64 (y12.1+(1:Int))),(IntKind.wrap .i64 (x2.2.1+(1:Int))),(List.set (List.set (List.set (List.set x2.2.2.1 x2.2.1.toNat ((y4.1,y5.1.2),y5.2)) x2.2.1.toNat ((y9.1.1,(y8.2.1,y9.1.2.2)),y9.2)) x2.2.1.toNat (y13.1,((y12.2.1,y13.2.1.2),y13.2.2))) x2.2.1.toNat (y14.1,((y14.2.1.1,(y12.1,y14.2.1.2.2)),y14.2.2))),())))))))))))))))))))))
 (e0_0 (x2.1,x2.2.2.1,())))
def F20 (a0:List (D84)) (a1:Int):Option (Int×List (D84)×Unit):=
 (iter (F20_R2
 (fun y15=>
 (some (y15.1,(y15.2.1,()))))) fuel (a1,(0:Int),a0,()))
def C20:Fun:=⟨[(.io (.slice Y84) (.own (.pr (.pr .z (.pr (.own .z) .z)) (.pr (.pr (.own (.pr .z (.pr (.own .z) .z))) .z) .z)))),(.ro (.int .i64))],[((.int .i64),.z)],fun z=>F20 z.1 z.2.1⟩
def E20:=en 46 [(62,C62),(64,C64),(65,C65)] [(2,[0,1,5],[4]),(4,[0,1,5],[4]),(10,[1],[4]),(100000,[1],[4]),(100001,[0,1,5],[4]),(99999,[4],[4])]
def L20:List (LoopS (Int×List (D84)×Unit)):=[⟨2,⟨[(0,(.ref (.slice Y84) 4 [])),(1,(.pv (.int .i64))),(5,(.pv (.int .i64)))],[(4,(.data false (.slice Y84) (.own (.pr (.pr .z (.pr (.own .z) .z)) (.pr (.pr (.own (.pr .z (.pr (.own .z) .z))) .z) .z)))))]⟩,fun κ=>F20_R2 (fun y=>κ.exit 0 (SSh.mk' ⟨[(1,(.pv (.int .i64)))],[(4,(.data false (.slice Y84) (.own (.pr (.pr .z (.pr (.own .z) .z)) (.pr (.pr (.own (.pr .z (.pr (.own .z) .z))) .z) .z)))))]⟩ y))⟩]
theorem L20_2:∀ p:Option Src,RoundEq {E20 with pin:=p} L20 L20[0] (nthLoop (codeOf Tryz.f20) 0):=fun p κ N x=>by kernel_rfl
theorem C20_ok:IoOk Tryz.prog 20 C20:=tO E20 L20 [nthLoop (codeOf Tryz.f20) 0] Tryz.func20 ty_ok (.consIo C62_ok (.cons C64_ok (.consIo C65_ok .nil))) (fun p=>(.cons L20[0] (by kernel_rfl) (L20_2 p) .nil))
def F21_R2 (e0_0:Int×Unit→Option (Int×Unit)) (er_1:Int×Unit→Option (Int×Unit)) (rec:List (D76)×Int×Int×Unit→Option (Int×Unit)) (x2:List (D76)×Int×Int×Unit):Option (Int×Unit):=
 (cond (decide (x2.2.2.1<(x2.1.length:Int)))
 (gd (decide ((0:Int)≤x2.2.2.1))
 (x2.1[x2.2.2.1.toNat]?.bind fun y6=>
 (cond (y6.1 != x2.2.1)
 (er_1 ((-(1:Int)),()))
 (gd (decide ((0:Int)≤x2.2.2.1))
 (x2.1[x2.2.2.1.toNat]?.bind fun y8=>
 (cond (y8.2.1 != (IntKind.wrap .i64 (x2.2.1+(1:Int))))
 (er_1 ((-(1:Int)),()))
 (gd (decide ((0:Int)≤x2.2.2.1))
 (x2.1[x2.2.2.1.toNat]?.bind fun y10=>
 ((F64 (IntKind.wrap .i64 ((IntKind.wrap .i64 (x2.2.1+(1:Int)))+(1:Int)))).bind fun y11=>
 (cond (!(y10.2.2.1==y11.1))
 (er_1 ((-(1:Int)),()))
 (rec (x2.1,(IntKind.wrap .i64 ((IntKind.wrap .i64 ((IntKind.wrap .i64 (x2.2.1+(1:Int)))+(1:Int)))+(1:Int))),(IntKind.wrap .i64 (x2.2.2.1+(1:Int))),()))))))))))))
 (e0_0 (x2.2.1,())))
def F21 (a0:List (D76)) (a1:Int):Option (Int×Unit):=
 (iter (F21_R2
 (fun y12=>
 (some (y12.1,())))
 (fun y13=>
 (some (y13.1,())))) fuel (a0,a1,(0:Int),()))
def C21:Fun:=⟨[(.ro (.slice Y76)),(.ro (.int .i64))],[((.int .i64),.z)],fun z=>F21 z.1 z.2.1⟩
def E21:=en 41 [(64,C64)] [(2,[0,1,5],[]),(3,[0,1,5],[]),(4,[0,1,5],[]),(6,[0,1,5],[]),(9,[0,1,5],[]),(12,[0,1,5],[]),(13,[1],[]),(100000,[1],[]),(100001,[0,1,5],[]),(99999,[4],[])]
def L21:List (LoopS (Int×Unit)):=[⟨2,⟨[(0,(.pv (.slice Y76))),(1,(.pv (.int .i64))),(5,(.pv (.int .i64)))],[]⟩,fun κ=>F21_R2 (fun y=>κ.exit 0 (SSh.mk' ⟨[(1,(.pv (.int .i64)))],[]⟩ y)) (fun y=>κ.ret (SSh.mk' ⟨[(4,(.pv (.int .i64)))],[]⟩ y))⟩]
theorem L21_2:RoundEq E21 L21 L21[0] (nthLoop (codeOf Tryz.f21) 0):=fun κ N x=>by kernel_rfl
theorem C21_ok:QuietOk Tryz.prog 21 C21:=tQ E21 L21 [nthLoop (codeOf Tryz.f21) 0] Tryz.func21 ty_ok (.cons C64_ok .nil) (.cons L21[0] (by kernel_rfl) L21_2 .nil)
def F3 (a0:D24) (a1:D31) (a2:List (D76)) (a3:List (D84)):Option (Bool×Unit):=
 ((F5 a0 (1048576:Int)).bind fun y0=>
 (cond (decide (y0.1<(0:Int)))
 (some (true,()))
 ((F6 a1 y0.1).bind fun y2=>
 (cond (decide (y2.1<(0:Int)))
 (some (true,()))
 ((F7 a2 y2.1).bind fun y4=>
 (cond (decide (y4.1<(0:Int)))
 (some (true,()))
 ((F8 a3 y4.1).bind fun y6=>
 (cond (decide (y6.1<(0:Int)))
 (some (true,()))
 ((F10 a0).bind fun y8=>
 ((F11 a1).bind fun y9=>
 ((F12 a2).bind fun y10=>
 ((F13 a3).bind fun y11=>
 ((F9 y8.1 y9.1 y10.1 y11.1).bind fun y12=>
 ((F11 a1).bind fun y13=>
 ((F12 a2).bind fun y14=>
 ((F13 a3).bind fun y15=>
 ((F10 a0).bind fun y16=>
 ((F14 y16.1 y13.1 y14.1 y15.1).bind fun y17=>
 ((F15 y17.1 y12.1).bind fun y19=>
 (cond (!y19.1)
 (some (false,()))
 (cond (y17.2.1 != y12.2.1)
 (some (false,()))
 ((F11 a1).bind fun y21=>
 ((F16 y13.1 y21.1).bind fun y22=>
 (cond (!y22.1)
 (some (false,()))
 ((F12 a2).bind fun y24=>
 ((F15 y14.1 y24.1).bind fun y25=>
 (cond (!y25.1)
 (some (false,()))
 ((F13 a3).bind fun y27=>
 ((F17 y15.1 y27.1).bind fun y28=>
 (cond (!y28.1)
 (some (false,()))
 ((F18 y13.1 (1:Int)).bind fun y29=>
 ((F19 y14.1 y29.1).bind fun y30=>
 ((F20 y15.1 y30.1).bind fun y31=>
 (cond (decide (y31.1<(0:Int)))
 (some (false,()))
 ((F15 y17.1 y12.1).bind fun y33=>
 (cond (!y33.1)
 (some (false,()))
 (cond (y17.2.1 != y12.2.1)
 (some (false,()))
 ((F19 y17.1 (1:Int)).bind fun y34=>
 ((F21 y34.2.1 (1:Int)).bind fun y35=>
 (cond (decide (y35.1<(0:Int)))
 (some (false,()))
 (cond (y35.1 != y34.1)
 (some (false,()))
 ((F10 a0).bind fun y38=>
 ((F11 a1).bind fun y39=>
 ((F12 a2).bind fun y40=>
 ((F13 a3).bind fun y41=>
 ((F14 y38.1 y39.1 y40.1 y41.1).bind fun y42=>
 ((F15 y42.1 y12.1).bind fun y44=>
 (cond (!y44.1)
 (some (false,()))
 (cond (y42.2.1 != y12.2.1)
 (some (false,()))
 ((F21 y34.2.1 (1:Int)).bind fun y45=>
 (cond (decide (y45.1<(0:Int)))
 (some (false,()))
 (cond (y45.1 != y34.1)
 (some (false,()))
 (some (true,()))))))))))))))))))))))))))))))))))))))))))))))))))))))
def C3:Fun:=⟨[(.ro Y24),(.ro Y31),(.ro (.slice Y76)),(.ro (.slice Y84))],[(.bool,.z)],fun z=>F3 z.1 z.2.1 z.2.2.1 z.2.2.2.1⟩
def E3:=en 155 [(5,C5),(6,C6),(7,C7),(8,C8),(9,C9),(10,C10),(11,C11),(12,C12),(13,C13),(14,C14),(15,C15),(16,C16),(17,C17),(18,C18),(19,C19),(20,C20),(21,C21)] [(5,[2,3,4,5,9],[]),(8,[2,3,4,5,9],[]),(11,[2,3,4,5,9],[]),(14,[2,3,4,5],[]),(21,[2,3,4,5,10,11,12,13,14,15,16],[]),(23,[2,3,4,5,10,11,12,13,14,15,16],[]),(25,[2,3,4,5,10,11,12,13,14,15,16],[]),(27,[2,3,4,5,10,11,12,13,14,15,16],[]),(33,[2,3,4,5,10,11,15],[]),(39,[2,3,4,5,10,11,15,18,19],[]),(41,[2,3,4,5,10,11,15,18],[]),(44,[15,18],[]),(48,[18,19],[]),(50,[],[]),(99999,[8],[])]
def L3:List (LoopS (Bool×Unit)):=[]
theorem C3_ok:QuietOk Tryz.prog 3 C3:=tQ E3 L3 [] Tryz.func3 ty_ok (.cons C5_ok (.cons C6_ok (.cons C7_ok (.cons C8_ok (.consFr C9_ok (.cons C10_ok (.consFr C11_ok (.consFr C12_ok (.consFr C13_ok (.consFr C14_ok (.cons C15_ok (.cons C16_ok (.cons C17_ok (.consIo C18_ok (.consIo C19_ok (.consIo C20_ok (.cons C21_ok .nil))))))))))))))))) .nil
end
end Go.V
