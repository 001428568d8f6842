/- What functions of the program compute, printed by a program of ours. No condition. -/
import Derived.Test.YtaggmkdoelocbaaGreatDoorWF0
namespace Go.V
open Go.Proofs
noncomputable section
set_option maxRecDepth 100000
set_option linter.unusedVariables false
def F85 (a0:D76):Option (Int×Unit):=
 ((F135 a0 [(105:UInt8),(100:UInt8)]).bind fun y0=>
 (cond (!y0.2.1)
 (some ((-(1:Int)),()))
 (cond (y0.1.1 != (2:Int))
 (some ((-(1:Int)),()))
 ((F81 y0.1.2.1 (0:Int) (99:Int)).bind fun y2=>
 (cond (!y2.1)
 (some ((-(1:Int)),()))
 (some (y0.1.2.1,())))))))
def C85:Fun:=⟨[(.ro Y76)],[((.int .i64),.z)],fun z=>F85 z.1⟩
def E85:=en 25 [(81,C81),(135,C135)] [(4,[3],[]),(99999,[2],[])]
def L85:List (LoopS (Int×Unit)):=[]
theorem C85_ok:QuietOk Tryz.prog 85 C85:=tQ E85 L85 [] Tryz.func85 ty_ok (.cons C81_ok (.cons C135_ok .nil)) .nil
def F34_R2 (e0_0:List (D76)×Unit→Option (Bool×Unit)) (er_1:Bool×Unit→Option (Bool×Unit)) (rec:List (D76)×Int×Unit→Option (Bool×Unit)) (x2:List (D76)×Int×Unit):Option (Bool×Unit):=
 (cond (decide (x2.2.1<(x2.1.length:Int)))
 (let j13:List (D76)×Int×Unit→Option (Bool×Unit):=fun (y14:List (D76)×Int×Unit)=>
 (rec (y14.1,(IntKind.wrap .i64 (y14.2.1+(1:Int))),()))
 (gd (decide ((0:Int)≤x2.2.1))
 (x2.1[x2.2.1.toNat]?.bind fun y5=>
 ((F84 y5).bind fun y6=>
 (cond (!y6.1)
 (er_1 (false,()))
 (gd (decide ((0:Int)≤x2.2.1))
 (x2.1[x2.2.1.toNat]?.bind fun y7=>
 ((F85 y7).bind fun y8=>
 (cond (decide (y8.1<(0:Int)))
 (er_1 (false,()))
 (cond (decide (x2.2.1>(0:Int)))
 (gd (decide ((0:Int)≤(IntKind.wrap .i64 (x2.2.1-(1:Int)))))
 (x2.1[(IntKind.wrap .i64 (x2.2.1-(1:Int))).toNat]?.bind fun y9=>
 ((F85 y9).bind fun y10=>
 (gd (decide ((0:Int)≤x2.2.1))
 (x2.1[x2.2.1.toNat]?.bind fun y11=>
 ((F85 y11).bind fun y12=>
 (cond (decide (y10.1≥y12.1))
 (er_1 (false,()))
 (j13 (x2.1,x2.2.1,())))))))))
 (j13 (x2.1,x2.2.1,()))))))))))))
 (e0_0 (x2.1,())))
def F34 (a0:List (D76)):Option (Bool×Unit):=
 (iter (F34_R2
 (fun y15=>
 (some ((decide ((y15.1.length:Int)≤(20:Int))),())))
 (fun y16=>
 (some (y16.1,())))) fuel (a0,(0:Int),()))
def C34:Fun:=⟨[(.ro (.slice Y76))],[(.bool,.z)],fun z=>F34 z.1⟩
def E34:=en 45 [(84,C84),(85,C85)] [(2,[0,3],[]),(3,[0,3],[]),(4,[0,3],[]),(6,[0],[]),(100000,[0],[]),(100001,[0,3],[]),(99999,[2],[])]
def L34:List (LoopS (Bool×Unit)):=[⟨2,⟨[(0,(.pv (.slice Y76))),(3,(.pv (.int .i64)))],[]⟩,fun κ=>F34_R2 (fun y=>κ.exit 0 (SSh.mk' ⟨[(0,(.pv (.slice Y76)))],[]⟩ y)) (fun y=>κ.ret (SSh.mk' ⟨[(2,(.pv .bool))],[]⟩ y))⟩]
theorem L34_2:RoundEq E34 L34 L34[0] (nthLoop (codeOf Tryz.f34) 0):=fun κ N x=>by kernel_rfl
theorem C34_ok:QuietOk Tryz.prog 34 C34:=tQ E34 L34 [nthLoop (codeOf Tryz.f34) 0] Tryz.func34 ty_ok (.cons C84_ok (.cons C85_ok .nil)) (.cons L34[0] (by kernel_rfl) L34_2 .nil)
def F68_R4 (e0_0:D79×Unit→Option (Bool×Unit)) (er_1:Bool×Unit→Option (Bool×Unit)) (rec:Int×D79×Unit→Option (Bool×Unit)) (x5:Int×D79×Unit):Option (Bool×Unit):=
 (cond (decide (x5.1<(x5.2.1.2.1.length:Int)))
 (gd (decide ((0:Int)≤x5.1))
 (x5.2.1.2.1[x5.1.toNat]?.bind fun y8=>
 ((F83 y8.1).bind fun y9=>
 (cond (!y9.1)
 (er_1 (false,()))
 (rec ((IntKind.wrap .i64 (x5.1+(1:Int))),x5.2.1,()))))))
 (e0_0 (x5.2.1,())))
def F68 (a0:D79):Option (Bool×Unit):=
 ((F82 a0.1).bind fun y1=>
 (cond (!y1.1)
 (some (false,()))
 ((F81 (a0.2.1.length:Int) (1:Int) (2:Int)).bind fun y2=>
 (cond (!y2.1)
 (some (false,()))
 (iter (F68_R4
 (fun y10=>
 (cond ((y10.1.2.1.length:Int)==(1:Int))
 (some (true,()))
 (y10.1.2.1[(0:Int).toNat]?.bind fun y12=>
 (y10.1.2.1[(1:Int).toNat]?.bind fun y13=>
 (some ((!(y12.1==y13.1)),()))))))
 (fun y11=>
 (some (y11.1,())))) fuel ((0:Int),a0,()))))))
def C68:Fun:=⟨[(.ro Y79)],[(.bool,.z)],fun z=>F68 z.1⟩
def E68:=en 47 [(81,C81),(82,C82),(83,C83)] [(3,[1],[]),(4,[1,3],[]),(5,[1,3],[]),(6,[1,3],[]),(8,[1],[]),(100000,[1],[]),(100001,[1,3],[]),(99999,[2],[])]
def L68:List (LoopS (Bool×Unit)):=[⟨4,⟨[(1,(.ptr 8 [])),(3,(.pv (.int .i64)))],[(8,(.data true Y79 .z))]⟩,fun κ=>F68_R4 (fun y=>κ.exit 0 (SSh.mk' ⟨[(1,(.ptr 8 []))],[(8,(.data true Y79 .z))]⟩ y)) (fun y=>κ.ret (SSh.mk' ⟨[(2,(.pv .bool))],[]⟩ y))⟩]
theorem L68_4:RoundEq E68 L68 L68[0] (nthLoop (codeOf Tryz.f68) 0):=fun κ N x=>by kernel_rfl
theorem C68_ok:QuietOk Tryz.prog 68 C68:=tQ E68 L68 [nthLoop (codeOf Tryz.f68) 0] Tryz.func68 ty_ok (.cons C81_ok (.cons C82_ok (.cons C83_ok .nil))) (.cons L68[0] (by kernel_rfl) L68_4 .nil)
def F190 (a0:D114):Option (Bool×Unit):=
 (cond (decide ((a0.1.length:Int)≤(2000:Int)))
 ((F81 a0.2.1 (0:Int) (9999:Int)).bind fun y0=>
 (some (y0.1,())))
 (some (false,())))
def C190:Fun:=⟨[(.ro Y114)],[(.bool,.z)],fun z=>F190 z.1⟩
def E190:=en 12 [(81,C81)] [(99999,[2],[])]
def L190:List (LoopS (Bool×Unit)):=[]
theorem C190_ok:QuietOk Tryz.prog 190 C190:=tQ E190 L190 [] Tryz.func190 ty_ok (.cons C81_ok .nil) .nil
def F191 (a0:D114) (a1:D114):Option (Bool×Unit):=
 (cond (Op.bytesLess a0.1 a1.1)
 (some (true,()))
 (cond (a0.1==a1.1)
 (some ((decide (a0.2.1<a1.2.1)),()))
 (some (false,()))))
def C191:Fun:=⟨[(.ro Y114),(.ro Y114)],[(.bool,.z)],fun z=>F191 z.1 z.2.1⟩
def E191:=en 24 [] [(99999,[4],[])]
def L191:List (LoopS (Bool×Unit)):=[]
theorem C191_ok:QuietOk Tryz.prog 191 C191:=tQ E191 L191 [] Tryz.func191 ty_ok .nil .nil
def F136_R11 (e2_0:Int×D82×D114×D162×Unit→Option (Bool×Unit)) (er_1:Bool×Unit→Option (Bool×Unit)) (rec:Int×Int×D82×D114×D162×Unit→Option (Bool×Unit)) (x15:Int×Int×D82×D114×D162×Unit):Option (Bool×Unit):=
 (cond (decide (x15.2.1<x15.1))
 (gd (decide ((0:Int)≤x15.2.1))
 (x15.2.2.1.1[x15.2.1.toNat]?.bind fun y18=>
 (cond (y18.1==x15.2.2.2.2.1.1)
 (er_1 (false,()))
 (rec (x15.1,(IntKind.wrap .i64 (x15.2.1+(1:Int))),x15.2.2.1,x15.2.2.2.1,x15.2.2.2.2.1,())))))
 (e2_0 (x15.1,x15.2.2.1,x15.2.2.2.1,x15.2.2.2.2.1,())))
def F136_R16 (e4_0:Int×D82×D114×Unit→Option (Bool×Unit)) (er_1:Bool×Unit→Option (Bool×Unit)) (rec:Int×Int×D82×D114×D162×Unit→Option (Bool×Unit)) (x22:Int×Int×D82×D114×D162×Unit):Option (Bool×Unit):=
 (cond (decide (x22.2.1<(x22.2.2.2.2.1.2.1.length:Int)))
 (gd (decide ((0:Int)≤x22.2.1))
 (x22.2.2.2.2.1.2.1[x22.2.1.toNat]?.bind fun y26=>
 ((F190 y26).bind fun y27=>
 (cond (!y27.1)
 (er_1 (false,()))
 (gd (decide ((0:Int)≤x22.2.1))
 (x22.2.2.2.2.1.2.1[x22.2.1.toNat]?.bind fun y28=>
 ((F191 x22.2.2.2.1 y28).bind fun y29=>
 (cond (!y29.1)
 (er_1 (false,()))
 (gd (decide ((0:Int)≤x22.2.1))
 (x22.2.2.2.2.1.2.1[x22.2.1.toNat]?.bind fun y30=>
 (rec (x22.1,(IntKind.wrap .i64 (x22.2.1+(1:Int))),x22.2.2.1,y30,x22.2.2.2.2.1,()))))))))))))
 (e4_0 (x22.1,x22.2.2.1,x22.2.2.2.1,())))
def F136_R5 (e0_0:Unit→Option (Bool×Unit)) (er_1:Bool×Unit→Option (Bool×Unit)) (rec:Int×D82×D114×Unit→Option (Bool×Unit)) (x5:Int×D82×D114×Unit):Option (Bool×Unit):=
 (cond (decide (x5.1<(x5.2.1.1.length:Int)))
 (gd (decide ((0:Int)≤x5.1))
 (x5.2.1.1[x5.1.toNat]?.bind fun y8=>
 (let j11:Int×D82×D114×D162×Unit→Option (Bool×Unit):=fun (y12:Int×D82×D114×D162×Unit)=>
 (iter (F136_R11
 (fun y19=>
 (iter (F136_R16
 (fun y31=>
 (rec ((IntKind.wrap .i64 (y31.1+(1:Int))),y31.2.1,y31.2.2.1,())))
 (fun y32=>
 (er_1 (y32.1,())))) fuel (y19.1,(0:Int),y19.2.1,y19.2.2.1,y19.2.2.2.1,())))
 (fun y20=>
 (er_1 (y20.1,())))) fuel (y12.1,(0:Int),y12.2.1,y12.2.2.1,y12.2.2.2.1,()))
 ((F81 y8.1 (1:Int) (IntKind.wrap .i64 (x5.2.1.2.1-(1:Int)))).bind fun y10=>
 (cond (!y10.1)
 (er_1 (false,()))
 (cond (decide ((y8.2.1.length:Int)>(4:Int)))
 (er_1 (false,()))
 (cond ((y8.2.1.length:Int)==(0:Int))
 (cond (decide ((x5.2.1.1.length:Int)>(1:Int)))
 (er_1 (false,()))
 (j11 (x5.1,x5.2.1,x5.2.2.1,y8,())))
 (j11 (x5.1,x5.2.1,x5.2.2.1,y8,())))))))))
 (e0_0 (())))
def F136 (a0:D82):Option (Bool×Unit):=
 ((F81 (a0.1.length:Int) (1:Int) (60:Int)).bind fun y1=>
 (cond (!y1.1)
 (some (false,()))
 ((F81 a0.2.1 (2:Int) (100000:Int)).bind fun y2=>
 (cond (!y2.1)
 (some (false,()))
 (iter (F136_R5
 (fun y33=>
 (some (true,())))
 (fun y34=>
 (some (y34.1,())))) fuel ((0:Int),a0,([],((-(1:Int)),())),()))))))
def C136:Fun:=⟨[(.ro Y82)],[(.bool,.z)],fun z=>F136 z.1⟩
def E136:=en 100 [(81,C81),(190,C190),(191,C191)] [(3,[1],[]),(5,[1,3,4],[]),(6,[1,3,4],[]),(7,[1,3,4],[]),(10,[1,3,4,5],[]),(11,[1,3,4,5,6],[]),(12,[1,3,4,5,6],[]),(13,[1,3,4,5,6],[]),(15,[1,3,4,5],[]),(16,[1,3,4,5,7],[]),(17,[1,3,4,5,7],[]),(18,[1,3,4,5,7],[]),(20,[1,3,4,5,7],[]),(21,[],[]),(100000,[],[]),(100001,[1,3,4],[]),(100002,[1,3,4,5],[]),(100003,[1,3,4,5,6],[]),(100004,[1,3,4],[]),(100005,[1,3,4,5,7],[]),(99999,[2],[])]
def L136:List (LoopS (Bool×Unit)):=[⟨11,⟨[(1,(.ptr 8 [])),(3,(.ptr 24 [])),(4,(.pv (.int .i64))),(5,(.ptr 40 [])),(6,(.pv (.int .i64)))],[(8,(.data true Y82 .z)),(24,(.data true Y114 .z)),(40,(.data true Y162 .z))]⟩,fun κ=>F136_R11 (fun y=>κ.exit 2 (SSh.mk' ⟨[(1,(.ptr 8 [])),(3,(.ptr 24 [])),(4,(.pv (.int .i64))),(5,(.ptr 40 []))],[(8,(.data true Y82 .z)),(24,(.data true Y114 .z)),(40,(.data true Y162 .z))]⟩ y)) (fun y=>κ.ret (SSh.mk' ⟨[(2,(.pv .bool))],[]⟩ y))⟩,
  ⟨16,⟨[(1,(.ptr 8 [])),(3,(.ptr 24 [])),(4,(.pv (.int .i64))),(5,(.ptr 40 [])),(7,(.pv (.int .i64)))],[(8,(.data true Y82 .z)),(24,(.data true Y114 .z)),(40,(.data true Y162 .z))]⟩,fun κ=>F136_R16 (fun y=>κ.exit 4 (SSh.mk' ⟨[(1,(.ptr 8 [])),(3,(.ptr 24 [])),(4,(.pv (.int .i64)))],[(8,(.data true Y82 .z)),(24,(.data true Y114 .z))]⟩ y)) (fun y=>κ.ret (SSh.mk' ⟨[(2,(.pv .bool))],[]⟩ y))⟩,
  ⟨5,⟨[(1,(.ptr 8 [])),(3,(.ptr 24 [])),(4,(.pv (.int .i64)))],[(8,(.data true Y82 .z)),(24,(.data true Y114 .z))]⟩,fun κ=>F136_R5 (fun y=>κ.exit 0 (SSh.mk' ⟨[],[]⟩ y)) (fun y=>κ.ret (SSh.mk' ⟨[(2,(.pv .bool))],[]⟩ y))⟩]
theorem L136_16:RoundEq E136 L136 L136[1] (nthLoop (codeOf Tryz.f136) 2):=fun κ N x=>by kernel_rfl
theorem L136_11:RoundEq E136 L136 L136[0] (nthLoop (codeOf Tryz.f136) 1):=fun κ N x=>by kernel_rfl
theorem L136_5:RoundEq E136 L136 L136[2] (nthLoop (codeOf Tryz.f136) 0):=fun κ N x=>by kernel_rfl
theorem C136_ok:QuietOk Tryz.prog 136 C136:=tQ E136 L136 [nthLoop (codeOf Tryz.f136) 0,nthLoop (codeOf Tryz.f136) 1,nthLoop (codeOf Tryz.f136) 2] Tryz.func136 ty_ok (.cons C81_ok (.cons C190_ok (.cons C191_ok .nil))) (.cons L136[2] (by kernel_rfl) L136_5 (.cons L136[0] (by kernel_rfl) L136_11 (.cons L136[1] (by kernel_rfl) L136_16 .nil)))
def F86 (a0:D84):Option (Bool×Unit):=
 ((F68 a0.1).bind fun y0=>
 (cond y0.1
 ((F136 a0.2.1).bind fun y1=>
 (some (y1.1,())))
 (some (false,()))))
def C86:Fun:=⟨[(.ro Y84)],[(.bool,.z)],fun z=>F86 z.1⟩
def E86:=en 11 [(68,C68),(136,C136)] [(99999,[2],[])]
def L86:List (LoopS (Bool×Unit)):=[]
theorem C86_ok:QuietOk Tryz.prog 86 C86:=tQ E86 L86 [] Tryz.func86 ty_ok (.cons C68_ok (.cons C136_ok .nil)) .nil
def F35_R7 (e2_0:List (D84)×Int×Unit→Option (Bool×Unit)) (er_1:Bool×Unit→Option (Bool×Unit)) (rec:List (D84)×Int×Int×Unit→Option (Bool×Unit)) (x9:List (D84)×Int×Int×Unit):Option (Bool×Unit):=
 (cond (decide (x9.2.2.1<x9.2.1))
 (gd (decide ((0:Int)≤x9.2.2.1))
 (x9.1[x9.2.2.1.toNat]?.bind fun y12=>
 (gd (decide ((0:Int)≤x9.2.1))
 (x9.1[x9.2.1.toNat]?.bind fun y13=>
 (cond (y12.1.1==y13.1.1)
 (er_1 (false,()))
 (rec (x9.1,x9.2.1,(IntKind.wrap .i64 (x9.2.2.1+(1:Int))),())))))))
 (e2_0 (x9.1,x9.2.1,())))
def F35_R2 (e0_0:List (D84)×Unit→Option (Bool×Unit)) (er_1:Bool×Unit→Option (Bool×Unit)) (rec:List (D84)×Int×Unit→Option (Bool×Unit)) (x2:List (D84)×Int×Unit):Option (Bool×Unit):=
 (cond (decide (x2.2.1<(x2.1.length:Int)))
 (gd (decide ((0:Int)≤x2.2.1))
 (x2.1[x2.2.1.toNat]?.bind fun y6=>
 ((F86 y6).bind fun y7=>
 (cond (!y7.1)
 (er_1 (false,()))
 (iter (F35_R7
 (fun y14=>
 (rec (y14.1,(IntKind.wrap .i64 (y14.2.1+(1:Int))),())))
 (fun y15=>
 (er_1 (y15.1,())))) fuel (x2.1,x2.2.1,(0:Int),()))))))
 (e0_0 (x2.1,())))
def F35 (a0:List (D84)):Option (Bool×Unit):=
 (iter (F35_R2
 (fun y16=>
 (some ((decide ((y16.1.length:Int)≤(3:Int))),())))
 (fun y17=>
 (some (y17.1,())))) fuel (a0,(0:Int),()))
def C35:Fun:=⟨[(.ro (.slice Y84))],[(.bool,.z)],fun z=>F35 z.1⟩
def E35:=en 38 [(86,C86)] [(2,[0,3],[]),(3,[0,3],[]),(4,[0,3],[]),(6,[0,3],[]),(7,[0,3,4],[]),(8,[0,3,4],[]),(9,[0,3,4],[]),(11,[0],[]),(100000,[0],[]),(100001,[0,3],[]),(100002,[0,3],[]),(100003,[0,3,4],[]),(99999,[2],[])]
def L35:List (LoopS (Bool×Unit)):=[⟨7,⟨[(0,(.pv (.slice Y84))),(3,(.pv (.int .i64))),(4,(.pv (.int .i64)))],[]⟩,fun κ=>F35_R7 (fun y=>κ.exit 2 (SSh.mk' ⟨[(0,(.pv (.slice Y84))),(3,(.pv (.int .i64)))],[]⟩ y)) (fun y=>κ.ret (SSh.mk' ⟨[(2,(.pv .bool))],[]⟩ y))⟩,
  ⟨2,⟨[(0,(.pv (.slice Y84))),(3,(.pv (.int .i64)))],[]⟩,fun κ=>F35_R2 (fun y=>κ.exit 0 (SSh.mk' ⟨[(0,(.pv (.slice Y84)))],[]⟩ y)) (fun y=>κ.ret (SSh.mk' ⟨[(2,(.pv .bool))],[]⟩ y))⟩]
theorem L35_7:RoundEq E35 L35 L35[0] (nthLoop (codeOf Tryz.f35) 1):=fun κ N x=>by kernel_rfl
theorem L35_2:RoundEq E35 L35 L35[1] (nthLoop (codeOf Tryz.f35) 0):=fun κ N x=>by kernel_rfl
theorem C35_ok:QuietOk Tryz.prog 35 C35:=tQ E35 L35 [nthLoop (codeOf Tryz.f35) 0,nthLoop (codeOf Tryz.f35) 1] Tryz.func35 ty_ok (.cons C86_ok .nil) (.cons L35[1] (by kernel_rfl) L35_2 (.cons L35[0] (by kernel_rfl) L35_7 .nil))
def F36_R2 (e0_0:Unit→Option (Int×Unit)) (er_1:Int×Unit→Option (Int×Unit)) (rec:List (D84)×List UInt8×Int×Unit→Option (Int×Unit)) (x2:List (D84)×List UInt8×Int×Unit):Option (Int×Unit):=
 (cond (decide (x2.2.2.1<(x2.1.length:Int)))
 (gd (decide ((0:Int)≤x2.2.2.1))
 (x2.1[x2.2.2.1.toNat]?.bind fun y5=>
 (cond (y5.1.1==x2.2.1)
 (er_1 (x2.2.2.1,()))
 (rec (x2.1,x2.2.1,(IntKind.wrap .i64 (x2.2.2.1+(1:Int))),())))))
 (e0_0 (())))
def F36 (a0:List (D84)) (a1:List UInt8):Option (Int×Unit):=
 (iter (F36_R2
 (fun y6=>
 (some ((-(1:Int)),())))
 (fun y7=>
 (some (y7.1,())))) fuel (a0,a1,(0:Int),()))
def C36:Fun:=⟨[(.ro (.slice Y84)),(.ro .str)],[((.int .i64),.z)],fun z=>F36 z.1 z.2.1⟩
def E36:=en 21 [] [(2,[0,1,5],[]),(3,[0,1,5],[]),(4,[0,1,5],[]),(6,[],[]),(100000,[],[]),(100001,[0,1,5],[]),(99999,[4],[])]
def L36:List (LoopS (Int×Unit)):=[⟨2,⟨[(0,(.pv (.slice Y84))),(1,(.pv .str)),(5,(.pv (.int .i64)))],[]⟩,fun κ=>F36_R2 (fun y=>κ.exit 0 (SSh.mk' ⟨[],[]⟩ y)) (fun y=>κ.ret (SSh.mk' ⟨[(4,(.pv (.int .i64)))],[]⟩ y))⟩]
theorem L36_2:RoundEq E36 L36 L36[0] (nthLoop (codeOf Tryz.f36) 0):=fun κ N x=>by kernel_rfl
theorem C36_ok:QuietOk Tryz.prog 36 C36:=tQ E36 L36 [nthLoop (codeOf Tryz.f36) 0] Tryz.func36 ty_ok .nil (.cons L36[0] (by kernel_rfl) L36_2 .nil)
abbrev G304:Type:=(D76)→(List (List UInt8))→Option (List (D76)×Unit)
def H304 (g:G304):Fun:=⟨[(.ro Y76),(.ro (.slice .str))],[((.slice Y76),.z)],fun z=>g z.1 z.2.1⟩
def B304_R17 (g:G304) (e1_0:List (D76)×Unit→Option (List (D76)×Unit)) (rec:List (List UInt8)×List (D76)×Int×List (D76)×Unit→Option (List (D76)×Unit)) (x13:List (List UInt8)×List (D76)×Int×List (D76)×Unit):Option (List (D76)×Unit):=
 (cond (decide (x13.2.2.1<(x13.2.1.length:Int)))
 (let j19:List (List UInt8)×List (D76)×Int×List (D76)×Unit→Option (List (D76)×Unit):=fun (y20:List (List UInt8)×List (D76)×Int×List (D76)×Unit)=>
 (rec (y20.1,y20.2.1,(IntKind.wrap .i64 (y20.2.2.1+(1:Int))),y20.2.2.2.1,()))
 (gd (decide ((0:Int)≤x13.2.2.1))
 (x13.2.1[x13.2.2.1.toNat]?.bind fun y16=>
 (cond (y16.1==(5:Int))
 (gd (decide ((0:Int)≤x13.2.2.1))
 (x13.2.1[x13.2.2.1.toNat]?.bind fun y17=>
 ((g y17 x13.1).bind fun y18=>
 (gd (decide ((x13.2.2.2.1.length+y18.1.length)≤lim))
 (j19 (x13.1,x13.2.1,x13.2.2.1,(x13.2.2.2.1++y18.1),()))))))
 (j19 (x13.1,x13.2.1,x13.2.2.1,x13.2.2.2.1,()))))))
 (e1_0 (x13.2.2.2.1,())))
def B304 (g:G304) (a0:D76) (a1:List (List UInt8)):Option (List (D76)×Unit):=
 (cond ((a1.length:Int)==(0:Int))
 (let j3:List (D76)×Unit→Option (List (D76)×Unit):=fun (y4:List (D76)×Unit)=>
 (some (y4.1,()))
 (cond (a0.1==(4:Int))
 ((F244 a0.2.2.1).bind fun y2=>
 (gd (decide (((List.length [a0])+y2.1.length)≤lim))
 (j3 (([a0]++y2.1),()))))
 (j3 ([a0],()))))
 (cond (a0.1==(5:Int))
 (a1[(0:Int).toNat]?.bind fun y6=>
 ((F135 a0 y6).bind fun y7=>
 (cond (!y7.2.1)
 (some ([],()))
 (gd (decide ((a1.length:Int)≤(a1.length:Int)))
 (gd (decide ((1:Int)≤(((a1.length:Int).toNat:Nat):Int)))
 ((g y7.1 (List.drop (1:Int).toNat (List.take (a1.length:Int).toNat a1))).bind fun y9=>
 (some (y9.1,()))))))))
 (cond (a0.1==(4:Int))
 ((F244 a0.2.2.1).bind fun y10=>
 (iter (B304_R17 g
 (fun y21=>
 (some (y21.1,())))) fuel (a1,y10.1,(0:Int),[],())))
 (some ([],())))))
def K304 (g:G304):Fun:=⟨[(.ro Y76),(.ro (.slice .str))],[((.slice Y76),.z)],fun z=>B304 g z.1 z.2.1⟩
def E304 (g:G304):Env:=⟨82,tyTab tys,oneTab ones,fnTab [(135,C135),(244,C244),(304,(H304 g))],false,[],[(6,[5],[]),(7,[1,2],[]),(12,[1,8],[]),(17,[1,10,11,13],[]),(18,[1,10,11,13],[]),(19,[1,10,11,13],[]),(21,[10],[]),(22,[],[]),(100000,[],[]),(100001,[10],[]),(100002,[1,10,11,13],[]),(99999,[4],[])],none,[],[]⟩
def L304 (g:G304):List (LoopS (List (D76)×Unit)):=[⟨17,⟨[(1,(.pv (.slice .str))),(10,(.ref (.slice Y76) 424 [])),(11,(.pv (.slice Y76))),(13,(.pv (.int .i64)))],[(424,(.data false (.slice Y76) (.own .z)))]⟩,fun κ=>B304_R17 g (fun y=>κ.exit 1 (SSh.mk' ⟨[(10,(.ref (.slice Y76) 424 []))],[(424,(.data false (.slice Y76) (.own .z)))]⟩ y))⟩]
theorem L304_17 (g:G304):RoundEq (E304 g) (L304 g) ((L304 g)[0]'(Nat.le_of_ble_eq_true rfl)) (nthLoop (codeOf Tryz.f304) 0):=fun κ N x=>by kernel_rfl
theorem K304_ok (g:G304) (hg:QuietOk Tryz.prog 304 (H304 g)):QuietOk Tryz.prog 304 (K304 g):=tQ (E304 g) (L304 g) [nthLoop (codeOf Tryz.f304) 0] Tryz.func304 ty_ok (.cons C135_ok (.cons C244_ok (.cons hg .nil))) (.cons ((L304 g)[0]'(Nat.le_of_ble_eq_true rfl)) (by kernel_rfl) (L304_17 g) .nil)
def S304:Nat→G304
  |0=>fun _ _=>none
  |k+1=>B304 (S304 k)
def F304:G304:=S304 fuel
def C304:Fun:=H304 F304
theorem C304_all:∀ k,QuietOk Tryz.prog 304 (H304 (S304 k))
  |0=>QuietOk.none Tryz.func304 (by rfl) (by decide) fun _=>rfl
  |k+1=>K304_ok (S304 k) (C304_all k)
theorem C304_ok:QuietOk Tryz.prog 304 C304:=C304_all fuel
def F269 (a0:D76) (a1:List UInt8):Option (List (D76)×Unit):=
 ((F133 a1 (46:Int)).bind fun y0=>
 ((F304 a0 y0.1).bind fun y1=>
 (some (y1.1,()))))
def C269:Fun:=⟨[(.ro Y76),(.ro .str)],[((.slice Y76),.z)],fun z=>F269 z.1 z.2.1⟩
def E269:=en 9 [(133,C133),(304,C304)] [(99999,[4],[])]
def L269:List (LoopS (List (D76)×Unit)):=[]
theorem C269_ok:QuietOk Tryz.prog 269 C269:=tQ E269 L269 [] Tryz.func269 ty_ok (.cons C133_ok (.cons C304_ok .nil)) .nil
def F271 (a0:Bool):Option (Int×Unit):=
 (cond a0
 (some ((1:Int),()))
 (some ((0:Int),())))
def C271:Fun:=⟨[(.ro .bool)],[((.int .i64),.z)],fun z=>F271 z.1⟩
def E271:=en 4 [] [(3,[],[]),(99999,[2],[])]
def L271:List (LoopS (Int×Unit)):=[]
theorem C271_ok:QuietOk Tryz.prog 271 C271:=tQ E271 L271 [] Tryz.func271 ty_ok .nil .nil
abbrev G227:Type:=(D76)→(D76)→Option (Int×Unit)
def H227 (g:G227):Fun:=⟨[(.ro Y76),(.ro Y76)],[((.int .i64),.z)],fun z=>g z.1 z.2.1⟩
def B227_R13 (g:G227) (e1_0:List (D76)×List (D76)×Unit→Option (Int×Unit)) (er_1:Int×Unit→Option (Int×Unit)) (rec:List (D76)×List (D76)×Int×Unit→Option (Int×Unit)) (x8:List (D76)×List (D76)×Int×Unit):Option (Int×Unit):=
 (cond (decide (x8.2.2.1<(x8.1.length:Int)))
 (cond (decide (x8.2.2.1<(x8.2.1.length:Int)))
 (gd (decide ((0:Int)≤x8.2.2.1))
 (x8.1[x8.2.2.1.toNat]?.bind fun y11=>
 (gd (decide ((0:Int)≤x8.2.2.1))
 (x8.2.1[x8.2.2.1.toNat]?.bind fun y12=>
 ((g y11 y12).bind fun y13=>
 (cond (y13.1 != (0:Int))
 (er_1 (y13.1,()))
 (rec (x8.1,x8.2.1,(IntKind.wrap .i64 (x8.2.2.1+(1:Int))),()))))))))
 (e1_0 (x8.1,x8.2.1,())))
 (e1_0 (x8.1,x8.2.1,())))
def B227_R22 (g:G227) (e3_0:List (D211)×List (D211)×Unit→Option (Int×Unit)) (er_1:Int×Unit→Option (Int×Unit)) (rec:List (D211)×List (D211)×Int×Unit→Option (Int×Unit)) (x21:List (D211)×List (D211)×Int×Unit):Option (Int×Unit):=
 (cond (decide (x21.2.2.1<(x21.1.length:Int)))
 (cond (decide (x21.2.2.1<(x21.2.1.length:Int)))
 (gd (decide ((0:Int)≤x21.2.2.1))
 (x21.1[x21.2.2.1.toNat]?.bind fun y25=>
 (gd (decide ((0:Int)≤x21.2.2.1))
 (x21.2.1[x21.2.2.1.toNat]?.bind fun y26=>
 (cond (!(y25.1==y26.1))
 (gd (decide ((0:Int)≤x21.2.2.1))
 (x21.1[x21.2.2.1.toNat]?.bind fun y27=>
 (gd (decide ((0:Int)≤x21.2.2.1))
 (x21.2.1[x21.2.2.1.toNat]?.bind fun y28=>
 ((F271 (!((Op.bytesLess y27.1 y28.1)||(y27.1==y28.1)))).bind fun y29=>
 (er_1 ((IntKind.wrap .i64 ((IntKind.wrap .i64 ((2:Int)*y29.1))-(1:Int))),())))))))
 (gd (decide ((0:Int)≤x21.2.2.1))
 (x21.1[x21.2.2.1.toNat]?.bind fun y30=>
 (gd (decide ((0:Int)≤x21.2.2.1))
 (x21.2.1[x21.2.2.1.toNat]?.bind fun y31=>
 ((g y30.2.1 y31.2.1).bind fun y32=>
 (cond (y32.1 != (0:Int))
 (er_1 (y32.1,()))
 (rec (x21.1,x21.2.1,(IntKind.wrap .i64 (x21.2.2.1+(1:Int))),())))))))))))))
 (e3_0 (x21.1,x21.2.1,())))
 (e3_0 (x21.1,x21.2.1,())))
def B227 (g:G227) (a0:D76) (a1:D76):Option (Int×Unit):=
 (cond (a0.1 != a1.1)
 ((F271 (decide (a0.1>a1.1))).bind fun y1=>
 (some ((IntKind.wrap .i64 ((IntKind.wrap .i64 ((2:Int)*y1.1))-(1:Int))),())))
 (cond (a0.2.1 != a1.2.1)
 ((F271 (decide (a0.2.1>a1.2.1))).bind fun y2=>
 (some ((IntKind.wrap .i64 ((IntKind.wrap .i64 ((2:Int)*y2.1))-(1:Int))),())))
 (cond (a0.2.2.1==a1.2.2.1)
 (some ((0:Int),()))
 (cond (a0.1==(3:Int))
 ((F271 (!((Op.bytesLess a0.2.2.1 a1.2.2.1)||(a0.2.2.1==a1.2.2.1)))).bind fun y3=>
 (some ((IntKind.wrap .i64 ((IntKind.wrap .i64 ((2:Int)*y3.1))-(1:Int))),())))
 (cond (a0.1==(4:Int))
 ((F244 a0.2.2.1).bind fun y4=>
 ((F244 a1.2.2.1).bind fun y5=>
 (iter (B227_R13 g
 (fun y14=>
 ((F271 (decide ((y14.1.length:Int)>(y14.2.1.length:Int)))).bind fun y16=>
 (some ((IntKind.wrap .i64 ((IntKind.wrap .i64 ((2:Int)*y16.1))-(1:Int))),()))))
 (fun y15=>
 (some (y15.1,())))) fuel (y4.1,y5.1,(0:Int),()))))
 ((F175 a0.2.2.1).bind fun y17=>
 ((F175 a1.2.2.1).bind fun y18=>
 (iter (B227_R22 g
 (fun y33=>
 ((F271 (decide ((y33.1.length:Int)>(y33.2.1.length:Int)))).bind fun y35=>
 (some ((IntKind.wrap .i64 ((IntKind.wrap .i64 ((2:Int)*y35.1))-(1:Int))),()))))
 (fun y34=>
 (some (y34.1,())))) fuel (y17.1,y18.1,(0:Int),())))))))))
def K227 (g:G227):Fun:=⟨[(.ro Y76),(.ro Y76)],[((.int .i64),.z)],fun z=>B227 g z.1 z.2.1⟩
def E227 (g:G227):Env:=⟨182,tyTab tys,oneTab ones,fnTab [(175,C175),(227,(H227 g)),(244,C244),(271,C271)],false,[],[(13,[5,7,9],[]),(14,[5,7,9],[]),(15,[5,7,9],[]),(18,[5,7],[]),(19,[2,3],[]),(22,[11,13,15],[]),(23,[11,13,15],[]),(24,[11,13,15],[]),(26,[11,13,15],[]),(29,[11,13],[]),(100000,[2,3],[]),(100001,[5,7],[]),(100002,[5,7,9],[]),(100003,[11,13],[]),(100004,[11,13,15],[]),(99999,[4],[])],none,[],[]⟩
def L227 (g:G227):List (LoopS (Int×Unit)):=[⟨13,⟨[(5,(.pv (.slice Y76))),(7,(.pv (.slice Y76))),(9,(.pv (.int .i64)))],[]⟩,fun κ=>B227_R13 g (fun y=>κ.exit 1 (SSh.mk' ⟨[(5,(.pv (.slice Y76))),(7,(.pv (.slice Y76)))],[]⟩ y)) (fun y=>κ.ret (SSh.mk' ⟨[(4,(.pv (.int .i64)))],[]⟩ y))⟩,
  ⟨22,⟨[(11,(.pv (.slice Y211))),(13,(.pv (.slice Y211))),(15,(.pv (.int .i64)))],[]⟩,fun κ=>B227_R22 g (fun y=>κ.exit 3 (SSh.mk' ⟨[(11,(.pv (.slice Y211))),(13,(.pv (.slice Y211)))],[]⟩ y)) (fun y=>κ.ret (SSh.mk' ⟨[(4,(.pv (.int .i64)))],[]⟩ y))⟩]
theorem L227_22 (g:G227):RoundEq (E227 g) (L227 g) ((L227 g)[1]'(Nat.le_of_ble_eq_true rfl)) (nthLoop (codeOf Tryz.f227) 1):=fun κ N x=>by kernel_rfl
theorem L227_13 (g:G227):RoundEq (E227 g) (L227 g) ((L227 g)[0]'(Nat.le_of_ble_eq_true rfl)) (nthLoop (codeOf Tryz.f227) 0):=fun κ N x=>by kernel_rfl
theorem K227_ok (g:G227) (hg:QuietOk Tryz.prog 227 (H227 g)):QuietOk Tryz.prog 227 (K227 g):=tQ (E227 g) (L227 g) [nthLoop (codeOf Tryz.f227) 0,nthLoop (codeOf Tryz.f227) 1] Tryz.func227 ty_ok (.cons C175_ok (.cons hg (.cons C244_ok (.cons C271_ok .nil)))) (.cons ((L227 g)[0]'(Nat.le_of_ble_eq_true rfl)) (by kernel_rfl) (L227_13 g) (.cons ((L227 g)[1]'(Nat.le_of_ble_eq_true rfl)) (by kernel_rfl) (L227_22 g) .nil))
def S227:Nat→G227
  |0=>fun _ _=>none
  |k+1=>B227 (S227 k)
def F227:G227:=S227 fuel
def C227:Fun:=H227 F227
theorem C227_all:∀ k,QuietOk Tryz.prog 227 (H227 (S227 k))
  |0=>QuietOk.none Tryz.func227 (by rfl) (by decide) fun _=>rfl
  |k+1=>K227_ok (S227 k) (C227_all k)
theorem C227_ok:QuietOk Tryz.prog 227 C227:=C227_all fuel
def F270_R18 (e1_0:Unit→Option (Bool×Unit)) (er_1:Bool×Unit→Option (Bool×Unit)) (rec:List (D76)×Int×D76×Unit→Option (Bool×Unit)) (x6:List (D76)×Int×D76×Unit):Option (Bool×Unit):=
 (cond (decide (x6.2.1<(x6.1.length:Int)))
 (gd (decide ((0:Int)≤x6.2.1))
 (x6.1[x6.2.1.toNat]?.bind fun y9=>
 (cond ((decide (y9.1=x6.2.2.1.1))&&((decide (y9.2.1=x6.2.2.1.2.1))&&((y9.2.2.1==x6.2.2.1.2.2.1)&&true)))
 (er_1 (true,()))
 (rec (x6.1,(IntKind.wrap .i64 (x6.2.1+(1:Int))),x6.2.2.1,())))))
 (e1_0 (())))
def F270 (a0:D190) (a1:D76):Option (Bool×Unit):=
 ((F227 a1 a0.2.2.1).bind fun y0=>
 (let j18:Unit→Option (Bool×Unit):=fun (y19:Unit)=>
 (some (true,()))
 (cond (a0.1==(1:Int))
 (cond (a0.1==(1:Int))
 (some (((decide (a1.1=a0.2.2.1.1))&&((decide (a1.2.1=a0.2.2.1.2.1))&&((a1.2.2.1==a0.2.2.1.2.2.1)&&true))),()))
 (cond (a0.1==(3:Int))
 (cond (a1.1==a0.2.2.1.1)
 (some ((decide (y0.1<(0:Int))),()))
 (some (false,())))
 (cond (a0.1==(4:Int))
 (cond (a1.1==a0.2.2.1.1)
 (some ((decide (y0.1≤(0:Int))),()))
 (some (false,())))
 (cond (a0.1==(5:Int))
 (cond (a1.1==a0.2.2.1.1)
 (some ((decide (y0.1>(0:Int))),()))
 (some (false,())))
 (cond (a0.1==(6:Int))
 (cond (a1.1==a0.2.2.1.1)
 (some ((decide (y0.1≥(0:Int))),()))
 (some (false,())))
 (cond (a0.1==(7:Int))
 ((F244 a0.2.2.1.2.2.1).bind fun y3=>
 (iter (F270_R18
 (fun y10=>
 (some (false,())))
 (fun y11=>
 (some (y11.1,())))) fuel (y3.1,(0:Int),a1,())))
 (cond (a0.1==(9:Int))
 (some ((a1.1==a0.2.2.1.2.1),()))
 (cond (a0.1==(10:Int))
 ((F244 a1.2.2.1).bind fun y12=>
 (cond (a1.1==(4:Int))
 (some (((y12.1.length:Int)==a0.2.2.1.2.1),()))
 (some (false,()))))
 (j18 (()))))))))))
 (cond (a0.1==(2:Int))
 (some (((decide (a1.1=a0.2.2.1.1))&&((decide (a1.2.1=a0.2.2.1.2.1))&&((a1.2.2.1==a0.2.2.1.2.2.1)&&true))),()))
 (cond (a0.1==(3:Int))
 (cond (a1.1==a0.2.2.1.1)
 (some ((decide (y0.1<(0:Int))),()))
 (some (false,())))
 (cond (a0.1==(4:Int))
 (cond (a1.1==a0.2.2.1.1)
 (some ((decide (y0.1≤(0:Int))),()))
 (some (false,())))
 (cond (a0.1==(5:Int))
 (cond (a1.1==a0.2.2.1.1)
 (some ((decide (y0.1>(0:Int))),()))
 (some (false,())))
 (cond (a0.1==(6:Int))
 (cond (a1.1==a0.2.2.1.1)
 (some ((decide (y0.1≥(0:Int))),()))
 (some (false,())))
 (cond (a0.1==(7:Int))
 ((F244 a0.2.2.1.2.2.1).bind fun y13=>
 (iter (F270_R18
 (fun y15=>
 (some (false,())))
 (fun y16=>
 (some (y16.1,())))) fuel (y13.1,(0:Int),a1,())))
 (cond (a0.1==(9:Int))
 (some ((a1.1==a0.2.2.1.2.1),()))
 (cond (a0.1==(10:Int))
 ((F244 a1.2.2.1).bind fun y17=>
 (cond (a1.1==(4:Int))
 (some (((y17.1.length:Int)==a0.2.2.1.2.1),()))
 (some (false,()))))
 (j18 (())))))))))))))
def C270:Fun:=⟨[(.ro Y190),(.ro Y76)],[(.bool,.z)],fun z=>F270 z.1 z.2.1⟩
def E270:=en 107 [(227,C227),(244,C244)] [(18,[3,7,9],[]),(19,[3,7,9],[]),(20,[3,7,9],[]),(22,[],[]),(28,[],[]),(100000,[],[]),(100001,[],[]),(100002,[3,7,9],[]),(99999,[4],[])]
def L270:List (LoopS (Bool×Unit)):=[⟨18,⟨[(3,(.ptr 24 [])),(7,(.pv (.slice Y76))),(9,(.pv (.int .i64)))],[(24,(.data true Y76 .z))]⟩,fun κ=>F270_R18 (fun y=>κ.exit 1 (SSh.mk' ⟨[],[]⟩ y)) (fun y=>κ.ret (SSh.mk' ⟨[(4,(.pv .bool))],[]⟩ y))⟩]
theorem L270_18:RoundEq E270 L270 L270[0] (nthLoop (codeOf Tryz.f270) 0):=fun κ N x=>by kernel_rfl
theorem C270_ok:QuietOk Tryz.prog 270 C270:=tQ E270 L270 [nthLoop (codeOf Tryz.f270) 0] Tryz.func270 ty_ok (.cons C227_ok (.cons C244_ok .nil)) (.cons L270[0] (by kernel_rfl) L270_18 .nil)
def F226_R8 (e0_0:Bool×D190×Unit→Option (Bool×Unit)) (rec:List (D76)×Bool×Int×D190×Unit→Option (Bool×Unit)) (x7:List (D76)×Bool×Int×D190×Unit):Option (Bool×Unit):=
 (cond (decide (x7.2.2.1<(x7.1.length:Int)))
 (cond x7.2.1
 (rec (x7.1,true,(IntKind.wrap .i64 (x7.2.2.1+(1:Int))),x7.2.2.2.1,()))
 (gd (decide ((0:Int)≤x7.2.2.1))
 (x7.1[x7.2.2.1.toNat]?.bind fun y9=>
 ((F270 x7.2.2.2.1 y9).bind fun y10=>
 (rec (x7.1,y10.1,(IntKind.wrap .i64 (x7.2.2.1+(1:Int))),x7.2.2.2.1,()))))))
 (e0_0 (x7.2.1,x7.2.2.2.1,())))
def F226 (a0:D190) (a1:D76):Option (Bool×Unit):=
 ((F269 a1 a0.2.1).bind fun y0=>
 (cond (a0.1==(8:Int))
 (some (((decide ((y0.1.length:Int)>(0:Int)))==(a0.2.2.1.2.1==(1:Int))),()))
 (let j3:List (D76)×D190×Unit→Option (Bool×Unit):=fun (y4:List (D76)×D190×Unit)=>
 (iter (F226_R8
 (fun y11=>
 (some ((!(y11.1==(y11.2.1.1==(2:Int)))),())))) fuel (y4.1,false,(0:Int),y4.2.1,()))
 (cond ((y0.1.length:Int)==(0:Int))
 (cond (a0.1 != (9:Int))
 (j3 ([((0:Int),((0:Int),([],())))],a0,()))
 (j3 (y0.1,a0,())))
 (j3 (y0.1,a0,()))))))
def C226:Fun:=⟨[(.ro Y190),(.ro Y76)],[(.bool,.z)],fun z=>F226 z.1 z.2.1⟩
def E226:Env:=⟨53,tyTab tys,oneTab ones,fnTab [(269,C269),(270,C270)],false,[256],[(4,[2,5],[]),(6,[2,5],[]),(8,[2,5,6,7],[]),(10,[2,5,6,7],[]),(11,[2,6],[]),(100000,[2,6],[]),(100001,[2,5,6,7],[]),(99999,[4],[])],none,[],[]⟩
def L226:List (LoopS (Bool×Unit)):=[⟨8,⟨[(2,(.ptr 16 [])),(5,(.pv (.slice Y76))),(6,(.pv .bool)),(7,(.pv (.int .i64)))],[(16,(.data true Y190 .z))]⟩,fun κ=>F226_R8 (fun y=>κ.exit 0 (SSh.mk' ⟨[(2,(.ptr 16 [])),(6,(.pv .bool))],[(16,(.data true Y190 .z))]⟩ y))⟩]
theorem L226_8:RoundEq E226 L226 L226[0] (nthLoop (codeOf Tryz.f226) 0):=fun κ N x=>by kernel_rfl
theorem C226_ok:QuietOk Tryz.prog 226 C226:=tQ E226 L226 [nthLoop (codeOf Tryz.f226) 0] Tryz.func226 ty_ok (.cons C269_ok (.cons C270_ok .nil)) (.cons L226[0] (by kernel_rfl) L226_8 .nil)
def F173_R2 (e0_0:Unit→Option (Bool×Unit)) (er_1:Bool×Unit→Option (Bool×Unit)) (rec:Int×D183×D76×Unit→Option (Bool×Unit)) (x2:Int×D183×D76×Unit):Option (Bool×Unit):=
 (cond (decide (x2.1<(x2.2.1.1.length:Int)))
 (gd (decide ((0:Int)≤x2.1))
 (x2.2.1.1[x2.1.toNat]?.bind fun y5=>
 ((F226 y5 x2.2.2.1).bind fun y6=>
 (cond (!y6.1)
 (er_1 (false,()))
 (rec ((IntKind.wrap .i64 (x2.1+(1:Int))),x2.2.1,x2.2.2.1,()))))))
 (e0_0 (())))
def F173 (a0:D183) (a1:D76):Option (Bool×Unit):=
 (iter (F173_R2
 (fun y7=>
 (some (true,())))
 (fun y8=>
 (some (y8.1,())))) fuel ((0:Int),a0,a1,()))
def C173:Fun:=⟨[(.ro Y183),(.ro Y76)],[(.bool,.z)],fun z=>F173 z.1 z.2.1⟩
def E173:=en 21 [(226,C226)] [(2,[2,3,5],[]),(3,[2,3,5],[]),(4,[2,3,5],[]),(6,[],[]),(100000,[],[]),(100001,[2,3,5],[]),(99999,[4],[])]
def L173:List (LoopS (Bool×Unit)):=[⟨2,⟨[(2,(.ptr 16 [])),(3,(.ptr 24 [])),(5,(.pv (.int .i64)))],[(16,(.data true Y183 .z)),(24,(.data true Y76 .z))]⟩,fun κ=>F173_R2 (fun y=>κ.exit 0 (SSh.mk' ⟨[],[]⟩ y)) (fun y=>κ.ret (SSh.mk' ⟨[(4,(.pv .bool))],[]⟩ y))⟩]
theorem L173_2:RoundEq E173 L173 L173[0] (nthLoop (codeOf Tryz.f173) 0):=fun κ N x=>by kernel_rfl
theorem C173_ok:QuietOk Tryz.prog 173 C173:=tQ E173 L173 [nthLoop (codeOf Tryz.f173) 0] Tryz.func173 ty_ok (.cons C226_ok .nil) (.cons L173[0] (by kernel_rfl) L173_2 .nil)
def F118_R2 (e0_0:Unit→Option (Bool×Unit)) (er_1:Bool×Unit→Option (Bool×Unit)) (rec:Int×D27×D76×Unit→Option (Bool×Unit)) (x2:Int×D27×D76×Unit):Option (Bool×Unit):=
 (cond (decide (x2.1<(x2.2.1.1.length:Int)))
 (gd (decide ((0:Int)≤x2.1))
 (x2.2.1.1[x2.1.toNat]?.bind fun y5=>
 ((F173 y5 x2.2.2.1).bind fun y6=>
 (cond y6.1
 (er_1 (true,()))
 (rec ((IntKind.wrap .i64 (x2.1+(1:Int))),x2.2.1,x2.2.2.1,()))))))
 (e0_0 (())))
def F118 (a0:D27) (a1:D76):Option (Bool×Unit):=
 (iter (F118_R2
 (fun y7=>
 (some (false,())))
 (fun y8=>
 (some (y8.1,())))) fuel ((0:Int),a0,a1,()))
def C118:Fun:=⟨[(.ro Y27),(.ro Y76)],[(.bool,.z)],fun z=>F118 z.1 z.2.1⟩
def E118:=en 20 [(173,C173)] [(2,[2,3,5],[]),(3,[2,3,5],[]),(4,[2,3,5],[]),(6,[],[]),(100000,[],[]),(100001,[2,3,5],[]),(99999,[4],[])]
def L118:List (LoopS (Bool×Unit)):=[⟨2,⟨[(2,(.ptr 16 [])),(3,(.ptr 24 [])),(5,(.pv (.int .i64)))],[(16,(.data true Y27 .z)),(24,(.data true Y76 .z))]⟩,fun κ=>F118_R2 (fun y=>κ.exit 0 (SSh.mk' ⟨[],[]⟩ y)) (fun y=>κ.ret (SSh.mk' ⟨[(4,(.pv .bool))],[]⟩ y))⟩]
theorem L118_2:RoundEq E118 L118 L118[0] (nthLoop (codeOf Tryz.f118) 0):=fun κ N x=>by kernel_rfl
theorem C118_ok:QuietOk Tryz.prog 118 C118:=tQ E118 L118 [nthLoop (codeOf Tryz.f118) 0] Tryz.func118 ty_ok (.cons C173_ok .nil) (.cons L118[0] (by kernel_rfl) L118_2 .nil)
def F228_R6 (e0_0:D76×D76×Unit→Option (D76×Unit)) (rec:List (D76)×Int×D76×D76×Unit→Option (D76×Unit)) (x5:List (D76)×Int×D76×D76×Unit):Option (D76×Unit):=
 (cond (decide (x5.2.1<(x5.1.length:Int)))
 (let j11:List (D76)×Int×D76×D76×Unit→Option (D76×Unit):=fun (y12:List (D76)×Int×D76×D76×Unit)=>
 (rec (y12.1,(IntKind.wrap .i64 (y12.2.1+(1:Int))),y12.2.2.1,y12.2.2.2.1,()))
 (gd (decide ((0:Int)≤x5.2.1))
 (x5.1[x5.2.1.toNat]?.bind fun y8=>
 ((F227 y8 x5.2.2.2.1).bind fun y9=>
 (cond (decide (y9.1<(0:Int)))
 (gd (decide ((0:Int)≤x5.2.1))
 (x5.1[x5.2.1.toNat]?.bind fun y10=>
 (j11 (x5.1,x5.2.1,x5.2.2.1,y10,()))))
 (j11 (x5.1,x5.2.1,x5.2.2.1,x5.2.2.2.1,())))))))
 (e0_0 (x5.2.2.1,x5.2.2.2.1,())))
def F228 (a0:D76) (a1:List UInt8):Option (D76×Unit):=
 ((F269 a0 a1).bind fun y0=>
 (cond ((y0.1.length:Int)==(0:Int))
 (some (((0:Int),((0:Int),([],()))),()))
 (y0.1[(0:Int).toNat]?.bind fun y2=>
 (iter (F228_R6
 (fun y13=>
 (some (y13.2.1,())))) fuel (y0.1,(1:Int),((0:Int),((0:Int),([],()))),y2,())))))
def C228:Fun:=⟨[(.ro Y76),(.ro .str)],[(Y76,.z)],fun z=>F228 z.1 z.2.1⟩
def E228:=en 36 [(227,C227),(269,C269)] [(4,[4,5],[]),(6,[4,5,6,7],[]),(7,[4,5,6,7],[]),(8,[4,5,6,7],[]),(10,[4,6],[]),(100000,[4,6],[]),(100001,[4,5,6,7],[]),(99999,[4],[])]
def L228:List (LoopS (D76×Unit)):=[⟨6,⟨[(4,(.ptr 32 [])),(5,(.pv (.slice Y76))),(6,(.ptr 48 [])),(7,(.pv (.int .i64)))],[(32,(.data true Y76 .z)),(48,(.data true Y76 .z))]⟩,fun κ=>F228_R6 (fun y=>κ.exit 0 (SSh.mk' ⟨[(4,(.ptr 32 [])),(6,(.ptr 48 []))],[(32,(.data true Y76 .z)),(48,(.data true Y76 .z))]⟩ y))⟩]
theorem L228_6:RoundEq E228 L228 L228[0] (nthLoop (codeOf Tryz.f228) 0):=fun κ N x=>by kernel_rfl
theorem C228_ok:QuietOk Tryz.prog 228 C228:=tQ E228 L228 [nthLoop (codeOf Tryz.f228) 0] Tryz.func228 ty_ok (.cons C227_ok (.cons C269_ok .nil)) (.cons L228[0] (by kernel_rfl) L228_6 .nil)
def F174_R2 (e0_0:D76×D76×Unit→Option (Bool×Unit)) (er_1:Bool×Unit→Option (Bool×Unit)) (rec:List (D139)×Int×D76×D76×Unit→Option (Bool×Unit)) (x2:List (D139)×Int×D76×D76×Unit):Option (Bool×Unit):=
 (cond (decide (x2.2.1<(x2.1.length:Int)))
 (gd (decide ((0:Int)≤x2.2.1))
 (x2.1[x2.2.1.toNat]?.bind fun y5=>
 ((F228 x2.2.2.1 y5.1).bind fun y6=>
 (gd (decide ((0:Int)≤x2.2.1))
 (x2.1[x2.2.1.toNat]?.bind fun y7=>
 ((F228 x2.2.2.2.1 y7.1).bind fun y8=>
 ((F227 y6.1 y8.1).bind fun y9=>
 (cond (y9.1 != (0:Int))
 (gd (decide ((0:Int)≤x2.2.1))
 (x2.1[x2.2.1.toNat]?.bind fun y10=>
 (er_1 ((!((decide (y9.1<(0:Int)))==y10.2.1)),()))))
 (rec (x2.1,(IntKind.wrap .i64 (x2.2.1+(1:Int))),x2.2.2.1,x2.2.2.2.1,()))))))))))
 (e0_0 (x2.2.2.1,x2.2.2.2.1,())))
def F174 (a0:D76) (a1:D76) (a2:List (D139)):Option (Bool×Unit):=
 (iter (F174_R2
 (fun y11=>
 ((F85 y11.1).bind fun y13=>
 ((F85 y11.2.1).bind fun y14=>
 (some ((decide (y13.1<y14.1)),())))))
 (fun y12=>
 (some (y12.1,())))) fuel (a2,(0:Int),a0,a1,()))
def C174:Fun:=⟨[(.ro Y76),(.ro Y76),(.ro (.slice Y139))],[(.bool,.z)],fun z=>F174 z.1 z.2.1 z.2.2.1⟩
def E174:=en 45 [(85,C85),(227,C227),(228,C228)] [(2,[2,3,4,7],[]),(3,[2,3,4,7],[]),(4,[2,3,4,7],[]),(7,[3,4],[]),(100000,[3,4],[]),(100001,[2,3,4,7],[]),(99999,[6],[])]
def L174:List (LoopS (Bool×Unit)):=[⟨2,⟨[(2,(.pv (.slice Y139))),(3,(.ptr 24 [])),(4,(.ptr 32 [])),(7,(.pv (.int .i64)))],[(24,(.data true Y76 .z)),(32,(.data true Y76 .z))]⟩,fun κ=>F174_R2 (fun y=>κ.exit 0 (SSh.mk' ⟨[(3,(.ptr 24 [])),(4,(.ptr 32 []))],[(24,(.data true Y76 .z)),(32,(.data true Y76 .z))]⟩ y)) (fun y=>κ.ret (SSh.mk' ⟨[(6,(.pv .bool))],[]⟩ y))⟩]
theorem L174_2:RoundEq E174 L174 L174[0] (nthLoop (codeOf Tryz.f174) 0):=fun κ N x=>by kernel_rfl
theorem C174_ok:QuietOk Tryz.prog 174 C174:=tQ E174 L174 [nthLoop (codeOf Tryz.f174) 0] Tryz.func174 ty_ok (.cons C85_ok (.cons C227_ok (.cons C228_ok .nil))) (.cons L174[0] (by kernel_rfl) L174_2 .nil)
def F119_R6 (e2_0:List (D76)×List (D139)×Int×Int×List (D76)×Unit→Option (List (D76)×Unit)) (rec:List (D76)×List (D139)×Int×Int×List (D76)×Unit→Option (List (D76)×Unit)) (x7:List (D76)×List (D139)×Int×Int×List (D76)×Unit):Option (List (D76)×Unit):=
 (cond (decide (x7.2.2.2.1>(0:Int)))
 (gd (decide ((0:Int)≤x7.2.2.1))
 (x7.1[x7.2.2.1.toNat]?.bind fun y9=>
 (gd (decide ((0:Int)≤(IntKind.wrap .i64 (x7.2.2.2.1-(1:Int)))))
 (gd (decide ((IntKind.wrap .i64 (x7.2.2.2.1-(1:Int)))<(x7.2.2.2.2.1.length:Int)))
 (x7.2.2.2.2.1[(IntKind.wrap .i64 (x7.2.2.2.1-(1:Int))).toNat]?.bind fun y10=>
 ((F174 y9 y10 x7.2.1).bind fun y11=>
 (cond y11.1
 (rec (x7.1,x7.2.1,x7.2.2.1,(IntKind.wrap .i64 (x7.2.2.2.1-(1:Int))),x7.2.2.2.2.1,()))
 (e2_0 (x7.1,x7.2.1,x7.2.2.1,x7.2.2.2.1,x7.2.2.2.2.1,())))))))))
 (e2_0 (x7.1,x7.2.1,x7.2.2.1,x7.2.2.2.1,x7.2.2.2.2.1,())))
def F119_R3 (e0_0:List (D76)×Unit→Option (List (D76)×Unit)) (rec:List (D76)×List (D139)×Int×List (D76)×Unit→Option (List (D76)×Unit)) (x2:List (D76)×List (D139)×Int×List (D76)×Unit):Option (List (D76)×Unit):=
 (cond (decide (x2.2.2.1<(x2.1.length:Int)))
 (iter (F119_R6
 (fun y12=>
 (gd (decide ((0:Int)≤y12.2.2.2.1))
 (gd (decide (y12.2.2.2.1≤(y12.2.2.2.2.1.length:Int)))
 (gd (decide ((0:Int)≤y12.2.2.1))
 (y12.1[y12.2.2.1.toNat]?.bind fun y13=>
 (gd (decide ((y12.2.2.2.2.1.length:Int)≤(y12.2.2.2.2.1.length:Int)))
 (gd (decide ((0:Int)≤y12.2.2.2.1))
 (gd (decide (y12.2.2.2.1≤(((y12.2.2.2.2.1.length:Int).toNat:Nat):Int)))
 (gd (decide ((([]:List D76).length+(List.drop (0:Int).toNat (List.take y12.2.2.2.1.toNat y12.2.2.2.2.1)).length)≤lim))
 (gd (decide ((([]++(List.drop (0:Int).toNat (List.take y12.2.2.2.1.toNat y12.2.2.2.2.1))).length+(List.length [y13]))≤lim))
 (gd (decide (((([]++(List.drop (0:Int).toNat (List.take y12.2.2.2.1.toNat y12.2.2.2.2.1)))++[y13]).length+(List.drop y12.2.2.2.1.toNat (List.take (y12.2.2.2.2.1.length:Int).toNat y12.2.2.2.2.1)).length)≤lim))
 (rec (y12.1,y12.2.1,(IntKind.wrap .i64 (y12.2.2.1+(1:Int))),((([]++(List.drop (0:Int).toNat (List.take y12.2.2.2.1.toNat y12.2.2.2.2.1)))++[y13])++(List.drop y12.2.2.2.1.toNat (List.take (y12.2.2.2.2.1.length:Int).toNat y12.2.2.2.2.1))),())))))))))))))) fuel (x2.1,x2.2.1,x2.2.2.1,(x2.2.2.2.1.length:Int),x2.2.2.2.1,()))
 (e0_0 (x2.2.2.2.1,())))
def F119 (a0:List (D76)) (a1:List (D139)):Option (List (D76)×Unit):=
 (iter (F119_R3
 (fun y14=>
 (some (y14.1,())))) fuel (a0,a1,(0:Int),[],()))
def C119:Fun:=⟨[(.ro (.slice Y76)),(.ro (.slice Y139))],[((.slice Y76),(.own .z))],fun z=>F119 z.1 z.2.1⟩
def E119:Env:=⟨50,tyTab tys,oneTab ones,fnTab [(174,C174)],true,[344],[(3,[0,1,5,6],[]),(4,[0,1,5,6],[]),(5,[0,1,5,6],[]),(6,[0,1,5,6,7],[]),(7,[0,1,5,6,7],[]),(8,[0,1,5,6,7],[]),(9,[5],[]),(100000,[5],[]),(100001,[0,1,5,6],[]),(100002,[0,1,5,6,7],[]),(100003,[0,1,5,6,7],[]),(200003,[],[5]),(200006,[],[5]),(99999,[4],[])],none,[],[]⟩
def L119:List (LoopS (List (D76)×Unit)):=[⟨6,⟨[(0,(.pv (.slice Y76))),(1,(.pv (.slice Y139))),(5,(.ref (.slice Y76) 41 [])),(6,(.pv (.int .i64))),(7,(.pv (.int .i64)))],[(41,(.data false (.slice Y76) (.own .z)))]⟩,fun κ=>F119_R6 (fun y=>κ.exit 2 (SSh.mk' ⟨[(0,(.pv (.slice Y76))),(1,(.pv (.slice Y139))),(5,(.ref (.slice Y76) 41 [])),(6,(.pv (.int .i64))),(7,(.pv (.int .i64)))],[(41,(.data false (.slice Y76) (.own .z)))]⟩ y))⟩,
  ⟨3,⟨[(0,(.pv (.slice Y76))),(1,(.pv (.slice Y139))),(5,(.ref (.slice Y76) 41 [])),(6,(.pv (.int .i64)))],[(41,(.data false (.slice Y76) (.own .z)))]⟩,fun κ=>F119_R3 (fun y=>κ.exit 0 (SSh.mk' ⟨[(5,(.ref (.slice Y76) 41 []))],[(41,(.data false (.slice Y76) (.own .z)))]⟩ y))⟩]
theorem L119_6:RoundEq E119 L119 L119[0] (nthLoop (codeOf Tryz.f119) 1):=fun κ N x=>by kernel_rfl
theorem L119_3:RoundEq E119 L119 L119[1] (nthLoop (codeOf Tryz.f119) 0):=fun κ N x=>by kernel_rfl
theorem C119_ok:FreshOk Tryz.prog 119 C119:=tF E119 L119 [nthLoop (codeOf Tryz.f119) 0,nthLoop (codeOf Tryz.f119) 1] Tryz.func119 ty_ok (.cons C174_ok .nil) (.cons L119[1] (by kernel_rfl) L119_3 (.cons L119[0] (by kernel_rfl) L119_6 .nil))
def F230_R3 (e0_0:List (Int)×Unit→Option (List UInt8×Unit)) (rec:Int×Int×List (Int)×Unit→Option (List UInt8×Unit)) (x2:Int×Int×List (Int)×Unit):Option (List UInt8×Unit):=
 (cond (decide (x2.2.1≥(0:Int)))
 (cond (decide ((IntKind.wrap .u64 (IntKind.wrap .i64 ((8:Int)*x2.2.1)))<(0:Int)))
 none
 (gd (decide ((x2.2.2.1.length+(List.length [(IntKind.wrap .u8 (Int.fdiv x2.1 ((2:Int) ^ (Min.min (IntKind.wrap .u64 (IntKind.wrap .i64 ((8:Int)*x2.2.1))).toNat (IntKind.bits IntKind.i64)))))]))≤lim))
 (rec (x2.1,(IntKind.wrap .i64 (x2.2.1-(1:Int))),(x2.2.2.1++[(IntKind.wrap .u8 (Int.fdiv x2.1 ((2:Int) ^ (Min.min (IntKind.wrap .u64 (IntKind.wrap .i64 ((8:Int)*x2.2.1))).toNat (IntKind.bits IntKind.i64)))))]),()))))
 (e0_0 (x2.2.2.1,())))
def F230 (a0:Int) (a1:Int):Option (List UInt8×Unit):=
 (iter (F230_R3
 (fun y4=>
 (some ((List.map (fun (v5:Int)=>(UInt8.ofNat v5.toNat)) y4.1),())))) fuel (a0,(IntKind.wrap .i64 (a1-(1:Int))),[],()))
def C230:Fun:=⟨[(.ro (.int .i64)),(.ro (.int .i64))],[(.str,.z)],fun z=>F230 z.1 z.2.1⟩
def E230:=en 25 [] [(3,[0,5,6],[]),(5,[0,5,6],[]),(6,[5],[]),(100000,[5],[]),(100001,[0,5,6],[]),(99999,[4],[])]
def L230:List (LoopS (List UInt8×Unit)):=[⟨3,⟨[(0,(.pv (.int .i64))),(5,(.ref (.slice (.int .u8)) 56 [])),(6,(.pv (.int .i64)))],[(56,(.data false (.slice (.int .u8)) (.own .z)))]⟩,fun κ=>F230_R3 (fun y=>κ.exit 0 (SSh.mk' ⟨[(5,(.ref (.slice (.int .u8)) 56 []))],[(56,(.data false (.slice (.int .u8)) (.own .z)))]⟩ y))⟩]
theorem L230_3:RoundEq E230 L230 L230[0] (nthLoop (codeOf Tryz.f230) 0):=fun κ N x=>by kernel_rfl
theorem C230_ok:QuietOk Tryz.prog 230 C230:=tQ E230 L230 [nthLoop (codeOf Tryz.f230) 0] Tryz.func230 ty_ok .nil (.cons L230[0] (by kernel_rfl) L230_3 .nil)
def F231 (a0:D76):Option (List UInt8×Unit):=
 ((F230 a0.1 (1:Int)).bind fun y0=>
 (cond (a0.1==(0:Int))
 (some (y0.1,()))
 (cond (a0.1==(1:Int))
 ((F230 a0.2.1 (1:Int)).bind fun y2=>
 (gd (decide ((y0.1.length+y2.1.length)≤9223372036854775807))
 (some ((y0.1++y2.1),()))))
 (cond (a0.1==(2:Int))
 ((F230 (IntKind.wrap .i64 (a0.2.1+(4611686018427387904:Int))) (8:Int)).bind fun y3=>
 (gd (decide ((y0.1.length+y3.1.length)≤9223372036854775807))
 (some ((y0.1++y3.1),()))))
 ((F230 (a0.2.2.1.length:Int) (2:Int)).bind fun y4=>
 (gd (decide ((y0.1.length+y4.1.length)≤9223372036854775807))
 (gd (decide (((y0.1++y4.1).length+a0.2.2.1.length)≤9223372036854775807))
 (some (((y0.1++y4.1)++a0.2.2.1),())))))))))
def C231:Fun:=⟨[(.ro Y76)],[(.str,.z)],fun z=>F231 z.1⟩
def E231:=en 36 [(230,C230)] [(9,[1,3],[]),(100000,[1,3],[]),(99999,[2],[])]
def L231:List (LoopS (List UInt8×Unit)):=[]
theorem C231_ok:QuietOk Tryz.prog 231 C231:=tQ E231 L231 [] Tryz.func231 ty_ok (.cons C230_ok .nil) .nil
def F176_R3 (e0_0:List UInt8×D76×Unit→Option (D76×Unit)) (rec:List (D211)×List UInt8×Int×D76×Unit→Option (D76×Unit)) (x2:List (D211)×List UInt8×Int×D76×Unit):Option (D76×Unit):=
 (cond (decide (x2.2.2.1<(x2.1.length:Int)))
 (gd (decide ((0:Int)≤x2.2.2.1))
 (x2.1[x2.2.2.1.toNat]?.bind fun y4=>
 ((F230 (y4.1.length:Int) (1:Int)).bind fun y5=>
 (gd (decide ((0:Int)≤x2.2.2.1))
 (x2.1[x2.2.2.1.toNat]?.bind fun y6=>
 (gd (decide ((y5.1.length+y6.1.length)≤9223372036854775807))
 (gd (decide ((0:Int)≤x2.2.2.1))
 (x2.1[x2.2.2.1.toNat]?.bind fun y7=>
 ((F231 y7.2.1).bind fun y8=>
 (gd (decide (((y5.1++y6.1).length+y8.1.length)≤9223372036854775807))
 (gd (decide ((x2.2.1.length+((y5.1++y6.1)++y8.1).length)≤9223372036854775807))
 (rec (x2.1,(x2.2.1++((y5.1++y6.1)++y8.1)),(IntKind.wrap .i64 (x2.2.2.1+(1:Int))),x2.2.2.2.1,())))))))))))))
 (e0_0 (x2.2.1,x2.2.2.2.1,())))
def F176 (a0:List (D211)):Option (D76×Unit):=
 (iter (F176_R3
 (fun y9=>
 (some (((5:Int),((0:Int),(y9.1,()))),())))) fuel (a0,[],(0:Int),((0:Int),((0:Int),([],()))),()))
def C176:Fun:=⟨[(.ro (.slice Y211))],[(Y76,.z)],fun z=>F176 z.1⟩
def E176:=en 35 [(230,C230),(231,C231)] [(3,[0,2,3,4],[]),(5,[0,2,3,4],[]),(6,[2,3],[]),(100000,[2,3],[]),(100001,[0,2,3,4],[]),(99999,[2],[])]
def L176:List (LoopS (D76×Unit)):=[⟨3,⟨[(0,(.pv (.slice Y211))),(2,(.ptr 16 [])),(3,(.pv .str)),(4,(.pv (.int .i64)))],[(16,(.data true Y76 .z))]⟩,fun κ=>F176_R3 (fun y=>κ.exit 0 (SSh.mk' ⟨[(2,(.ptr 16 [])),(3,(.pv .str))],[(16,(.data true Y76 .z))]⟩ y))⟩]
theorem L176_3:RoundEq E176 L176 L176[0] (nthLoop (codeOf Tryz.f176) 0):=fun κ N x=>by kernel_rfl
theorem C176_ok:QuietOk Tryz.prog 176 C176:=tQ E176 L176 [nthLoop (codeOf Tryz.f176) 0] Tryz.func176 ty_ok (.cons C230_ok (.cons C231_ok .nil)) (.cons L176[0] (by kernel_rfl) L176_3 .nil)
def F120_R10 (e2_0:List (List UInt8)×List (D211)×Int×Bool×D76×List (D211)×Unit→Option (D76×Unit)) (rec:List (List UInt8)×List (D211)×Int×Bool×Int×D76×List (D211)×Unit→Option (D76×Unit)) (x10:List (List UInt8)×List (D211)×Int×Bool×Int×D76×List (D211)×Unit):Option (D76×Unit):=
 (cond (decide (x10.2.2.2.2.1<(x10.1.length:Int)))
 (cond x10.2.2.2.1
 (rec (x10.1,x10.2.1,x10.2.2.1,true,(IntKind.wrap .i64 (x10.2.2.2.2.1+(1:Int))),x10.2.2.2.2.2.1,x10.2.2.2.2.2.2.1,()))
 (gd (decide ((0:Int)≤x10.2.2.2.2.1))
 (x10.1[x10.2.2.2.2.1.toNat]?.bind fun y12=>
 (gd (decide ((0:Int)≤x10.2.2.1))
 (x10.2.1[x10.2.2.1.toNat]?.bind fun y13=>
 (rec (x10.1,x10.2.1,x10.2.2.1,(y12==y13.1),(IntKind.wrap .i64 (x10.2.2.2.2.1+(1:Int))),x10.2.2.2.2.2.1,x10.2.2.2.2.2.2.1,())))))))
 (e2_0 (x10.1,x10.2.1,x10.2.2.1,x10.2.2.2.1,x10.2.2.2.2.2.1,x10.2.2.2.2.2.2.1,())))
def F120_R6 (e0_0:D76×List (D211)×Unit→Option (D76×Unit)) (rec:List (List UInt8)×List (D211)×Int×D76×List (D211)×Unit→Option (D76×Unit)) (x4:List (List UInt8)×List (D211)×Int×D76×List (D211)×Unit):Option (D76×Unit):=
 (cond (decide (x4.2.2.1<(x4.2.1.length:Int)))
 (let j16:List (List UInt8)×List (D211)×Int×D76×List (D211)×Unit→Option (D76×Unit):=fun (y17:List (List UInt8)×List (D211)×Int×D76×List (D211)×Unit)=>
 (rec (y17.1,y17.2.1,(IntKind.wrap .i64 (y17.2.2.1+(1:Int))),y17.2.2.2.1,y17.2.2.2.2.1,()))
 (gd (decide ((0:Int)≤x4.2.2.1))
 (x4.2.1[x4.2.2.1.toNat]?.bind fun y7=>
 (iter (F120_R10
 (fun y14=>
 (cond y14.2.2.2.1
 (gd (decide ((0:Int)≤y14.2.2.1))
 (y14.2.1[y14.2.2.1.toNat]?.bind fun y15=>
 (gd (decide ((y14.2.2.2.2.2.1.length+(List.length [y15]))≤lim))
 (j16 (y14.1,y14.2.1,y14.2.2.1,y14.2.2.2.2.1,(y14.2.2.2.2.2.1++[y15]),())))))
 (j16 (y14.1,y14.2.1,y14.2.2.1,y14.2.2.2.2.1,y14.2.2.2.2.2.1,()))))) fuel (x4.1,x4.2.1,x4.2.2.1,(y7.1==[(105:UInt8),(100:UInt8)]),(0:Int),x4.2.2.2.1,x4.2.2.2.2.1,())))))
 (e0_0 (x4.2.2.2.1,x4.2.2.2.2.1,())))
def F120 (a0:D76) (a1:List (List UInt8)):Option (D76×Unit):=
 (cond ((a1.length:Int)==(0:Int))
 (some (a0,()))
 ((F175 a0.2.2.1).bind fun y1=>
 (iter (F120_R6
 (fun y18=>
 ((F176 y18.2.1).bind fun y19=>
 (some (y19.1,()))))) fuel (a1,y1.1,(0:Int),((0:Int),((0:Int),([],()))),[],()))))
def C120:Fun:=⟨[(.ro Y76),(.ro (.slice .str))],[(Y76,.z)],fun z=>F120 z.1 z.2.1⟩
def E120:=en 63 [(175,C175),(176,C176)] [(3,[1,2,4],[]),(6,[1,4,5,7,8],[]),(7,[1,4,5,7,8],[]),(8,[1,4,5,7,8],[]),(10,[1,4,5,7,8,9,10],[]),(12,[1,4,5,7,8,9,10],[]),(13,[1,4,5,7,8,9],[]),(15,[4,7],[]),(100000,[4,7],[]),(100001,[1,4,5,7,8],[]),(100002,[1,4,5,7,8,9],[]),(100003,[1,4,5,7,8,9,10],[]),(99999,[4],[])]
def L120:List (LoopS (D76×Unit)):=[⟨10,⟨[(1,(.pv (.slice .str))),(4,(.ptr 32 [])),(5,(.pv (.slice Y211))),(7,(.ref (.slice Y211) 168 [])),(8,(.pv (.int .i64))),(9,(.pv .bool)),(10,(.pv (.int .i64)))],[(32,(.data true Y76 .z)),(168,(.data false (.slice Y211) (.own .z)))]⟩,fun κ=>F120_R10 (fun y=>κ.exit 2 (SSh.mk' ⟨[(1,(.pv (.slice .str))),(4,(.ptr 32 [])),(5,(.pv (.slice Y211))),(7,(.ref (.slice Y211) 168 [])),(8,(.pv (.int .i64))),(9,(.pv .bool))],[(32,(.data true Y76 .z)),(168,(.data false (.slice Y211) (.own .z)))]⟩ y))⟩,
  ⟨6,⟨[(1,(.pv (.slice .str))),(4,(.ptr 32 [])),(5,(.pv (.slice Y211))),(7,(.ref (.slice Y211) 168 [])),(8,(.pv (.int .i64)))],[(32,(.data true Y76 .z)),(168,(.data false (.slice Y211) (.own .z)))]⟩,fun κ=>F120_R6 (fun y=>κ.exit 0 (SSh.mk' ⟨[(4,(.ptr 32 [])),(7,(.ref (.slice Y211) 168 []))],[(32,(.data true Y76 .z)),(168,(.data false (.slice Y211) (.own .z)))]⟩ y))⟩]
theorem L120_10:RoundEq E120 L120 L120[0] (nthLoop (codeOf Tryz.f120) 1):=fun κ N x=>by kernel_rfl
theorem L120_6:RoundEq E120 L120 L120[1] (nthLoop (codeOf Tryz.f120) 0):=fun κ N x=>by kernel_rfl
theorem C120_ok:QuietOk Tryz.prog 120 C120:=tQ E120 L120 [nthLoop (codeOf Tryz.f120) 0,nthLoop (codeOf Tryz.f120) 1] Tryz.func120 ty_ok (.cons C175_ok (.cons C176_ok .nil)) (.cons L120[1] (by kernel_rfl) L120_6 (.cons L120[0] (by kernel_rfl) L120_10 .nil))
def F67_R3 (e0_0:D31×List (D76)×Unit→Option (List (D76)×Unit)) (rec:List (D76)×Int×D31×List (D76)×Unit→Option (List (D76)×Unit)) (x2:List (D76)×Int×D31×List (D76)×Unit):Option (List (D76)×Unit):=
 (cond (decide (x2.2.1<(x2.1.length:Int)))
 (let j8:List (D76)×Int×D31×List (D76)×Unit→Option (List (D76)×Unit):=fun (y9:List (D76)×Int×D31×List (D76)×Unit)=>
 (rec (y9.1,(IntKind.wrap .i64 (y9.2.1+(1:Int))),y9.2.2.1,y9.2.2.2.1,()))
 (gd (decide ((0:Int)≤x2.2.1))
 (x2.1[x2.2.1.toNat]?.bind fun y5=>
 ((F118 x2.2.2.1.1 y5).bind fun y6=>
 (cond y6.1
 (gd (decide ((0:Int)≤x2.2.1))
 (x2.1[x2.2.1.toNat]?.bind fun y7=>
 (gd (decide ((x2.2.2.2.1.length+(List.length [y7]))≤lim))
 (j8 (x2.1,x2.2.1,x2.2.2.1,(x2.2.2.2.1++[y7]),())))))
 (j8 (x2.1,x2.2.1,x2.2.2.1,x2.2.2.2.1,())))))))
 (e0_0 (x2.2.2.1,x2.2.2.2.1,())))
def F67_R10 (e2_0:List (D76)×Unit→Option (List (D76)×Unit)) (rec:Int×D31×List (D76)×List (D76)×Unit→Option (List (D76)×Unit)) (x14:Int×D31×List (D76)×List (D76)×Unit):Option (List (D76)×Unit):=
 (let j16:Int×D31×List (D76)×List (D76)×Unit→Option (List (D76)×Unit):=fun (y17:Int×D31×List (D76)×List (D76)×Unit)=>
 (gd (decide ((0:Int)≤y17.1))
 (gd (decide (y17.1<(y17.2.2.1.length:Int)))
 (y17.2.2.1[y17.1.toNat]?.bind fun y18=>
 ((F120 y18 y17.2.1.2.2.2.2.1).bind fun y19=>
 (gd (decide ((y17.2.2.2.1.length+(List.length [y19.1]))≤lim))
 (rec ((IntKind.wrap .i64 (y17.1+(1:Int))),y17.2.1,y17.2.2.1,(y17.2.2.2.1++[y19.1]),())))))))
 (cond (decide (x14.1<(x14.2.2.1.length:Int)))
 (cond (x14.2.1.2.2.2.1==(0:Int))
 (j16 (x14.1,x14.2.1,x14.2.2.1,x14.2.2.2.1,()))
 (cond (decide ((x14.2.2.2.1.length:Int)<x14.2.1.2.2.2.1))
 (j16 (x14.1,x14.2.1,x14.2.2.1,x14.2.2.2.1,()))
 (e2_0 (x14.2.2.2.1,()))))
 (e2_0 (x14.2.2.2.1,()))))
def F67 (a0:D31) (a1:List (D76)):Option (List (D76)×Unit):=
 (iter (F67_R3
 (fun y10=>
 ((F119 y10.2.1 y10.1.2.1).bind fun y11=>
 (iter (F67_R10
 (fun y20=>
 (some (y20.1,())))) fuel (y10.1.2.2.1,y10.1,y11.1,[],()))))) fuel (a1,(0:Int),a0,[],()))
def C67:Fun:=⟨[(.ro Y31),(.ro (.slice Y76))],[((.slice Y76),(.own .z))],fun z=>F67 z.1 z.2.1⟩
def E67:Env:=⟨66,tyTab tys,oneTab ones,fnTab [(118,C118),(119,C119),(120,C120)],true,[],[(3,[1,2,5,6],[]),(4,[1,2,5,6],[]),(5,[1,2,5,6],[]),(7,[2,5],[]),(10,[2,5,7,8],[]),(12,[2,5,7,8],[]),(13,[7],[]),(100000,[2,5],[]),(100001,[1,2,5,6],[]),(100002,[7],[]),(100003,[2,5,7,8],[]),(99999,[4],[])],none,[],[]⟩
def L67:List (LoopS (List (D76)×Unit)):=[⟨3,⟨[(1,(.pv (.slice Y76))),(2,(.ptr 16 [])),(5,(.ref (.slice Y76) 72 [])),(6,(.pv (.int .i64)))],[(16,(.data true Y31 .z)),(72,(.data false (.slice Y76) (.own .z)))]⟩,fun κ=>F67_R3 (fun y=>κ.exit 0 (SSh.mk' ⟨[(2,(.ptr 16 [])),(5,(.ref (.slice Y76) 72 []))],[(16,(.data true Y31 .z)),(72,(.data false (.slice Y76) (.own .z)))]⟩ y))⟩,
  ⟨10,⟨[(2,(.ptr 16 [])),(5,(.ref (.slice Y76) 264 [])),(7,(.ref (.slice Y76) 272 [])),(8,(.pv (.int .i64)))],[(16,(.data true Y31 .z)),(264,(.data false (.slice Y76) (.own .z))),(272,(.data false (.slice Y76) (.own .z)))]⟩,fun κ=>F67_R10 (fun y=>κ.exit 2 (SSh.mk' ⟨[(7,(.ref (.slice Y76) 272 []))],[(272,(.data false (.slice Y76) (.own .z)))]⟩ y))⟩]
theorem L67_10:RoundEq E67 L67 L67[1] (nthLoop (codeOf Tryz.f67) 1):=fun κ N x=>by kernel_rfl
theorem L67_3:RoundEq E67 L67 L67[0] (nthLoop (codeOf Tryz.f67) 0):=fun κ N x=>by kernel_rfl
theorem C67_ok:FreshOk Tryz.prog 67 C67:=tF E67 L67 [nthLoop (codeOf Tryz.f67) 0,nthLoop (codeOf Tryz.f67) 1] Tryz.func67 ty_ok (.cons C118_ok (.consFr C119_ok (.cons C120_ok .nil))) (.cons L67[0] (by kernel_rfl) L67_3 (.cons L67[1] (by kernel_rfl) L67_10 .nil))
def F137_R3 (e0_0:Int×Unit→Option (Int×Unit)) (rec:Int×Int×D82×D114×Unit→Option (Int×Unit)) (x2:Int×Int×D82×D114×Unit):Option (Int×Unit):=
 (cond (decide (x2.2.1<(x2.2.2.1.1.length:Int)))
 (let j9:Int×Int×D82×D114×Unit→Option (Int×Unit):=fun (y10:Int×Int×D82×D114×Unit)=>
 (rec (y10.1,(IntKind.wrap .i64 (y10.2.1+(1:Int))),y10.2.2.1,y10.2.2.2.1,()))
 (gd (decide ((0:Int)≤x2.2.1))
 (x2.2.2.1.1[x2.2.1.toNat]?.bind fun y5=>
 (cond (decide ((y5.2.1.length:Int)>(0:Int)))
 (gd (decide ((0:Int)≤x2.2.1))
 (x2.2.2.1.1[x2.2.1.toNat]?.bind fun y6=>
 (y6.2.1[(0:Int).toNat]?.bind fun y7=>
 ((F191 x2.2.2.2.1 y7).bind fun y8=>
 (cond (!y8.1)
 (j9 (x2.2.1,x2.2.1,x2.2.2.1,x2.2.2.2.1,()))
 (j9 (x2.1,x2.2.1,x2.2.2.1,x2.2.2.2.1,())))))))
 (j9 (x2.1,x2.2.1,x2.2.2.1,x2.2.2.2.1,()))))))
 (e0_0 (x2.1,())))
def F137 (a0:D82) (a1:D114):Option (Int×Unit):=
 (iter (F137_R3
 (fun y11=>
 (some (y11.1,())))) fuel ((0:Int),(1:Int),a0,a1,()))
def C137:Fun:=⟨[(.ro Y82),(.ro Y114)],[((.int .i64),.z)],fun z=>F137 z.1 z.2.1⟩
def E137:=en 37 [(191,C191)] [(3,[2,3,5,6],[]),(4,[2,3,5,6],[]),(5,[2,3,5,6],[]),(7,[5],[]),(100000,[5],[]),(100001,[2,3,5,6],[]),(99999,[4],[])]
def L137:List (LoopS (Int×Unit)):=[⟨3,⟨[(2,(.ptr 16 [])),(3,(.ptr 24 [])),(5,(.pv (.int .i64))),(6,(.pv (.int .i64)))],[(16,(.data true Y82 .z)),(24,(.data true Y114 .z))]⟩,fun κ=>F137_R3 (fun y=>κ.exit 0 (SSh.mk' ⟨[(5,(.pv (.int .i64)))],[]⟩ y))⟩]
theorem L137_3:RoundEq E137 L137 L137[0] (nthLoop (codeOf Tryz.f137) 0):=fun κ N x=>by kernel_rfl
theorem C137_ok:QuietOk Tryz.prog 137 C137:=tQ E137 L137 [nthLoop (codeOf Tryz.f137) 0] Tryz.func137 ty_ok (.cons C191_ok .nil) (.cons L137[0] (by kernel_rfl) L137_3 .nil)
def F138 (a0:D22) (a1:List UInt8):Option (Bool×Unit):=
 (cond ((Op.bytesLess a0.1 a1)||(a0.1==a1))
 (cond a0.2.2.1
 (some (true,()))
 (some ((Op.bytesLess a1 a0.2.1),())))
 (some (false,())))
def C138:Fun:=⟨[(.ro Y22),(.ro .str)],[(.bool,.z)],fun z=>F138 z.1 z.2.1⟩
def E138:=en 19 [] [(99999,[4],[])]
def L138:List (LoopS (Bool×Unit)):=[]
theorem C138_ok:QuietOk Tryz.prog 138 C138:=tQ E138 L138 [] Tryz.func138 ty_ok .nil .nil
def F87_R11 (e2_0:Int×Int×D82×D22×List (D114)×List (Int)×Unit→Option (List (D114)×List (Int)×Unit)) (rec:Int×Int×List (D114)×Int×D82×D22×List (D114)×List (Int)×Unit→Option (List (D114)×List (Int)×Unit)) (x13:Int×Int×List (D114)×Int×D82×D22×List (D114)×List (Int)×Unit):Option (List (D114)×List (Int)×Unit):=
 (cond (decide (x13.2.2.2.1<(x13.2.2.1.length:Int)))
 (let j19:Int×Int×List (D114)×Int×D82×D22×List (D114)×List (Int)×Unit→Option (List (D114)×List (Int)×Unit):=fun (y20:Int×Int×List (D114)×Int×D82×D22×List (D114)×List (Int)×Unit)=>
 (rec (y20.1,y20.2.1,y20.2.2.1,(IntKind.wrap .i64 (y20.2.2.2.1+(1:Int))),y20.2.2.2.2.1,y20.2.2.2.2.2.1,y20.2.2.2.2.2.2.1,y20.2.2.2.2.2.2.2.1,()))
 (gd (decide ((0:Int)≤x13.2.2.2.1))
 (x13.2.2.1[x13.2.2.2.1.toNat]?.bind fun y16=>
 ((F138 x13.2.2.2.2.2.1 y16.1).bind fun y17=>
 (cond y17.1
 (gd (decide ((0:Int)≤x13.2.2.2.1))
 (x13.2.2.1[x13.2.2.2.1.toNat]?.bind fun y18=>
 (gd (decide ((x13.2.2.2.2.2.2.1.length+(List.length [y18]))≤lim))
 (j19 (x13.1,x13.2.1,x13.2.2.1,x13.2.2.2.1,x13.2.2.2.2.1,x13.2.2.2.2.2.1,(x13.2.2.2.2.2.2.1++[y18]),x13.2.2.2.2.2.2.2.1,())))))
 (j19 (x13.1,x13.2.1,x13.2.2.1,x13.2.2.2.1,x13.2.2.2.2.1,x13.2.2.2.2.2.1,x13.2.2.2.2.2.2.1,x13.2.2.2.2.2.2.2.1,())))))))
 (e2_0 (x13.1,x13.2.1,x13.2.2.2.2.1,x13.2.2.2.2.2.1,x13.2.2.2.2.2.2.1,x13.2.2.2.2.2.2.2.1,())))
def F87_R5 (e0_0:List (D114)×List (Int)×Unit→Option (List (D114)×List (Int)×Unit)) (rec:Int×Int×D82×D22×List (D114)×List (Int)×Unit→Option (List (D114)×List (Int)×Unit)) (x3:Int×Int×D82×D22×List (D114)×List (Int)×Unit):Option (List (D114)×List (Int)×Unit):=
 (cond (decide (x3.2.1<(x3.2.2.1.1.length:Int)))
 (gd (decide ((0:Int)≤x3.2.1))
 (x3.2.2.1.1[x3.2.1.toNat]?.bind fun y6=>
 (let j9:Int×Int×List (D114)×D82×D22×List (D114)×List (Int)×Unit→Option (List (D114)×List (Int)×Unit):=fun (y10:Int×Int×List (D114)×D82×D22×List (D114)×List (Int)×Unit)=>
 (gd (decide ((0:Int)≤y10.2.1))
 (y10.2.2.2.1.1[y10.2.1.toNat]?.bind fun y11=>
 (gd (decide ((y10.2.2.2.2.2.2.1.length+(List.length [y11.1]))≤lim))
 (iter (F87_R11
 (fun y21=>
 (rec (y21.1,(IntKind.wrap .i64 (y21.2.1+(1:Int))),y21.2.2.1,y21.2.2.2.1,y21.2.2.2.2.1,y21.2.2.2.2.2.1,())))) fuel (y10.1,y10.2.1,y10.2.2.1,(0:Int),y10.2.2.2.1,y10.2.2.2.2.1,y10.2.2.2.2.2.1,(y10.2.2.2.2.2.2.1++[y11.1]),())))))
 (cond (decide (x3.2.1>x3.1))
 (cond (!x3.2.2.2.1.2.2.1)
 (cond (decide ((y6.2.1.length:Int)>(0:Int)))
 (y6.2.1[(0:Int).toNat]?.bind fun y8=>
 (cond (!(Op.bytesLess y8.1 x3.2.2.2.1.2.1))
 (e0_0 (x3.2.2.2.2.1,x3.2.2.2.2.2.1,()))
 (j9 (x3.1,x3.2.1,y6.2.1,x3.2.2.1,x3.2.2.2.1,x3.2.2.2.2.1,x3.2.2.2.2.2.1,()))))
 (j9 (x3.1,x3.2.1,y6.2.1,x3.2.2.1,x3.2.2.2.1,x3.2.2.2.2.1,x3.2.2.2.2.2.1,())))
 (j9 (x3.1,x3.2.1,y6.2.1,x3.2.2.1,x3.2.2.2.1,x3.2.2.2.2.1,x3.2.2.2.2.2.1,())))
 (j9 (x3.1,x3.2.1,y6.2.1,x3.2.2.1,x3.2.2.2.1,x3.2.2.2.2.1,x3.2.2.2.2.2.1,()))))))
 (e0_0 (x3.2.2.2.2.1,x3.2.2.2.2.2.1,())))
def F87 (a0:D82) (a1:D22):Option (List (D114)×List (Int)×Unit):=
 ((F137 a0 (a1.1,((-(1:Int)),()))).bind fun y0=>
 (iter (F87_R5
 (fun y22=>
 (some (y22.1,(y22.2.1,()))))) fuel (y0.1,y0.1,a0,a1,[],[],())))
def C87:Fun:=⟨[(.ro Y82),(.ro Y22)],[((.slice Y114),.z),((.slice (.int .i64)),.z)],fun z=>F87 z.1 z.2.1⟩
def E87:=en 86 [(137,C137),(138,C138)] [(5,[2,3,6,7,8,9],[]),(6,[2,3,6,7,8,9],[]),(7,[2,3,6,7,8,9],[]),(9,[2,3,6,7,8,9,10],[]),(11,[2,3,6,7,8,9,10,11],[]),(12,[2,3,6,7,8,9,10,11],[]),(13,[2,3,6,7,8,9,10,11],[]),(15,[6,7],[]),(100000,[6,7],[]),(100001,[2,3,6,7,8,9],[]),(100002,[2,3,6,7,8,9],[]),(100003,[2,3,6,7,8,9,10,11],[]),(99999,[4,5],[])]
def L87:List (LoopS (List (D114)×List (Int)×Unit)):=[⟨11,⟨[(2,(.ptr 16 [])),(3,(.ptr 24 [])),(6,(.ref (.slice Y114) 96 [])),(7,(.ref (.slice (.int .i64)) 104 [])),(8,(.pv (.int .i64))),(9,(.pv (.int .i64))),(10,(.pv (.slice Y114))),(11,(.pv (.int .i64)))],[(16,(.data true Y82 .z)),(24,(.data true Y22 .z)),(96,(.data false (.slice Y114) (.own .z))),(104,(.data false (.slice (.int .i64)) (.own .z)))]⟩,fun κ=>F87_R11 (fun y=>κ.exit 2 (SSh.mk' ⟨[(2,(.ptr 16 [])),(3,(.ptr 24 [])),(6,(.ref (.slice Y114) 96 [])),(7,(.ref (.slice (.int .i64)) 104 [])),(8,(.pv (.int .i64))),(9,(.pv (.int .i64)))],[(16,(.data true Y82 .z)),(24,(.data true Y22 .z)),(96,(.data false (.slice Y114) (.own .z))),(104,(.data false (.slice (.int .i64)) (.own .z)))]⟩ y))⟩,
  ⟨5,⟨[(2,(.ptr 16 [])),(3,(.ptr 24 [])),(6,(.ref (.slice Y114) 96 [])),(7,(.ref (.slice (.int .i64)) 104 [])),(8,(.pv (.int .i64))),(9,(.pv (.int .i64)))],[(16,(.data true Y82 .z)),(24,(.data true Y22 .z)),(96,(.data false (.slice Y114) (.own .z))),(104,(.data false (.slice (.int .i64)) (.own .z)))]⟩,fun κ=>F87_R5 (fun y=>κ.exit 0 (SSh.mk' ⟨[(6,(.ref (.slice Y114) 96 [])),(7,(.ref (.slice (.int .i64)) 104 []))],[(96,(.data false (.slice Y114) (.own .z))),(104,(.data false (.slice (.int .i64)) (.own .z)))]⟩ y))⟩]
theorem L87_11:RoundEq E87 L87 L87[0] (nthLoop (codeOf Tryz.f87) 1):=fun κ N x=>by kernel_rfl
theorem L87_5:RoundEq E87 L87 L87[1] (nthLoop (codeOf Tryz.f87) 0):=fun κ N x=>by kernel_rfl
theorem C87_ok:QuietOk Tryz.prog 87 C87:=tQ E87 L87 [nthLoop (codeOf Tryz.f87) 0,nthLoop (codeOf Tryz.f87) 1] Tryz.func87 ty_ok (.cons C137_ok (.cons C138_ok .nil)) (.cons L87[1] (by kernel_rfl) L87_5 (.cons L87[0] (by kernel_rfl) L87_11 .nil))
def F37_R11 (e2_0:List (D76)×List (D114)×Int×Bool×D31×List (D76)×Unit→Option (List (D76)×Unit)) (rec:List (D76)×List (D114)×Int×Bool×Int×D31×List (D76)×Unit→Option (List (D76)×Unit)) (x12:List (D76)×List (D114)×Int×Bool×Int×D31×List (D76)×Unit):Option (List (D76)×Unit):=
 (cond (decide (x12.2.2.2.2.1<(x12.2.1.length:Int)))
 (cond x12.2.2.2.1
 (rec (x12.1,x12.2.1,x12.2.2.1,true,(IntKind.wrap .i64 (x12.2.2.2.2.1+(1:Int))),x12.2.2.2.2.2.1,x12.2.2.2.2.2.2.1,()))
 (gd (decide ((0:Int)≤x12.2.2.2.2.1))
 (x12.2.1[x12.2.2.2.2.1.toNat]?.bind fun y14=>
 (gd (decide ((0:Int)≤x12.2.2.1))
 (x12.1[x12.2.2.1.toNat]?.bind fun y15=>
 ((F85 y15).bind fun y16=>
 (rec (x12.1,x12.2.1,x12.2.2.1,(y14.2.1==y16.1),(IntKind.wrap .i64 (x12.2.2.2.2.1+(1:Int))),x12.2.2.2.2.2.1,x12.2.2.2.2.2.2.1,()))))))))
 (e2_0 (x12.1,x12.2.1,x12.2.2.1,x12.2.2.2.1,x12.2.2.2.2.2.1,x12.2.2.2.2.2.2.1,())))
def F37_R7 (e0_0:D31×List (D76)×Unit→Option (List (D76)×Unit)) (rec:List (D76)×List (D114)×Int×D31×List (D76)×Unit→Option (List (D76)×Unit)) (x7:List (D76)×List (D114)×Int×D31×List (D76)×Unit):Option (List (D76)×Unit):=
 (cond (decide (x7.2.2.1<(x7.1.length:Int)))
 (let j19:List (D76)×List (D114)×Int×D31×List (D76)×Unit→Option (List (D76)×Unit):=fun (y20:List (D76)×List (D114)×Int×D31×List (D76)×Unit)=>
 (rec (y20.1,y20.2.1,(IntKind.wrap .i64 (y20.2.2.1+(1:Int))),y20.2.2.2.1,y20.2.2.2.2.1,()))
 (iter (F37_R11
 (fun y17=>
 (cond y17.2.2.2.1
 (gd (decide ((0:Int)≤y17.2.2.1))
 (y17.1[y17.2.2.1.toNat]?.bind fun y18=>
 (gd (decide ((y17.2.2.2.2.2.1.length+(List.length [y18]))≤lim))
 (j19 (y17.1,y17.2.1,y17.2.2.1,y17.2.2.2.2.1,(y17.2.2.2.2.2.1++[y18]),())))))
 (j19 (y17.1,y17.2.1,y17.2.2.1,y17.2.2.2.2.1,y17.2.2.2.2.2.1,()))))) fuel (x7.1,x7.2.1,x7.2.2.1,false,(0:Int),x7.2.2.2.1,x7.2.2.2.2.1,())))
 (e0_0 (x7.2.2.2.1,x7.2.2.2.2.1,())))
def F37 (a0:D24) (a1:D31) (a2:List (D76)) (a3:List (D84)):Option (List (D76)×Unit):=
 ((F36 a3 a0.1).bind fun y0=>
 (cond (decide (y0.1<(0:Int)))
 ((F67 a1 a2).bind fun y2=>
 (some (y2.1,())))
 (gd (decide ((0:Int)≤y0.1))
 (a3[y0.1.toNat]?.bind fun y3=>
 ((F87 y3.2.1 a0.2.1).bind fun y4=>
 (iter (F37_R7
 (fun y21=>
 ((F67 y21.1 y21.2.1).bind fun y22=>
 (some (y22.1,()))))) fuel (a2,y4.1,(0:Int),a1,[],())))))))
def C37:Fun:=⟨[(.ro Y24),(.ro Y31),(.ro (.slice Y76)),(.ro (.slice Y84))],[((.slice Y76),(.own .z))],fun z=>F37 z.1 z.2.1 z.2.2.1 z.2.2.2.1⟩
def E37:Env:=⟨74,tyTab tys,oneTab ones,fnTab [(36,C36),(67,C67),(85,C85),(87,C87)],true,[],[(4,[2,3,4,5,9],[]),(7,[2,5,10,12,13],[]),(8,[2,5,10,12,13],[]),(9,[2,5,10,12,13],[]),(11,[2,5,10,12,13,14,15],[]),(13,[2,5,10,12,13,14,15],[]),(14,[2,5,10,12,13,14],[]),(16,[5,12],[]),(100000,[5,12],[]),(100001,[2,5,10,12,13],[]),(100002,[2,5,10,12,13,14],[]),(100003,[2,5,10,12,13,14,15],[]),(99999,[8],[])],none,[],[]⟩
def L37:List (LoopS (List (D76)×Unit)):=[⟨11,⟨[(2,(.pv (.slice Y76))),(5,(.ptr 40 [])),(10,(.pv (.slice Y114))),(12,(.ref (.slice Y76) 288 [])),(13,(.pv (.int .i64))),(14,(.pv .bool)),(15,(.pv (.int .i64)))],[(40,(.data true Y31 .z)),(288,(.data false (.slice Y76) (.own .z)))]⟩,fun κ=>F37_R11 (fun y=>κ.exit 2 (SSh.mk' ⟨[(2,(.pv (.slice Y76))),(5,(.ptr 40 [])),(10,(.pv (.slice Y114))),(12,(.ref (.slice Y76) 288 [])),(13,(.pv (.int .i64))),(14,(.pv .bool))],[(40,(.data true Y31 .z)),(288,(.data false (.slice Y76) (.own .z)))]⟩ y))⟩,
  ⟨7,⟨[(2,(.pv (.slice Y76))),(5,(.ptr 40 [])),(10,(.pv (.slice Y114))),(12,(.ref (.slice Y76) 288 [])),(13,(.pv (.int .i64)))],[(40,(.data true Y31 .z)),(288,(.data false (.slice Y76) (.own .z)))]⟩,fun κ=>F37_R7 (fun y=>κ.exit 0 (SSh.mk' ⟨[(5,(.ptr 40 [])),(12,(.ref (.slice Y76) 288 []))],[(40,(.data true Y31 .z)),(288,(.data false (.slice Y76) (.own .z)))]⟩ y))⟩]
theorem L37_11:RoundEq E37 L37 L37[0] (nthLoop (codeOf Tryz.f37) 1):=fun κ N x=>by kernel_rfl
theorem L37_7:RoundEq E37 L37 L37[1] (nthLoop (codeOf Tryz.f37) 0):=fun κ N x=>by kernel_rfl
theorem C37_ok:FreshOk Tryz.prog 37 C37:=tF E37 L37 [nthLoop (codeOf Tryz.f37) 0,nthLoop (codeOf Tryz.f37) 1] Tryz.func37 ty_ok (.cons C36_ok (.consFr C67_ok (.cons C85_ok (.cons C87_ok .nil)))) (.cons L37[1] (by kernel_rfl) L37_7 (.cons L37[0] (by kernel_rfl) L37_11 .nil))
def F9 (a0:D24) (a1:D31) (a2:List (D76)) (a3:List (D84)):Option (List (D76)×Int×Unit):=
 (cond (decide ((a2.length:Int)>(4096:Int)))
 (some ([],((2:Int),())))
 (cond (decide ((a3.length:Int)>(4096:Int)))
 (some ([],((2:Int),())))
 ((F33 a1).bind fun y2=>
 (cond (!y2.1)
 (some ([],((1:Int),())))
 ((F34 a2).bind fun y3=>
 (cond (!y3.1)
 (some ([],((1:Int),())))
 ((F35 a3).bind fun y4=>
 (cond (!y4.1)
 (some ([],((1:Int),())))
 (let j7:List (D76)×List (D84)×D24×D31×Unit→Option (List (D76)×Int×Unit):=fun (y8:List (D76)×List (D84)×D24×D31×Unit)=>
 ((F37 y8.2.2.1 y8.2.2.2.1 y8.1 y8.2.1).bind fun y9=>
 (some (y9.1,((0:Int),()))))
 (cond (!(a0.1==[]))
 ((F36 a3 a0.1).bind fun y6=>
 (cond (decide (y6.1<(0:Int)))
 (some ([],((11:Int),())))
 (j7 (a2,a3,a0,a1,()))))
 (j7 (a2,a3,a0,a1,()))))))))))))
def C9:Fun:=⟨[(.ro Y24),(.ro Y31),(.ro (.slice Y76)),(.ro (.slice Y84))],[((.slice Y76),(.own .z)),((.int .i64),.z)],fun z=>F9 z.1 z.2.1 z.2.2.1 z.2.2.2.1⟩
def E9:Env:=⟨49,tyTab tys,oneTab ones,fnTab [(33,C33),(34,C34),(35,C35),(36,C36),(37,C37)],true,[],[(3,[2,3,4,5],[]),(5,[2,3,4,5],[]),(7,[2,3,4,5],[]),(99999,[8,9],[])],none,[],[]⟩
def L9:List (LoopS (List (D76)×Int×Unit)):=[]
theorem C9_ok:FreshOk Tryz.prog 9 C9:=tF E9 L9 [] Tryz.func9 ty_ok (.cons C33_ok (.cons C34_ok (.cons C35_ok (.cons C36_ok (.consFr C37_ok .nil))))) .nil
def F38 (a0:D22):Option (D22×Unit):=
 (some ((a0.1,(a0.2.1,(a0.2.2.1,()))),()))
def C38:Fun:=⟨[(.ro Y22)],[(Y22,.z)],fun z=>F38 z.1⟩
def E38:Env:=⟨14,tyTab tys,oneTab ones,fnTab [],true,[],[(99999,[2],[])],none,[],[]⟩
def L38:List (LoopS (D22×Unit)):=[]
theorem C38_ok:QuietOk Tryz.prog 38 C38:=tQ E38 L38 [] Tryz.func38 ty_ok .nil .nil
def F10 (a0:D24):Option (D24×Unit):=
 ((F38 a0.2.1).bind fun y0=>
 (some ((a0.1,(y0.1,(a0.2.2.1,()))),())))
def C10:Fun:=⟨[(.ro Y24)],[(Y24,.z)],fun z=>F10 z.1⟩
def E10:Env:=⟨15,tyTab tys,oneTab ones,fnTab [(38,C38)],true,[],[(99999,[2],[])],none,[],[]⟩
def L10:List (LoopS (D24×Unit)):=[]
theorem C10_ok:QuietOk Tryz.prog 10 C10:=tQ E10 L10 [] Tryz.func10 ty_ok (.cons C38_ok .nil) .nil
def F42 (a0:D76):Option (D76×Unit):=
 (some ((a0.1,(a0.2.1,(a0.2.2.1,()))),()))
def C42:Fun:=⟨[(.ro Y76)],[(Y76,.z)],fun z=>F42 z.1⟩
def E42:Env:=⟨14,tyTab tys,oneTab ones,fnTab [],true,[],[(99999,[2],[])],none,[],[]⟩
def L42:List (LoopS (D76×Unit)):=[]
theorem C42_ok:QuietOk Tryz.prog 42 C42:=tQ E42 L42 [] Tryz.func42 ty_ok .nil .nil
def F245 (a0:D190):Option (D190×Unit):=
 ((F42 a0.2.2.1).bind fun y0=>
 (some ((a0.1,(a0.2.1,(y0.1,()))),())))
def C245:Fun:=⟨[(.ro Y190)],[(Y190,.z)],fun z=>F245 z.1⟩
def E245:Env:=⟨15,tyTab tys,oneTab ones,fnTab [(42,C42)],true,[],[(99999,[2],[])],none,[],[]⟩
def L245:List (LoopS (D190×Unit)):=[]
theorem C245_ok:QuietOk Tryz.prog 245 C245:=tQ E245 L245 [] Tryz.func245 ty_ok (.cons C42_ok .nil) .nil
def F192_R3 (e0_0:List (D190)×Unit→Option D183) (rec:List (D190)×Int×List (D190)×Unit→Option D183) (x2:List (D190)×Int×List (D190)×Unit):Option D183:=
 (cond (decide (x2.2.1<(x2.1.length:Int)))
 (gd (decide ((0:Int)≤x2.2.1))
 (x2.1[x2.2.1.toNat]?.bind fun y4=>
 ((F245 y4).bind fun y5=>
 (gd (decide ((0:Int)≤x2.2.1))
 (gd (decide (x2.2.1<(x2.2.2.1.length:Int)))
 (x2.2.2.1[x2.2.1.toNat]?.bind fun y6=>
 (rec (x2.1,(IntKind.wrap .i64 (x2.2.1+(1:Int))),(List.set x2.2.2.1 x2.2.1.toNat y5.1),()))))))))
 (e0_0 (x2.2.2.1,())))
def F192 (a0:List (D190)):Option D183:=
 (gd (decide ((a0.length:Int)≤((4294967296:Nat):Int)))
 (gd (decide ((a0.length:Int)≤(((a0.length:Int).toNat:Nat):Int)))
 (iter (F192_R3
 (fun y7=>
 (some (y7.1,())))) fuel (a0,(0:Int),(List.replicate (a0.length:Int).toNat ((0:Int),([],(((0:Int),((0:Int),([],()))),())))),()))))
def C192:Fun:=⟨[(.ro (.slice Y190))],[((.slice Y190),(.own .z))],fun z=>F192 z.1⟩
def E192:Env:=⟨23,tyTab tys,oneTab ones,fnTab [(245,C245)],true,[],[(3,[0,3,4],[]),(5,[0,3,4],[]),(6,[3],[]),(100000,[3],[]),(100001,[0,3,4],[]),(99999,[2],[])],none,[],[]⟩
def L192:List (LoopS D183):=[⟨3,⟨[(0,(.pv (.slice Y190))),(3,(.ref (.slice Y190) 56 [])),(4,(.pv (.int .i64)))],[(56,(.data false (.slice Y190) (.own .z)))]⟩,fun κ=>F192_R3 (fun y=>κ.exit 0 (SSh.mk' ⟨[(3,(.ref (.slice Y190) 56 []))],[(56,(.data false (.slice Y190) (.own .z)))]⟩ y))⟩]
theorem L192_3:RoundEq E192 L192 L192[0] (nthLoop (codeOf Tryz.f192) 0):=fun κ N x=>by kernel_rfl
theorem C192_ok:FreshOk Tryz.prog 192 C192:=tF E192 L192 [nthLoop (codeOf Tryz.f192) 0] Tryz.func192 ty_ok (.cons C245_ok .nil) (.cons L192[0] (by kernel_rfl) L192_3 .nil)
def F139 (a0:D183):Option (D183×Unit):=
 ((F192 a0.1).bind fun y0=>
 (some ((y0.1,()),())))
def C139:Fun:=⟨[(.ro Y183)],[(Y183,(.pr (.own .z) .z))],fun z=>F139 z.1⟩
def E139:Env:=⟨9,tyTab tys,oneTab ones,fnTab [(192,C192)],true,[],[(99999,[2],[])],none,[],[]⟩
def L139:List (LoopS (D183×Unit)):=[]
theorem C139_ok:FreshOk Tryz.prog 139 C139:=tF E139 L139 [] Tryz.func139 ty_ok (.consFr C192_ok .nil) .nil
def F88_R3 (e0_0:List (D183)×Unit→Option D27) (rec:List (D183)×Int×List (D183)×Unit→Option D27) (x2:List (D183)×Int×List (D183)×Unit):Option D27:=
 (cond (decide (x2.2.1<(x2.1.length:Int)))
 (gd (decide ((0:Int)≤x2.2.1))
 (x2.1[x2.2.1.toNat]?.bind fun y4=>
 ((F139 y4).bind fun y5=>
 (gd (decide ((0:Int)≤x2.2.1))
 (gd (decide (x2.2.1<(x2.2.2.1.length:Int)))
 (x2.2.2.1[x2.2.1.toNat]?.bind fun y6=>
 (rec (x2.1,(IntKind.wrap .i64 (x2.2.1+(1:Int))),(List.set x2.2.2.1 x2.2.1.toNat y5.1),()))))))))
 (e0_0 (x2.2.2.1,())))
def F88 (a0:List (D183)):Option D27:=
 (gd (decide ((a0.length:Int)≤((4294967296:Nat):Int)))
 (gd (decide ((a0.length:Int)≤(((a0.length:Int).toNat:Nat):Int)))
 (iter (F88_R3
 (fun y7=>
 (some (y7.1,())))) fuel (a0,(0:Int),(List.replicate (a0.length:Int).toNat ([],())),()))))
def C88:Fun:=⟨[(.ro (.slice Y183))],[((.slice Y183),(.own (.pr (.own .z) .z)))],fun z=>F88 z.1⟩
def E88:Env:=⟨23,tyTab tys,oneTab ones,fnTab [(139,C139)],true,[],[(3,[0,3,4],[]),(5,[0,3,4],[]),(6,[3],[]),(100000,[3],[]),(100001,[0,3,4],[]),(99999,[2],[])],none,[],[]⟩
def L88:List (LoopS D27):=[⟨3,⟨[(0,(.pv (.slice Y183))),(3,(.ref (.slice Y183) 56 [])),(4,(.pv (.int .i64)))],[(56,(.data false (.slice Y183) (.own (.pr (.own .z) .z))))]⟩,fun κ=>F88_R3 (fun y=>κ.exit 0 (SSh.mk' ⟨[(3,(.ref (.slice Y183) 56 []))],[(56,(.data false (.slice Y183) (.own (.pr (.own .z) .z))))]⟩ y))⟩]
theorem L88_3:RoundEq E88 L88 L88[0] (nthLoop (codeOf Tryz.f88) 0):=fun κ N x=>by kernel_rfl
theorem C88_ok:FreshOk Tryz.prog 88 C88:=tF E88 L88 [nthLoop (codeOf Tryz.f88) 0] Tryz.func88 ty_ok (.consFr C139_ok .nil) (.cons L88[0] (by kernel_rfl) L88_3 .nil)
def F39 (a0:D27):Option (D27×Unit):=
 ((F88 a0.1).bind fun y0=>
 (some ((y0.1,()),())))
def C39:Fun:=⟨[(.ro Y27)],[(Y27,(.pr (.own (.pr (.own .z) .z)) .z))],fun z=>F39 z.1⟩
def E39:Env:=⟨9,tyTab tys,oneTab ones,fnTab [(88,C88)],true,[],[(99999,[2],[])],none,[],[]⟩
def L39:List (LoopS (D27×Unit)):=[]
theorem C39_ok:FreshOk Tryz.prog 39 C39:=tF E39 L39 [] Tryz.func39 ty_ok (.consFr C88_ok .nil) .nil
def F89 (a0:D139):Option (D139×Unit):=
 (some ((a0.1,(a0.2.1,())),()))
def C89:Fun:=⟨[(.ro Y139)],[(Y139,.z)],fun z=>F89 z.1⟩
def E89:Env:=⟨11,tyTab tys,oneTab ones,fnTab [],true,[],[(99999,[2],[])],none,[],[]⟩
def L89:List (LoopS (D139×Unit)):=[]
theorem C89_ok:QuietOk Tryz.prog 89 C89:=tQ E89 L89 [] Tryz.func89 ty_ok .nil .nil
def F40_R3 (e0_0:List (D139)×Unit→Option (List (D139)×Unit)) (rec:List (D139)×Int×List (D139)×Unit→Option (List (D139)×Unit)) (x2:List (D139)×Int×List (D139)×Unit):Option (List (D139)×Unit):=
 (cond (decide (x2.2.1<(x2.1.length:Int)))
 (gd (decide ((0:Int)≤x2.2.1))
 (x2.1[x2.2.1.toNat]?.bind fun y4=>
 ((F89 y4).bind fun y5=>
 (gd (decide ((0:Int)≤x2.2.1))
 (gd (decide (x2.2.1<(x2.2.2.1.length:Int)))
 (x2.2.2.1[x2.2.1.toNat]?.bind fun y6=>
 (rec (x2.1,(IntKind.wrap .i64 (x2.2.1+(1:Int))),(List.set x2.2.2.1 x2.2.1.toNat y5.1),()))))))))
 (e0_0 (x2.2.2.1,())))
def F40 (a0:List (D139)):Option (List (D139)×Unit):=
 (gd (decide ((a0.length:Int)≤((4294967296:Nat):Int)))
 (gd (decide ((a0.length:Int)≤(((a0.length:Int).toNat:Nat):Int)))
 (iter (F40_R3
 (fun y7=>
 (some (y7.1,())))) fuel (a0,(0:Int),(List.replicate (a0.length:Int).toNat ([],(false,()))),()))))
def C40:Fun:=⟨[(.ro (.slice Y139))],[((.slice Y139),(.own .z))],fun z=>F40 z.1⟩
def E40:Env:=⟨23,tyTab tys,oneTab ones,fnTab [(89,C89)],true,[],[(3,[0,3,4],[]),(5,[0,3,4],[]),(6,[3],[]),(100000,[3],[]),(100001,[0,3,4],[]),(99999,[2],[])],none,[],[]⟩
def L40:List (LoopS (List (D139)×Unit)):=[⟨3,⟨[(0,(.pv (.slice Y139))),(3,(.ref (.slice Y139) 56 [])),(4,(.pv (.int .i64)))],[(56,(.data false (.slice Y139) (.own .z)))]⟩,fun κ=>F40_R3 (fun y=>κ.exit 0 (SSh.mk' ⟨[(3,(.ref (.slice Y139) 56 []))],[(56,(.data false (.slice Y139) (.own .z)))]⟩ y))⟩]
theorem L40_3:RoundEq E40 L40 L40[0] (nthLoop (codeOf Tryz.f40) 0):=fun κ N x=>by kernel_rfl
theorem C40_ok:FreshOk Tryz.prog 40 C40:=tF E40 L40 [nthLoop (codeOf Tryz.f40) 0] Tryz.func40 ty_ok (.cons C89_ok .nil) (.cons L40[0] (by kernel_rfl) L40_3 .nil)
end
end Go.V
