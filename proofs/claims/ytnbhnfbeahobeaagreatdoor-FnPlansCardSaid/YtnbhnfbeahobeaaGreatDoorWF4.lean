/- What functions of the program compute, printed by a program of ours. No condition. -/
import Derived.Test.YtnbhnfbeahobeaaGreatDoorWF3
namespace Go.V
open Go.Proofs Go.Proofs.Tryz IntKind
noncomputable section
set_option maxRecDepth 100000
set_option linter.unusedVariables false
def F9 (a0:LO) (a1:List AE):Option ol:=
 (cond (decide ((a1.length:Int)>4096))
 (some ([],2,()))
 ((vj a0).bind fun y2=>cond (!y2.1)
 (some ([],1,()))
 ((tz a1).bind fun y3=>cond (!y3.1)
 (some ([],1,()))
 ((xO a0 a1).bind fun y4=>some (y4.1,0,())))))
def C9:Av:=⟨[.ro Mi,.ro (.slice Ax)],[(.slice Ax,.own .z),(.int .i64,.z)],fun z=>F9 z.1 z.2.1⟩
def E9:=em 22 [(20,zb),(24,C24),(25,C25)] true [] [([3,5],[1,2]),([99999],[4,5])] []
theorem vB:AO prog 9 C9:=tF E9 [] [] func9 Ag (.cons ga (.cons gS (.consFr p_ .nil))) .nil
def gW (e0_0:Unit->O1) (er_1:T1->O1) (rec:List Ig×(Ig->Option (Bool))×Y_->O1) (x2:List Ig×(Ig->Option (Bool))×Y_):O1:=
 (cond (decide (x2.2.2.2.1<x2.2.2.1))
 (gd (decide (0<=x2.2.2.2.1))
 (x2.1[x2.2.2.2.1.toNat]?.bind fun y5=>(x2.2.1 y5).bind fun y6=>cond y6
 (er_1 (x2.2.2.2.1,()))
 (rec (x2.1,x2.2.1,x2.2.2.1,wrap .i64 (x2.2.2.2.1+1),()))))
 (e0_0 (())))
def F68 (a0:List Ig) (a1:(Ig->Option (Bool))):O1:=
 (iter (gW
 (fun y7=>some (-1,()))
 (fun y8=>some (y8.1,()))) Af (a0,a1,(a0.length:Int),0,()))
def C68:Av:=⟨[.ro (.slice HF),.fn HF .bool],[(.int .i64,.z)],fun z=>F68 z.1 z.2.1⟩
def E68:=en 19 [] [([2,3,6,100001],[0,1,7,8]),([7,100000],[]),([99999],[4])] []
def L68:List (At T1):=[⟨2,⟨[(0,vS HF),(1,.fnA HF .bool),(7,vI),(8,vI)],[]⟩,fun κ=>gW (xt κ 0 ⟨[],[]⟩) (rt κ ⟨[(4,vI)],[]⟩)⟩]
theorem qa:Aa prog 68 C68:=tQ E68 L68 (Dg f68) func68 Ag .nil (.c L68[0] .nil)
def F69 (a0:Ig) (a1:S8):O0:=
 (some (a0.1.1==a1,()))
def C69:Av:=⟨[.ro HF,.rp .str],[(.bool,.z)],fun z=>F69 z.1 z.2.1⟩
def E69:=en 9 [] [([99999],[3])] []
theorem qb:Aa prog 69 C69:=tQ E69 [] [] func69 Ag .nil .nil
def r0 (a0:List Ig) (a1:S8):O1:=
 ((F68 a0 (fun (v3:Ig)=>(Option.map (fun (v4:T0)=>v4.1) (F69 v3 a1)))).bind fun y0=>some (y0.1,()))
def xP:Av:=⟨[.ro (.slice HF),.ro .str],[(.int .i64,.z)],fun z=>r0 z.1 z.2.1⟩
def E27:=en 8 [(68,C68),(69,C69)] [([99999],[4])] []
theorem ZH:Aa prog 27 xP:=tQ E27 [] [] func27 Ag (.cons qa (.cons qb .nil)) .nil
def Vv (e0_0:wy->jM) (rec:T94->jM) (x2:T94):jM:=
 (cond (decide (x2.2.2.1<x2.2.1))
 (gd (decide (0<=x2.2.2.1))
 (x2.1[x2.2.2.1.toNat]?.bind fun y4=>gd (decide ((x2.2.2.2.1.length+y4.2.1.length)<=A_))
 (rec (x2.1,x2.2.1,wrap .i64 (x2.2.2.1+1),x2.2.2.2.1++y4.2.1,()))))
 (e0_0 (x2.2.2.2.1,())))
def mj (a0:Lq):jM:=
 (iter (Vv
 (fun y5=>some (y5.1,()))) Af (a0.1,(a0.1.length:Int),0,[],()))
def xQ:Av:=⟨[.ro JG],[(.slice En,.own .z)],fun z=>mj z.1⟩
def E29:=em 20 [] true [] [([3,4,100001],[3,8,9,10]),([7,100000],[3]),([99999],[2])] []
def L29:List (At wy):=[⟨3,⟨[(3,vR En 48),(8,vS LN),(9,vI),(10,vI)],[(48,mO En)]⟩,fun κ=>Vv (xt κ 0 ⟨[(3,vR En 48)],[(48,mO En)]⟩)⟩]
theorem ZI:AO prog 29 xQ:=tF E29 L29 (Dg f29) func29 Ag .nil (.c L29[0] .nil)
def Ng (e0_0:Unit->O1) (er_1:T1->O1) (rec:sa->O1) (x2:sa):O1:=
 (cond (decide (x2.2.2.2.1<x2.2.2.1))
 (gd (decide (0<=x2.2.2.2.1))
 (x2.1[x2.2.2.2.1.toNat]?.bind fun y5=>cond (x2.2.1==y5)
 (er_1 (x2.2.2.2.1,()))
 (rec (x2.1,x2.2.1,x2.2.2.1,wrap .i64 (x2.2.2.2.1+1),()))))
 (e0_0 (())))
def qd (a0:List Int) (a1:Int):O1:=
 (iter (Ng
 (fun y6=>some (-1,()))
 (fun y7=>some (y7.1,()))) Af (a0,a1,(a0.length:Int),0,()))
def vC:Av:=⟨[.ro (.slice (.int .i64)),qI],[(.int .i64,.z)],fun z=>qd z.1 z.2.1⟩
def Ab3:=en 19 [] [([2,3,6,100001],[0,1,7,8]),([7,100000],[]),([99999],[4])] []
def vD:List (At T1):=[⟨2,⟨[(0,.pv (.slice (.int .i64))),(1,vI),(7,vI),(8,vI)],[]⟩,fun κ=>Ng (xt κ 0 ⟨[],[]⟩) (rt κ ⟨[(4,vI)],[]⟩)⟩]
theorem ml:Aa prog 181 vC:=tQ Ab3 vD (Dg f181) func181 Ag .nil (.c vD[0] .nil)
def mm (a0:List Int) (a1:Int):O0:=
 ((qd a0 a1).bind fun y0=>some (decide (y0.1>=0),()))
def vE:Av:=⟨[.ro (.slice (.int .i64)),qI],[(.bool,.z)],fun z=>mm z.1 z.2.1⟩
def Ab4:=en 9 [(181,vC)] [([99999],[4])] []
theorem mn:Aa prog 130 vE:=tQ Ab4 [] [] func130 Ag (.cons ml .nil) .nil
def mo (a0:Gz):O0:=
 (cond (decide ((a0.1.length:Int)<=2000))
 ((WH a0.2.1 0 9999).bind fun y0=>some (y0.1,()))
 (some (false,())))
def vF:Av:=⟨[.ro En],[(.bool,.z)],fun z=>mo z.1⟩
def Ab5:=en 12 [(41,gl)] [([99999],[2])] []
theorem mq:Aa prog 131 vF:=tQ Ab5 [] [] func131 Ag (.cons Ih .nil) .nil
def gX (a0:Gz) (a1:Gz):O1:=
 ((ZF a0.1 a1.1).bind fun y0=>(XE a0.2.1 a1.2.1).bind fun y1=>(dI [y0.1,y1.1]).bind fun y2=>some (y2.1,()))
def qe:Av:=⟨[.ro En,.ro En],[(.int .i64,.z)],fun z=>gX z.1 z.2.1⟩
def Ab6:=em 17 [(157,lm),(158,lr),(163,gD)] false [120] [([99999],[4])] []
theorem bK:Aa prog 132 qe:=tQ Ab6 [] [] func132 Ag (.cons Vk (.cons Vl (.cons Qd .nil))) .nil
def Rv (e0_0:ym->O0) (er_1:T0->O0) (rec:T88->O0) (x5:T88):O0:=
 (cond (decide (x5.2.2.1<x5.2.1))
 (gd (decide (0<=x5.2.2.1))
 (x5.1[x5.2.2.1.toNat]?.bind fun y8=>let j12:T82->O0:=fun (y13:T82)=>
 (gd (decide ((y13.2.2.2.2.1.length+(List.length [y13.2.2.2.2.2.1.1]))<=A_))
 (rec (y13.1,y13.2.1,wrap .i64 (y13.2.2.1+1),y13.2.2.2.1,y13.2.2.2.2.1++[y13.2.2.2.2.2.1.1],())))
 ((WH y8.1 1 (wrap .i64 (x5.2.2.2.1.2.1-1))).bind fun y10=>cond (!y10.1)
 (er_1 (false,()))
 ((mm x5.2.2.2.2.1 y8.1).bind fun y11=>cond y11.1
 (er_1 (false,()))
 (cond (decide ((y8.2.1.length:Int)>4))
 (er_1 (false,()))
 (cond ((y8.2.1.length:Int)==0)
 (cond (decide ((x5.2.2.2.1.1.length:Int)>1))
 (er_1 (false,()))
 (j12 (x5.1,x5.2.1,x5.2.2.1,x5.2.2.2.1,x5.2.2.2.2.1,y8,())))
 (j12 (x5.1,x5.2.1,x5.2.2.1,x5.2.2.2.1,x5.2.2.2.2.1,y8,()))))))))
 (e0_0 (x5.2.2.2.1,())))
def KW (e2_0:Unit->O0) (er_1:T0->O0) (rec:n5->O0) (x19:n5):O0:=
 (cond (decide (x19.2.1<x19.1))
 (let j26:n5->O0:=fun (y27:n5)=>
 (rec (y27.1,wrap .i64 (y27.2.1+1),y27.2.2.1,()))
 (gd (decide (0<=x19.2.1))
 (gd (decide (x19.2.1<x19.2.2.1.length))
 (x19.2.2.1[x19.2.1.toNat]?.bind fun y22=>(mo y22).bind fun y23=>cond (!y23.1)
 (er_1 (false,()))
 (cond (decide (x19.2.1>0))
 (gd (decide (0<=(wrap .i64 (x19.2.1-1))))
 (gd (decide ((wrap .i64 (x19.2.1-1))<(x19.2.2.1.length:Int)))
 (x19.2.2.1[(wrap .i64 (x19.2.1-1)).toNat]?.bind fun y24=>(gX y24 y22).bind fun y25=>cond (decide (y25.1>=0))
 (er_1 (false,()))
 (j26 (x19.1,x19.2.1,x19.2.2.1,())))))
 (j26 (x19.1,x19.2.1,x19.2.2.1,())))))))
 (e2_0 (())))
def vG (a0:Lq):O0:=
 ((WH (a0.1.length:Int) 1 60).bind fun y1=>cond (!y1.1)
 (some (false,()))
 ((WH a0.2.1 2 100000).bind fun y2=>cond (!y2.1)
 (some (false,()))
 (iter (Rv
 (fun y14=>(mj y14.1).bind fun y16=>iter (KW
 (fun y28=>some (true,()))
 (fun y29=>some (y29.1,()))) Af ((y16.1.length:Int),0,y16.1,()))
 (fun y15=>some (y15.1,()))) Af (a0.1,(a0.1.length:Int),0,a0,[],()))))
def C75:Av:=⟨[.ro JG],[(.bool,.z)],fun z=>vG z.1⟩
def E75:=en 92 [(29,xQ),(41,gl),(130,vE),(131,vF),(132,qe)] [([3,11,100000],[1]),([5,6,10,100001],[1,3,22,23,24]),([9],[1,3,5,22,23,24]),([13,14,17,100003],[6,67,68,69]),([18,100002],[]),([99999],[2])] []
def L75:List (At T0):=[⟨5,⟨[(1,vP 8),(3,.ref (.slice (.int .i64)) 160 []),(22,vS LN),(23,vI),(24,vI)],[(8,mD JG),(160,.data false (.slice (.int .i64)) (.own .z))]⟩,fun κ=>Rv (xt κ 0 ⟨[(1,vP 8)],[(8,mD JG)]⟩) (rt κ ⟨[(2,.pv .bool)],[]⟩)⟩,
  ⟨13,⟨[(6,vR En 528),(67,vR En 528),(68,vI),(69,vI)],[(528,mO En)]⟩,fun κ=>KW (xt κ 2 ⟨[],[]⟩) (rt κ ⟨[(2,.pv .bool)],[]⟩)⟩]
theorem gY:Aa prog 75 C75:=tQ E75 L75 (aU f75) func75 Ag (.consFr ZI (.cons Ih (.cons mn (.cons mq (.cons bK .nil))))) (.c L75[0] (.c L75[1] .nil))
def qf (a0:Hp):O0:=
 ((rx a0).bind fun y0=>some (!y0.1,()))
def vH:Av:=⟨[.ro If],[(.bool,.z)],fun z=>qf z.1⟩
def Ab9:=en 6 [(90,C90)] [([99999],[2])] []
theorem mr:Aa prog 175 vH:=tQ Ab9 [] [] func175 Ag (.cons gC .nil) .nil
def ms (a0:UU):O0:=
 ((nA a0.1).bind fun y1=>cond (!y1.1)
 (some (false,()))
 ((WH (a0.2.1.length:Int) 1 2).bind fun y2=>cond (!y2.1)
 (some (false,()))
 ((x0 a0.2.1 (fun (v5:Hp)=>(Option.map (fun (v6:T0)=>v6.1) (qf v5)))).bind fun y3=>cond y3.1
 (some (false,()))
 (cond ((a0.2.1.length:Int)==1)
 (some (true,()))
 (a0.2.1[(0:Int).toNat]?.bind fun y4=>a0.2.1[(1:Int).toNat]?.bind fun y5=>some (!(y4.1==y5.1),()))))))
def vJ:Av:=⟨[.ro Xs],[(.bool,.z)],fun z=>ms z.1⟩
def Aca:=en 36 [(41,gl),(43,ru),(88,C88),(175,vH)] [([3],[1]),([99999],[2])] []
theorem mt:Aa prog 125 vJ:=tQ Aca [] [] func125 Ag (.cons Ih (.cons Rp (.cons gB (.cons mr .nil)))) .nil
def xR (a0:Ig):O0:=
 ((ms a0.1).bind fun y0=>cond y0.1
 ((vG a0.2.1).bind fun y1=>some (y1.1,()))
 (some (false,())))
def C67:Av:=⟨[.ro HF],[(.bool,.z)],fun z=>xR z.1⟩
def E67:=en 11 [(75,C75),(125,vJ)] [([99999],[2])] []
theorem qg:Aa prog 67 C67:=tQ E67 [] [] func67 Ag (.cons gY (.cons mt .nil)) .nil
def Vw (e0_0:List Ig×Unit->O0) (er_1:T0->O0) (rec:T97->O0) (x2:T97):O0:=
 (cond (decide (x2.2.2.2.1<x2.2.2.1))
 (gd (decide (0<=x2.2.2.2.1))
 (x2.2.1[x2.2.2.2.1.toNat]?.bind fun y5=>(xR y5).bind fun y6=>cond (!y6.1)
 (er_1 (false,()))
 ((r0 x2.1 y5.1.1).bind fun y7=>cond (decide (y7.1<x2.2.2.2.1))
 (er_1 (false,()))
 (rec (x2.1,x2.2.1,x2.2.2.1,wrap .i64 (x2.2.2.2.1+1),())))))
 (e0_0 (x2.1,())))
def vK (a0:List Ig):O0:=
 (iter (Vw
 (fun y8=>some (decide ((y8.1.length:Int)<=3),()))
 (fun y9=>some (y9.1,()))) Af (a0,a0,(a0.length:Int),0,()))
def C26:Av:=⟨[.ro (.slice HF)],[(.bool,.z)],fun z=>vK z.1⟩
def E26:=en 28 [(27,xP),(67,C67)] [([2,3,6,100001],[0,5,6,7]),([7,100000],[0]),([99999],[2])] []
def L26:List (At T0):=[⟨2,⟨[(0,vS HF),(5,vS HF),(6,vI),(7,vI)],[]⟩,fun κ=>Vw (xt κ 0 ⟨[(0,vS HF)],[]⟩) (rt κ ⟨[(2,.pv .bool)],[]⟩)⟩]
theorem gZ:Aa prog 26 C26:=tQ E26 L26 (Dg f26) func26 Ag (.cons ZH (.cons qg .nil)) (.c L26[0] .nil)
def g_ (e0_0:Unit->O1) (er_1:T1->O1) (rec:List Gz×(Gz->Option (Bool))×Y_->O1) (x2:List Gz×(Gz->Option (Bool))×Y_):O1:=
 (cond (decide (x2.2.2.2.1<x2.2.2.1))
 (gd (decide (0<=x2.2.2.2.1))
 (x2.1[x2.2.2.2.1.toNat]?.bind fun y5=>(x2.2.1 y5).bind fun y6=>cond y6
 (er_1 (x2.2.2.2.1,()))
 (rec (x2.1,x2.2.1,x2.2.2.1,wrap .i64 (x2.2.2.2.1+1),()))))
 (e0_0 (())))
def xS (a0:List Gz) (a1:(Gz->Option (Bool))):O1:=
 (iter (g_
 (fun y7=>some (-1,()))
 (fun y8=>some (y8.1,()))) Af (a0,a1,(a0.length:Int),0,()))
def C82:Av:=⟨[.ro (.slice En),.fn En .bool],[(.int .i64,.z)],fun z=>xS z.1 z.2.1⟩
def E82:=en 19 [] [([2,3,6,100001],[0,1,7,8]),([7,100000],[]),([99999],[4])] []
def L82:List (At T1):=[⟨2,⟨[(0,vS En),(1,.fnA En .bool),(7,vI),(8,vI)],[]⟩,fun κ=>g_ (xt κ 0 ⟨[],[]⟩) (rt κ ⟨[(4,vI)],[]⟩)⟩]
theorem hJ:Aa prog 82 C82:=tQ E82 L82 (Dg f82) func82 Ag .nil (.c L82[0] .nil)
def hM (e0_0:Int×List Gz×Unit->jM) (rec:(Gz->Option (Bool))×n5->jM) (x4:(Gz->Option (Bool))×n5):jM:=
 (cond (decide (x4.2.2.1<x4.2.2.2.1.length))
 (let j10:(Gz->Option (Bool))×n5->jM:=fun (y11:(Gz->Option (Bool))×n5)=>
 (rec (y11.1,y11.2.1,wrap .i64 (y11.2.2.1+1),y11.2.2.2.1,()))
 (gd (decide (0<=x4.2.2.1))
 (gd (decide (x4.2.2.1<x4.2.2.2.1.length))
 (x4.2.2.2.1[x4.2.2.1.toNat]?.bind fun y7=>(x4.1 y7).bind fun y8=>cond (!y8)
 (gd (decide (0<=x4.2.1))
 (gd (decide (x4.2.1<x4.2.2.2.1.length))
 (x4.2.2.2.1[x4.2.1.toNat]?.bind fun y9=>j10 (x4.1,wrap .i64 (x4.2.1+1),x4.2.2.1,List.set x4.2.2.2.1 x4.2.1.toNat y7,()))))
 (j10 (x4.1,x4.2.1,x4.2.2.1,x4.2.2.2.1,()))))))
 (e0_0 (x4.2.1,x4.2.2.2.1,())))
def xT (a0:List Gz) (a1:(Gz->Option (Bool))):jM:=
 ((xS a0 a1).bind fun y0=>cond (y0.1==(-1))
 (some (a0,()))
 (iter (hM
 (fun y12=>gd (decide ((y12.2.1.length:Int)<=(y12.2.1.length:Int)))
 (gd (decide (0<=y12.1))
 (gd (decide (y12.1<=(((y12.2.1.length:Int).toNat:Nat):Int)))
 (gd (decide (0<=y12.1))
 (gd (decide (y12.1<=(((HG En y12.2.1 y12.1.toNat (y12.2.1.length:Int).toNat).length:Nat):Int)))
 (some (pre (Ty.slice (Ty.pair Ty.str (Ty.pair (Ty.int IntKind.i64) Ty.unit))) (HG En y12.2.1 y12.1.toNat (y12.2.1.length:Int).toNat) y12.1.toNat,())))))))) Af (a1,y0.1,wrap .i64 (y0.1+1),a0,())))
def C76:Av:=⟨[.tk (.slice En) (.own .z),.fn En .bool],[(.slice En,.own .z)],fun z=>xT z.1 z.2.1⟩
def E76:=em 42 [(82,C82)] true [] [([4],[0,1,5]),([5,6,7,100001],[0,1,5,6]),([11,100000],[0,5]),([99999],[4])] []
def L76:List (At wy):=[⟨5,⟨[(0,vR En 4),(1,.fnA En .bool),(5,vI),(6,vI)],[(4,mO En)]⟩,fun κ=>hM (xt κ 0 ⟨[(0,vR En 4),(5,vI)],[(4,mO En)]⟩)⟩]
theorem qh:IoOk prog 76 C76:=tT E76 L76 (Dg f76) func76 Ag (.cons hJ .nil) (.c L76[0] .nil)
def xU (a0:NO) (a1:S8):O0:=
 (cond (!(Op.bytesLess a1 a0.1))
 (cond a0.2.2.1
 (some (true,()))
 (some (Op.bytesLess a1 a0.2.1,())))
 (some (false,())))
def C78:Av:=⟨[.ro IB,.ro .str],[(.bool,.z)],fun z=>xU z.1 z.2.1⟩
def E78:=en 19 [] [([99999],[4])] []
theorem qi:Aa prog 78 C78:=tQ E78 [] [] func78 Ag .nil .nil
def F77 (a0:Gz) (a1:NO):O0:=
 ((xU a1 a0.1).bind fun y0=>some (!y0.1,()))
def C77:Av:=⟨[.ro En,.rp IB],[(.bool,.z)],fun z=>F77 z.1 z.2.1⟩
def E77:=en 9 [(78,C78)] [([99999],[3])] []
theorem qj:Aa prog 77 C77:=tQ E77 [] [] func77 Ag (.cons qi .nil) .nil
def Vx (e0_0:T1->O1) (rec:wD->O1) (x2:wD):O1:=
 (cond (decide (x2.2.2.2.1<x2.2.2.1))
 (let j8:wD->O1:=fun (y9:wD)=>
 (rec (y9.1,y9.2.1,y9.2.2.1,wrap .i64 (y9.2.2.2.1+1),y9.2.2.2.2.1,()))
 (gd (decide (0<=x2.2.2.2.1))
 (x2.2.1[x2.2.2.2.1.toNat]?.bind fun y5=>cond (decide ((y5.2.1.length:Int)>0))
 (y5.2.1[(0:Int).toNat]?.bind fun y6=>(gX y6 x2.2.2.2.2.1).bind fun y7=>cond (decide (y7.1<=0))
 (j8 (x2.2.2.2.1,x2.2.1,x2.2.2.1,x2.2.2.2.1,x2.2.2.2.2.1,()))
 (j8 (x2.1,x2.2.1,x2.2.2.1,x2.2.2.2.1,x2.2.2.2.2.1,())))
 (j8 (x2.1,x2.2.1,x2.2.2.1,x2.2.2.2.1,x2.2.2.2.2.1,())))))
 (e0_0 (x2.1,())))
def xV (a0:Lq) (a1:Gz):O1:=
 (iter (Vx
 (fun y10=>some (y10.1,()))) Af (0,a0.1,(a0.1.length:Int),0,a1,()))
def C79:Av:=⟨[.ro JG,.ro En],[(.int .i64,.z)],fun z=>xV z.1 z.2.1⟩
def E79:=en 32 [(132,qe)] [([3,4,7,100001],[3,5,9,10,11]),([8,100000],[5]),([99999],[4])] []
def L79:List (At T1):=[⟨3,⟨[(3,vP 24),(5,vI),(9,vS LN),(10,vI),(11,vI)],[(24,mD En)]⟩,fun κ=>Vx (xt κ 0 ⟨[(5,vI)],[]⟩)⟩]
theorem qk:Aa prog 79 C79:=tQ E79 L79 (Dg f79) func79 Ag (.cons bK .nil) (.c L79[0] .nil)
def Rw (e0_0:wx->sG) (rec:T80->sG) (x7:T80):sG:=
 (cond (decide (x7.2.2.1<x7.2.1))
 (gd (decide (0<=x7.2.2.1))
 (x7.1[x7.2.2.1.toNat]?.bind fun y10=>let j13:T78->sG:=fun (y14:T78)=>
 (gd (decide ((y14.2.2.2.2.2.1.length+(List.length [y14.2.2.2.2.2.2.1.1]))<=A_))
 (rec (y14.1,y14.2.1,wrap .i64 (y14.2.2.1+1),y14.2.2.2.1,y14.2.2.2.2.1,y14.2.2.2.2.2.1++[y14.2.2.2.2.2.2.1.1],())))
 (cond (decide (x7.2.2.1>0))
 (cond (!x7.2.2.2.1.2.2.1)
 (y10.2.1[(0:Int).toNat]?.bind fun y12=>cond (!(Op.bytesLess y12.1 x7.2.2.2.1.2.1))
 (e0_0 (x7.2.2.2.2.1,x7.2.2.2.2.2.1,()))
 (j13 (x7.1,x7.2.1,x7.2.2.1,x7.2.2.2.1,x7.2.2.2.2.1,x7.2.2.2.2.2.1,y10,())))
 (j13 (x7.1,x7.2.1,x7.2.2.1,x7.2.2.2.1,x7.2.2.2.2.1,x7.2.2.2.2.2.1,y10,())))
 (j13 (x7.1,x7.2.1,x7.2.2.1,x7.2.2.2.1,x7.2.2.2.2.1,x7.2.2.2.2.2.1,y10,())))))
 (e0_0 (x7.2.2.2.2.1,x7.2.2.2.2.2.1,())))
def r4 (a0:Lq) (a1:NO):sG:=
 ((vG a0).bind fun y1=>cond (!y1.1)
 (some ([],[],1,()))
 ((mj a0).bind fun y2=>(xT y2.1 (fun (v6:Gz)=>(Option.map (fun (v7:T0)=>v7.1) (F77 v6 a1)))).bind fun y3=>(xV a0 (a1.1,-1,())).bind fun y4=>gd (decide ((a0.1.length:Int)<=(a0.1.length:Int)))
 (gd (decide (0<=y4.1))
 (gd (decide (y4.1<=(((a0.1.length:Int).toNat:Nat):Int)))
 (iter (Rw
 (fun y15=>some (y15.1,y15.2.1,0,()))) Af (List.drop y4.1.toNat (List.take (a0.1.length:Int).toNat a0.1),(((List.drop y4.1.toNat (List.take (a0.1.length:Int).toNat a0.1)).length:Nat):Int),0,a1,y3.1,[],()))))))
def C32:Av:=⟨[.ro JG,.ro IB],[(.slice En,.z),(.slice (.int .i64),.z),(.int .i64,.z)],fun z=>r4 z.1 z.2.1⟩
def E32:=en 60 [(29,xQ),(75,C75),(76,C76),(77,C77),(79,C79)] [([3],[2,3]),([6,7,10,100001],[3,7,9,28,29,30]),([9],[3,7,9,11,28,29,30]),([11,100000],[7,9]),([99999],[4,5,6])] []
def L32:List (At T32):=[⟨6,⟨[(3,vP 24),(7,vR En 128),(9,.ref (.slice (.int .i64)) 192 []),(28,vS LN),(29,vI),(30,vI)],[(24,mD IB),(128,mO En),(192,.data false (.slice (.int .i64)) (.own .z))]⟩,fun κ=>Rw (xt κ 0 ⟨[(7,vR En 128),(9,.ref (.slice (.int .i64)) 192 [])],[(128,mO En),(192,.data false (.slice (.int .i64)) (.own .z))]⟩)⟩]
theorem hY:Aa prog 32 C32:=tQ E32 L32 (Dg f32) func32 Ag (.consFr ZI (.cons gY (.consIo qh (.cons qj (.cons qk .nil))))) (.c L32[0] .nil)
def mu (a0:DC):O0:=
 (cond (a0.1==2)
 (some (true,()))
 (cond (a0.1==7)
 (some (true,()))
 (cond (a0.1==8)
 (some (true,()))
 (some (a0.1==10,())))))
def vL:Av:=⟨[.ro GI],[(.bool,.z)],fun z=>mu z.1⟩
def Acf:=en 21 [] [([99999],[2])] []
theorem mv:Aa prog 176 vL:=tQ Acf [] [] func176 Ag .nil .nil
def Ql (e0_0:T6->O5) (rec:qZ->O5) (x2:qZ):O5:=
 (cond (decide (x2.2.1<x2.1))
 (gd (decide (0<=x2.2.1))
 (gd (decide (x2.2.1<x2.2.2.1.length))
 (x2.2.2.1[x2.2.1.toNat]?.bind fun y4=>gd (decide (0<=x2.2.1))
 (gd (decide (x2.2.1<x2.2.2.1.length))
 (x2.2.2.1[x2.2.1.toNat]?.bind fun y5=>rec (x2.1,wrap .i64 (x2.2.1+1),List.set x2.2.2.1 x2.2.1.toNat (IntKind.wrap .u8 (255-y4)),()))))))
 (e0_0 (x2.2.2.1,())))
def dL (a0:List Int) (a1:Bool):O5:=
 (let j7:T6->O5:=fun (y8:T6)=>
 (some ((List.map (fun (v5:Int)=>(UInt8.ofNat v5.toNat)) y8.1),()))
 (cond a1
 (iter (Ql
 (fun y6=>j7 (y6.1,()))) Af ((a0.length:Int),0,a0,()))
 (j7 (a0,()))))
def ql:Av:=⟨[.tk (.slice (.int .u8)) (.own .z),.ro .bool],[(.str,.z)],fun z=>dL z.1 z.2.1⟩
def Acg:=en 23 [] [([3,4,100001],[0,8,9,10]),([7,100000],[0]),([99999],[4])] []
def vM:List (At T5):=[⟨3,⟨[(0,.ref (.slice (.int .u8)) 4 []),(8,.ref (.slice (.int .u8)) 4 []),(9,vI),(10,vI)],[(4,.data false (.slice (.int .u8)) (.own .z))]⟩,fun κ=>Ql (xt κ 0 ⟨[(0,.ref (.slice (.int .u8)) 4 [])],[(4,.data false (.slice (.int .u8)) (.own .z))]⟩)⟩]
theorem bM:IoOk prog 216 ql:=tK Acg vM (Dg f216) func216 Ag .nil (.c vM[0] .nil)
def Qm (e0_0:T6->O6) (rec:wM->O6) (x2:wM):O6:=
 (cond (decide (x2.2.2.1<x2.2.1))
 (let j7:wM->O6:=fun (y8:wM)=>
 (rec (y8.1,y8.2.1,wrap .i64 (y8.2.2.1+1),y8.2.2.2.1,()))
 (gd (decide (0<=x2.2.2.1))
 (x2.1[x2.2.2.1.toNat]?.bind fun y5=>gd (decide ((x2.2.2.2.1.length+(List.length [(((UInt8.toNat y5):Nat):Int)]))<=A_))
 (gd (decide (0<=x2.2.2.1))
 (x2.1[x2.2.2.1.toNat]?.bind fun y6=>cond ((((UInt8.toNat y6):Nat):Int)==0)
 (gd (decide (((x2.2.2.2.1++[(((UInt8.toNat y5):Nat):Int)]).length+([(255:Int)]:List Int).length)<=A_))
 (j7 (x2.1,x2.2.1,x2.2.2.1,(x2.2.2.2.1++[(((UInt8.toNat y5):Nat):Int)])++[(255:Int)],())))
 (j7 (x2.1,x2.2.1,x2.2.2.1,x2.2.2.2.1++[(((UInt8.toNat y5):Nat):Int)],())))))))
 (e0_0 (x2.2.2.2.1,())))
def hZ (a0:List Int) (a1:S8):O6:=
 (iter (Qm
 (fun y9=>gd (decide ((y9.1.length+([(0:Int),0]:List Int).length)<=A_))
 (some (y9.1++[(0:Int),0],())))) Af (a1,(a1.length:Int),0,a0,()))
def vN:Av:=⟨[.tk (.slice (.int .u8)) (.own .z),.ro .str],[(.slice (.int .u8),.own .z)],fun z=>hZ z.1 z.2.1⟩
def Ach:=em 28 [] true [] [([2,3,7,100001],[0,1,7,8]),([8,100000],[0]),([99999],[4])] [(200002,[],[0])]
def vO:List (At T6):=[⟨2,⟨[(0,.ref (.slice (.int .u8)) 1 []),(1,.pv .str),(7,vI),(8,vI)],[(1,.data false (.slice (.int .u8)) (.own .z))]⟩,fun κ=>Qm (xt κ 0 ⟨[(0,.ref (.slice (.int .u8)) 1 [])],[(1,.data false (.slice (.int .u8)) (.own .z))]⟩)⟩]
theorem mw:IoOk prog 250 vN:=tT Ach vO (Dg f250) func250 Ag .nil (.c vO[0] .nil)
abbrev ST:Type:=(List Int)->AE->O6
def my (g:ST):Av:=⟨[.tk (.slice (.int .u8)) (.own .z),.ro Ax],[(.slice (.int .u8),.own .z)],fun z=>g z.1 z.2.1⟩
def Nh (g:ST) (e1_0:T6->O6) (rec:T98->O6) (x6:T98):O6:=
 (cond (decide (x6.2.2.1<x6.2.1))
 (gd (decide (0<=x6.2.2.1))
 (x6.1[x6.2.2.1.toNat]?.bind fun y8=>(g x6.2.2.2.1 y8).bind fun y9=>rec (x6.1,x6.2.1,wrap .i64 (x6.2.2.1+1),y9.1,())))
 (e1_0 (x6.2.2.2.1,())))
def Ni (g:ST) (e3_0:T6->O6) (rec:T95->O6) (x14:T95):O6:=
 (cond (decide (x14.2.1<x14.1))
 (gd (decide (0<=x14.2.1))
 (gd (decide (x14.2.1<x14.2.2.2.1.length))
 (x14.2.2.2.1[x14.2.1.toNat]?.bind fun y16=>gd (decide ((x14.2.2.1.length+([(1:Int)]:List Int).length)<=A_))
 ((hZ (x14.2.2.1++[(1:Int)]) y16.1).bind fun y17=>(g y17.1 y16.2.1).bind fun y18=>rec (x14.1,wrap .i64 (x14.2.1+1),y18.1,x14.2.2.2.1,())))))
 (e3_0 (x14.2.2.1,())))
def mz (g:ST) (a0:List Int) (a1:AE):O6:=
 (gd (decide ((a0.length+(List.length [IntKind.wrap .u8 (wrap .i64 (a1.1+1))]))<=A_))
 (cond (a1.1==1)
 (gd (decide (((a0++[IntKind.wrap .u8 (wrap .i64 (a1.1+1))]).length+(List.length [IntKind.wrap .u8 a1.2.1]))<=A_))
 (some ((a0++[IntKind.wrap .u8 (wrap .i64 (a1.1+1))])++[IntKind.wrap .u8 a1.2.1],())))
 (cond (a1.1==2)
 ((gQ (wrap .i64 (a1.2.1+4611686018427387904))).bind fun y1=>gd (decide (((a0++[IntKind.wrap .u8 (wrap .i64 (a1.1+1))]).length+y1.1.length)<=A_))
 (some ((a0++[IntKind.wrap .u8 (wrap .i64 (a1.1+1))])++y1.1,())))
 (cond (a1.1==3)
 ((hZ (a0++[IntKind.wrap .u8 (wrap .i64 (a1.1+1))]) a1.2.2.1).bind fun y2=>some (y2.1,()))
 (cond (a1.1==4)
 ((LT a1).bind fun y3=>iter (Nh g
 (fun y10=>gd (decide ((y10.1.length+([(0:Int)]:List Int).length)<=A_))
 (some (y10.1++[(0:Int)],())))) Af (y3.1,(y3.1.length:Int),0,a0++[IntKind.wrap .u8 (wrap .i64 (a1.1+1))],()))
 (cond (a1.1==5)
 ((SR a1).bind fun y11=>iter (Ni g
 (fun y19=>gd (decide ((y19.1.length+([(0:Int)]:List Int).length)<=A_))
 (some (y19.1++[(0:Int)],())))) Af ((y11.1.length:Int),0,a0++[IntKind.wrap .u8 (wrap .i64 (a1.1+1))],y11.1,()))
 (some (a0++[IntKind.wrap .u8 (wrap .i64 (a1.1+1))],()))))))))
def Aci (g:ST):Av:=⟨[.tk (.slice (.int .u8)) (.own .z),.ro Ax],[(.slice (.int .u8),.own .z)],fun z=>mz g z.1 z.2.1⟩
def Acj (g:ST):Bf:=⟨91,Et tys,CK ones,Dj [(116,dD),(159,dF),(210,pQ),(237,my g),(250,vN)],true,[],[(12,[0,51,52,53],[]),(13,[0,51,52,53],[]),(16,[0],[]),(20,[0,71,72,73],[]),(21,[0,71,72,73],[]),(24,[0],[]),(25,[0],[]),(100000,[0],[]),(100001,[0],[]),(100002,[0,51,52,53],[]),(100003,[0],[]),(100004,[0,71,72,73],[]),(200012,[],[0]),(200020,[],[0]),(99999,[4],[])],none,[],[]⟩
def qm (g:ST):List (At T6):=[⟨12,⟨[(0,.ref (.slice (.int .u8)) 1 []),(51,vS Ax),(52,vI),(53,vI)],[(1,.data false (.slice (.int .u8)) (.own .z))]⟩,fun κ=>Nh g (xt κ 1 ⟨[(0,.ref (.slice (.int .u8)) 1 [])],[(1,.data false (.slice (.int .u8)) (.own .z))]⟩)⟩,
  ⟨20,⟨[(0,.ref (.slice (.int .u8)) 1 []),(71,vR AX 544),(72,vI),(73,vI)],[(1,.data false (.slice (.int .u8)) (.own .z)),(544,mO AX)]⟩,fun κ=>Ni g (xt κ 3 ⟨[(0,.ref (.slice (.int .u8)) 1 [])],[(1,.data false (.slice (.int .u8)) (.own .z))]⟩)⟩]
theorem m0 (g:ST) (hg:IoOk prog 237 (my g)):IoOk prog 237 (Aci g):=tT (Acj g) (qm g) (aU f237) func237 Ag (.consFr MZ (.cons M_ (.cons bG (.consIo hg (.consIo mw .nil))))) (.c ((qm g)[0]'(Nat.le_of_ble_eq_true rfl)) (.c ((qm g)[1]'(Nat.le_of_ble_eq_true rfl)) .nil))
def h_:Nat->ST
  |0=>fun _ _=>none
  |k+1=>mz (h_ k)
def qo:ST:=h_ Af
def vQ:Av:=my qo
theorem XI:∀ k,IoOk prog 237 (my (h_ k))
  |0=>IoOk.noneT func237 (by rfl) (by decide) fun _=>rfl
  |k+1=>m0 (h_ k) (XI k)
theorem m4:IoOk prog 237 vQ:=XI Af
def m5 (a0:AE) (a1:Bool):O5:=
 ((qo [] a0).bind fun y0=>(dL y0.1 a1).bind fun y1=>some (y1.1,()))
def vT:Av:=⟨[.ro Ax,.ro .bool],[(.str,.z)],fun z=>m5 z.1 z.2.1⟩
def Ack:=en 9 [(216,ql),(237,vQ)] [([99999],[4])] []
theorem m6:Aa prog 214 vT:=tQ Ack [] [] func214 Ag (.consIo bM (.consIo m4 .nil)) .nil
def Nj (e0_0:S8×NO×Unit->O3) (er_1:T3->O3) (rec:S8×Int×NO×Unit->O3) (x2:S8×Int×NO×Unit):O3:=
 (cond (decide (x2.2.1>=0))
 (gd (decide (0<=x2.2.1))
 (x2.1[x2.2.1.toNat]?.bind fun y5=>cond (decide ((((UInt8.toNat y5):Nat):Int)<255))
 (gd (decide (0<=x2.2.1))
 (gd (decide (x2.2.1<=x2.1.length))
 (gd (decide (0<=x2.2.1))
 (x2.1[x2.2.1.toNat]?.bind fun y6=>gd (decide (((List.drop (0:Int).toNat (List.take x2.2.1.toNat x2.1)).length+(List.map (fun (v10:Int)=>(UInt8.ofNat v10.toNat)) [IntKind.wrap .u8 ((((UInt8.toNat y6):Nat):Int)+1)]).length)<=9223372036854775807))
 (er_1 ((x2.1,(((List.drop (0:Int).toNat (List.take x2.2.1.toNat x2.1))++(List.map (fun (v10:Int)=>(UInt8.ofNat v10.toNat)) [IntKind.wrap .u8 ((((UInt8.toNat y6):Nat):Int)+1)])),false,())),()))))))
 (rec (x2.1,wrap .i64 (x2.2.1-1),x2.2.2.1,()))))
 (e0_0 (x2.1,x2.2.2.1,())))
def XJ (a0:S8):O3:=
 (iter (Nj
 (fun y7=>some ((y7.1,[],true,()),()))
 (fun y8=>some (y8.1,()))) Af (a0,wrap .i64 ((a0.length:Int)-1),([],[],false,()),()))
def vU:Av:=⟨[.ro .str],[(IB,.z)],fun z=>XJ z.1⟩
def Acl:=em 29 [] false [184] [([2,3,4,100001],[0,2,3]),([6,100000],[0,2]),([99999],[2])] []
def vV:List (At T3):=[⟨2,⟨[(0,.pv .str),(2,vP 16),(3,vI)],[(16,mD IB)]⟩,fun κ=>Nj (xt κ 0 ⟨[(0,.pv .str),(2,vP 16)],[(16,mD IB)]⟩) (rt κ ⟨[(2,vP 16)],[(16,mD IB)]⟩)⟩]
theorem m7:Aa prog 215 vU:=tQ Acl vV (Dg f215) func215 Ag .nil (.c vV[0] .nil)
def m8 (a0:DC) (a1:Bool):O3:=
 ((m5 a0.2.2.1 a1).bind fun y0=>gd (decide (1<=(y0.1.length:Int)))
 ((XJ (List.drop (0:Int).toNat (List.take (1:Int).toNat y0.1))).bind fun y1=>let j3:rS->O3:=fun (y4:rS)=>
 (let j11:T7->O3:=fun (y12:T7)=>
 (some (y12.2.1,()))
 (cond (y4.2.2.1==1)
 ((XJ y4.2.1).bind fun y6=>some (y6.1,()))
 (cond (y4.2.2.1==9)
 ((dL [IntKind.wrap .u8 (wrap .i64 (y4.2.2.2.1.2.2.1.2.1+1))] y4.1).bind fun y7=>(XJ y7.1).bind fun y8=>some (y8.1,()))
 (cond (y4.2.2.1==5)
 ((XJ y4.2.1).bind fun y9=>j11 (y4.2.2.2.2.1,(y9.1.2.1,y4.2.2.2.2.2.1.2),()))
 (cond (y4.2.2.1==6)
 (j11 (y4.2.2.2.2.1,(y4.2.1,y4.2.2.2.2.2.1.2),()))
 (cond (y4.2.2.1==3)
 (j11 (y4.2.2.2.2.1,(y4.2.2.2.2.2.1.1,y4.2.1,y4.2.2.2.2.2.1.2.2),()))
 (cond (y4.2.2.1==4)
 ((XJ y4.2.1).bind fun y10=>j11 (y4.2.2.2.2.1,(y4.2.2.2.2.2.1.1,y10.1.2.1,y4.2.2.2.2.2.1.2.2),()))
 (some (([],[],true,()),())))))))))
 (cond a1
 (cond (a0.1==3)
 (j3 (a1,y0.1,5,a0,([],[],false,()),y1.1,()))
 (cond (a0.1==4)
 (j3 (a1,y0.1,6,a0,([],[],false,()),y1.1,()))
 (cond (a0.1==5)
 (j3 (a1,y0.1,3,a0,([],[],false,()),y1.1,()))
 (cond (a0.1==6)
 (j3 (a1,y0.1,4,a0,([],[],false,()),y1.1,()))
 (j3 (a1,y0.1,a0.1,a0,([],[],false,()),y1.1,()))))))
 (j3 (a1,y0.1,a0.1,a0,([],[],false,()),y1.1,())))))
def vW:Av:=⟨[.ro GI,.ro .bool],[(IB,.z)],fun z=>m8 z.1 z.2.1⟩
def Acm:=en 66 [(214,vT),(215,vU),(216,ql)] [([13,100000],[1,2,4,5,6,7]),([27,100001],[4,6]),([99999],[4])] []
theorem m9:Aa prog 177 vW:=tQ Acm [] [] func177 Ag (.cons m6 (.cons m7 (.consIo bM .nil))) .nil
def Qn (e0_0:T3->O3) (er_1:T3->O3) (rec:wE->O3) (x2:wE):O3:=
 (cond (decide (x2.2.2.1<x2.2.1))
 (let j8:wE->O3:=fun (y9:wE)=>
 (rec (y9.1,y9.2.1,wrap .i64 (y9.2.2.1+1),y9.2.2.2.1,y9.2.2.2.2.1,()))
 (gd (decide (0<=x2.2.2.1))
 (x2.1[x2.2.2.1.toNat]?.bind fun y5=>cond (y5.2.1==x2.2.2.2.1.1)
 ((mu y5).bind fun y6=>cond (!y6.1)
 ((m8 y5 x2.2.2.2.1.2.1).bind fun y7=>er_1 (y7.1,()))
 (j8 (x2.1,x2.2.1,x2.2.2.1,x2.2.2.2.1,x2.2.2.2.2.1,())))
 (j8 (x2.1,x2.2.1,x2.2.2.1,x2.2.2.2.1,x2.2.2.2.2.1,())))))
 (e0_0 (x2.2.2.2.2.1,())))
def ia (a0:HI) (a1:Hp):O3:=
 (iter (Qn
 (fun y10=>some (([],[],true,()),()))
 (fun y11=>some (y11.1,()))) Af (a0.1,(a0.1.length:Int),0,a1,([],[],false,()),()))
def vX:Av:=⟨[.ro IC,.ro If],[(IB,.z)],fun z=>ia z.1 z.2.1⟩
def Acn:=en 30 [(176,vL),(177,vW)] [([2,3,6,100001],[3,4,8,9,10]),([7,100000,99999],[4])] []
def vY:List (At T3):=[⟨2,⟨[(3,vP 24),(4,vP 32),(8,vS GI),(9,vI),(10,vI)],[(24,mD If),(32,mD IB)]⟩,fun κ=>Qn (xt κ 0 ⟨[(4,vP 32)],[(32,mD IB)]⟩) (rt κ ⟨[(4,vP 32)],[(32,mD IB)]⟩)⟩]
theorem mA:Aa prog 126 vX:=tQ Acn vY (Dg f126) func126 Ag (.cons mv (.cons m9 .nil)) (.c vY[0] .nil)
def Vy (e0_0:T7->O3) (rec:T91->O3) (x4:T91):O3:=
 (cond (decide (x4.2.2.1<x4.2.1))
 (gd (decide (0<=x4.2.2.1))
 (x4.1[x4.2.2.1.toNat]?.bind fun y6=>(ia y6 x4.2.2.2.1).bind fun y7=>cond x4.2.2.2.2.2.1.2.2.1
 (rec (x4.1,x4.2.1,wrap .i64 (x4.2.2.1+1),x4.2.2.2.1,x4.2.2.2.2.1,(GQ x4.2.2.2.2.2.1.1 y7.1.1,EP x4.2.2.2.2.2.1.2.1 y7.1.2.1,true,x4.2.2.2.2.2.1.2.2.2),()))
 (rec (x4.1,x4.2.1,wrap .i64 (x4.2.2.1+1),x4.2.2.2.1,x4.2.2.2.2.1,(GQ x4.2.2.2.2.2.1.1 y7.1.1,EP x4.2.2.2.2.2.1.2.1 y7.1.2.1,y7.1.2.2.1,x4.2.2.2.2.2.1.2.2.2),()))))
 (e0_0 (x4.2.2.2.2.1,x4.2.2.2.2.2.1,())))
def xW (a0:SG) (a1:Hp):O3:=
 (a0.1[(0:Int).toNat]?.bind fun y0=>(ia y0 a1).bind fun y1=>gd (decide ((a0.1.length:Int)<=(a0.1.length:Int)))
 (gd (decide (1<=(((a0.1.length:Int).toNat:Nat):Int)))
 (iter (Vy
 (fun y8=>let j10:T7->O3:=fun (y11:T7)=>
 (some (y11.2.1,()))
 (cond y8.2.1.2.2.1
 (j10 (y8.1,(y8.2.1.1,[],y8.2.1.2.2),()))
 (j10 (y8.1,y8.2.1,()))))) Af (List.drop (1:Int).toNat (List.take (a0.1.length:Int).toNat a0.1),(((List.drop (1:Int).toNat (List.take (a0.1.length:Int).toNat a0.1)).length:Nat):Int),0,a1,([],[],false,()),y1.1,()))))
def C70:Av:=⟨[.ro Rk,.ro If],[(IB,.z)],fun z=>xW z.1 z.2.1⟩
def E70:=en 50 [(126,vX)] [([3,4,100001],[3,4,5,17,18,19]),([8,10,100000],[4,5]),([99999],[4])] []
def L70:List (At T3):=[⟨3,⟨[(3,vP 24),(4,vP 32),(5,vP 40),(17,vS IC),(18,vI),(19,vI)],[(24,mD If),(32,mD IB),(40,mD IB)]⟩,fun κ=>Vy (xt κ 0 ⟨[(4,vP 32),(5,vP 40)],[(32,mD IB),(40,mD IB)]⟩)⟩]
theorem qq:Aa prog 70 C70:=tQ E70 L70 (Dg f70) func70 Ag (.cons mA .nil) (.c L70[0] .nil)
def qr (a0:LO) (a1:Ig):ov:=
 (a1.1.2.1[(0:Int).toNat]?.bind fun y0=>(xW a0.1 y0).bind fun y1=>(r4 a1.2.1 y1.1).bind fun y2=>some ((a1.1.1,y1.1,(y2.1.length:Int),()),()))
def C28:Av:=⟨[.ro Mi,.ro HF],[(Y',.z)],fun z=>qr z.1 z.2.1⟩
def E28:=en 32 [(32,C32),(70,C70)] [([99999],[4])] []
theorem qu:Aa prog 28 C28:=tQ E28 [] [] func28 Ag (.cons hY (.cons qq .nil)) .nil
def bN (e1_0:fN×fN×Unit->rl) (rec:w8->rl) (x9:w8):rl:=
 (cond (decide (x9.2.2.1<x9.2.1))
 (let j15:w8->rl:=fun (y16:w8)=>
 (rec (y16.1,y16.2.1,wrap .i64 (y16.2.2.1+1),y16.2.2.2.1,y16.2.2.2.2.1,y16.2.2.2.2.2.1,()))
 (gd (decide (0<=x9.2.2.1))
 (x9.1[x9.2.2.1.toNat]?.bind fun y12=>(qr x9.2.2.2.1 y12).bind fun y13=>(mj y12.2.1).bind fun y14=>cond (decide (y13.1.2.2.1<y14.1.length))
 (cond (x9.2.2.2.2.2.1.1==[])
 (j15 (x9.1,x9.2.1,x9.2.2.1,x9.2.2.2.1,x9.2.2.2.2.1,y13.1,()))
 (cond (decide (y13.1.2.2.1<x9.2.2.2.2.2.1.2.2.1))
 (j15 (x9.1,x9.2.1,x9.2.2.1,x9.2.2.2.1,x9.2.2.2.2.1,y13.1,()))
 (j15 (x9.1,x9.2.1,x9.2.2.1,x9.2.2.2.1,x9.2.2.2.2.1,x9.2.2.2.2.2.1,()))))
 (j15 (x9.1,x9.2.1,x9.2.2.1,x9.2.2.2.1,x9.2.2.2.2.1,x9.2.2.2.2.2.1,())))))
 (e1_0 (x9.2.2.2.2.1,x9.2.2.2.2.2.1,())))
def vZ (a0:LO) (a1:List Ig):rl:=
 (cond (decide ((a1.length:Int)>4096))
 (some (([],([],[],false,()),0,()),2,()))
 ((pB a0).bind fun y1=>cond (!y1.1)
 (some (([],([],[],false,()),0,()),1,()))
 ((vK a1).bind fun y2=>cond (!y2.1)
 (some (([],([],[],false,()),0,()),1,()))
 ((r0 a1 a0.2.2.2.2.2.1).bind fun y4=>cond (decide (y4.1>=0))
 (gd (decide (0<=y4.1))
 (a1[y4.1.toNat]?.bind fun y5=>(qr a0 y5).bind fun y6=>some (y6.1,0,())))
 (iter (bN
 (fun y17=>some (y17.2.1,0,()))) Af (a1,(a1.length:Int),0,a0,([],([],[],false,()),0,()),([],([],[],false,()),0,()),()))))))
def C10:Av:=⟨[.ro Mi,.ro (.slice HF)],[(Y',.z),(.int .i64,.z)],fun z=>vZ z.1 z.2.1⟩
def E10:=en 70 [(14,uv),(26,C26),(27,xP),(28,C28),(29,xQ)] [([5,8,100000],[1,2,4]),([10,11,15,100002],[2,4,7,39,40,41]),([16,100001],[4,7]),([99999],[4,5])] []
def L10:List (At T28):=[⟨10,⟨[(2,vP 16),(4,vP 32),(7,vP 56),(39,vS HF),(40,vI),(41,vI)],[(16,mD Mi),(32,mD Y'),(56,mD Y')]⟩,fun κ=>bN (xt κ 1 ⟨[(4,vP 32),(7,vP 56)],[(32,mD Y'),(56,mD Y')]⟩)⟩]
theorem qv:Aa prog 10 C10:=tQ E10 L10 (Dg f10) func10 Ag (.cons Vg (.cons gZ (.cons ZH (.cons qu (.consFr ZI .nil))))) (.c L10[0] .nil)
def mB (a0:Gz):O0:=
 (cond (decide ((a0.1.length:Int)<=2000))
 ((TC a0.2.1 0 9999).bind fun y0=>some (y0.1,()))
 (some (false,())))
def v_:Av:=⟨[.ro En],[(.bool,.z)],fun z=>mB z.1⟩
def Aco:=en 12 [(51,jW)] [([99999],[2])] []
theorem mC:Aa prog 178 v_:=tQ Aco [] [] func178 Ag (.cons Ke .nil) .nil
def Kh (e2_0:yw->O0) (er_1:T0->O0) (rec:wK->O0) (x15:wK):O0:=
 (cond (decide (x15.2.1<x15.1))
 (gd (decide (0<=x15.2.1))
 (x15.2.2.1.1[x15.2.1.toNat]?.bind fun y18=>cond (y18.1==x15.2.2.2.2.1.1)
 (er_1 (false,()))
 (rec (x15.1,wrap .i64 (x15.2.1+1),x15.2.2.1,x15.2.2.2.1,x15.2.2.2.2.1,()))))
 (e2_0 (x15.1,x15.2.2.1,x15.2.2.2.1,x15.2.2.2.2.1,())))
def Hs (e4_0:yD->O0) (er_1:T0->O0) (rec:wK->O0) (x22:wK):O0:=
 (cond (decide (x22.2.1<x22.2.2.2.2.1.2.1.length))
 (gd (decide (0<=x22.2.1))
 (x22.2.2.2.2.1.2.1[x22.2.1.toNat]?.bind fun y26=>(mB y26).bind fun y27=>cond (!y27.1)
 (er_1 (false,()))
 (gd (decide (0<=x22.2.1))
 (x22.2.2.2.2.1.2.1[x22.2.1.toNat]?.bind fun y28=>(dC x22.2.2.2.1 y28).bind fun y29=>cond (!y29.1)
 (er_1 (false,()))
 (gd (decide (0<=x22.2.1))
 (x22.2.2.2.2.1.2.1[x22.2.1.toNat]?.bind fun y30=>rec (x22.1,wrap .i64 (x22.2.1+1),x22.2.2.1,y30,x22.2.2.2.2.1,())))))))
 (e4_0 (x22.1,x22.2.2.1,x22.2.2.2.1,())))
def HR (e0_0:Unit->O0) (er_1:T0->O0) (rec:yD->O0) (x5:yD):O0:=
 (cond (decide (x5.1<x5.2.1.1.length))
 (gd (decide (0<=x5.1))
 (x5.2.1.1[x5.1.toNat]?.bind fun y8=>let j11:yw->O0:=fun (y12:yw)=>
 (iter (Kh
 (fun y19=>iter (Hs
 (fun y31=>rec (wrap .i64 (y31.1+1),y31.2.1,y31.2.2.1,()))
 (fun y32=>er_1 (y32.1,()))) Af (y19.1,0,y19.2.1,y19.2.2.1,y19.2.2.2.1,()))
 (fun y20=>er_1 (y20.1,()))) Af (y12.1,0,y12.2.1,y12.2.2.1,y12.2.2.2.1,()))
 ((TC y8.1 1 (wrap .i64 (x5.2.1.2.1-1))).bind fun y10=>cond (!y10.1)
 (er_1 (false,()))
 (cond (decide ((y8.2.1.length:Int)>4))
 (er_1 (false,()))
 (cond ((y8.2.1.length:Int)==0)
 (cond (decide ((x5.2.1.1.length:Int)>1))
 (er_1 (false,()))
 (j11 (x5.1,x5.2.1,x5.2.2.1,y8,())))
 (j11 (x5.1,x5.2.1,x5.2.2.1,y8,())))))))
 (e0_0 (())))
def mE (a0:Lq):O0:=
 ((TC (a0.1.length:Int) 1 60).bind fun y1=>cond (!y1.1)
 (some (false,()))
 ((TC a0.2.1 2 100000).bind fun y2=>cond (!y2.1)
 (some (false,()))
 (iter (HR
 (fun y33=>some (true,()))
 (fun y34=>some (y34.1,()))) Af (0,a0,([],-1,()),()))))
def wa:Av:=⟨[.ro JG],[(.bool,.z)],fun z=>mE z.1⟩
def Acp:=en 100 [(51,jW),(151,k7),(178,v_)] [([3],[1]),([5,6,7,100001,100004],[1,3,4]),([10,15,100002],[1,3,4,5]),([11,12,13,100003],[1,3,4,5,6]),([16,17,18,20,100005],[1,3,4,5,7]),([21,100000],[]),([99999],[2])] []
def mF:List (At T0):=[⟨11,⟨[(1,vP 8),(3,vP 24),(4,vI),(5,vP 40),(6,vI)],[(8,mD JG),(24,mD En),(40,mD LN)]⟩,fun κ=>Kh (xt κ 2 ⟨[(1,vP 8),(3,vP 24),(4,vI),(5,vP 40)],[(8,mD JG),(24,mD En),(40,mD LN)]⟩) (rt κ ⟨[(2,.pv .bool)],[]⟩)⟩,
  ⟨16,⟨[(1,vP 8),(3,vP 24),(4,vI),(5,vP 40),(7,vI)],[(8,mD JG),(24,mD En),(40,mD LN)]⟩,fun κ=>Hs (xt κ 4 ⟨[(1,vP 8),(3,vP 24),(4,vI)],[(8,mD JG),(24,mD En)]⟩) (rt κ ⟨[(2,.pv .bool)],[]⟩)⟩,
  ⟨5,⟨[(1,vP 8),(3,vP 24),(4,vI)],[(8,mD JG),(24,mD En)]⟩,fun κ=>HR (xt κ 0 ⟨[],[]⟩) (rt κ ⟨[(2,.pv .bool)],[]⟩)⟩]
theorem mG:Aa prog 127 wa:=tQ Acp mF (lp3 f127) func127 Ag (.cons Ke (.cons Vc (.cons mC .nil))) (.c mF[2] (.c mF[0] (.c mF[1] .nil)))
def xX (a0:Ig):O0:=
 ((tv a0.1).bind fun y0=>cond y0.1
 ((mE a0.2.1).bind fun y1=>some (y1.1,()))
 (some (false,())))
def C71:Av:=⟨[.ro HF],[(.bool,.z)],fun z=>xX z.1⟩
def E71:=en 11 [(19,y_),(127,wa)] [([99999],[2])] []
theorem qw:Aa prog 71 C71:=tQ E71 [] [] func71 Ag (.cons fZ (.cons mG .nil)) .nil
def Vz (e2_0:yB->O0) (er_1:T0->O0) (rec:sy->O0) (x9:sy):O0:=
 (cond (decide (x9.2.2.1<x9.2.1))
 (gd (decide (0<=x9.2.2.1))
 (x9.1[x9.2.2.1.toNat]?.bind fun y12=>gd (decide (0<=x9.2.1))
 (x9.1[x9.2.1.toNat]?.bind fun y13=>cond (y12.1.1==y13.1.1)
 (er_1 (false,()))
 (rec (x9.1,x9.2.1,wrap .i64 (x9.2.2.1+1),())))))
 (e2_0 (x9.1,x9.2.1,())))
def VA (e0_0:List Ig×Unit->O0) (er_1:T0->O0) (rec:yB->O0) (x2:yB):O0:=
 (cond (decide (x2.2.1<x2.1.length))
 (gd (decide (0<=x2.2.1))
 (x2.1[x2.2.1.toNat]?.bind fun y6=>(xX y6).bind fun y7=>cond (!y7.1)
 (er_1 (false,()))
 (iter (Vz
 (fun y14=>rec (y14.1,wrap .i64 (y14.2.1+1),()))
 (fun y15=>er_1 (y15.1,()))) Af (x2.1,x2.2.1,0,()))))
 (e0_0 (x2.1,())))
def xY (a0:List Ig):O0:=
 (iter (VA
 (fun y16=>some (decide ((y16.1.length:Int)<=3),()))
 (fun y17=>some (y17.1,()))) Af (a0,0,()))
def C30:Av:=⟨[.ro (.slice HF)],[(.bool,.z)],fun z=>xY z.1⟩
def E30:=en 38 [(71,C71)] [([2,3,4,6,100001,100002],[0,3]),([7,8,9,100003],[0,3,4]),([11,100000],[0]),([99999],[2])] []
def L30:List (At T0):=[⟨7,⟨[(0,vS HF),(3,vI),(4,vI)],[]⟩,fun κ=>Vz (xt κ 2 ⟨[(0,vS HF),(3,vI)],[]⟩) (rt κ ⟨[(2,.pv .bool)],[]⟩)⟩,
  ⟨2,⟨[(0,vS HF),(3,vI)],[]⟩,fun κ=>VA (xt κ 0 ⟨[(0,vS HF)],[]⟩) (rt κ ⟨[(2,.pv .bool)],[]⟩)⟩]
theorem qx:Aa prog 30 C30:=tQ E30 L30 (aU f30) func30 Ag (.cons qw .nil) (.c L30[1] (.c L30[0] .nil))
def VB (e0_0:Unit->O1) (er_1:T1->O1) (rec:sA->O1) (x2:sA):O1:=
 (cond (decide (x2.2.2.1<x2.1.length))
 (gd (decide (0<=x2.2.2.1))
 (x2.1[x2.2.2.1.toNat]?.bind fun y5=>cond (y5.1.1==x2.2.1)
 (er_1 (x2.2.2.1,()))
 (rec (x2.1,x2.2.1,wrap .i64 (x2.2.2.1+1),()))))
 (e0_0 (())))
def xZ (a0:List Ig) (a1:S8):O1:=
 (iter (VB
 (fun y6=>some (-1,()))
 (fun y7=>some (y7.1,()))) Af (a0,a1,0,()))
def C72:Av:=⟨[.ro (.slice HF),.ro .str],[(.int .i64,.z)],fun z=>xZ z.1 z.2.1⟩
def E72:=en 21 [] [([2,3,4,100001],[0,1,5]),([6,100000],[]),([99999],[4])] []
def L72:List (At T1):=[⟨2,⟨[(0,vS HF),(1,.pv .str),(5,vI)],[]⟩,fun κ=>VB (xt κ 0 ⟨[],[]⟩) (rt κ ⟨[(4,vI)],[]⟩)⟩]
theorem qy:Aa prog 72 C72:=tQ E72 L72 (Dg f72) func72 Ag .nil (.c L72[0] .nil)
def Nk (e0_0:Unit->sH) (er_1:yl->sH) (rec:rd->sH) (x2:rd):sH:=
 (cond (decide (x2.2.1>0))
 (gd (decide (0<=(wrap .i64 (x2.2.1-1))))
 (x2.1[(wrap .i64 (x2.2.1-1)).toNat]?.bind fun y5=>cond (decide ((((UInt8.toNat y5):Nat):Int)<255))
 (gd (decide (0<=(wrap .i64 (x2.2.1-1))))
 (gd (decide ((wrap .i64 (x2.2.1-1))<=(x2.1.length:Int)))
 (gd (decide (0<=(wrap .i64 (x2.2.1-1))))
 (x2.1[(wrap .i64 (x2.2.1-1)).toNat]?.bind fun y6=>gd (decide (((List.drop (0:Int).toNat (List.take (wrap .i64 (x2.2.1-1)).toNat x2.1)).length+(List.map (fun (v10:Int)=>(UInt8.ofNat v10.toNat)) [IntKind.wrap .u8 ((((UInt8.toNat y6):Nat):Int)+1)]).length)<=9223372036854775807))
 (er_1 (((List.drop (0:Int).toNat (List.take (wrap .i64 (x2.2.1-1)).toNat x2.1))++(List.map (fun (v10:Int)=>(UInt8.ofNat v10.toNat)) [IntKind.wrap .u8 ((((UInt8.toNat y6):Nat):Int)+1)])),true,()))))))
 (rec (x2.1,wrap .i64 (x2.2.1-1),()))))
 (e0_0 (())))
def qz (a0:S8):sH:=
 (iter (Nk
 (fun y7=>some ([],false,()))
 (fun y8=>some (y8.1,y8.2.1,()))) Af (a0,(a0.length:Int),()))
def wb:Av:=⟨[.ro .str],[(.str,.z),(.bool,.z)],fun z=>qz z.1⟩
def Acr:=em 28 [] false [200] [([2,3,4,100001],[0,4]),([6,100000],[]),([99999],[2,3])] []
def wc:List (At yl):=[⟨2,⟨[(0,.pv .str),(4,vI)],[]⟩,fun κ=>Nk (xt κ 0 ⟨[],[]⟩) (rt κ ⟨[(2,.pv .str),(3,.pv .bool)],[]⟩)⟩]
theorem mH:Aa prog 251 wb:=tQ Acr wc (Dg f251) func251 Ag .nil (.c wc[0] .nil)
def VC (a0:S8):O3:=
 ((qz a0).bind fun y0=>some ((a0,y0.1,!y0.2.1,()),()))
def wd:Av:=⟨[.ro .str],[(IB,.z)],fun z=>VC z.1⟩
def Acs:=en 15 [(251,wb)] [([99999],[2])] []
theorem mI:Aa prog 238 wd:=tQ Acs [] [] func238 Ag (.cons mH .nil) .nil
def XK (a0:S8) (a1:Bool):O5:=
 (cond a1
 ((ge a0).bind fun y1=>some (y1.1,()))
 (some (a0,())))
def we:Av:=⟨[.ro .str,.ro .bool],[(.str,.z)],fun z=>XK z.1 z.2.1⟩
def Acu:=en 9 [(192,oN)] [([3],[0]),([99999],[4])] []
theorem mJ:Aa prog 239 we:=tQ Acu [] [] func239 Ag (.cons bc .nil) .nil
def Gm (a0:NO) (a1:NO):O3:=
 (cond a0.2.2.1
 (let j1:T7->O3:=fun (y2:T7)=>
 (some (y2.2.1,()))
 (cond a0.2.2.1
 (cond a1.2.2.1
 (j1 (([],[],false,()),(EP a0.1 a1.1,[],a1.2.2.1,()),()))
 (cond a0.2.2.1
 (j1 (([],[],false,()),(EP a0.1 a1.1,a1.2.1,a1.2.2.1,()),()))
 (cond a1.2.2.1
 (j1 (([],[],false,()),(EP a0.1 a1.1,a0.2.1,a1.2.2.1,()),()))
 (j1 (([],[],false,()),(EP a0.1 a1.1,GQ a0.2.1 a1.2.1,a1.2.2.1,()),())))))
 (cond a0.2.2.1
 (j1 (([],[],false,()),(EP a0.1 a1.1,a1.2.1,a1.2.2.1,()),()))
 (cond a1.2.2.1
 (j1 (([],[],false,()),(EP a0.1 a1.1,a0.2.1,a1.2.2.1,()),()))
 (j1 (([],[],false,()),(EP a0.1 a1.1,GQ a0.2.1 a1.2.1,a1.2.2.1,()),()))))))
 (let j4:T7->O3:=fun (y5:T7)=>
 (some (y5.2.1,()))
 (cond a0.2.2.1
 (cond a1.2.2.1
 (j4 (([],[],false,()),(EP a0.1 a1.1,[],false,()),()))
 (cond a0.2.2.1
 (j4 (([],[],false,()),(EP a0.1 a1.1,a1.2.1,false,()),()))
 (cond a1.2.2.1
 (j4 (([],[],false,()),(EP a0.1 a1.1,a0.2.1,false,()),()))
 (j4 (([],[],false,()),(EP a0.1 a1.1,GQ a0.2.1 a1.2.1,false,()),())))))
 (cond a0.2.2.1
 (j4 (([],[],false,()),(EP a0.1 a1.1,a1.2.1,false,()),()))
 (cond a1.2.2.1
 (j4 (([],[],false,()),(EP a0.1 a1.1,a0.2.1,false,()),()))
 (j4 (([],[],false,()),(EP a0.1 a1.1,GQ a0.2.1 a1.2.1,false,()),())))))))
def wg:Av:=⟨[.ro IB,.ro IB],[(IB,.z)],fun z=>Gm z.1 z.2.1⟩
def Acv:=en 44 [] [([8,100000],[4,5]),([99999],[4])] []
theorem mK:Aa prog 240 wg:=tQ Acv [] [] func240 Ag .nil .nil
end
end Go.V
