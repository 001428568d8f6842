/- What functions of the program compute, printed by a program of ours. No condition. -/
import Derived.Test.YtnbhnfbeahobeaaGreatDoorWF4
namespace Go.V
open Go.Proofs Go.Proofs.Tryz IntKind
noncomputable section
set_option maxRecDepth 100000
set_option linter.unusedVariables false
def mL (a0:DC) (a1:Bool):O3:=
 ((ID (wrap .i64 (a0.2.2.1.1+1)) 1).bind fun y0=>(XK y0.1 a1).bind fun y1=>(VC y1.1).bind fun y2=>(gi a0.2.2.1 a1).bind fun y3=>(VC y3.1).bind fun y4=>let j107:T3->O3:=fun (y108:T3)=>
 (some (([],[],true,()),()))
 (cond (a0.1==1)
 (some (y4.1,()))
 (cond (a0.1==3)
 (cond (a0.1==3)
 (cond (a0.1==5)
 (cond (a0.1==4)
 (cond (!(true==a1))
 (some ((y4.1.1,y2.1.2),()))
 ((Gm y2.1 ([],y4.1.2.1,y4.1.2.2.1,())).bind fun y10=>some (y10.1,())))
 (cond (!(true==a1))
 (let j13:T7->O3:=fun (y14:T7)=>
 (some (y14.2.1,()))
 (cond (a0.1==6)
 (j13 (([],[],false,()),(y4.1.1,y2.1.2),()))
 (cond y4.1.2.2.1
 (some (([],[],false,()),()))
 (j13 (([],[],false,()),(y4.1.2.1,y2.1.2),())))))
 (cond (a0.1==6)
 ((Gm y2.1 ([],y4.1.2.1,y4.1.2.2.1,())).bind fun y16=>some (y16.1,()))
 ((Gm y2.1 ([],y4.1.1,false,())).bind fun y17=>some (y17.1,())))))
 (cond (a0.1==4)
 (cond (!((a0.1==6)==a1))
 (some ((y4.1.1,y2.1.2),()))
 ((Gm y2.1 ([],y4.1.2.1,y4.1.2.2.1,())).bind fun y21=>some (y21.1,())))
 (cond (!((a0.1==6)==a1))
 (let j24:T7->O3:=fun (y25:T7)=>
 (some (y25.2.1,()))
 (cond (a0.1==6)
 (j24 (([],[],false,()),(y4.1.1,y2.1.2),()))
 (cond y4.1.2.2.1
 (some (([],[],false,()),()))
 (j24 (([],[],false,()),(y4.1.2.1,y2.1.2),())))))
 (cond (a0.1==6)
 ((Gm y2.1 ([],y4.1.2.1,y4.1.2.2.1,())).bind fun y27=>some (y27.1,()))
 ((Gm y2.1 ([],y4.1.1,false,())).bind fun y28=>some (y28.1,()))))))
 (cond (a0.1==9)
 ((ID (wrap .i64 (a0.2.2.1.2.1+1)) 1).bind fun y29=>(XK y29.1 a1).bind fun y30=>(VC y30.1).bind fun y31=>some (y31.1,()))
 (j107 (([],[],false,()),()))))
 (cond (a0.1==5)
 (cond (a0.1==5)
 (cond (a0.1==5)
 (cond (a0.1==4)
 (cond (!(true==a1))
 (some ((y4.1.1,y2.1.2),()))
 ((Gm y2.1 ([],y4.1.2.1,y4.1.2.2.1,())).bind fun y35=>some (y35.1,())))
 (cond (!(true==a1))
 (let j38:T7->O3:=fun (y39:T7)=>
 (some (y39.2.1,()))
 (cond (a0.1==6)
 (j38 (([],[],false,()),(y4.1.1,y2.1.2),()))
 (cond y4.1.2.2.1
 (some (([],[],false,()),()))
 (j38 (([],[],false,()),(y4.1.2.1,y2.1.2),())))))
 (cond (a0.1==6)
 ((Gm y2.1 ([],y4.1.2.1,y4.1.2.2.1,())).bind fun y41=>some (y41.1,()))
 ((Gm y2.1 ([],y4.1.1,false,())).bind fun y42=>some (y42.1,())))))
 (cond (a0.1==4)
 (cond (!((a0.1==6)==a1))
 (some ((y4.1.1,y2.1.2),()))
 ((Gm y2.1 ([],y4.1.2.1,y4.1.2.2.1,())).bind fun y46=>some (y46.1,())))
 (cond (!((a0.1==6)==a1))
 (let j49:T7->O3:=fun (y50:T7)=>
 (some (y50.2.1,()))
 (cond (a0.1==6)
 (j49 (([],[],false,()),(y4.1.1,y2.1.2),()))
 (cond y4.1.2.2.1
 (some (([],[],false,()),()))
 (j49 (([],[],false,()),(y4.1.2.1,y2.1.2),())))))
 (cond (a0.1==6)
 ((Gm y2.1 ([],y4.1.2.1,y4.1.2.2.1,())).bind fun y52=>some (y52.1,()))
 ((Gm y2.1 ([],y4.1.1,false,())).bind fun y53=>some (y53.1,()))))))
 (cond (a0.1==9)
 ((ID (wrap .i64 (a0.2.2.1.2.1+1)) 1).bind fun y54=>(XK y54.1 a1).bind fun y55=>(VC y55.1).bind fun y56=>some (y56.1,()))
 (j107 (([],[],false,()),()))))
 (cond (a0.1==4)
 (cond (a0.1==4)
 (cond (a0.1==5)
 (cond (a0.1==4)
 (cond (!(true==a1))
 (some ((y4.1.1,y2.1.2),()))
 ((Gm y2.1 ([],y4.1.2.1,y4.1.2.2.1,())).bind fun y60=>some (y60.1,())))
 (cond (!(true==a1))
 (let j63:T7->O3:=fun (y64:T7)=>
 (some (y64.2.1,()))
 (cond (a0.1==6)
 (j63 (([],[],false,()),(y4.1.1,y2.1.2),()))
 (cond y4.1.2.2.1
 (some (([],[],false,()),()))
 (j63 (([],[],false,()),(y4.1.2.1,y2.1.2),())))))
 (cond (a0.1==6)
 ((Gm y2.1 ([],y4.1.2.1,y4.1.2.2.1,())).bind fun y66=>some (y66.1,()))
 ((Gm y2.1 ([],y4.1.1,false,())).bind fun y67=>some (y67.1,())))))
 (cond (a0.1==4)
 (cond (!((a0.1==6)==a1))
 (some ((y4.1.1,y2.1.2),()))
 ((Gm y2.1 ([],y4.1.2.1,y4.1.2.2.1,())).bind fun y71=>some (y71.1,())))
 (cond (!((a0.1==6)==a1))
 (let j74:T7->O3:=fun (y75:T7)=>
 (some (y75.2.1,()))
 (cond (a0.1==6)
 (j74 (([],[],false,()),(y4.1.1,y2.1.2),()))
 (cond y4.1.2.2.1
 (some (([],[],false,()),()))
 (j74 (([],[],false,()),(y4.1.2.1,y2.1.2),())))))
 (cond (a0.1==6)
 ((Gm y2.1 ([],y4.1.2.1,y4.1.2.2.1,())).bind fun y77=>some (y77.1,()))
 ((Gm y2.1 ([],y4.1.1,false,())).bind fun y78=>some (y78.1,()))))))
 (cond (a0.1==9)
 ((ID (wrap .i64 (a0.2.2.1.2.1+1)) 1).bind fun y79=>(XK y79.1 a1).bind fun y80=>(VC y80.1).bind fun y81=>some (y81.1,()))
 (j107 (([],[],false,()),()))))
 (cond (a0.1==6)
 (cond (a0.1==5)
 (cond (a0.1==4)
 (cond (!(true==a1))
 (some ((y4.1.1,y2.1.2),()))
 ((Gm y2.1 ([],y4.1.2.1,y4.1.2.2.1,())).bind fun y85=>some (y85.1,())))
 (cond (!(true==a1))
 (let j88:T7->O3:=fun (y89:T7)=>
 (some (y89.2.1,()))
 (cond (a0.1==6)
 (j88 (([],[],false,()),(y4.1.1,y2.1.2),()))
 (cond y4.1.2.2.1
 (some (([],[],false,()),()))
 (j88 (([],[],false,()),(y4.1.2.1,y2.1.2),())))))
 (cond (a0.1==6)
 ((Gm y2.1 ([],y4.1.2.1,y4.1.2.2.1,())).bind fun y91=>some (y91.1,()))
 ((Gm y2.1 ([],y4.1.1,false,())).bind fun y92=>some (y92.1,())))))
 (cond (a0.1==4)
 (cond (!((a0.1==6)==a1))
 (some ((y4.1.1,y2.1.2),()))
 ((Gm y2.1 ([],y4.1.2.1,y4.1.2.2.1,())).bind fun y96=>some (y96.1,())))
 (cond (!((a0.1==6)==a1))
 (let j99:T7->O3:=fun (y100:T7)=>
 (some (y100.2.1,()))
 (cond (a0.1==6)
 (j99 (([],[],false,()),(y4.1.1,y2.1.2),()))
 (cond y4.1.2.2.1
 (some (([],[],false,()),()))
 (j99 (([],[],false,()),(y4.1.2.1,y2.1.2),())))))
 (cond (a0.1==6)
 ((Gm y2.1 ([],y4.1.2.1,y4.1.2.2.1,())).bind fun y102=>some (y102.1,()))
 ((Gm y2.1 ([],y4.1.1,false,())).bind fun y103=>some (y103.1,()))))))
 (cond (a0.1==9)
 ((ID (wrap .i64 (a0.2.2.1.2.1+1)) 1).bind fun y104=>(XK y104.1 a1).bind fun y105=>(VC y105.1).bind fun y106=>some (y106.1,()))
 (j107 (([],[],false,()),())))))))))
def wh:Av:=⟨[.ro GI,.ro .bool],[(IB,.z)],fun z=>mL z.1 z.2.1⟩
def Acw:=en 86 [(145,fV),(149,oP),(238,wd),(239,we),(240,wg)] [([18],[4,5]),([19],[4,5,6,8]),([21],[4,5,6]),([24,100000,99999],[4])] []
theorem mM:Aa prog 217 wh:=tQ Acw [] [] func217 Ag (.cons PR (.cons bd (.cons mI (.cons mJ (.cons mK .nil))))) .nil
def Qo (e0_0:T7->O3) (rec:wL->O3) (x2:wL):O3:=
 (cond (decide (x2.1<x2.2.1.1.length))
 (let j7:wL->O3:=fun (y8:wL)=>
 (rec (wrap .i64 (y8.1+1),y8.2.1,y8.2.2.1,y8.2.2.2.1,y8.2.2.2.2.1,()))
 (gd (decide (0<=x2.1))
 (x2.2.1.1[x2.1.toNat]?.bind fun y5=>cond (y5.2.1==x2.2.2.1.1)
 (cond x2.2.2.2.2.1.2.2.1
 (cond (x2.2.2.2.2.1.1==[])
 ((mL y5 x2.2.2.1.2.1).bind fun y6=>j7 (x2.1,x2.2.1,x2.2.2.1,x2.2.2.2.1,y6.1,()))
 (j7 (x2.1,x2.2.1,x2.2.2.1,x2.2.2.2.1,x2.2.2.2.2.1,())))
 (j7 (x2.1,x2.2.1,x2.2.2.1,x2.2.2.2.1,x2.2.2.2.2.1,())))
 (j7 (x2.1,x2.2.1,x2.2.2.1,x2.2.2.2.1,x2.2.2.2.2.1,())))))
 (e0_0 (x2.2.2.2.1,x2.2.2.2.2.1,())))
def ib (a0:HI) (a1:Hp):O3:=
 (iter (Qo
 (fun y9=>some (y9.2.1,()))) Af (0,a0,a1,([],[],false,()),([],[],true,()),()))
def wi:Av:=⟨[.ro IC,.ro If],[(IB,.z)],fun z=>ib z.1 z.2.1⟩
def Acx:=en 40 [(217,wh)] [([3,4,5,100001],[2,3,4,5,6]),([8,100000],[4,5]),([99999],[4])] []
def wj:List (At T3):=[⟨3,⟨[(2,vP 16),(3,vP 24),(4,vP 32),(5,vP 40),(6,vI)],[(16,mD IC),(24,mD If),(32,mD IB),(40,mD IB)]⟩,fun κ=>Qo (xt κ 0 ⟨[(4,vP 32),(5,vP 40)],[(32,mD IB),(40,mD IB)]⟩)⟩]
theorem mN:Aa prog 179 wi:=tQ Acx wj (Dg f179) func179 Ag (.cons mM .nil) (.c wj[0] .nil)
def Qp (e0_0:T7->O3) (rec:sf->O3) (x4:sf):O3:=
 (cond (decide (x4.1<x4.2.1.1.length))
 (gd (decide (0<=x4.1))
 (x4.2.1.1[x4.1.toNat]?.bind fun y6=>(ib y6 x4.2.2.1).bind fun y7=>cond x4.2.2.2.2.1.2.2.1
 (rec (wrap .i64 (x4.1+1),x4.2.1,x4.2.2.1,x4.2.2.2.1,(GQ x4.2.2.2.2.1.1 y7.1.1,EP x4.2.2.2.2.1.2.1 y7.1.2.1,true,x4.2.2.2.2.1.2.2.2),()))
 (rec (wrap .i64 (x4.1+1),x4.2.1,x4.2.2.1,x4.2.2.2.1,(GQ x4.2.2.2.2.1.1 y7.1.1,EP x4.2.2.2.2.1.2.1 y7.1.2.1,y7.1.2.2.1,x4.2.2.2.2.1.2.2.2),()))))
 (e0_0 (x4.2.2.2.1,x4.2.2.2.2.1,())))
def mP (a0:SG) (a1:Hp):O3:=
 (a0.1[(0:Int).toNat]?.bind fun y0=>(ib y0 a1).bind fun y1=>iter (Qp
 (fun y8=>let j10:T7->O3:=fun (y11:T7)=>
 (some (y11.2.1,()))
 (cond y8.2.1.2.2.1
 (j10 (y8.1,(y8.2.1.1,[],y8.2.1.2.2),()))
 (j10 (y8.1,y8.2.1,()))))) Af (1,a0,a1,([],[],false,()),y1.1,()))
def wl:Av:=⟨[.ro Rk,.ro If],[(IB,.z)],fun z=>mP z.1 z.2.1⟩
def Acy:=en 51 [(179,wi)] [([3,5,100001],[2,3,4,5,6]),([9,11,100000],[4,5]),([99999],[4])] []
def wm:List (At T3):=[⟨3,⟨[(2,vP 16),(3,vP 24),(4,vP 32),(5,vP 40),(6,vI)],[(16,mD Rk),(24,mD If),(32,mD IB),(40,mD IB)]⟩,fun κ=>Qp (xt κ 0 ⟨[(4,vP 32),(5,vP 40)],[(32,mD IB),(40,mD IB)]⟩)⟩]
theorem mQ:Aa prog 128 wl:=tQ Acy wm (Dg f128) func128 Ag (.cons mN .nil) (.c wm[0] .nil)
def mR (a0:NO) (a1:S8):O0:=
 (cond ((Op.bytesLess a0.1 a1)||(a0.1==a1))
 (cond a0.2.2.1
 (some (true,()))
 (some (Op.bytesLess a1 a0.2.1,())))
 (some (false,())))
def wn:Av:=⟨[.ro IB,.ro .str],[(.bool,.z)],fun z=>mR z.1 z.2.1⟩
def Acz:=en 19 [] [([99999],[4])] []
theorem mS:Aa prog 180 wn:=tQ Acz [] [] func180 Ag .nil .nil
def Ki (e2_0:yr->jN) (rec:wz->jN) (x13:wz):jN:=
 (cond (decide (x13.2.2.2.1<x13.2.2.1.length))
 (let j19:wz->jN:=fun (y20:wz)=>
 (rec (y20.1,y20.2.1,y20.2.2.1,wrap .i64 (y20.2.2.2.1+1),y20.2.2.2.2.1,y20.2.2.2.2.2.1,y20.2.2.2.2.2.2.1,y20.2.2.2.2.2.2.2.1,()))
 (gd (decide (0<=x13.2.2.2.1))
 (x13.2.2.1[x13.2.2.2.1.toNat]?.bind fun y16=>(mR x13.2.2.2.2.2.1 y16.1).bind fun y17=>cond y17.1
 (gd (decide (0<=x13.2.2.2.1))
 (x13.2.2.1[x13.2.2.2.1.toNat]?.bind fun y18=>gd (decide ((x13.2.2.2.2.2.2.1.length+(List.length [y18]))<=A_))
 (j19 (x13.1,x13.2.1,x13.2.2.1,x13.2.2.2.1,x13.2.2.2.2.1,x13.2.2.2.2.2.1,x13.2.2.2.2.2.2.1++[y18],x13.2.2.2.2.2.2.2.1,()))))
 (j19 (x13.1,x13.2.1,x13.2.2.1,x13.2.2.2.1,x13.2.2.2.2.1,x13.2.2.2.2.2.1,x13.2.2.2.2.2.2.1,x13.2.2.2.2.2.2.2.1,())))))
 (e2_0 (x13.1,x13.2.1,x13.2.2.2.2.1,x13.2.2.2.2.2.1,x13.2.2.2.2.2.2.1,x13.2.2.2.2.2.2.2.1,())))
def Jh (e0_0:wx->jN) (rec:yr->jN) (x3:yr):jN:=
 (cond (decide (x3.2.1<x3.2.2.1.1.length))
 (gd (decide (0<=x3.2.1))
 (x3.2.2.1.1[x3.2.1.toNat]?.bind fun y6=>let j9:T79->jN:=fun (y10:T79)=>
 (gd (decide (0<=y10.2.1))
 (y10.2.2.2.1.1[y10.2.1.toNat]?.bind fun y11=>gd (decide ((y10.2.2.2.2.2.2.1.length+(List.length [y11.1]))<=A_))
 (iter (Ki
 (fun y21=>rec (y21.1,wrap .i64 (y21.2.1+1),y21.2.2.1,y21.2.2.2.1,y21.2.2.2.2.1,y21.2.2.2.2.2.1,()))) Af (y10.1,y10.2.1,y10.2.2.1,0,y10.2.2.2.1,y10.2.2.2.2.1,y10.2.2.2.2.2.1,y10.2.2.2.2.2.2.1++[y11.1],()))))
 (cond (decide (x3.2.1>x3.1))
 (cond (!x3.2.2.2.1.2.2.1)
 (cond (decide ((y6.2.1.length:Int)>0))
 (y6.2.1[(0:Int).toNat]?.bind fun y8=>cond (!(Op.bytesLess y8.1 x3.2.2.2.1.2.1))
 (e0_0 (x3.2.2.2.2.1,x3.2.2.2.2.2.1,()))
 (j9 (x3.1,x3.2.1,y6.2.1,x3.2.2.1,x3.2.2.2.1,x3.2.2.2.2.1,x3.2.2.2.2.2.1,())))
 (j9 (x3.1,x3.2.1,y6.2.1,x3.2.2.1,x3.2.2.2.1,x3.2.2.2.2.1,x3.2.2.2.2.2.1,())))
 (j9 (x3.1,x3.2.1,y6.2.1,x3.2.2.1,x3.2.2.2.1,x3.2.2.2.2.1,x3.2.2.2.2.2.1,())))
 (j9 (x3.1,x3.2.1,y6.2.1,x3.2.2.1,x3.2.2.2.1,x3.2.2.2.2.1,x3.2.2.2.2.2.1,())))))
 (e0_0 (x3.2.2.2.2.1,x3.2.2.2.2.2.1,())))
def mT (a0:Lq) (a1:NO):jN:=
 ((gk a0 (a1.1,-1,())).bind fun y0=>iter (Jh
 (fun y22=>some (y22.1,y22.2.1,()))) Af (y0.1,y0.1,a0,a1,[],[],()))
def wo:Av:=⟨[.ro JG,.ro IB],[(.slice En,.z),(.slice (.int .i64),.z)],fun z=>mT z.1 z.2.1⟩
def Ac0:=en 86 [(150,oR),(180,wn)] [([5,6,7,100001,100002],[2,3,6,7,8,9]),([9],[2,3,6,7,8,9,10]),([11,12,13,100003],[2,3,6,7,8,9,10,11]),([15,100000],[6,7]),([99999],[4,5])] []
def q8:List (At wx):=[⟨11,⟨[(2,vP 16),(3,vP 24),(6,vR En 96),(7,.ref (.slice (.int .i64)) 104 []),(8,vI),(9,vI),(10,vS En),(11,vI)],[(16,mD JG),(24,mD IB),(96,mO En),(104,.data false (.slice (.int .i64)) (.own .z))]⟩,fun κ=>Ki (xt κ 2 ⟨[(2,vP 16),(3,vP 24),(6,vR En 96),(7,.ref (.slice (.int .i64)) 104 []),(8,vI),(9,vI)],[(16,mD JG),(24,mD IB),(96,mO En),(104,.data false (.slice (.int .i64)) (.own .z))]⟩)⟩,
  ⟨5,⟨[(2,vP 16),(3,vP 24),(6,vR En 96),(7,.ref (.slice (.int .i64)) 104 []),(8,vI),(9,vI)],[(16,mD JG),(24,mD IB),(96,mO En),(104,.data false (.slice (.int .i64)) (.own .z))]⟩,fun κ=>Jh (xt κ 0 ⟨[(6,vR En 96),(7,.ref (.slice (.int .i64)) 104 [])],[(96,mO En),(104,.data false (.slice (.int .i64)) (.own .z))]⟩)⟩]
theorem mU:Aa prog 129 wo:=tQ Ac0 q8 (aU f129) func129 Ag (.cons bg (.cons mS .nil)) (.c q8[1] (.c q8[0] .nil))
def q9 (a0:LO) (a1:Ig):ov:=
 (a1.1.2.1[(0:Int).toNat]?.bind fun y0=>(mP a0.1 y0).bind fun y1=>(mT a1.2.1 y1.1).bind fun y2=>some ((a1.1.1,y1.1,(y2.1.length:Int),()),()))
def C73:Av:=⟨[.ro Mi,.ro HF],[(Y',.z)],fun z=>q9 z.1 z.2.1⟩
def E73:=en 32 [(128,wl),(129,wo)] [([99999],[4])] []
theorem qA:Aa prog 73 C73:=tQ E73 [] [] func73 Ag (.cons mQ (.cons mU .nil)) .nil
def VD (e0_0:T1->O1) (rec:Int×Int×Lq×Unit->O1) (x2:Int×Int×Lq×Unit):O1:=
 (cond (decide (x2.2.1<x2.2.2.1.1.length))
 (gd (decide (0<=x2.2.1))
 (x2.2.2.1.1[x2.2.1.toNat]?.bind fun y4=>rec (wrap .i64 (x2.1+(y4.2.1.length:Int)),wrap .i64 (x2.2.1+1),x2.2.2.1,())))
 (e0_0 (x2.1,())))
def wq (a0:Lq):O1:=
 (iter (VD
 (fun y5=>some (y5.1,()))) Af (0,0,a0,()))
def C74:Av:=⟨[.ro JG],[(.int .i64,.z)],fun z=>wq z.1⟩
def E74:=en 22 [] [([3,5,100001],[1,3,4]),([6,100000],[3]),([99999],[2])] []
def L74:List (At T1):=[⟨3,⟨[(1,vP 8),(3,vI),(4,vI)],[(8,mD JG)]⟩,fun κ=>VD (xt κ 0 ⟨[(3,vI)],[]⟩)⟩]
theorem qB:Aa prog 74 C74:=tQ E74 L74 (Dg f74) func74 Ag .nil (.c L74[0] .nil)
def ic (e0_0:fN×fN×Unit->ov) (rec:wF->ov) (x6:wF):ov:=
 (cond (decide (x6.2.1<x6.1.length))
 (let j13:wF->ov:=fun (y14:wF)=>
 (rec (y14.1,wrap .i64 (y14.2.1+1),y14.2.2.1,y14.2.2.2.1,y14.2.2.2.2.1,()))
 (gd (decide (0<=x6.2.1))
 (x6.1[x6.2.1.toNat]?.bind fun y9=>(q9 x6.2.2.1 y9).bind fun y10=>gd (decide (0<=x6.2.1))
 (x6.1[x6.2.1.toNat]?.bind fun y11=>(wq y11.2.1).bind fun y12=>cond (decide (y10.1.2.2.1<y12.1))
 (cond (x6.2.2.2.2.1.1==[])
 (j13 (x6.1,x6.2.1,x6.2.2.1,x6.2.2.2.1,y10.1,()))
 (cond (decide (y10.1.2.2.1<x6.2.2.2.2.1.2.2.1))
 (j13 (x6.1,x6.2.1,x6.2.2.1,x6.2.2.2.1,y10.1,()))
 (j13 (x6.1,x6.2.1,x6.2.2.1,x6.2.2.2.1,x6.2.2.2.2.1,()))))
 (j13 (x6.1,x6.2.1,x6.2.2.1,x6.2.2.2.1,x6.2.2.2.2.1,()))))))
 (e0_0 (x6.2.2.2.1,x6.2.2.2.2.1,())))
def x_ (a0:LO) (a1:List Ig):ov:=
 ((xZ a1 a0.2.2.2.2.2.1).bind fun y1=>cond (decide (y1.1>=0))
 (gd (decide (0<=y1.1))
 (a1[y1.1.toNat]?.bind fun y2=>(q9 a0 y2).bind fun y3=>some (y3.1,())))
 (iter (ic
 (fun y15=>some (y15.2.1,()))) Af (a1,0,a0,([],([],[],false,()),0,()),([],([],[],false,()),0,()),())))
def C31:Av:=⟨[.ro Mi,.ro (.slice HF)],[(Y',.z)],fun z=>x_ z.1 z.2.1⟩
def E31:=en 57 [(72,C72),(73,C73),(74,C74)] [([4],[1,2,4]),([6,7,8,100001],[1,2,4,6,7]),([11,100000],[4,6]),([99999],[4])] []
def L31:List (At T20):=[⟨6,⟨[(1,vS HF),(2,vP 16),(4,vP 32),(6,vP 48),(7,vI)],[(16,mD Mi),(32,mD Y'),(48,mD Y')]⟩,fun κ=>ic (xt κ 0 ⟨[(4,vP 32),(6,vP 48)],[(32,mD Y'),(48,mD Y')]⟩)⟩]
theorem qC:Aa prog 31 C31:=tQ E31 L31 (Dg f31) func31 Ag (.cons qy (.cons qA (.cons qB .nil))) (.c L31[0] .nil)
def ya (a0:LO) (a1:List Ig):rl:=
 (cond (decide ((a1.length:Int)>4096))
 (some (([],([],[],false,()),0,()),2,()))
 ((vj a0).bind fun y2=>cond (!y2.1)
 (some (([],([],[],false,()),0,()),1,()))
 ((xY a1).bind fun y3=>cond (!y3.1)
 (some (([],([],[],false,()),0,()),1,()))
 ((x_ a0 a1).bind fun y4=>some (y4.1,0,())))))
def C11:Av:=⟨[.ro Mi,.ro (.slice HF)],[(Y',.z),(.int .i64,.z)],fun z=>ya z.1 z.2.1⟩
def E11:=en 22 [(24,C24),(30,C30),(31,C31)] [([3,5],[1,2,4]),([99999],[4,5])] []
theorem qD:Aa prog 11 C11:=tQ E11 [] [] func11 Ag (.cons gS (.cons qx (.cons qC .nil))) .nil
def F37 (a0:List Gz) (a1:(Gz->Option (Bool))):O0:=
 ((xS a0 a1).bind fun y0=>some (decide (y0.1>=0),()))
def C37:Av:=⟨[.ro (.slice En),.fn En .bool],[(.bool,.z)],fun z=>F37 z.1 z.2.1⟩
def E37:=en 9 [(82,C82)] [([99999],[4])] []
theorem qE:Aa prog 37 C37:=tQ E37 [] [] func37 Ag (.cons hJ .nil) .nil
def F38 (a0:Gz) (a1:Int):O0:=
 (some (a0.2.1==a1,()))
def C38:Av:=⟨[.ro En,.rp (.int .i64)],[(.bool,.z)],fun z=>F38 z.1 z.2.1⟩
def E38:=en 8 [] [([99999],[3])] []
theorem qF:Aa prog 38 C38:=tQ E38 [] [] func38 Ag .nil .nil
def F35 (a0:AE) (a1:List Gz):O0:=
 ((lc a0).bind fun y0=>(F37 a1 (fun (v4:Gz)=>(Option.map (fun (v5:T0)=>v5.1) (F38 v4 y0.1)))).bind fun y1=>some (!y1.1,()))
def C35:Av:=⟨[.ro Ax,.rp (.slice En)],[(.bool,.z)],fun z=>F35 z.1 z.2.1⟩
def E35:=en 15 [(36,u4),(37,C37),(38,C38)] [([99999],[3])] []
theorem qG:Aa prog 35 C35:=tQ E35 [] [] func35 Ag (.cons Vh (.cons qE (.cons qF .nil))) .nil
def qH (a0:fN) (a1:LO) (a2:List AE) (a3:List Ig):Option ol:=
 ((r0 a3 a0.1).bind fun y0=>cond (decide ((a2.length:Int)>4096))
 (some ([],2,()))
 (cond (decide ((a3.length:Int)>4096))
 (some ([],2,()))
 ((pB a1).bind fun y2=>cond (!y2.1)
 (some ([],1,()))
 ((u6 a2).bind fun y3=>cond (!y3.1)
 (some ([],1,()))
 ((vK a3).bind fun y4=>cond (!y4.1)
 (some ([],1,()))
 (cond (a0.1==[])
 ((rz a1 a2).bind fun y5=>some (y5.1,0,()))
 (cond (decide (y0.1<0))
 (some ([],11,()))
 (gd (decide (0<=y0.1))
 (a3[y0.1.toNat]?.bind fun y6=>(r4 y6.2.1 a0.2.1).bind fun y7=>(ry a2).bind fun y8=>(u7 y8.1 (fun (v13:AE)=>(Option.map (fun (v14:T0)=>v14.1) (F35 v13 y7.1)))).bind fun y9=>(rz a1 y9.1).bind fun y10=>some (y10.1,0,()))))))))))
def C12:Av:=⟨[.ro Y',.ro Mi,.ro (.slice Ax),.ro (.slice HF)],[(.slice Ax,.own .z),(.int .i64,.z)],fun z=>qH z.1 z.2.1 z.2.2.1 z.2.2.2.1⟩
def E12:=em 69 [(14,uv),(22,C22),(23,C23),(26,C26),(27,xP),(32,C32),(33,C33),(34,xD),(35,C35)] true [] [([10,100000],[2,3,4,5,10]),([99999],[8,9])] []
theorem qJ:AO prog 12 C12:=tF E12 [] [] func12 Ag (.cons Vg (.cons gF (.consFr gR (.cons gZ (.cons ZH (.cons hY (.consIo gH (.consFr ZG (.cons qG .nil))))))))) .nil
def VE (e0_0:Unit->O0) (er_1:T0->O0) (rec:wI->O0) (x3:wI):O0:=
 (cond (decide (x3.2.2.1<x3.1.length))
 (gd (decide (0<=x3.2.2.1))
 (x3.1[x3.2.2.1.toNat]?.bind fun y6=>gd (decide (0<=x3.2.2.1))
 (x3.2.1[x3.2.2.1.toNat]?.bind fun y7=>cond (!((decide (y6.1=y7.1))&&((decide (y6.2.1=y7.2.1))&&((y6.2.2.1==y7.2.2.1)&&true))))
 (er_1 (false,()))
 (rec (x3.1,x3.2.1,wrap .i64 (x3.2.2.1+1),())))))
 (e0_0 (())))
def qL (a0:List AE) (a1:List AE):O0:=
 (cond ((a0.length:Int) != (a1.length:Int))
 (some (false,()))
 (iter (VE
 (fun y8=>some (true,()))
 (fun y9=>some (y9.1,()))) Af (a0,a1,0,())))
def C13:Av:=⟨[.ro (.slice Ax),.ro (.slice Ax)],[(.bool,.z)],fun z=>qL z.1 z.2.1⟩
def E13:=en 26 [] [([3],[0,1]),([4,5,6,100001],[0,1,5]),([8,100000],[]),([99999],[4])] []
def L13:List (At T0):=[⟨4,⟨[(0,vS Ax),(1,vS Ax),(5,vI)],[]⟩,fun κ=>VE (xt κ 0 ⟨[],[]⟩) (rt κ ⟨[(4,.pv .bool)],[]⟩)⟩]
theorem qM:Aa prog 13 C13:=tQ E13 L13 (Dg f13) func13 Ag .nil (.c L13[0] .nil)
def F3 (a0:List Int) (a1:List Int):O0:=
 (cond (decide ((a0.length:Int)>1048576))
 (some (true,()))
 (cond (decide ((a1.length:Int)>1048576))
 (some (true,()))
 ((F4 a0).bind fun y1=>(F5 a1).bind fun y2=>gd (decide ((([(2:Int)]:List Int).length+a0.length)<=A_))
 ((F6 ([(2:Int)]++a0)).bind fun y3=>(F7 ([(111:UInt8),110,101],y3.1.2) y2.1).bind fun y4=>cond (y4.2.1 != 0)
 (some (true,()))
 ((F8 y1.1 y2.1).bind fun y6=>(F9 y1.1 y2.1).bind fun y7=>(vZ y1.1 [y4.1]).bind fun y8=>(ya y1.1 [y4.1]).bind fun y9=>(qH y8.1 y1.1 y2.1 [y4.1]).bind fun y10=>(vZ (y1.1.1,y1.1.2.1,y1.1.2.2.1,y1.1.2.2.2.1,y1.1.2.2.2.2.1,[(111:UInt8),110,101],y1.1.2.2.2.2.2.2) [y4.1]).bind fun y11=>(qH y11.1 (y1.1.1,y1.1.2.1,y1.1.2.2.1,y1.1.2.2.2.1,y1.1.2.2.2.2.1,[(111:UInt8),110,101],y1.1.2.2.2.2.2.2) y2.1 [y4.1]).bind fun y12=>(qH ([],([],[],false,()),0,()) (y1.1.1,y1.1.2.1,y1.1.2.2.1,y1.1.2.2.2.1,y1.1.2.2.2.2.1,[(111:UInt8),110,101],y1.1.2.2.2.2.2.2) y2.1 [y4.1]).bind fun y13=>cond (y6.2.1==0)
 ((qL y6.1 y7.1).bind fun y14=>cond y14.1
 (cond (y8.2.1==0)
 (cond ((y8.1.1==y9.1.1)&&(((y8.1.2.1.1==y9.1.2.1.1)&&((y8.1.2.1.2.1==y9.1.2.1.2.1)&&((y8.1.2.1.2.2.1==y9.1.2.1.2.2.1)&&true)))&&((decide (y8.1.2.2.1=y9.1.2.2.1))&&true)))
 (cond (y10.2.1==0)
 ((qL y10.1 y6.1).bind fun y15=>cond y15.1
 (cond (y11.2.1==0)
 (cond (y11.1.1==[(111:UInt8),110,101])
 (cond (y12.2.1==0)
 ((qL y12.1 y6.1).bind fun y16=>cond y16.1
 (cond (y13.2.1==0)
 ((qL y13.1 y6.1).bind fun y17=>cond y17.1
 ((pB (y1.1.1,y1.1.2.1,y1.1.2.2.1,y1.1.2.2.2.1,y1.1.2.2.2.2.1,[(111:UInt8),110,101],y1.1.2.2.2.2.2.2)).bind fun y18=>some (y18.1,()))
 (some (false,())))
 (some (false,())))
 (some (false,())))
 (some (false,())))
 (some (false,())))
 (some (false,())))
 (some (false,())))
 (some (false,())))
 (some (false,())))
 (some (false,())))
 (some (false,())))
 (some (false,())))))))
def C3:Av:=⟨[.ro (.slice (.int .u8)),.ro (.slice (.int .u8))],[(.bool,.z)],fun z=>F3 z.1 z.2.1⟩
def E3:=en 165 [(4,C4),(5,C5),(6,C6),(7,C7),(8,C8),(9,C9),(10,C10),(11,C11),(12,C12),(13,C13),(14,uv)] [([3],[0,1]),([10],[5,6,8]),([400042],[41]),([99999],[4])] []
theorem C3_ok:Aa prog 3 C3:=tQ E3 [] [] func3 Ag (.cons ti (.cons tn (.cons tt (.cons tM (.consFr vg (.consFr vB (.cons qv (.cons qD (.consFr qJ (.cons qM (.cons Vg .nil))))))))))) .nil
end
end Go.V
