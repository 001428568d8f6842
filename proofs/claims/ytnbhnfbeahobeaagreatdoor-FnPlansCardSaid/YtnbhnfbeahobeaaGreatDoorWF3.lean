/- What functions of the program compute, printed by a program of ours. No condition. -/
import Derived.Test.YtnbhnfbeahobeaaGreatDoorWF2
namespace Go.V
open Go.Proofs Go.Proofs.Tryz IntKind
noncomputable section
set_option maxRecDepth 100000
set_option linter.unusedVariables false
abbrev GK:Type:=AE->AE->O1
def Vm (g:GK):Av:=⟨[.ro Ax,.ro Ax],[(.int .i64,.z)],fun z=>g z.1 z.2.1⟩
def b9 (g:GK) (e0_0:sn->O1) (er_1:T1->O1) (rec:T83->O1) (x2:T83):O1:=
 (cond (decide (x2.2.2.2.2.1<x2.2.2.2.1))
 (gd (decide (0<=x2.2.2.2.2.1))
 (x2.2.2.1[x2.2.2.2.2.1.toNat]?.bind fun y5=>cond (decide (x2.2.2.2.2.1>=x2.2.1.length))
 (er_1 (1,()))
 (gd (decide (0<=x2.2.2.2.2.1))
 (x2.2.1[x2.2.2.2.2.1.toNat]?.bind fun y7=>(g y5 y7).bind fun y8=>cond (y8.1 != 0)
 (er_1 (y8.1,()))
 (rec (x2.1,x2.2.1,x2.2.2.1,x2.2.2.2.1,wrap .i64 (x2.2.2.2.2.1+1),()))))))
 (e0_0 (x2.1,x2.2.1,())))
def lu (g:GK) (a0:List AE) (a1:List AE) (a2:(Unit)):O1:=
 (iter (b9 g
 (fun y9=>cond (decide ((y9.1.length:Int)<(y9.2.1.length:Int)))
 (some (-1,()))
 (some (0,())))
 (fun y10=>some (y10.1,()))) Af (a0,a1,a0,(a0.length:Int),0,()))
def pH (g:GK):Av:=⟨[.ro (.slice Ax),.ro (.slice Ax),.st 113 []],[(.int .i64,.z)],fun z=>lu g z.1 z.2.1 z.2.2.1⟩
def Aat (g:GK):Bf:=⟨39,Et tys,CK ones,Dj [(113,Vm g)],false,[],[(2,[0,1,2,11,12,13],[]),(3,[0,1,2,11,12,13],[]),(6,[0,1,2,7,8,11,12,13],[]),(10,[0,1,2,11,12,13],[]),(11,[0,1],[]),(13,[],[]),(100000,[0,1],[]),(100001,[0,1,2,11,12,13],[]),(99999,[6],[])],none,[],[]⟩
def uD (g:GK):List (At T1):=[⟨2,⟨[(0,vS Ax),(1,vS Ax),(2,.clo 113 []),(11,vS Ax),(12,vI),(13,vI)],[]⟩,fun κ=>b9 g (xt κ 0 ⟨[(0,vS Ax),(1,vS Ax)],[]⟩) (rt κ ⟨[(6,vI)],[]⟩)⟩]
theorem bA (g:GK) (hg:Aa prog 113 (Vm g)):Aa prog 160 (pH g):=tQ (Aat g) (uD g) (Dg f160) func160 Ag (.cons hg .nil) (.c ((uD g)[0]'(Nat.le_of_ble_eq_true rfl)) .nil)
def gK (g:GK) (a0:BN) (a1:BN):O1:=
 ((ZF a0.1 a1.1).bind fun y0=>(g a0.2.1 a1.2.1).bind fun y1=>(dI [y0.1,y1.1]).bind fun y2=>some (y2.1,()))
def lw (g:GK):Av:=⟨[.ro AX,.ro AX],[(.int .i64,.z)],fun z=>gK g z.1 z.2.1⟩
def Aau (g:GK):Bf:=⟨17,Et tys,CK ones,Dj [(113,Vm g),(157,lm),(163,gD)],false,[120],[(99999,[4],[])],none,[],[]⟩
def Aav (g:GK):List (At T1):=[]
theorem Vn (g:GK) (hg:Aa prog 113 (Vm g)):Aa prog 162 (lw g):=tQ (Aau g) (Aav g) [] func162 Ag (.cons hg (.cons Vk (.cons Qd .nil))) .nil
def bB (g:GK) (e0_0:sd->O1) (er_1:T1->O1) (rec:T81->O1) (x2:T81):O1:=
 (cond (decide (x2.2.2.2.2.1<x2.2.2.2.1))
 (gd (decide (0<=x2.2.2.2.2.1))
 (x2.2.2.1[x2.2.2.2.2.1.toNat]?.bind fun y5=>cond (decide (x2.2.2.2.2.1>=x2.2.1.length))
 (er_1 (1,()))
 (gd (decide (0<=x2.2.2.2.2.1))
 (x2.2.1[x2.2.2.2.2.1.toNat]?.bind fun y7=>(gK g y5 y7).bind fun y8=>cond (y8.1 != 0)
 (er_1 (y8.1,()))
 (rec (x2.1,x2.2.1,x2.2.2.1,x2.2.2.2.1,wrap .i64 (x2.2.2.2.2.1+1),()))))))
 (e0_0 (x2.1,x2.2.1,())))
def lx (g:GK) (a0:List BN) (a1:List BN) (a2:(Unit)):O1:=
 (iter (bB g
 (fun y9=>cond (decide ((y9.1.length:Int)<(y9.2.1.length:Int)))
 (some (-1,()))
 (some (0,())))
 (fun y10=>some (y10.1,()))) Af (a0,a1,a0,(a0.length:Int),0,()))
def pI (g:GK):Av:=⟨[.ro (.slice AX),.ro (.slice AX),.st 162 []],[(.int .i64,.z)],fun z=>lx g z.1 z.2.1 z.2.2.1⟩
def Aaw (g:GK):Bf:=⟨39,Et tys,CK ones,Dj [(162,lw g)],false,[],[(2,[0,1,2,11,12,13],[]),(3,[0,1,2,11,12,13],[]),(6,[0,1,2,7,8,11,12,13],[]),(10,[0,1,2,11,12,13],[]),(11,[0,1],[]),(13,[],[]),(100000,[0,1],[]),(100001,[0,1,2,11,12,13],[]),(99999,[6],[])],none,[],[]⟩
def uE (g:GK):List (At T1):=[⟨2,⟨[(0,vS AX),(1,vS AX),(2,.clo 162 []),(11,vS AX),(12,vI),(13,vI)],[]⟩,fun κ=>bB g (xt κ 0 ⟨[(0,vS AX),(1,vS AX)],[]⟩) (rt κ ⟨[(6,vI)],[]⟩)⟩]
theorem bC (g:GK) (hg:Aa prog 113 (Vm g)):Aa prog 161 (pI g):=tQ (Aaw g) (uE g) (Dg f161) func161 Ag (.cons (Vn g hg) .nil) (.c ((uE g)[0]'(Nat.le_of_ble_eq_true rfl)) .nil)
def ly (g:GK) (a0:AE) (a1:AE):O1:=
 ((XE a0.1 a1.1).bind fun y1=>(XE a0.2.1 a1.2.1).bind fun y2=>(dI [y1.1,y2.1]).bind fun y3=>cond (y3.1 != 0)
 (some (y3.1,()))
 (cond (a0.1==4)
 ((LT a0).bind fun y5=>(LT a1).bind fun y6=>(lu g y5.1 y6.1 ()).bind fun y7=>some (y7.1,()))
 (cond (a0.1==5)
 ((SR a0).bind fun y8=>(SR a1).bind fun y9=>(lx g y8.1 y9.1 ()).bind fun y10=>some (y10.1,()))
 ((ZF a0.2.2.1 a1.2.2.1).bind fun y11=>some (y11.1,())))))
def Aax (g:GK):Av:=⟨[.ro Ax,.ro Ax],[(.int .i64,.z)],fun z=>ly g z.1 z.2.1⟩
def Aay (g:GK):Bf:=⟨66,Et tys,CK ones,Dj [(113,Vm g),(116,dD),(157,lm),(158,lr),(159,dF),(160,pH g),(161,pI g),(162,lw g),(163,gD)],false,[192],[(4,[2,3],[]),(13,[2,3],[]),(100000,[2,3],[]),(99999,[4],[])],none,[],[]⟩
def Aaz (g:GK):List (At T1):=[]
theorem lz (g:GK) (hg:Aa prog 113 (Vm g)):Aa prog 113 (Aax g):=tQ (Aay g) (Aaz g) [] func113 Ag (.cons hg (.consFr MZ (.cons Vk (.cons Vl (.cons M_ (.cons (bA g hg) (.cons (bC g hg) (.cons (Vn g hg) (.cons Qd .nil))))))))) .nil
def gL:Nat->GK
  |0=>fun _ _=>none
  |k+1=>ly (gL k)
def LU:GK:=gL Af
def gM:Av:=Vm LU
theorem XF:∀ k,Aa prog 113 (Vm (gL k))
  |0=>Aa.none func113 (by rfl) (by decide) fun _=>rfl
  |k+1=>lz (gL k) (XF k)
theorem Jg:Aa prog 113 gM:=XF Af
def Ahy:=lu LU
def Aa0:Av:=pH LU
theorem xE:Aa prog 160 Aa0:=bA LU Jg
def Ahz:=gK LU
def Aa1:Av:=lw LU
theorem xF:Aa prog 162 Aa1:=Vn LU Jg
def Ah0:=lx LU
def Aa2:Av:=pI LU
theorem xG:Aa prog 161 Aa2:=bC LU Jg
def Qe (e0_0:Unit->O1) (er_1:T1->O1) (rec:rZ->O1) (x2:rZ):O1:=
 (cond (decide (x2.2.2.1<x2.2.1))
 (gd (decide (0<=x2.2.2.1))
 (x2.1[x2.2.2.1.toNat]?.bind fun y5=>cond ((decide (x2.2.2.2.1.1=y5.1))&&((decide (x2.2.2.2.1.2.1=y5.2.1))&&((x2.2.2.2.1.2.2.1==y5.2.2.1)&&true)))
 (er_1 (x2.2.2.1,()))
 (rec (x2.1,x2.2.1,wrap .i64 (x2.2.2.1+1),x2.2.2.2.1,()))))
 (e0_0 (())))
def l5 (a0:List AE) (a1:AE):O1:=
 (iter (Qe
 (fun y6=>some (-1,()))
 (fun y7=>some (y7.1,()))) Af (a0,(a0.length:Int),0,a1,()))
def uF:Av:=⟨[.ro (.slice Ax),.ro Ax],[(.int .i64,.z)],fun z=>l5 z.1 z.2.1⟩
def Aa3:=en 19 [] [([2,3,6,100001],[0,3,7,8]),([7,100000],[]),([99999],[4])] []
def uG:List (At T1):=[⟨2,⟨[(0,vS Ax),(3,vP 24),(7,vI),(8,vI)],[(24,mD Ax)]⟩,fun κ=>Qe (xt κ 0 ⟨[],[]⟩) (rt κ ⟨[(4,vI)],[]⟩)⟩]
theorem l6:Aa prog 224 uF:=tQ Aa3 uG (Dg f224) func224 Ag .nil (.c uG[0] .nil)
def dJ (a0:List AE) (a1:AE):O0:=
 ((l5 a0 a1).bind fun y0=>some (decide (y0.1>=0),()))
def uH:Av:=⟨[.ro (.slice Ax),.ro Ax],[(.bool,.z)],fun z=>dJ z.1 z.2.1⟩
def Aa4:=en 9 [(224,uF)] [([99999],[4])] []
theorem l8:Aa prog 195 uH:=tQ Aa4 [] [] func195 Ag (.cons l6 .nil) .nil
def gN (a0:DC) (a1:AE):O0:=
 ((LU a1 a0.2.2.1).bind fun y0=>let j7:DC×AE×Unit->O0:=fun (y8:DC×AE×Unit)=>
 ((LT y8.2.1).bind fun y9=>cond (y8.2.1.1==4)
 (some ((y9.1.length:Int)==y8.1.2.2.1.2.1,()))
 (some (false,())))
 (cond (a0.1==1)
 (cond (a0.1==1)
 (some (y0.1==0,()))
 (cond (a0.1==3)
 (cond (a1.1==a0.2.2.1.1)
 (some (decide (y0.1<0),()))
 (some (false,())))
 (cond (a0.1==4)
 (cond (a1.1==a0.2.2.1.1)
 (some (decide (y0.1<=0),()))
 (some (false,())))
 (cond (a0.1==5)
 (cond (a1.1==a0.2.2.1.1)
 (some (decide (y0.1>0),()))
 (some (false,())))
 (cond (a0.1==6)
 (cond (a1.1==a0.2.2.1.1)
 (some (decide (y0.1>=0),()))
 (some (false,())))
 (cond (a0.1==7)
 ((LT a0.2.2.1).bind fun y3=>(dJ y3.1 a1).bind fun y4=>some (y4.1,()))
 (cond (a0.1==9)
 (some (a1.1==a0.2.2.1.2.1,()))
 (j7 (a0,a1,())))))))))
 (cond (a0.1==2)
 (some (y0.1==0,()))
 (cond (a0.1==3)
 (cond (a1.1==a0.2.2.1.1)
 (some (decide (y0.1<0),()))
 (some (false,())))
 (cond (a0.1==4)
 (cond (a1.1==a0.2.2.1.1)
 (some (decide (y0.1<=0),()))
 (some (false,())))
 (cond (a0.1==5)
 (cond (a1.1==a0.2.2.1.1)
 (some (decide (y0.1>0),()))
 (some (false,())))
 (cond (a0.1==6)
 (cond (a1.1==a0.2.2.1.1)
 (some (decide (y0.1>=0),()))
 (some (false,())))
 (cond (a0.1==7)
 ((LT a0.2.2.1).bind fun y5=>(dJ y5.1 a1).bind fun y6=>some (y6.1,()))
 (cond (a0.1==9)
 (some (a1.1==a0.2.2.1.2.1,()))
 (j7 (a0,a1,())))))))))))
def uI:Av:=⟨[.ro GI,.ro Ax],[(.bool,.z)],fun z=>gN z.1 z.2.1⟩
def Aa5:=en 91 [(113,gM),(159,dF),(195,uH)] [([20,100000],[2,3]),([99999],[4])] []
theorem l9:Aa prog 154 uI:=tQ Aa5 [] [] func154 Ag (.cons Jg (.cons M_ (.cons l8 .nil))) .nil
def lA (a0:DC) (a1:AE):O0:=
 ((gJ a1 a0.2.1).bind fun y0=>cond (a0.1==8)
 (some ((decide ((y0.1.length:Int)>0))==(a0.2.2.1.2.1==1),()))
 (let j3:DC×List AE×Unit->O0:=fun (y4:DC×List AE×Unit)=>
 ((Xz y4.2.1 (fun (v7:AE)=>(Option.map (fun (v8:T0)=>v8.1) (gN y4.1 v7)))).bind fun y5=>some (!(y5.1==(y4.1.1==2)),()))
 (cond ((y0.1.length:Int)==0)
 (cond (a0.1 != 9)
 (gd (decide ((y0.1.length+([(0,0,[],())]:List AE).length)<=A_))
 (j3 (a0,y0.1++[(0,0,[],())],())))
 (j3 (a0,y0.1,())))
 (j3 (a0,y0.1,())))))
def uJ:Av:=⟨[.ro GI,.ro Ax],[(.bool,.z)],fun z=>lA z.1 z.2.1⟩
def Aa6:=en 41 [(152,pG),(153,pf),(154,uI)] [([4,6],[2,5]),([99999],[4])] []
theorem lB:Aa prog 110 uJ:=tQ Aa6 [] [] func110 Ag (.consFr b8 (.cons bs (.cons l9 .nil))) .nil
def pJ (a0:DC) (a1:AE):O0:=
 ((lA a0 a1).bind fun y0=>some (!y0.1,()))
def uK:Av:=⟨[.ro GI,.rp Ax],[(.bool,.z)],fun z=>pJ z.1 z.2.1⟩
def Aa7:=en 8 [(110,uJ)] [([99999],[3])] []
theorem lC:Aa prog 109 uK:=tQ Aa7 [] [] func109 Ag (.cons lB .nil) .nil
def lD (a0:HI) (a1:AE):O0:=
 ((xp a0.1 (fun (v3:DC)=>(Option.map (fun (v4:T0)=>v4.1) (pJ v3 a1)))).bind fun y0=>some (!y0.1,()))
def uL:Av:=⟨[.ro IC,.rp Ax],[(.bool,.z)],fun z=>lD z.1 z.2.1⟩
def Aa8:=en 9 [(85,zv),(109,uK)] [([99999],[3])] []
theorem lE:Aa prog 108 uL:=tQ Aa8 [] [] func108 Ag (.cons gn (.cons lC .nil)) .nil
def xH (a0:SG) (a1:AE):O0:=
 ((rr a0.1 (fun (v3:HI)=>(Option.map (fun (v4:T0)=>v4.1) (lD v3 a1)))).bind fun y0=>some (y0.1,()))
def C60:Av:=⟨[.ro Rk,.ro Ax],[(.bool,.z)],fun z=>xH z.1 z.2.1⟩
def E60:=en 9 [(83,zt),(108,uL)] [([99999],[4])] []
theorem pK:Aa prog 60 C60:=tQ E60 [] [] func60 Ag (.cons gm (.cons lE .nil)) .nil
def F59 (a0:AE) (a1:LO):O0:=
 ((xH a1.1 a0).bind fun y0=>some (!y0.1,()))
def C59:Av:=⟨[.ro Ax,.rp Mi],[(.bool,.z)],fun z=>F59 z.1 z.2.1⟩
def E59:=en 9 [(60,C60)] [([99999],[3])] []
theorem pL:Aa prog 59 C59:=tQ E59 [] [] func59 Ag (.cons pK .nil) .nil
def bD (e0_0:wT->O4) (rec:n4->O4) (x4:n4):O4:=
 (cond (decide (x4.2.1<x4.1.length))
 (let j10:n4->O4:=fun (y11:n4)=>
 (rec (y11.1,wrap .i64 (y11.2.1+1),y11.2.2.1,y11.2.2.2.1,()))
 (gd (decide (0<=x4.2.1))
 (x4.1[x4.2.1.toNat]?.bind fun y7=>(LU y7 x4.2.2.2.1).bind fun y8=>cond (decide (y8.1<0))
 (gd (decide (0<=x4.2.1))
 (x4.1[x4.2.1.toNat]?.bind fun y9=>j10 (x4.1,x4.2.1,x4.2.2.1,y9,())))
 (j10 (x4.1,x4.2.1,x4.2.2.1,x4.2.2.2.1,())))))
 (e0_0 (x4.2.2.1,x4.2.2.2.1,())))
def pM (a0:List AE) (a1:(Unit)):O4:=
 (cond (decide ((a0.length:Int)<1))
 none
 (a0[(0:Int).toNat]?.bind fun y1=>iter (bD
 (fun y12=>some (y12.2.1,()))) Af (a0,1,(0,0,[],()),y1,())))
def uM:Av:=⟨[.ro (.slice Ax),.st 113 []],[(Ax,.z)],fun z=>pM z.1 z.2.1⟩
def Aba:=en 33 [(113,gM)] [([3],[0,1,4]),([5,6,7,100001],[0,1,4,5,6]),([9,100000],[4,5]),([99999],[4])] []
def uN:List (At T4):=[⟨5,⟨[(0,vS Ax),(1,.clo 113 []),(4,vP 32),(5,vP 40),(6,vI)],[(32,mD Ax),(40,mD Ax)]⟩,fun κ=>bD (xt κ 0 ⟨[(4,vP 32),(5,vP 40)],[(32,mD Ax),(40,mD Ax)]⟩)⟩]
theorem lF:Aa prog 164 uM:=tQ Aba uN (Dg f164) func164 Ag (.cons Jg .nil) (.c uN[0] .nil)
def gO (a0:AE) (a1:S8):O4:=
 ((gJ a0 a1).bind fun y0=>cond ((y0.1.length:Int)==0)
 (some ((0,0,[],()),()))
 ((pM y0.1 ()).bind fun y2=>some (y2.1,())))
def uO:Av:=⟨[.ro Ax,.ro .str],[(Ax,.z)],fun z=>gO z.1 z.2.1⟩
def Abb:=en 15 [(113,gM),(152,pG),(164,uM)] [([4],[4,5]),([99999],[4])] []
theorem lG:Aa prog 114 uO:=tQ Abb [] [] func114 Ag (.cons Jg (.consFr b8 (.cons lF .nil))) .nil
def pN (a0:AE) (a1:AE):O1:=
 ((lc a0).bind fun y0=>(lc a1).bind fun y1=>(XE y0.1 y1.1).bind fun y2=>some (y2.1,()))
def uP:Av:=⟨[.ro Ax,.ro Ax],[(.int .i64,.z)],fun z=>pN z.1 z.2.1⟩
def Abc:=en 22 [(36,u4),(158,lr)] [([99999],[4])] []
theorem lH:Aa prog 115 uP:=tQ Abc [] [] func115 Ag (.cons Vh (.cons Vl .nil)) .nil
def Qf (e0_0:wT->O1) (er_1:T1->O1) (rec:rR->O1) (x2:rR):O1:=
 (cond (decide (x2.2.2.1<x2.2.1))
 (gd (decide (0<=x2.2.2.1))
 (x2.1[x2.2.2.1.toNat]?.bind fun y5=>(gO x2.2.2.2.1 y5.1).bind fun y6=>(gO x2.2.2.2.2.1 y5.1).bind fun y7=>(LU y6.1 y7.1).bind fun y8=>let j10:T92->O1:=fun (y11:T92)=>
 (cond (y11.1 != 0)
 (er_1 (y11.1,()))
 (rec (y11.2.1,y11.2.2.1,wrap .i64 (y11.2.2.2.1+1),y11.2.2.2.2.1,y11.2.2.2.2.2.1,())))
 (cond y5.2.1
 (j10 (wrap .i64 (0-y8.1),x2.1,x2.2.1,x2.2.2.1,x2.2.2.2.1,x2.2.2.2.2.1,()))
 (j10 (y8.1,x2.1,x2.2.1,x2.2.2.1,x2.2.2.2.1,x2.2.2.2.2.1,())))))
 (e0_0 (x2.2.2.2.1,x2.2.2.2.2.1,())))
def gP (a0:AE) (a1:AE) (a2:List Hp):O1:=
 (iter (Qf
 (fun y12=>(pN y12.1 y12.2.1).bind fun y14=>some (y14.1,()))
 (fun y13=>some (y13.1,()))) Af (a2,(a2.length:Int),0,a0,a1,()))
def uQ:Av:=⟨[.ro Ax,.ro Ax,.rp (.slice If)],[(.int .i64,.z)],fun z=>gP z.1 z.2.1 z.2.2.1⟩
def Abd:=en 35 [(113,gM),(114,uO),(115,uP)] [([2,3,9,100001],[3,4,9,10,11]),([7],[3,4,8,9,10,11]),([10,100000],[3,4]),([99999],[5])] []
def uR:List (At T1):=[⟨2,⟨[(3,vP 24),(4,vP 32),(9,vS If),(10,vI),(11,vI)],[(24,mD Ax),(32,mD Ax)]⟩,fun κ=>Qf (xt κ 0 ⟨[(3,vP 24),(4,vP 32)],[(24,mD Ax),(32,mD Ax)]⟩) (rt κ ⟨[(5,vI)],[]⟩)⟩]
theorem bE:Aa prog 112 uQ:=tQ Abd uR (Dg f112) func112 Ag (.cons Jg (.cons lG (.cons lH .nil))) (.c uR[0] .nil)
def pO (a0:List AE) (a1:(List Hp×Unit)):O2:=
 (Option.map (fun l=>(l,())) (TB (fun x y=>(Option.map (fun r=>r.1) (gP x y a1.1))) a0))
def uS:Av:=⟨[.io (.slice Ax) (.own .z),.st 112 [.slice If]],[],fun ar=>pO ar.1 ar.2.1⟩
theorem lI:IoOk prog 111 uS:=jG vSort111 (e:=Ax) rfl isAgg76 sizeOf76 vSort111_fn (jF bE)
def xI (a0:List AE) (a1:List Hp):O2:=
 ((ry a0).bind fun y0=>(pO y0.1 (a1,())).bind fun y1=>some (y1.1,()))
def C61:Av:=⟨[.ro (.slice Ax),.ro (.slice If)],[(.slice Ax,.own .z)],fun z=>xI z.1 z.2.1⟩
def E61:=em 12 [(34,xD),(111,uS),(112,uQ)] true [] [([99999],[4])] []
theorem pP:AO prog 61 C61:=tF E61 [] [] func61 Ag (.consFr ZG (.consIo lI (.cons bE .nil))) .nil
def bF (e0_0:T6->O6) (rec:qZ->O6) (x2:qZ):O6:=
 (cond (decide (x2.2.1<8))
 (cond (decide ((wrap .i64 (56-(wrap .i64 (8*x2.2.1))))<0))
 none
 (gd (decide (0<=x2.2.1))
 (gd (decide (x2.2.1<x2.2.2.1.length))
 (x2.2.2.1[x2.2.1.toNat]?.bind fun y4=>rec (x2.1,wrap .i64 (x2.2.1+1),List.set x2.2.2.1 x2.2.1.toNat (IntKind.wrap .u8 (Int.fdiv x2.1 ((2:Int) ^ (Min.min (wrap .i64 (56-(wrap .i64 (8*x2.2.1)))).toNat (IntKind.bits IntKind.i64))))),())))))
 (e0_0 (x2.2.2.1,())))
def gQ (a0:Int):O6:=
 (iter (bF
 (fun y5=>some (y5.1,()))) Af (a0,0,List.replicate (8:Int).toNat 0,()))
def pQ:Av:=⟨[qI],[(.slice (.int .u8),.z)],fun z=>gQ z.1⟩
def Abe:=en 20 [] [([3,4,100001],[0,3,6]),([7,100000],[3]),([99999],[2])] []
def uT:List (At T6):=[⟨3,⟨[(0,vI),(3,.ref (.slice (.int .u8)) 40 []),(6,vI)],[(40,.data false (.slice (.int .u8)) (.own .z))]⟩,fun κ=>bF (xt κ 0 ⟨[(3,.ref (.slice (.int .u8)) 40 [])],[(40,.data false (.slice (.int .u8)) (.own .z))]⟩)⟩]
theorem bG:Aa prog 210 pQ:=tQ Abe uT (Dg f210) func210 Ag .nil (.c uT[0] .nil)
def lJ (a0:List Int) (a1:AE):O6:=
 (gd (decide ((a0.length+(List.length [IntKind.wrap .u8 a1.1]))<=A_))
 (let j3:T6->O6:=fun (y4:T6)=>
 (some (y4.1,()))
 (cond (a1.1==1)
 (gd (decide (((a0++[IntKind.wrap .u8 a1.1]).length+(List.length [IntKind.wrap .u8 a1.2.1]))<=A_))
 (some ((a0++[IntKind.wrap .u8 a1.1])++[IntKind.wrap .u8 a1.2.1],())))
 (cond (a1.1==2)
 ((gQ (wrap .i64 (a1.2.1+4611686018427387904))).bind fun y1=>gd (decide (((a0++[IntKind.wrap .u8 a1.1]).length+y1.1.length)<=A_))
 (some ((a0++[IntKind.wrap .u8 a1.1])++y1.1,())))
 (cond (a1.1==3)
 (cond (a1.1==3)
 (gd (decide (((a0++[IntKind.wrap .u8 a1.1]).length+(List.length [IntKind.wrap .u8 (Int.fdiv (a1.2.2.1.length:Int) ((2:Int) ^ (Min.min (8:Int).toNat (IntKind.bits IntKind.i64)))),IntKind.wrap .u8 (a1.2.2.1.length:Int)]))<=A_))
 (gd (decide ((((a0++[IntKind.wrap .u8 a1.1])++[IntKind.wrap .u8 (Int.fdiv (a1.2.2.1.length:Int) ((2:Int) ^ (Min.min (8:Int).toNat (IntKind.bits IntKind.i64)))),IntKind.wrap .u8 (a1.2.2.1.length:Int)]).length+(List.map (fun (v5:UInt8)=>(((UInt8.toNat v5):Nat):Int)) a1.2.2.1).length)<=A_))
 (some ((((a0++[IntKind.wrap .u8 a1.1])++[IntKind.wrap .u8 (Int.fdiv (a1.2.2.1.length:Int) ((2:Int) ^ (Min.min (8:Int).toNat (IntKind.bits IntKind.i64)))),IntKind.wrap .u8 (a1.2.2.1.length:Int)])++(List.map (fun (v5:UInt8)=>(((UInt8.toNat v5):Nat):Int)) a1.2.2.1)),()))))
 (j3 (a0++[IntKind.wrap .u8 a1.1],())))
 (cond (a1.1==4)
 (cond (a1.1==4)
 (gd (decide (((a0++[IntKind.wrap .u8 a1.1]).length+(List.length [IntKind.wrap .u8 (Int.fdiv (a1.2.2.1.length:Int) ((2:Int) ^ (Min.min (8:Int).toNat (IntKind.bits IntKind.i64)))),IntKind.wrap .u8 (a1.2.2.1.length:Int)]))<=A_))
 (gd (decide ((((a0++[IntKind.wrap .u8 a1.1])++[IntKind.wrap .u8 (Int.fdiv (a1.2.2.1.length:Int) ((2:Int) ^ (Min.min (8:Int).toNat (IntKind.bits IntKind.i64)))),IntKind.wrap .u8 (a1.2.2.1.length:Int)]).length+(List.map (fun (v5:UInt8)=>(((UInt8.toNat v5):Nat):Int)) a1.2.2.1).length)<=A_))
 (some ((((a0++[IntKind.wrap .u8 a1.1])++[IntKind.wrap .u8 (Int.fdiv (a1.2.2.1.length:Int) ((2:Int) ^ (Min.min (8:Int).toNat (IntKind.bits IntKind.i64)))),IntKind.wrap .u8 (a1.2.2.1.length:Int)])++(List.map (fun (v5:UInt8)=>(((UInt8.toNat v5):Nat):Int)) a1.2.2.1)),()))))
 (j3 (a0++[IntKind.wrap .u8 a1.1],())))
 (cond (a1.1==5)
 (gd (decide (((a0++[IntKind.wrap .u8 a1.1]).length+(List.length [IntKind.wrap .u8 (Int.fdiv (a1.2.2.1.length:Int) ((2:Int) ^ (Min.min (8:Int).toNat (IntKind.bits IntKind.i64)))),IntKind.wrap .u8 (a1.2.2.1.length:Int)]))<=A_))
 (gd (decide ((((a0++[IntKind.wrap .u8 a1.1])++[IntKind.wrap .u8 (Int.fdiv (a1.2.2.1.length:Int) ((2:Int) ^ (Min.min (8:Int).toNat (IntKind.bits IntKind.i64)))),IntKind.wrap .u8 (a1.2.2.1.length:Int)]).length+(List.map (fun (v5:UInt8)=>(((UInt8.toNat v5):Nat):Int)) a1.2.2.1).length)<=A_))
 (some ((((a0++[IntKind.wrap .u8 a1.1])++[IntKind.wrap .u8 (Int.fdiv (a1.2.2.1.length:Int) ((2:Int) ^ (Min.min (8:Int).toNat (IntKind.bits IntKind.i64)))),IntKind.wrap .u8 (a1.2.2.1.length:Int)])++(List.map (fun (v5:UInt8)=>(((UInt8.toNat v5):Nat):Int)) a1.2.2.1)),()))))
 (j3 (a0++[IntKind.wrap .u8 a1.1],())))))))))
def uU:Av:=⟨[.tk (.slice (.int .u8)) (.own .z),.ro Ax],[(.slice (.int .u8),.own .z)],fun z=>lJ z.1 z.2.1⟩
def Abf:=em 49 [(210,pQ)] true [72,152,344] [([11,100000],[0]),([99999],[4])] []
theorem lK:IoOk prog 168 uU:=tT Abf [] [] func168 Ag (.cons bG .nil) .nil
def Qg (e0_0:AE×List Int×Unit->O4) (rec:T86->O4) (x2:T86):O4:=
 (cond (decide (x2.2.2.1<x2.2.1))
 (gd (decide (0<=x2.2.2.1))
 (x2.1[x2.2.2.1.toNat]?.bind fun y4=>gd (decide ((x2.2.2.2.2.1.length+(List.length [IntKind.wrap .u8 (y4.1.length:Int)]))<=A_))
 (gd (decide (((x2.2.2.2.2.1++[IntKind.wrap .u8 (y4.1.length:Int)]).length+(List.map (fun (v8:UInt8)=>(((UInt8.toNat v8):Nat):Int)) y4.1).length)<=A_))
 ((lJ ((x2.2.2.2.2.1++[IntKind.wrap .u8 (y4.1.length:Int)])++(List.map (fun (v8:UInt8)=>(((UInt8.toNat v8):Nat):Int)) y4.1)) y4.2.1).bind fun y5=>rec (x2.1,x2.2.1,wrap .i64 (x2.2.2.1+1),x2.2.2.2.1,y5.1,())))))
 (e0_0 (x2.2.2.2.1,x2.2.2.2.2.1,())))
def lL (a0:List BN):O4:=
 (iter (Qg
 (fun y6=>some ((5,(0,((List.map (fun (v4:Int)=>(UInt8.ofNat v4.toNat)) y6.2.1),()))),()))) Af (a0,(a0.length:Int),0,(0,0,[],()),[],()))
def uV:Av:=⟨[.ro (.slice AX)],[(Ax,.z)],fun z=>lL z.1⟩
def Abg:=em 30 [(168,uU)] false [144] [([3,4,100001],[2,3,7,8,9]),([7,100000],[2,3]),([99999],[2])] []
def uW:List (At T4):=[⟨3,⟨[(2,vP 16),(3,.ref (.slice (.int .u8)) 48 []),(7,vS AX),(8,vI),(9,vI)],[(16,mD Ax),(48,.data false (.slice (.int .u8)) (.own .z))]⟩,fun κ=>Qg (xt κ 0 ⟨[(2,vP 16),(3,.ref (.slice (.int .u8)) 48 [])],[(16,mD Ax),(48,.data false (.slice (.int .u8)) (.own .z))]⟩)⟩]
theorem lM:Aa prog 117 uV:=tQ Abg uW (Dg f117) func117 Ag (.consIo lK .nil) (.c uW[0] .nil)
def bH (e0_0:Unit->O1) (er_1:T1->O1) (rec:List BN×(BN->Option (Bool))×Y_->O1) (x2:List BN×(BN->Option (Bool))×Y_):O1:=
 (cond (decide (x2.2.2.2.1<x2.2.2.1))
 (gd (decide (0<=x2.2.2.2.1))
 (x2.1[x2.2.2.2.1.toNat]?.bind fun y5=>(x2.2.1 y5).bind fun y6=>cond y6
 (er_1 (x2.2.2.2.1,()))
 (rec (x2.1,x2.2.1,x2.2.2.1,wrap .i64 (x2.2.2.2.1+1),()))))
 (e0_0 (())))
def pR (a0:List BN) (a1:(BN->Option (Bool))):O1:=
 (iter (bH
 (fun y7=>some (-1,()))
 (fun y8=>some (y8.1,()))) Af (a0,a1,(a0.length:Int),0,()))
def uX:Av:=⟨[.ro (.slice AX),.fn AX .bool],[(.int .i64,.z)],fun z=>pR z.1 z.2.1⟩
def Abh:=en 19 [] [([2,3,6,100001],[0,1,7,8]),([7,100000],[]),([99999],[4])] []
def uY:List (At T1):=[⟨2,⟨[(0,vS AX),(1,.fnA AX .bool),(7,vI),(8,vI)],[]⟩,fun κ=>bH (xt κ 0 ⟨[],[]⟩) (rt κ ⟨[(4,vI)],[]⟩)⟩]
theorem lN:Aa prog 169 uX:=tQ Abh uY (Dg f169) func169 Ag .nil (.c uY[0] .nil)
def bI (e0_0:Int×List BN×Unit->sD) (rec:(BN->Option (Bool))×wO->sD) (x4:(BN->Option (Bool))×wO):sD:=
 (cond (decide (x4.2.2.1<x4.2.2.2.1.length))
 (let j10:(BN->Option (Bool))×wO->sD:=fun (y11:(BN->Option (Bool))×wO)=>
 (rec (y11.1,y11.2.1,wrap .i64 (y11.2.2.1+1),y11.2.2.2.1,()))
 (gd (decide (0<=x4.2.2.1))
 (gd (decide (x4.2.2.1<x4.2.2.2.1.length))
 (x4.2.2.2.1[x4.2.2.1.toNat]?.bind fun y7=>(x4.1 y7).bind fun y8=>cond (!y8)
 (gd (decide (0<=x4.2.1))
 (gd (decide (x4.2.1<x4.2.2.2.1.length))
 (x4.2.2.2.1[x4.2.1.toNat]?.bind fun y9=>j10 (x4.1,wrap .i64 (x4.2.1+1),x4.2.2.1,List.set x4.2.2.2.1 x4.2.1.toNat y7,()))))
 (j10 (x4.1,x4.2.1,x4.2.2.1,x4.2.2.2.1,()))))))
 (e0_0 (x4.2.1,x4.2.2.2.1,())))
def lO (a0:List BN) (a1:(BN->Option (Bool))):sD:=
 ((pR a0 a1).bind fun y0=>cond (y0.1==(-1))
 (some (a0,()))
 (iter (bI
 (fun y12=>gd (decide ((y12.2.1.length:Int)<=(y12.2.1.length:Int)))
 (gd (decide (0<=y12.1))
 (gd (decide (y12.1<=(((y12.2.1.length:Int).toNat:Nat):Int)))
 (gd (decide (0<=y12.1))
 (gd (decide (y12.1<=(((HG AX y12.2.1 y12.1.toNat (y12.2.1.length:Int).toNat).length:Nat):Int)))
 (some (pre (Ty.slice (Ty.pair Ty.str (Ty.pair (Ty.pair (Ty.int IntKind.i64) (Ty.pair (Ty.int IntKind.i64) (Ty.pair Ty.str Ty.unit))) Ty.unit))) (HG AX y12.2.1 y12.1.toNat (y12.2.1.length:Int).toNat) y12.1.toNat,())))))))) Af (a1,y0.1,wrap .i64 (y0.1+1),a0,())))
def uZ:Av:=⟨[.tk (.slice AX) (.own .z),.fn AX .bool],[(.slice AX,.own .z)],fun z=>lO z.1 z.2.1⟩
def Abi:=em 42 [(169,uX)] true [] [([4],[0,1,5]),([5,6,7,100001],[0,1,5,6]),([11,100000],[0,5]),([99999],[4])] []
def u_:List (At yk):=[⟨5,⟨[(0,vR AX 4),(1,.fnA AX .bool),(5,vI),(6,vI)],[(4,mO AX)]⟩,fun κ=>bI (xt κ 0 ⟨[(0,vR AX 4),(5,vI)],[(4,mO AX)]⟩)⟩]
theorem lP:IoOk prog 118 uZ:=tT Abi u_ (Dg f118) func118 Ag (.cons lN .nil) (.c u_[0] .nil)
def Nb (e0_0:Unit->O1) (er_1:T1->O1) (rec:sj->O1) (x2:sj):O1:=
 (cond (decide (x2.2.2.2.1<x2.2.2.1))
 (gd (decide (0<=x2.2.2.2.1))
 (x2.1[x2.2.2.2.1.toNat]?.bind fun y5=>cond (x2.2.1==y5)
 (er_1 (x2.2.2.2.1,()))
 (rec (x2.1,x2.2.1,x2.2.2.1,wrap .i64 (x2.2.2.2.1+1),()))))
 (e0_0 (())))
def pS (a0:List S8) (a1:S8):O1:=
 (iter (Nb
 (fun y6=>some (-1,()))
 (fun y7=>some (y7.1,()))) Af (a0,a1,(a0.length:Int),0,()))
def vc:Av:=⟨[.ro (.slice .str),.ro .str],[(.int .i64,.z)],fun z=>pS z.1 z.2.1⟩
def Abj:=en 19 [] [([2,3,6,100001],[0,1,7,8]),([7,100000],[]),([99999],[4])] []
def vd:List (At T1):=[⟨2,⟨[(0,.pv (.slice .str)),(1,.pv .str),(7,vI),(8,vI)],[]⟩,fun κ=>Nb (xt κ 0 ⟨[],[]⟩) (rt κ ⟨[(4,vI)],[]⟩)⟩]
theorem lQ:Aa prog 170 vc:=tQ Abj vd (Dg f170) func170 Ag .nil (.c vd[0] .nil)
def lR (a0:List S8) (a1:S8):O0:=
 ((pS a0 a1).bind fun y0=>some (decide (y0.1>=0),()))
def ve:Av:=⟨[.ro (.slice .str),.ro .str],[(.bool,.z)],fun z=>lR z.1 z.2.1⟩
def Abk:=en 9 [(170,vc)] [([99999],[4])] []
theorem lS:Aa prog 120 ve:=tQ Abk [] [] func120 Ag (.cons lQ .nil) .nil
def pT (a0:BN) (a1:List S8):O0:=
 (cond (!(a0.1==[(105:UInt8),100]))
 ((lR a1 a0.1).bind fun y0=>some (!y0.1,()))
 (some (false,())))
def vf:Av:=⟨[.ro AX,.rp (.slice .str)],[(.bool,.z)],fun z=>pT z.1 z.2.1⟩
def Abl:=en 14 [(120,ve)] [([99999],[3])] []
theorem lT:Aa prog 119 vf:=tQ Abl [] [] func119 Ag (.cons lS .nil) .nil
def xJ (a0:AE) (a1:List S8):O4:=
 (cond ((a1.length:Int)==0)
 (some (a0,()))
 ((SR a0).bind fun y1=>(lO y1.1 (fun (v5:BN)=>(Option.map (fun (v6:T0)=>v6.1) (pT v5 a1)))).bind fun y2=>(lL y2.1).bind fun y3=>some (y3.1,())))
def C62:Av:=⟨[.ro Ax,.ro (.slice .str)],[(Ax,.z)],fun z=>xJ z.1 z.2.1⟩
def E62:=en 20 [(116,dD),(117,uV),(118,uZ),(119,vf)] [([3],[2,3,4]),([99999],[4])] []
theorem pU:Aa prog 62 C62:=tQ E62 [] [] func62 Ag (.consFr MZ (.cons lM (.consIo lP (.cons lT .nil)))) .nil
def Rr (e0_0:T2->O2) (rec:T90->O2) (x8:T90):O2:=
 (cond (decide (x8.2.2.1<x8.2.1))
 (gd (decide (0<=x8.2.2.1))
 (x8.1[x8.2.2.1.toNat]?.bind fun y10=>(xJ y10 x8.2.2.2.1.2.2.2.2.1).bind fun y11=>gd (decide ((x8.2.2.2.2.1.length+(List.length [y11.1]))<=A_))
 (rec (x8.1,x8.2.1,wrap .i64 (x8.2.2.1+1),x8.2.2.2.1,x8.2.2.2.2.1++[y11.1],()))))
 (e0_0 (x8.2.2.2.2.1,())))
def rz (a0:LO) (a1:List AE):O2:=
 ((ry a1).bind fun y0=>(u7 y0.1 (fun (v4:AE)=>(Option.map (fun (v5:T0)=>v5.1) (F59 v4 a0)))).bind fun y1=>(xI y1.1 a0.2.1).bind fun y2=>gd (decide ((y2.1.length:Int)<=(y2.1.length:Int)))
 (gd (decide (0<=(cond (decide ((y2.1.length:Int)<a0.2.2.1)) (y2.1.length:Int) a0.2.2.1)))
 (gd (decide ((cond (decide ((y2.1.length:Int)<a0.2.2.1)) (y2.1.length:Int) a0.2.2.1)<=(((y2.1.length:Int).toNat:Nat):Int)))
 (let j4:List AE×LO×Unit->O2:=fun (y5:List AE×LO×Unit)=>
 (iter (Rr
 (fun y12=>some (y12.1,()))) Af (y5.1,(y5.1.length:Int),0,y5.2.1,[],()))
 (cond (decide (a0.2.2.2.1>0))
 (gd (decide (0<=(cond (decide ((((List.drop (cond (decide ((y2.1.length:Int)<a0.2.2.1)) (y2.1.length:Int) a0.2.2.1).toNat (List.take (y2.1.length:Int).toNat y2.1)).length:Nat):Int)<a0.2.2.2.1)) (((List.drop (cond (decide ((y2.1.length:Int)<a0.2.2.1)) (y2.1.length:Int) a0.2.2.1).toNat (List.take (y2.1.length:Int).toNat y2.1)).length:Nat):Int) a0.2.2.2.1)))
 (gd (decide ((cond (decide ((((List.drop (cond (decide ((y2.1.length:Int)<a0.2.2.1)) (y2.1.length:Int) a0.2.2.1).toNat (List.take (y2.1.length:Int).toNat y2.1)).length:Nat):Int)<a0.2.2.2.1)) (((List.drop (cond (decide ((y2.1.length:Int)<a0.2.2.1)) (y2.1.length:Int) a0.2.2.1).toNat (List.take (y2.1.length:Int).toNat y2.1)).length:Nat):Int) a0.2.2.2.1)<=(((List.drop (cond (decide ((y2.1.length:Int)<a0.2.2.1)) (y2.1.length:Int) a0.2.2.1).toNat (List.take (y2.1.length:Int).toNat y2.1)).length:Nat):Int)))
 (j4 (List.drop (0:Int).toNat (List.take (cond (decide ((((List.drop (cond (decide ((y2.1.length:Int)<a0.2.2.1)) (y2.1.length:Int) a0.2.2.1).toNat (List.take (y2.1.length:Int).toNat y2.1)).length:Nat):Int)<a0.2.2.2.1)) (((List.drop (cond (decide ((y2.1.length:Int)<a0.2.2.1)) (y2.1.length:Int) a0.2.2.1).toNat (List.take (y2.1.length:Int).toNat y2.1)).length:Nat):Int) a0.2.2.2.1).toNat (List.drop (cond (decide ((y2.1.length:Int)<a0.2.2.1)) (y2.1.length:Int) a0.2.2.1).toNat (List.take (y2.1.length:Int).toNat y2.1))),a0,()))))
 (j4 (List.drop (cond (decide ((y2.1.length:Int)<a0.2.2.1)) (y2.1.length:Int) a0.2.2.1).toNat (List.take (y2.1.length:Int).toNat y2.1),a0,())))))))
def C23:Av:=⟨[.ro Mi,.ro (.slice Ax)],[(.slice Ax,.own .z)],fun z=>rz z.1 z.2.1⟩
def E23:=em 50 [(33,C33),(34,xD),(59,C59),(61,C61),(62,C62)] true [] [([3,6],[2,5]),([8,9,100001],[2,6,35,36,37]),([12,100000],[6]),([200003],[5]),([99999],[4])] []
def L23:List (At T2):=[⟨8,⟨[(2,vP 16),(6,vR Ax 272),(35,vS Ax),(36,vI),(37,vI)],[(16,mD Mi),(272,mO Ax)]⟩,fun κ=>Rr (xt κ 0 ⟨[(6,vR Ax 272)],[(272,mO Ax)]⟩)⟩]
theorem gR:AO prog 23 C23:=tF E23 L23 (Dg f23) func23 Ag (.consIo gH (.consFr ZG (.cons pL (.consFr pP (.cons pU .nil))))) (.c L23[0] .nil)
def F8 (a0:LO) (a1:List AE):Option ol:=
 (cond (decide ((a1.length:Int)>4096))
 (some ([],2,()))
 ((pB a0).bind fun y1=>cond (!y1.1)
 (some ([],1,()))
 ((u6 a1).bind fun y2=>cond (!y2.1)
 (some ([],1,()))
 ((rz a0 a1).bind fun y3=>some (y3.1,0,())))))
def C8:Av:=⟨[.ro Mi,.ro (.slice Ax)],[(.slice Ax,.own .z),(.int .i64,.z)],fun z=>F8 z.1 z.2.1⟩
def E8:=em 22 [(14,uv),(22,C22),(23,C23)] true [] [([5,100000],[1,2]),([99999],[4,5])] []
theorem vg:AO prog 8 C8:=tF E8 [] [] func8 Ag (.cons Vg (.cons gF (.consFr gR .nil))) .nil
def lU (a0:DC):O0:=
 (cond (decide ((a0.2.1.length:Int)>65536))
 (some (false,()))
 ((rq a0.2.1).bind fun y1=>cond (!y1.1)
 (some (false,()))
 ((eH a0.2.2.1).bind fun y2=>cond (!y2.1)
 (some (false,()))
 (let j11:Unit->O0:=fun (y12:Unit)=>
 (some (false,()))
 (cond (a0.1==1)
 (cond (a0.1==1)
 (some (true,()))
 (cond (a0.1==7)
 (some (a0.2.2.1.1==4,()))
 (cond (a0.1==8)
 (some (a0.2.2.1.1==1,()))
 (cond (a0.1==9)
 (cond (a0.2.2.1.1==2)
 ((TC a0.2.2.1.2.1 0 5).bind fun y5=>some (y5.1,()))
 (some (false,())))
 (cond (a0.1==10)
 (cond (a0.2.2.1.1==2)
 (some (decide (a0.2.2.1.2.1>=0),()))
 (some (false,())))
 (j11 (())))))))
 (cond (a0.1==2)
 (cond (a0.1==2)
 (some (true,()))
 (cond (a0.1==7)
 (some (a0.2.2.1.1==4,()))
 (cond (a0.1==8)
 (some (a0.2.2.1.1==1,()))
 (cond (a0.1==9)
 (cond (a0.2.2.1.1==2)
 ((TC a0.2.2.1.2.1 0 5).bind fun y6=>some (y6.1,()))
 (some (false,())))
 (cond (a0.1==10)
 (cond (a0.2.2.1.1==2)
 (some (decide (a0.2.2.1.2.1>=0),()))
 (some (false,())))
 (j11 (())))))))
 (cond (a0.1==3)
 (cond (a0.1==3)
 (some (true,()))
 (cond (a0.1==7)
 (some (a0.2.2.1.1==4,()))
 (cond (a0.1==8)
 (some (a0.2.2.1.1==1,()))
 (cond (a0.1==9)
 (cond (a0.2.2.1.1==2)
 ((TC a0.2.2.1.2.1 0 5).bind fun y7=>some (y7.1,()))
 (some (false,())))
 (cond (a0.1==10)
 (cond (a0.2.2.1.1==2)
 (some (decide (a0.2.2.1.2.1>=0),()))
 (some (false,())))
 (j11 (())))))))
 (cond (a0.1==4)
 (cond (a0.1==4)
 (some (true,()))
 (cond (a0.1==7)
 (some (a0.2.2.1.1==4,()))
 (cond (a0.1==8)
 (some (a0.2.2.1.1==1,()))
 (cond (a0.1==9)
 (cond (a0.2.2.1.1==2)
 ((TC a0.2.2.1.2.1 0 5).bind fun y8=>some (y8.1,()))
 (some (false,())))
 (cond (a0.1==10)
 (cond (a0.2.2.1.1==2)
 (some (decide (a0.2.2.1.2.1>=0),()))
 (some (false,())))
 (j11 (())))))))
 (cond (a0.1==5)
 (cond (a0.1==5)
 (some (true,()))
 (cond (a0.1==7)
 (some (a0.2.2.1.1==4,()))
 (cond (a0.1==8)
 (some (a0.2.2.1.1==1,()))
 (cond (a0.1==9)
 (cond (a0.2.2.1.1==2)
 ((TC a0.2.2.1.2.1 0 5).bind fun y9=>some (y9.1,()))
 (some (false,())))
 (cond (a0.1==10)
 (cond (a0.2.2.1.1==2)
 (some (decide (a0.2.2.1.2.1>=0),()))
 (some (false,())))
 (j11 (())))))))
 (cond (a0.1==6)
 (some (true,()))
 (cond (a0.1==7)
 (some (a0.2.2.1.1==4,()))
 (cond (a0.1==8)
 (some (a0.2.2.1.1==1,()))
 (cond (a0.1==9)
 (cond (a0.2.2.1.1==2)
 ((TC a0.2.2.1.2.1 0 5).bind fun y10=>some (y10.1,()))
 (some (false,())))
 (cond (a0.1==10)
 (cond (a0.2.2.1.1==2)
 (some (decide (a0.2.2.1.2.1>=0),()))
 (some (false,())))
 (j11 (()))))))))))))))))
def vh:Av:=⟨[.ro GI],[(.bool,.z)],fun z=>lU z.1⟩
def Abn:=en 64 [(51,jW),(52,xf),(99,rn)] [([3],[1]),([19,100000],[]),([99999],[2])] []
theorem lV:Aa prog 121 vh:=tQ Abn [] [] func121 Ag (.cons Ke (.cons ZC (.cons Rm .nil))) .nil
def Vo (e2_0:yE->O0) (er_1:T0->O0) (rec:Int×Int×SG×Unit->O0) (x10:Int×Int×SG×Unit):O0:=
 (gd (decide (0<=x10.1))
 (x10.2.2.1.1[x10.1.toNat]?.bind fun y12=>cond (decide (x10.2.1<y12.1.length))
 (gd (decide (0<=x10.1))
 (x10.2.2.1.1[x10.1.toNat]?.bind fun y14=>gd (decide (0<=x10.2.1))
 (y14.1[x10.2.1.toNat]?.bind fun y15=>(lU y15).bind fun y16=>cond (!y16.1)
 (er_1 (false,()))
 (rec (x10.1,wrap .i64 (x10.2.1+1),x10.2.2.1,())))))
 (e2_0 (x10.1,x10.2.2.1,()))))
def Vp (e0_0:Unit->O0) (er_1:T0->O0) (rec:yE->O0) (x4:yE):O0:=
 (cond (decide (x4.1<x4.2.1.1.length))
 (gd (decide (0<=x4.1))
 (x4.2.1.1[x4.1.toNat]?.bind fun y8=>cond (decide ((y8.1.length:Int)>4))
 (er_1 (false,()))
 (iter (Vo
 (fun y17=>rec (wrap .i64 (y17.1+1),y17.2.1,()))
 (fun y18=>er_1 (y18.1,()))) Af (x4.1,0,x4.2.1,()))))
 (e0_0 (())))
def xL (a0:SG):O0:=
 ((TC (a0.1.length:Int) 1 3).bind fun y1=>cond (!y1.1)
 (some (false,()))
 (iter (Vp
 (fun y19=>some (true,()))
 (fun y20=>some (y20.1,()))) Af (0,a0,())))
def C63:Av:=⟨[.ro Rk],[(.bool,.z)],fun z=>xL z.1⟩
def E63:=en 47 [(51,jW),(121,vh)] [([3],[1]),([4,5,6,8,100001,100002],[1,3]),([9,10,11,100003],[1,3,4]),([13,100000],[]),([99999],[2])] []
def L63:List (At T0):=[⟨9,⟨[(1,vP 8),(3,vI),(4,vI)],[(8,mD Rk)]⟩,fun κ=>Vo (xt κ 2 ⟨[(1,vP 8),(3,vI)],[(8,mD Rk)]⟩) (rt κ ⟨[(2,.pv .bool)],[]⟩)⟩,
  ⟨4,⟨[(1,vP 8),(3,vI)],[(8,mD Rk)]⟩,fun κ=>Vp (xt κ 0 ⟨[],[]⟩) (rt κ ⟨[(2,.pv .bool)],[]⟩)⟩]
theorem pV:Aa prog 63 C63:=tQ E63 L63 (aU f63) func63 Ag (.cons Ke (.cons lV .nil)) (.c L63[1] (.c L63[0] .nil))
def Rs (e0_0:LO×Unit->O0) (er_1:T0->O0) (rec:wU->O0) (x9:wU):O0:=
 (cond (decide (x9.1<x9.2.1.2.1.length))
 (gd (decide (0<=x9.1))
 (x9.2.1.2.1[x9.1.toNat]?.bind fun y12=>(rq y12.1).bind fun y13=>cond (!y13.1)
 (er_1 (false,()))
 (rec (wrap .i64 (x9.1+1),x9.2.1,()))))
 (e0_0 (x9.2.1,())))
def Rt (e2_0:Unit->O0) (er_1:T0->O0) (rec:wU->O0) (x18:wU):O0:=
 (cond (decide (x18.1<x18.2.1.2.2.2.2.1.length))
 (gd (decide (0<=x18.1))
 (x18.2.1.2.2.2.2.1[x18.1.toNat]?.bind fun y21=>(n9 y21).bind fun y22=>cond (!y22.1)
 (er_1 (false,()))
 (rec (wrap .i64 (x18.1+1),x18.2.1,()))))
 (e2_0 (())))
def vj (a0:LO):O0:=
 (let j5:LO×Unit->O0:=fun (y6:LO×Unit)=>
 (iter (Rs
 (fun y14=>iter (Rt
 (fun y23=>some (true,()))
 (fun y24=>some (y24.1,()))) Af (0,y14.1,()))
 (fun y15=>some (y15.1,()))) Af (0,y6.1,()))
 ((xL a0.1).bind fun y1=>cond (!y1.1)
 (some (false,()))
 (cond (decide ((a0.2.1.length:Int)>2))
 (some (false,()))
 ((TC a0.2.2.1 0 100).bind fun y2=>cond (!y2.1)
 (some (false,()))
 ((TC a0.2.2.2.1 0 100).bind fun y3=>cond (!y3.1)
 (some (false,()))
 (cond (decide ((a0.2.2.2.2.1.length:Int)>4))
 (some (false,()))
 (cond (!(a0.2.2.2.2.2.1==[]))
 ((n9 a0.2.2.2.2.2.1).bind fun y4=>cond (!y4.1)
 (some (false,()))
 (j5 (a0,())))
 (j5 (a0,())))))))))
def C24:Av:=⟨[.ro Mi],[(.bool,.z)],fun z=>vj z.1⟩
def E24:=en 73 [(50,sP),(51,jW),(52,xf),(63,C63)] [([3,8,100000],[1]),([4,5,6,100001],[1,3]),([9,10,11,100003],[1,4]),([13,100002],[]),([99999],[2])] []
def L24:List (At T0):=[⟨4,⟨[(1,vP 8),(3,vI)],[(8,mD Mi)]⟩,fun κ=>Rs (xt κ 0 ⟨[(1,vP 8)],[(8,mD Mi)]⟩) (rt κ ⟨[(2,.pv .bool)],[]⟩)⟩,
  ⟨9,⟨[(1,vP 8),(4,vI)],[(8,mD Mi)]⟩,fun κ=>Rt (xt κ 2 ⟨[],[]⟩) (rt κ ⟨[(2,.pv .bool)],[]⟩)⟩]
theorem gS:Aa prog 24 C24:=tQ E24 L24 (aU f24) func24 Ag (.cons UX (.cons Ke (.cons ZC (.cons pV .nil)))) (.c L24[0] (.c L24[1] .nil))
def XG (a0:Bool):O1:=
 (cond a0
 (some (1,()))
 (some (0,())))
def vk:Av:=⟨[.ro .bool],[(.int .i64,.z)],fun z=>XG z.1⟩
def Abr:=en 4 [] [([3],[]),([99999],[2])] []
theorem lW:Aa prog 212 vk:=tQ Abr [] [] func212 Ag .nil .nil
abbrev SS:Type:=AE->AE->O1
def lX (g:SS):Av:=⟨[.ro Ax,.ro Ax],[(.int .i64,.z)],fun z=>g z.1 z.2.1⟩
def Nc (g:SS) (e1_0:sn->O1) (er_1:T1->O1) (rec:wI->O1) (x8:wI):O1:=
 (cond (decide (x8.2.2.1<x8.1.length))
 (cond (decide (x8.2.2.1<x8.2.1.length))
 (gd (decide (0<=x8.2.2.1))
 (x8.1[x8.2.2.1.toNat]?.bind fun y11=>gd (decide (0<=x8.2.2.1))
 (x8.2.1[x8.2.2.1.toNat]?.bind fun y12=>(g y11 y12).bind fun y13=>cond (y13.1 != 0)
 (er_1 (y13.1,()))
 (rec (x8.1,x8.2.1,wrap .i64 (x8.2.2.1+1),())))))
 (e1_0 (x8.1,x8.2.1,())))
 (e1_0 (x8.1,x8.2.1,())))
def Nd (g:SS) (e3_0:sd->O1) (er_1:T1->O1) (rec:rT->O1) (x21:rT):O1:=
 (cond (decide (x21.2.2.1<x21.1.length))
 (cond (decide (x21.2.2.1<x21.2.1.length))
 (gd (decide (0<=x21.2.2.1))
 (x21.1[x21.2.2.1.toNat]?.bind fun y25=>gd (decide (0<=x21.2.2.1))
 (x21.2.1[x21.2.2.1.toNat]?.bind fun y26=>cond (!(y25.1==y26.1))
 (gd (decide (0<=x21.2.2.1))
 (x21.1[x21.2.2.1.toNat]?.bind fun y27=>gd (decide (0<=x21.2.2.1))
 (x21.2.1[x21.2.2.1.toNat]?.bind fun y28=>(XG (!((Op.bytesLess y27.1 y28.1)||(y27.1==y28.1)))).bind fun y29=>er_1 (wrap .i64 ((wrap .i64 (2*y29.1))-1),()))))
 (gd (decide (0<=x21.2.2.1))
 (x21.1[x21.2.2.1.toNat]?.bind fun y30=>gd (decide (0<=x21.2.2.1))
 (x21.2.1[x21.2.2.1.toNat]?.bind fun y31=>(g y30.2.1 y31.2.1).bind fun y32=>cond (y32.1 != 0)
 (er_1 (y32.1,()))
 (rec (x21.1,x21.2.1,wrap .i64 (x21.2.2.1+1),()))))))))
 (e3_0 (x21.1,x21.2.1,())))
 (e3_0 (x21.1,x21.2.1,())))
def lY (g:SS) (a0:AE) (a1:AE):O1:=
 (cond (a0.1 != a1.1)
 ((XG (decide (a0.1>a1.1))).bind fun y1=>some (wrap .i64 ((wrap .i64 (2*y1.1))-1),()))
 (cond (a0.2.1 != a1.2.1)
 ((XG (decide (a0.2.1>a1.2.1))).bind fun y2=>some (wrap .i64 ((wrap .i64 (2*y2.1))-1),()))
 (cond (a0.2.2.1==a1.2.2.1)
 (some (0,()))
 (cond (a0.1==3)
 ((XG (!((Op.bytesLess a0.2.2.1 a1.2.2.1)||(a0.2.2.1==a1.2.2.1)))).bind fun y3=>some (wrap .i64 ((wrap .i64 (2*y3.1))-1),()))
 (cond (a0.1==4)
 ((LP a0.2.2.1).bind fun y4=>(LP a1.2.2.1).bind fun y5=>iter (Nc g
 (fun y14=>(XG (decide ((y14.1.length:Int)>(y14.2.1.length:Int)))).bind fun y16=>some (wrap .i64 ((wrap .i64 (2*y16.1))-1),()))
 (fun y15=>some (y15.1,()))) Af (y4.1,y5.1,0,()))
 ((SN a0.2.2.1).bind fun y17=>(SN a1.2.2.1).bind fun y18=>iter (Nd g
 (fun y33=>(XG (decide ((y33.1.length:Int)>(y33.2.1.length:Int)))).bind fun y35=>some (wrap .i64 ((wrap .i64 (2*y35.1))-1),()))
 (fun y34=>some (y34.1,()))) Af (y17.1,y18.1,0,())))))))
def Abs (g:SS):Av:=⟨[.ro Ax,.ro Ax],[(.int .i64,.z)],fun z=>lY g z.1 z.2.1⟩
def Abt (g:SS):Bf:=⟨182,Et tys,CK ones,Dj [(124,Zz),(172,lX g),(188,d8),(212,vk)],false,[],[(13,[5,7,9],[]),(14,[5,7,9],[]),(15,[5,7,9],[]),(18,[5,7],[]),(19,[2,3],[]),(22,[11,13,15],[]),(23,[11,13,15],[]),(24,[11,13,15],[]),(26,[11,13,15],[]),(29,[11,13],[]),(100000,[2,3],[]),(100001,[5,7],[]),(100002,[5,7,9],[]),(100003,[11,13],[]),(100004,[11,13,15],[]),(99999,[4],[])],none,[],[]⟩
def pW (g:SS):List (At T1):=[⟨13,⟨[(5,vS Ax),(7,vS Ax),(9,vI)],[]⟩,fun κ=>Nc g (xt κ 1 ⟨[(5,vS Ax),(7,vS Ax)],[]⟩) (rt κ ⟨[(4,vI)],[]⟩)⟩,
  ⟨22,⟨[(11,vS AX),(13,vS AX),(15,vI)],[]⟩,fun κ=>Nd g (xt κ 3 ⟨[(11,vS AX),(13,vS AX)],[]⟩) (rt κ ⟨[(4,vI)],[]⟩)⟩]
theorem lZ (g:SS) (hg:Aa prog 172 (lX g)):Aa prog 172 (Abs g):=tQ (Abt g) (pW g) (aU f172) func172 Ag (.cons KU (.cons hg (.cons MM (.cons lW .nil)))) (.c ((pW g)[0]'(Nat.le_of_ble_eq_true rfl)) (.c ((pW g)[1]'(Nat.le_of_ble_eq_true rfl)) .nil))
def gT:Nat->SS
  |0=>fun _ _=>none
  |k+1=>lY (gT k)
def dK:SS:=gT Af
def l_:Av:=lX dK
theorem XH:∀ k,Aa prog 172 (lX (gT k))
  |0=>Aa.none func172 (by rfl) (by decide) fun _=>rfl
  |k+1=>lZ (gT k) (XH k)
theorem Vq:Aa prog 172 l_:=XH Af
def Hr (e1_0:Unit->O0) (er_1:T0->O0) (rec:sw->O0) (x6:sw):O0:=
 (cond (decide (x6.2.1<x6.1.length))
 (gd (decide (0<=x6.2.1))
 (x6.1[x6.2.1.toNat]?.bind fun y9=>cond ((decide (y9.1=x6.2.2.1.1))&&((decide (y9.2.1=x6.2.2.1.2.1))&&((y9.2.2.1==x6.2.2.1.2.2.1)&&true)))
 (er_1 (true,()))
 (rec (x6.1,wrap .i64 (x6.2.1+1),x6.2.2.1,()))))
 (e1_0 (())))
def ma (a0:DC) (a1:AE):O0:=
 ((dK a1 a0.2.2.1).bind fun y0=>let j18:Unit->O0:=fun (y19:Unit)=>
 (some (true,()))
 (cond (a0.1==1)
 (cond (a0.1==1)
 (some ((decide (a1.1=a0.2.2.1.1))&&((decide (a1.2.1=a0.2.2.1.2.1))&&((a1.2.2.1==a0.2.2.1.2.2.1)&&true)),()))
 (cond (a0.1==3)
 (cond (a1.1==a0.2.2.1.1)
 (some (decide (y0.1<0),()))
 (some (false,())))
 (cond (a0.1==4)
 (cond (a1.1==a0.2.2.1.1)
 (some (decide (y0.1<=0),()))
 (some (false,())))
 (cond (a0.1==5)
 (cond (a1.1==a0.2.2.1.1)
 (some (decide (y0.1>0),()))
 (some (false,())))
 (cond (a0.1==6)
 (cond (a1.1==a0.2.2.1.1)
 (some (decide (y0.1>=0),()))
 (some (false,())))
 (cond (a0.1==7)
 ((LP a0.2.2.1.2.2.1).bind fun y3=>iter (Hr
 (fun y10=>some (false,()))
 (fun y11=>some (y11.1,()))) Af (y3.1,0,a1,()))
 (cond (a0.1==9)
 (some (a1.1==a0.2.2.1.2.1,()))
 (cond (a0.1==10)
 ((LP a1.2.2.1).bind fun y12=>cond (a1.1==4)
 (some ((y12.1.length:Int)==a0.2.2.1.2.1,()))
 (some (false,())))
 (j18 (()))))))))))
 (cond (a0.1==2)
 (some ((decide (a1.1=a0.2.2.1.1))&&((decide (a1.2.1=a0.2.2.1.2.1))&&((a1.2.2.1==a0.2.2.1.2.2.1)&&true)),()))
 (cond (a0.1==3)
 (cond (a1.1==a0.2.2.1.1)
 (some (decide (y0.1<0),()))
 (some (false,())))
 (cond (a0.1==4)
 (cond (a1.1==a0.2.2.1.1)
 (some (decide (y0.1<=0),()))
 (some (false,())))
 (cond (a0.1==5)
 (cond (a1.1==a0.2.2.1.1)
 (some (decide (y0.1>0),()))
 (some (false,())))
 (cond (a0.1==6)
 (cond (a1.1==a0.2.2.1.1)
 (some (decide (y0.1>=0),()))
 (some (false,())))
 (cond (a0.1==7)
 ((LP a0.2.2.1.2.2.1).bind fun y13=>iter (Hr
 (fun y15=>some (false,()))
 (fun y16=>some (y16.1,()))) Af (y13.1,0,a1,()))
 (cond (a0.1==9)
 (some (a1.1==a0.2.2.1.2.1,()))
 (cond (a0.1==10)
 ((LP a1.2.2.1).bind fun y17=>cond (a1.1==4)
 (some ((y17.1.length:Int)==a0.2.2.1.2.1,()))
 (some (false,())))
 (j18 (()))))))))))))
def vl:Av:=⟨[.ro GI,.ro Ax],[(.bool,.z)],fun z=>ma z.1 z.2.1⟩
def Abu:=en 107 [(172,l_),(188,d8)] [([18,19,20,100002],[3,7,9]),([22,28,100000,100001],[]),([99999],[4])] []
def vm:List (At T0):=[⟨18,⟨[(3,vP 24),(7,vS Ax),(9,vI)],[(24,mD Ax)]⟩,fun κ=>Hr (xt κ 1 ⟨[],[]⟩) (rt κ ⟨[(4,.pv .bool)],[]⟩)⟩]
theorem mb:Aa prog 211 vl:=tQ Abu vm (Dg f211) func211 Ag (.cons Vq (.cons MM .nil)) (.c vm[0] .nil)
def Nf (e0_0:Bool×DC×Unit->O0) (rec:rU->O0) (x7:rU):O0:=
 (cond (decide (x7.2.2.1<x7.1.length))
 (cond x7.2.1
 (rec (x7.1,true,wrap .i64 (x7.2.2.1+1),x7.2.2.2.1,()))
 (gd (decide (0<=x7.2.2.1))
 (x7.1[x7.2.2.1.toNat]?.bind fun y9=>(ma x7.2.2.2.1 y9).bind fun y10=>rec (x7.1,y10.1,wrap .i64 (x7.2.2.1+1),x7.2.2.2.1,()))))
 (e0_0 (x7.2.1,x7.2.2.2.1,())))
def mc (a0:DC) (a1:AE):O0:=
 ((dB a1 a0.2.1).bind fun y0=>cond (a0.1==8)
 (some ((decide ((y0.1.length:Int)>0))==(a0.2.2.1.2.1==1),()))
 (let j3:List AE×DC×Unit->O0:=fun (y4:List AE×DC×Unit)=>
 (iter (Nf
 (fun y11=>some (!(y11.1==(y11.2.1.1==2)),()))) Af (y4.1,false,0,y4.2.1,()))
 (cond ((y0.1.length:Int)==0)
 (cond (a0.1 != 9)
 (j3 ([(0,0,[],())],a0,()))
 (j3 (y0.1,a0,())))
 (j3 (y0.1,a0,())))))
def vn:Av:=⟨[.ro GI,.ro Ax],[(.bool,.z)],fun z=>mc z.1 z.2.1⟩
def Abv:=em 53 [(191,ko),(211,vl)] false [256] [([4,6],[2,5]),([8,10,100001],[2,5,6,7]),([11,100000],[2,6]),([99999],[4])] []
def vo:List (At T0):=[⟨8,⟨[(2,vP 16),(5,vS Ax),(6,.pv .bool),(7,vI)],[(16,mD GI)]⟩,fun κ=>Nf (xt κ 0 ⟨[(2,vP 16),(6,.pv .bool)],[(16,mD GI)]⟩)⟩]
theorem me:Aa prog 171 vn:=tQ Abv vo (Dg f171) func171 Ag (.cons Vb (.cons mb .nil)) (.c vo[0] .nil)
def Qh (e0_0:Unit->O0) (er_1:T0->O0) (rec:Int×HI×AE×Unit->O0) (x2:Int×HI×AE×Unit):O0:=
 (cond (decide (x2.1<x2.2.1.1.length))
 (gd (decide (0<=x2.1))
 (x2.2.1.1[x2.1.toNat]?.bind fun y5=>(mc y5 x2.2.2.1).bind fun y6=>cond (!y6.1)
 (er_1 (false,()))
 (rec (wrap .i64 (x2.1+1),x2.2.1,x2.2.2.1,()))))
 (e0_0 (())))
def mf (a0:HI) (a1:AE):O0:=
 (iter (Qh
 (fun y7=>some (true,()))
 (fun y8=>some (y8.1,()))) Af (0,a0,a1,()))
def vp:Av:=⟨[.ro IC,.ro Ax],[(.bool,.z)],fun z=>mf z.1 z.2.1⟩
def Abw:=en 21 [(171,vn)] [([2,3,4,100001],[2,3,5]),([6,100000],[]),([99999],[4])] []
def vq:List (At T0):=[⟨2,⟨[(2,vP 16),(3,vP 24),(5,vI)],[(16,mD IC),(24,mD Ax)]⟩,fun κ=>Qh (xt κ 0 ⟨[],[]⟩) (rt κ ⟨[(4,.pv .bool)],[]⟩)⟩]
theorem mg:Aa prog 122 vp:=tQ Abw vq (Dg f122) func122 Ag (.cons me .nil) (.c vq[0] .nil)
def Vr (e0_0:Unit->O0) (er_1:T0->O0) (rec:Int×SG×AE×Unit->O0) (x2:Int×SG×AE×Unit):O0:=
 (cond (decide (x2.1<x2.2.1.1.length))
 (gd (decide (0<=x2.1))
 (x2.2.1.1[x2.1.toNat]?.bind fun y5=>(mf y5 x2.2.2.1).bind fun y6=>cond y6.1
 (er_1 (true,()))
 (rec (wrap .i64 (x2.1+1),x2.2.1,x2.2.2.1,()))))
 (e0_0 (())))
def xM (a0:SG) (a1:AE):O0:=
 (iter (Vr
 (fun y7=>some (false,()))
 (fun y8=>some (y8.1,()))) Af (0,a0,a1,()))
def C64:Av:=⟨[.ro Rk,.ro Ax],[(.bool,.z)],fun z=>xM z.1 z.2.1⟩
def E64:=en 20 [(122,vp)] [([2,3,4,100001],[2,3,5]),([6,100000],[]),([99999],[4])] []
def L64:List (At T0):=[⟨2,⟨[(2,vP 16),(3,vP 24),(5,vI)],[(16,mD Rk),(24,mD Ax)]⟩,fun κ=>Vr (xt κ 0 ⟨[],[]⟩) (rt κ ⟨[(4,.pv .bool)],[]⟩)⟩]
theorem pX:Aa prog 64 C64:=tQ E64 L64 (Dg f64) func64 Ag (.cons mg .nil) (.c L64[0] .nil)
def bJ (e0_0:wT->O4) (rec:n4->O4) (x5:n4):O4:=
 (cond (decide (x5.2.1<x5.1.length))
 (let j11:n4->O4:=fun (y12:n4)=>
 (rec (y12.1,wrap .i64 (y12.2.1+1),y12.2.2.1,y12.2.2.2.1,()))
 (gd (decide (0<=x5.2.1))
 (x5.1[x5.2.1.toNat]?.bind fun y8=>(dK y8 x5.2.2.2.1).bind fun y9=>cond (decide (y9.1<0))
 (gd (decide (0<=x5.2.1))
 (x5.1[x5.2.1.toNat]?.bind fun y10=>j11 (x5.1,x5.2.1,x5.2.2.1,y10,())))
 (j11 (x5.1,x5.2.1,x5.2.2.1,x5.2.2.2.1,())))))
 (e0_0 (x5.2.2.1,x5.2.2.2.1,())))
def gU (a0:AE) (a1:S8):O4:=
 ((dB a0 a1).bind fun y0=>cond ((y0.1.length:Int)==0)
 (some ((0,0,[],()),()))
 (y0.1[(0:Int).toNat]?.bind fun y2=>iter (bJ
 (fun y13=>some (y13.2.1,()))) Af (y0.1,1,(0,0,[],()),y2,())))
def vr:Av:=⟨[.ro Ax,.ro .str],[(Ax,.z)],fun z=>gU z.1 z.2.1⟩
def Abx:=en 36 [(172,l_),(191,ko)] [([4],[4,5]),([6,7,8,100001],[4,5,6,7]),([10,100000],[4,6]),([99999],[4])] []
def vt:List (At T4):=[⟨6,⟨[(4,vP 32),(5,vS Ax),(6,vP 48),(7,vI)],[(32,mD Ax),(48,mD Ax)]⟩,fun κ=>bJ (xt κ 0 ⟨[(4,vP 32),(6,vP 48)],[(32,mD Ax),(48,mD Ax)]⟩)⟩]
theorem mh:Aa prog 173 vr:=tQ Abx vt (Dg f173) func173 Ag (.cons Vq (.cons Vb .nil)) (.c vt[0] .nil)
def Qi (e0_0:wT->O0) (er_1:T0->O0) (rec:r_->O0) (x2:r_):O0:=
 (cond (decide (x2.2.1<x2.1.length))
 (gd (decide (0<=x2.2.1))
 (x2.1[x2.2.1.toNat]?.bind fun y5=>(gU x2.2.2.1 y5.1).bind fun y6=>gd (decide (0<=x2.2.1))
 (x2.1[x2.2.1.toNat]?.bind fun y7=>(gU x2.2.2.2.1 y7.1).bind fun y8=>(dK y6.1 y8.1).bind fun y9=>cond (y9.1 != 0)
 (gd (decide (0<=x2.2.1))
 (x2.1[x2.2.1.toNat]?.bind fun y10=>er_1 (!((decide (y9.1<0))==y10.2.1),())))
 (rec (x2.1,wrap .i64 (x2.2.1+1),x2.2.2.1,x2.2.2.2.1,())))))
 (e0_0 (x2.2.2.1,x2.2.2.2.1,())))
def gV (a0:AE) (a1:AE) (a2:List Hp):O0:=
 (iter (Qi
 (fun y11=>(ki y11.1).bind fun y13=>(ki y11.2.1).bind fun y14=>some (decide (y13.1<y14.1),()))
 (fun y12=>some (y12.1,()))) Af (a2,0,a0,a1,()))
def vu:Av:=⟨[.ro Ax,.ro Ax,.ro (.slice If)],[(.bool,.z)],fun z=>gV z.1 z.2.1 z.2.2.1⟩
def Aby:=en 45 [(54,xh),(172,l_),(173,vr)] [([2,3,4,100001],[2,3,4,7]),([7,100000],[3,4]),([99999],[6])] []
def vz:List (At T0):=[⟨2,⟨[(2,vS If),(3,vP 24),(4,vP 32),(7,vI)],[(24,mD Ax),(32,mD Ax)]⟩,fun κ=>Qi (xt κ 0 ⟨[(3,vP 24),(4,vP 32)],[(24,mD Ax),(32,mD Ax)]⟩) (rt κ ⟨[(6,.pv .bool)],[]⟩)⟩]
theorem mi:Aa prog 123 vu:=tQ Aby vz (Dg f123) func123 Ag (.cons ZD (.cons Vq (.cons mh .nil))) (.c vz[0] .nil)
def Ru (e2_0:yq->O2) (rec:yq->O2) (x7:yq):O2:=
 (cond (decide (x7.2.2.2.1>0))
 (gd (decide (0<=x7.2.2.1))
 (x7.1[x7.2.2.1.toNat]?.bind fun y9=>gd (decide (0<=(wrap .i64 (x7.2.2.2.1-1))))
 (gd (decide ((wrap .i64 (x7.2.2.2.1-1))<(x7.2.2.2.2.1.length:Int)))
 (x7.2.2.2.2.1[(wrap .i64 (x7.2.2.2.1-1)).toNat]?.bind fun y10=>(gV y9 y10 x7.2.1).bind fun y11=>cond y11.1
 (rec (x7.1,x7.2.1,x7.2.2.1,wrap .i64 (x7.2.2.2.1-1),x7.2.2.2.2.1,()))
 (e2_0 (x7.1,x7.2.1,x7.2.2.1,x7.2.2.2.1,x7.2.2.2.2.1,()))))))
 (e2_0 (x7.1,x7.2.1,x7.2.2.1,x7.2.2.2.1,x7.2.2.2.2.1,())))
def Vs (e0_0:T2->O2) (rec:T87->O2) (x2:T87):O2:=
 (cond (decide (x2.2.2.1<x2.1.length))
 (iter (Ru
 (fun y12=>gd (decide (0<=y12.2.2.2.1))
 (gd (decide (y12.2.2.2.1<=y12.2.2.2.2.1.length))
 (gd (decide (0<=y12.2.2.1))
 (y12.1[y12.2.2.1.toNat]?.bind fun y13=>gd (decide ((y12.2.2.2.2.1.length:Int)<=(y12.2.2.2.2.1.length:Int)))
 (gd (decide (0<=y12.2.2.2.1))
 (gd (decide (y12.2.2.2.1<=(((y12.2.2.2.2.1.length:Int).toNat:Nat):Int)))
 (gd (decide ((([]:List AE).length+(List.drop (0:Int).toNat (List.take y12.2.2.2.1.toNat y12.2.2.2.2.1)).length)<=A_))
 (gd (decide ((([]++(List.drop (0:Int).toNat (List.take y12.2.2.2.1.toNat y12.2.2.2.2.1))).length+(List.length [y13]))<=A_))
 (gd (decide (((([]++(List.drop (0:Int).toNat (List.take y12.2.2.2.1.toNat y12.2.2.2.2.1)))++[y13]).length+(List.drop y12.2.2.2.1.toNat (List.take (y12.2.2.2.2.1.length:Int).toNat y12.2.2.2.2.1)).length)<=A_))
 (rec (y12.1,y12.2.1,wrap .i64 (y12.2.2.1+1),(([]++(List.drop (0:Int).toNat (List.take y12.2.2.2.1.toNat y12.2.2.2.2.1)))++[y13])++(List.drop y12.2.2.2.1.toNat (List.take (y12.2.2.2.2.1.length:Int).toNat y12.2.2.2.2.1)),())))))))))))) Af (x2.1,x2.2.1,x2.2.2.1,(x2.2.2.2.1.length:Int),x2.2.2.2.1,()))
 (e0_0 (x2.2.2.2.1,())))
def vA (a0:List AE) (a1:List Hp):O2:=
 (iter (Vs
 (fun y14=>some (y14.1,()))) Af (a0,a1,0,[],()))
def C65:Av:=⟨[.ro (.slice Ax),.ro (.slice If)],[(.slice Ax,.own .z)],fun z=>vA z.1 z.2.1⟩
def E65:=em 50 [(123,vu)] true [344] [([3,4,5,100001],[0,1,5,6]),([6,7,8,100002,100003],[0,1,5,6,7]),([9,100000],[5]),([99999],[4])] [(200003,[],[5]),(200006,[],[5])]
def L65:List (At T2):=[⟨6,⟨[(0,vS Ax),(1,vS If),(5,vR Ax 41),(6,vI),(7,vI)],[(41,mO Ax)]⟩,fun κ=>Ru (xt κ 2 ⟨[(0,vS Ax),(1,vS If),(5,vR Ax 41),(6,vI),(7,vI)],[(41,mO Ax)]⟩)⟩,
  ⟨3,⟨[(0,vS Ax),(1,vS If),(5,vR Ax 41),(6,vI)],[(41,mO Ax)]⟩,fun κ=>Vs (xt κ 0 ⟨[(5,vR Ax 41)],[(41,mO Ax)]⟩)⟩]
theorem pY:AO prog 65 C65:=tF E65 L65 (aU f65) func65 Ag (.cons mi .nil) (.c L65[1] (.c L65[0] .nil))
def Qj (e2_0:List S8×List BN×Int×Bool×AE×List BN×Unit->O4) (rec:T77->O4) (x10:T77):O4:=
 (cond (decide (x10.2.2.2.2.1<x10.1.length))
 (cond x10.2.2.2.1
 (rec (x10.1,x10.2.1,x10.2.2.1,true,wrap .i64 (x10.2.2.2.2.1+1),x10.2.2.2.2.2.1,x10.2.2.2.2.2.2.1,()))
 (gd (decide (0<=x10.2.2.2.2.1))
 (x10.1[x10.2.2.2.2.1.toNat]?.bind fun y12=>gd (decide (0<=x10.2.2.1))
 (x10.2.1[x10.2.2.1.toNat]?.bind fun y13=>rec (x10.1,x10.2.1,x10.2.2.1,y12==y13.1,wrap .i64 (x10.2.2.2.2.1+1),x10.2.2.2.2.2.1,x10.2.2.2.2.2.2.1,())))))
 (e2_0 (x10.1,x10.2.1,x10.2.2.1,x10.2.2.2.1,x10.2.2.2.2.2.1,x10.2.2.2.2.2.2.1,())))
def Vt (e0_0:yy->O4) (rec:w0->O4) (x4:w0):O4:=
 (cond (decide (x4.2.2.1<x4.2.1.length))
 (let j16:w0->O4:=fun (y17:w0)=>
 (rec (y17.1,y17.2.1,wrap .i64 (y17.2.2.1+1),y17.2.2.2.1,y17.2.2.2.2.1,()))
 (gd (decide (0<=x4.2.2.1))
 (x4.2.1[x4.2.2.1.toNat]?.bind fun y7=>iter (Qj
 (fun y14=>cond y14.2.2.2.1
 (gd (decide (0<=y14.2.2.1))
 (y14.2.1[y14.2.2.1.toNat]?.bind fun y15=>gd (decide ((y14.2.2.2.2.2.1.length+(List.length [y15]))<=A_))
 (j16 (y14.1,y14.2.1,y14.2.2.1,y14.2.2.2.2.1,y14.2.2.2.2.2.1++[y15],()))))
 (j16 (y14.1,y14.2.1,y14.2.2.1,y14.2.2.2.2.1,y14.2.2.2.2.2.1,())))) Af (x4.1,x4.2.1,x4.2.2.1,y7.1==[(105:UInt8),100],0,x4.2.2.2.1,x4.2.2.2.2.1,()))))
 (e0_0 (x4.2.2.2.1,x4.2.2.2.2.1,())))
def xN (a0:AE) (a1:List S8):O4:=
 (cond ((a1.length:Int)==0)
 (some (a0,()))
 ((SN a0.2.2.1).bind fun y1=>iter (Vt
 (fun y18=>(PA y18.2.1).bind fun y19=>some (y19.1,()))) Af (a1,y1.1,0,(0,0,[],()),[],())))
def C66:Av:=⟨[.ro Ax,.ro (.slice .str)],[(Ax,.z)],fun z=>xN z.1 z.2.1⟩
def E66:=en 63 [(100,fX),(124,Zz)] [([3],[1,2,4]),([6,7,8,100001],[1,4,5,7,8]),([10,12,100003],[1,4,5,7,8,9,10]),([13,100002],[1,4,5,7,8,9]),([15,100000],[4,7]),([99999],[4])] []
def L66:List (At T4):=[⟨10,⟨[(1,.pv (.slice .str)),(4,vP 32),(5,vS AX),(7,vR AX 168),(8,vI),(9,.pv .bool),(10,vI)],[(32,mD Ax),(168,mO AX)]⟩,fun κ=>Qj (xt κ 2 ⟨[(1,.pv (.slice .str)),(4,vP 32),(5,vS AX),(7,vR AX 168),(8,vI),(9,.pv .bool)],[(32,mD Ax),(168,mO AX)]⟩)⟩,
  ⟨6,⟨[(1,.pv (.slice .str)),(4,vP 32),(5,vS AX),(7,vR AX 168),(8,vI)],[(32,mD Ax),(168,mO AX)]⟩,fun κ=>Vt (xt κ 0 ⟨[(4,vP 32),(7,vR AX 168)],[(32,mD Ax),(168,mO AX)]⟩)⟩]
theorem pZ:Aa prog 66 C66:=tQ E66 L66 (aU f66) func66 Ag (.cons PU (.cons KU .nil)) (.c L66[1] (.c L66[0] .nil))
def Vu (e0_0:LO×List AE×Unit->O2) (rec:wB->O2) (x2:wB):O2:=
 (cond (decide (x2.2.1<x2.1.length))
 (let j8:wB->O2:=fun (y9:wB)=>
 (rec (y9.1,wrap .i64 (y9.2.1+1),y9.2.2.1,y9.2.2.2.1,()))
 (gd (decide (0<=x2.2.1))
 (x2.1[x2.2.1.toNat]?.bind fun y5=>(xM x2.2.2.1.1 y5).bind fun y6=>cond y6.1
 (gd (decide (0<=x2.2.1))
 (x2.1[x2.2.1.toNat]?.bind fun y7=>gd (decide ((x2.2.2.2.1.length+(List.length [y7]))<=A_))
 (j8 (x2.1,x2.2.1,x2.2.2.1,x2.2.2.2.1++[y7],()))))
 (j8 (x2.1,x2.2.1,x2.2.2.1,x2.2.2.2.1,())))))
 (e0_0 (x2.2.2.1,x2.2.2.2.1,())))
def Qk (e2_0:T2->O2) (rec:wC->O2) (x14:wC):O2:=
 (let j16:wC->O2:=fun (y17:wC)=>
 (gd (decide (0<=y17.1))
 (gd (decide (y17.1<y17.2.2.1.length))
 (y17.2.2.1[y17.1.toNat]?.bind fun y18=>(xN y18 y17.2.1.2.2.2.2.1).bind fun y19=>gd (decide ((y17.2.2.2.1.length+(List.length [y19.1]))<=A_))
 (rec (wrap .i64 (y17.1+1),y17.2.1,y17.2.2.1,y17.2.2.2.1++[y19.1],())))))
 (cond (decide (x14.1<x14.2.2.1.length))
 (cond (x14.2.1.2.2.2.1==0)
 (j16 (x14.1,x14.2.1,x14.2.2.1,x14.2.2.2.1,()))
 (cond (decide ((x14.2.2.2.1.length:Int)<x14.2.1.2.2.2.1))
 (j16 (x14.1,x14.2.1,x14.2.2.1,x14.2.2.2.1,()))
 (e2_0 (x14.2.2.2.1,()))))
 (e2_0 (x14.2.2.2.1,()))))
def xO (a0:LO) (a1:List AE):O2:=
 (iter (Vu
 (fun y10=>(vA y10.2.1 y10.1.2.1).bind fun y11=>iter (Qk
 (fun y20=>some (y20.1,()))) Af (y10.1.2.2.1,y10.1,y11.1,[],()))) Af (a1,0,a0,[],()))
def C25:Av:=⟨[.ro Mi,.ro (.slice Ax)],[(.slice Ax,.own .z)],fun z=>xO z.1 z.2.1⟩
def E25:=em 66 [(64,C64),(65,C65),(66,C66)] true [] [([3,4,5,100001],[1,2,5,6]),([7,100000],[2,5]),([10,12,100003],[2,5,7,8]),([13,100002],[7]),([99999],[4])] []
def L25:List (At T2):=[⟨3,⟨[(1,vS Ax),(2,vP 16),(5,vR Ax 72),(6,vI)],[(16,mD Mi),(72,mO Ax)]⟩,fun κ=>Vu (xt κ 0 ⟨[(2,vP 16),(5,vR Ax 72)],[(16,mD Mi),(72,mO Ax)]⟩)⟩,
  ⟨10,⟨[(2,vP 16),(5,vR Ax 264),(7,vR Ax 272),(8,vI)],[(16,mD Mi),(264,mO Ax),(272,mO Ax)]⟩,fun κ=>Qk (xt κ 2 ⟨[(7,vR Ax 272)],[(272,mO Ax)]⟩)⟩]
theorem p_:AO prog 25 C25:=tF E25 L25 (aU f25) func25 Ag (.cons pX (.consFr pY (.cons pZ .nil))) (.c L25[0] (.c L25[1] .nil))
end
end Go.V
