/- What functions of the program compute, printed by a program of ours. No condition. -/
import Derived.Test.YtnbhnfbeahobeaaGreatDoorWF1
namespace Go.V
open Go.Proofs Go.Proofs.Tryz IntKind
noncomputable section
set_option maxRecDepth 100000
set_option linter.unusedVariables false
def Xz (a0:List AE) (a1:(AE->Option (Bool))):O0:=
 ((xu a0 a1).bind fun y0=>some (decide (y0.1>=0),()))
def pf:Av:=⟨[.ro (.slice Ax),.fn Ax .bool],[(.bool,.z)],fun z=>Xz z.1 z.2.1⟩
def zJ:=en 9 [(80,zI)] [([99999],[4])] []
theorem bs:Aa prog 153 pf:=tQ zJ [] [] func153 Ag (.cons gw .nil) .nil
def pg (a0:Int):O0:=
 ((WH a0 (-1000000000000) 1000000000000).bind fun y0=>some (y0.1,()))
def ui:Av:=⟨[qI],[(.bool,.z)],fun z=>pg z.1⟩
def zK:=en 5 [(41,gl)] [([99999],[2])] []
theorem kP:Aa prog 219 ui:=tQ zK [] [] func219 Ag (.cons Ih .nil) .nil
def XA (a0:Hp) (a1:Int):Option (S8×Hp×Unit):=
 (cond (decide (a1>a0.1.length))
 ((fO [(0:UInt8)] a1).bind fun y1=>some (y1.1,(a0.1,true,a0.2.2),()))
 (gd (decide (0<=a1))
 (gd (decide (a1<=a0.1.length))
 (gd (decide ((a0.1.length:Int)<=(a0.1.length:Int)))
 (gd (decide (0<=a1))
 (gd (decide (a1<=(((a0.1.length:Int).toNat:Nat):Int)))
 (some (List.drop (0:Int).toNat (List.take a1.toNat a0.1),(List.drop a1.toNat (List.take (a0.1.length:Int).toNat a0.1),a0.2),()))))))))
def kQ:Av:=⟨[.io If .z,qI],[(.str,.z)],fun z=>XA z.1 z.2.1⟩
def zL:=en 34 [(208,rO)] [] [(4,[0,1],[4]),(99999,[4],[4])]
theorem Vf:IoOk prog 165 kQ:=tI zL [] [] func165 Ag (.cons jL .nil) (fun p=>.nil)
def Qb (e0_0:T1->O1) (rec:wJ->O1) (x2:wJ):O1:=
 (cond (decide (x2.2.2.2.1<x2.2.2.1))
 (gd (decide (0<=x2.2.2.2.1))
 (x2.2.1[x2.2.2.2.1.toNat]?.bind fun y4=>rec (wrap .i64 (((BitVec.toNat (HOr.hOr (BitVec.ofInt (IntKind.bits IntKind.i64) (wrap .i64 (x2.1*((2:Int) ^ (Min.min (8:Int).toNat (IntKind.bits IntKind.i64)))))) (BitVec.ofInt (IntKind.bits IntKind.i64) (wrap .i64 y4)))):Nat):Int),x2.2.1,x2.2.2.1,wrap .i64 (x2.2.2.2.1+1),())))
 (e0_0 (x2.1,())))
def kR (a0:List Int):O1:=
 (iter (Qb
 (fun y5=>some (y5.1,()))) Af (0,a0,(a0.length:Int),0,()))
def uj:Av:=⟨[.ro (.slice (.int .u8))],[(.int .i64,.z)],fun z=>kR z.1⟩
def zM:=en 19 [] [([3,4,100001],[3,6,7,8]),([7,100000],[3]),([99999],[2])] []
def uk:List (At T1):=[⟨3,⟨[(3,vI),(6,.pv (.slice (.int .u8))),(7,vI),(8,vI)],[]⟩,fun κ=>Qb (xt κ 0 ⟨[(3,vI)],[]⟩)⟩]
theorem kS:Aa prog 209 uj:=tQ zM uk (Dg f209) func209 Ag .nil (.c uk[0] .nil)
def SQ (a0:Hp) (a1:Int):Option (Int×Hp×Unit):=
 ((XA a0 a1).bind fun y0=>(kR (List.map (fun (v4:UInt8)=>(((UInt8.toNat v4):Nat):Int)) y0.1)).bind fun y1=>some (y1.1,y0.2.1,()))
def ph:Av:=⟨[.io If .z,qI],[(.int .i64,.z)],fun z=>SQ z.1 z.2.1⟩
def zO:=en 10 [(165,kQ),(209,uj)] [] [(99999,[4],[4])]
theorem bt:IoOk prog 166 ph:=tI zO [] [] func166 Ag (.consIo Vf (.cons kS .nil)) (fun p=>.nil)
def gx (a0:Hp):Option (AE×Hp×Unit):=
 ((SQ a0 1).bind fun y0=>let j11:Hp×AE×AE×Unit->Option (AE×Hp×Unit):=fun (y12:Hp×AE×AE×Unit)=>
 (some (y12.2.2.1,y12.1,()))
 (cond (y0.1==1)
 ((SQ y0.2.1 1).bind fun y2=>j11 (y2.2.1,(0,0,[],()),(y0.1,y2.1,[],()),()))
 (cond (y0.1==2)
 ((SQ y0.2.1 8).bind fun y3=>j11 (y3.2.1,(0,0,[],()),(y0.1,wrap .i64 (y3.1-4611686018427387904),[],()),()))
 (cond (y0.1==3)
 (cond (y0.1==3)
 ((SQ y0.2.1 2).bind fun y5=>(XA y5.2.1 y5.1).bind fun y6=>j11 (y6.2.1,(0,0,[],()),(y0.1,0,y6.1,()),()))
 (j11 (y0.2.1,(0,0,[],()),(y0.1,0,[],()),())))
 (cond (y0.1==4)
 (cond (y0.1==4)
 ((SQ y0.2.1 2).bind fun y7=>(XA y7.2.1 y7.1).bind fun y8=>j11 (y8.2.1,(0,0,[],()),(y0.1,0,y8.1,()),()))
 (j11 (y0.2.1,(0,0,[],()),(y0.1,0,[],()),())))
 (cond (y0.1==5)
 ((SQ y0.2.1 2).bind fun y9=>(XA y9.2.1 y9.1).bind fun y10=>j11 (y10.2.1,(0,0,[],()),(y0.1,0,y10.1,()),()))
 (j11 (y0.2.1,(0,0,[],()),(y0.1,0,[],()),()))))))))
def pi:Av:=⟨[.io If .z],[(Ax,.z)],fun z=>gx z.1⟩
def zP:=en 30 [(165,kQ),(166,ph)] [] [(11,[2,3],[4]),(100000,[2,3],[4]),(99999,[2],[4])]
theorem bu:IoOk prog 167 pi:=tI zP [] [] func167 Ag (.consIo Vf (.consIo bt .nil)) (fun p=>.nil)
def MY (e0_0:yz->jd) (rec:yz->jd) (x2:yz):jd:=
 (cond (!(x2.1.1==[]))
 (cond (!x2.1.2.1)
 ((SQ x2.1 1).bind fun y4=>(XA y4.2.1 y4.1).bind fun y5=>(gx y5.2.1).bind fun y6=>gd (decide ((x2.2.1.length+(List.length [(y5.1,y6.1,())]))<=A_))
 (rec (y6.2.1,x2.2.1++[(y5.1,y6.1,())],())))
 (e0_0 (x2.1,x2.2.1,())))
 (e0_0 (x2.1,x2.2.1,())))
def SR (a0:AE):jd:=
 (iter (MY
 (fun y7=>some (y7.2.1,!y7.1.2.1,()))) Af ((a0.2.2.1,false,()),[],()))
def dD:Av:=⟨[.ro Ax],[(.slice AX,.own .z),(.bool,.z)],fun z=>SR z.1⟩
def zQ:=em 39 [(165,kQ),(166,ph),(167,pi)] true [] [([2,3,4,100000,100001],[4,5]),([99999],[2,3])] []
def ul:List (At yj):=[⟨2,⟨[(4,vP 72),(5,vR AX 80)],[(72,mD If),(80,mO AX)]⟩,fun κ=>MY (xt κ 0 ⟨[(4,vP 72),(5,vR AX 80)],[(72,mD If),(80,mO AX)]⟩)⟩]
theorem MZ:AO prog 116 dD:=tF zQ ul (Dg f116) func116 Ag (.consIo Vf (.consIo bt (.consIo bu .nil))) (.c ul[0] .nil)
def M' (e0_0:yA->O9) (rec:yA->O9) (x2:yA):O9:=
 (cond (!(x2.1.1==[]))
 (cond (!x2.1.2.1)
 ((gx x2.1).bind fun y4=>gd (decide ((x2.2.1.length+(List.length [y4.1]))<=A_))
 (rec (y4.2.1,x2.2.1++[y4.1],())))
 (e0_0 (x2.1,x2.2.1,())))
 (e0_0 (x2.1,x2.2.1,())))
def LT (a0:AE):O9:=
 (iter (M'
 (fun y5=>some (y5.2.1,!y5.1.2.1,()))) Af ((a0.2.2.1,false,()),[],()))
def dF:Av:=⟨[.ro Ax],[(.slice Ax,.z),(.bool,.z)],fun z=>LT z.1⟩
def zR:=en 34 [(167,pi)] [([2,3,4,100000,100001],[4,5]),([99999],[2,3])] []
def um:List (At T9):=[⟨2,⟨[(4,vP 72),(5,vR Ax 80)],[(72,mD If),(80,mO Ax)]⟩,fun κ=>M' (xt κ 0 ⟨[(4,vP 72),(5,vR Ax 80)],[(72,mD If),(80,mO Ax)]⟩)⟩]
theorem M_:Aa prog 159 dF:=tQ zR um (Dg f159) func159 Ag (.consIo bu .nil) (.c um[0] .nil)
def Qc (e0_0:Bool×List AE×Unit->O9) (rec:T84->O9) (x5:T84):O9:=
 (cond (decide (x5.2.2.1<x5.2.1))
 (gd (decide (0<=x5.2.2.1))
 (gd (decide (x5.2.2.1<x5.2.2.2.1.length))
 (x5.2.2.2.1[x5.2.2.1.toNat]?.bind fun y7=>cond x5.1
 ((nA y7.1).bind fun y8=>cond y8.1
 (cond (x5.2.2.1==0)
 (gd (decide ((x5.2.2.2.2.1.length+(List.length [y7.2.1]))<=A_))
 (rec (true,x5.2.1,wrap .i64 (x5.2.2.1+1),x5.2.2.2.1,x5.2.2.2.2.1++[y7.2.1],())))
 (gd (decide (0<=(wrap .i64 (x5.2.2.1-1))))
 (gd (decide ((wrap .i64 (x5.2.2.1-1))<(x5.2.2.2.1.length:Int)))
 (x5.2.2.2.1[(wrap .i64 (x5.2.2.1-1)).toNat]?.bind fun y9=>gd (decide ((x5.2.2.2.2.1.length+(List.length [y7.2.1]))<=A_))
 (rec (Op.bytesLess y9.1 y7.1,x5.2.1,wrap .i64 (x5.2.2.1+1),x5.2.2.2.1,x5.2.2.2.2.1++[y7.2.1],()))))))
 (gd (decide ((x5.2.2.2.2.1.length+(List.length [y7.2.1]))<=A_))
 (rec (false,x5.2.1,wrap .i64 (x5.2.2.1+1),x5.2.2.2.1,x5.2.2.2.2.1++[y7.2.1],()))))
 (gd (decide ((x5.2.2.2.2.1.length+(List.length [y7.2.1]))<=A_))
 (rec (false,x5.2.1,wrap .i64 (x5.2.2.1+1),x5.2.2.2.1,x5.2.2.2.2.1++[y7.2.1],()))))))
 (e0_0 (x5.1,x5.2.2.2.2.1,())))
def ZE (a0:AE):O9:=
 (cond (a0.1==4)
 ((LT a0).bind fun y1=>some (y1.1,y1.2.1,()))
 ((SR a0).bind fun y2=>iter (Qc
 (fun y10=>some (y10.2.1,y10.1,()))) Af (y2.2.1,(y2.1.length:Int),0,y2.1,[],())))
def uo:Av:=⟨[.ro Ax],[(.slice Ax,.z),(.bool,.z)],fun z=>ZE z.1⟩
def zS:=en 58 [(43,ru),(116,dD),(159,dF)] [([3],[1]),([6,7,100001],[4,5,6,22,23,24]),([11,100000],[5,6]),([99999],[2,3])] []
def uq:List (At T9):=[⟨6,⟨[(4,vR AX 144),(5,.pv .bool),(6,vR Ax 168),(22,vR AX 144),(23,vI),(24,vI)],[(144,mO AX),(168,mO Ax)]⟩,fun κ=>Qc (xt κ 0 ⟨[(5,.pv .bool),(6,vR Ax 168)],[(168,mO Ax)]⟩)⟩]
theorem kT:Aa prog 220 uo:=tQ zS uq (Dg f220) func220 Ag (.cons Rp (.consFr MZ (.cons M_ .nil))) (.c uq[0] .nil)
abbrev Oe:Type:=AE->(Int)->O0
def gy (g:Oe):Av:=⟨[.ro Ax,qI],[(.bool,.z)],fun z=>g z.1 z.2.1⟩
def XB (g:Oe) (a0:AE) (a1:Int):O0:=
 ((g a0 (wrap .i64 (a1-1))).bind fun y0=>some (!y0.1,()))
def pj (g:Oe):Av:=⟨[.ro Ax,.rp (.int .i64)],[(.bool,.z)],fun z=>XB g z.1 z.2.1⟩
def zT (g:Oe):Bf:=⟨9,Et tys,CK ones,Dj [(186,gy g)],false,[],[(99999,[3],[])],none,[],[]⟩
def zU (g:Oe):List (At T0):=[]
theorem bv (g:Oe) (hg:Aa prog 186 (gy g)):Aa prog 221 (pj g):=tQ (zT g) (zU g) [] func221 Ag (.cons hg .nil) .nil
def kU (g:Oe) (a0:AE) (a1:Int):O0:=
 (let j8:Unit->O0:=fun (y9:Unit)=>
 (some (false,()))
 (cond (a0.1==0)
 (some ((decide (a0.1=0))&&((decide (a0.2.1=0))&&((a0.2.2.1==[])&&true)),()))
 (cond (a0.1==1)
 ((WH a0.2.1 0 1).bind fun y1=>cond y1.1
 (some (a0.2.2.1==[],()))
 (some (false,())))
 (cond (a0.1==2)
 ((pg a0.2.1).bind fun y2=>cond y2.1
 (some (a0.2.2.1==[],()))
 (some (false,())))
 (cond (a0.1==3)
 (cond (a0.2.1==0)
 (some (decide ((a0.2.2.1.length:Int)<=300),()))
 (some (false,())))
 (cond (a0.1==4)
 (cond (a0.1==4)
 ((ZE a0).bind fun y4=>cond (a0.2.1==0)
 (cond (decide ((a0.2.2.1.length:Int)<=300))
 (cond (decide (a1>0))
 (cond y4.2.1
 ((Xz y4.1 (fun (v6:AE)=>(Option.map (fun (v7:T0)=>v7.1) (XB g v6 a1)))).bind fun y5=>some (!y5.1,()))
 (some (false,())))
 (some (false,())))
 (some (false,())))
 (some (false,())))
 (j8 (())))
 (cond (a0.1==5)
 ((ZE a0).bind fun y6=>cond (a0.2.1==0)
 (cond (decide ((a0.2.2.1.length:Int)<=300))
 (cond (decide (a1>0))
 (cond y6.2.1
 ((Xz y6.1 (fun (v6:AE)=>(Option.map (fun (v7:T0)=>v7.1) (XB g v6 a1)))).bind fun y7=>some (!y7.1,()))
 (some (false,())))
 (some (false,())))
 (some (false,())))
 (some (false,())))
 (j8 (())))))))))
def zV (g:Oe):Av:=⟨[.ro Ax,qI],[(.bool,.z)],fun z=>kU g z.1 z.2.1⟩
def zW (g:Oe):Bf:=⟨75,Et tys,CK ones,Dj [(41,gl),(153,pf),(219,ui),(220,uo),(221,pj g)],false,[],[(14,[],[]),(100000,[],[]),(99999,[4],[])],none,[],[]⟩
def zX (g:Oe):List (At T0):=[]
theorem kV (g:Oe) (hg:Aa prog 186 (gy g)):Aa prog 186 (zV g):=tQ (zW g) (zX g) [] func186 Ag (.cons Ih (.cons bs (.cons kP (.cons kT (.cons (bv g hg) .nil))))) .nil
def gz:Nat->Oe
  |0=>fun _ _=>none
  |k+1=>kU (gz k)
def dG:Oe:=gz Af
def ur:Av:=gy dG
theorem XC:∀ k,Aa prog 186 (gy (gz k))
  |0=>Aa.none func186 (by rfl) (by decide) fun _=>rfl
  |k+1=>kV (gz k) (XC k)
theorem bw:Aa prog 186 ur:=XC Af
def Ahg:=XB dG
def zY:Av:=pj dG
theorem xw:Aa prog 221 zY:=bv dG bw
def gA (a0:AE):O0:=
 ((dG a0 5).bind fun y0=>some (y0.1,()))
def pm:Av:=⟨[.ro Ax],[(.bool,.z)],fun z=>gA z.1⟩
def zZ:=en 5 [(186,ur)] [([99999],[2])] []
theorem bz:Aa prog 137 pm:=tQ zZ [] [] func137 Ag (.cons bw .nil) .nil
def xx (a0:DC):O0:=
 ((gu a0.2.1).bind fun y1=>cond (!y1.1)
 (some (false,()))
 ((gA a0.2.2.1).bind fun y2=>cond (!y2.1)
 (some (false,()))
 (cond (a0.1==7)
 (some (a0.2.2.1.1==4,()))
 (cond (a0.1==8)
 (some (a0.2.2.1.1==1,()))
 (cond (a0.1==9)
 (cond (a0.2.2.1.1==2)
 ((WH a0.2.2.1.2.1 0 5).bind fun y4=>some (y4.1,()))
 (some (false,())))
 (cond (a0.1==10)
 (cond (a0.2.2.1.1==2)
 (some (decide (a0.2.2.1.2.1>=0),()))
 (some (false,())))
 ((WH a0.1 1 6).bind fun y5=>some (y5.1,()))))))))
def C87:Av:=⟨[.ro GI],[(.bool,.z)],fun z=>xx z.1⟩
def E87:=en 54 [(41,gl),(136,pe),(137,pm)] [([3,12,100000],[1]),([99999],[2])] []
theorem po:Aa prog 87 C87:=tQ E87 [] [] func87 Ag (.cons Ih (.cons bq (.cons bz .nil))) .nil
def z' (a0:DC):O0:=
 ((xx a0).bind fun y0=>some (!y0.1,()))
def C86:Av:=⟨[.ro GI],[(.bool,.z)],fun z=>z' z.1⟩
def E86:=en 6 [(87,C87)] [([99999],[2])] []
theorem pq:Aa prog 86 C86:=tQ E86 [] [] func86 Ag (.cons po .nil) .nil
def xy (a0:HI):O0:=
 (cond (decide ((a0.1.length:Int)>4))
 (some (true,()))
 ((xp a0.1 (fun (v2:DC)=>(Option.map (fun (v3:T0)=>v3.1) (z' v2)))).bind fun y0=>some (y0.1,())))
def C84:Av:=⟨[.ro IC],[(.bool,.z)],fun z=>xy z.1⟩
def E84:=en 12 [(85,zv),(86,C86)] [([99999],[2])] []
theorem pt:Aa prog 84 C84:=tQ E84 [] [] func84 Ag (.cons gn (.cons pq .nil)) .nil
def xz (a0:SG):O0:=
 ((WH (a0.1.length:Int) 1 3).bind fun y0=>cond y0.1
 ((rr a0.1 (fun (v3:HI)=>(Option.map (fun (v4:T0)=>v4.1) (xy v3)))).bind fun y1=>some (!y1.1,()))
 (some (false,())))
def C39:Av:=⟨[.ro Rk],[(.bool,.z)],fun z=>xz z.1⟩
def E39:=en 13 [(41,gl),(83,zt),(84,C84)] [([99999],[2])] []
theorem pu:Aa prog 39 C39:=tQ E39 [] [] func39 Ag (.cons Ih (.cons gm (.cons pt .nil))) .nil
def b5 (e0_0:Unit->O1) (er_1:T1->O1) (rec:List Hp×(Hp->Option (Bool))×Y_->O1) (x2:List Hp×(Hp->Option (Bool))×Y_):O1:=
 (cond (decide (x2.2.2.2.1<x2.2.2.1))
 (gd (decide (0<=x2.2.2.2.1))
 (x2.1[x2.2.2.2.1.toNat]?.bind fun y5=>(x2.2.1 y5).bind fun y6=>cond y6
 (er_1 (x2.2.2.2.1,()))
 (rec (x2.1,x2.2.1,x2.2.2.1,wrap .i64 (x2.2.2.2.1+1),()))))
 (e0_0 (())))
def us (a0:List Hp) (a1:(Hp->Option (Bool))):O1:=
 (iter (b5
 (fun y7=>some (-1,()))
 (fun y8=>some (y8.1,()))) Af (a0,a1,(a0.length:Int),0,()))
def ut:Av:=⟨[.ro (.slice If),.fn If .bool],[(.int .i64,.z)],fun z=>us z.1 z.2.1⟩
def z_:=en 19 [] [([2,3,6,100001],[0,1,7,8]),([7,100000],[]),([99999],[4])] []
def uu:List (At T1):=[⟨2,⟨[(0,vS If),(1,.fnA If .bool),(7,vI),(8,vI)],[]⟩,fun κ=>b5 (xt κ 0 ⟨[],[]⟩) (rt κ ⟨[(4,vI)],[]⟩)⟩]
theorem kW:Aa prog 138 ut:=tQ z_ uu (Dg f138) func138 Ag .nil (.c uu[0] .nil)
def x0 (a0:List Hp) (a1:(Hp->Option (Bool))):O0:=
 ((us a0 a1).bind fun y0=>some (decide (y0.1>=0),()))
def C88:Av:=⟨[.ro (.slice If),.fn If .bool],[(.bool,.z)],fun z=>x0 z.1 z.2.1⟩
def E88:=en 9 [(138,ut)] [([99999],[4])] []
theorem gB:Aa prog 88 C88:=tQ E88 [] [] func88 Ag (.cons kW .nil) .nil
def rx (a0:Hp):O0:=
 ((gu a0.1).bind fun y0=>some (y0.1,()))
def C90:Av:=⟨[.ro If],[(.bool,.z)],fun z=>rx z.1⟩
def E90:=en 6 [(136,pe)] [([99999],[2])] []
theorem gC:Aa prog 90 C90:=tQ E90 [] [] func90 Ag (.cons bq .nil) .nil
def F89 (a0:Hp):O0:=
 ((rx a0).bind fun y0=>some (!y0.1,()))
def C89:Av:=⟨[.ro If],[(.bool,.z)],fun z=>F89 z.1⟩
def E89:=en 6 [(90,C90)] [([99999],[2])] []
theorem px:Aa prog 89 C89:=tQ E89 [] [] func89 Ag (.cons gC .nil) .nil
def xA (a0:List Hp):O0:=
 (cond (decide ((a0.length:Int)<=2))
 ((x0 a0 (fun (v2:Hp)=>(Option.map (fun (v3:T0)=>v3.1) (F89 v2)))).bind fun y0=>some (!y0.1,()))
 (some (false,())))
def C40:Av:=⟨[.ro (.slice If)],[(.bool,.z)],fun z=>xA z.1⟩
def E40:=en 11 [(88,C88),(89,C89)] [([99999],[2])] []
theorem pz:Aa prog 40 C40:=tQ E40 [] [] func40 Ag (.cons gB (.cons px .nil)) .nil
def F92 (a0:S8):O0:=
 ((nA a0).bind fun y0=>some (!y0.1,()))
def C92:Av:=⟨[.ro .str],[(.bool,.z)],fun z=>F92 z.1⟩
def E92:=en 6 [(43,ru)] [([99999],[2])] []
theorem p9:Aa prog 92 C92:=tQ E92 [] [] func92 Ag (.cons Rp .nil) .nil
def xB (a0:List S8):O0:=
 ((xq a0 (fun (v2:S8)=>(Option.map (fun (v3:T0)=>v3.1) (F92 v2)))).bind fun y0=>some (!y0.1,()))
def C42:Av:=⟨[.ro (.slice .str)],[(.bool,.z)],fun z=>xB z.1⟩
def E42:=en 6 [(91,zx),(92,C92)] [([99999],[2])] []
theorem pA:Aa prog 42 C42:=tQ E42 [] [] func42 Ag (.cons gp (.cons p9 .nil)) .nil
def pB (a0:LO):O0:=
 ((xz a0.1).bind fun y0=>cond y0.1
 ((xA a0.2.1).bind fun y1=>cond y1.1
 ((WH a0.2.2.1 0 100).bind fun y2=>cond y2.1
 ((WH a0.2.2.2.1 0 100).bind fun y3=>cond y3.1
 (cond (decide ((a0.2.2.2.2.1.length:Int)<=4))
 ((xB a0.2.2.2.2.1).bind fun y4=>cond y4.1
 (cond (a0.2.2.2.2.2.1==[])
 (some (true,()))
 ((nA a0.2.2.2.2.2.1).bind fun y5=>some (y5.1,())))
 (some (false,())))
 (some (false,())))
 (some (false,())))
 (some (false,())))
 (some (false,())))
 (some (false,())))
def uv:Av:=⟨[.ro Mi],[(.bool,.z)],fun z=>pB z.1⟩
def E14:=en 42 [(39,C39),(40,C40),(41,gl),(42,C42),(43,ru)] [([99999],[2])] []
theorem Vg:Aa prog 14 uv:=tQ E14 [] [] func14 Ag (.cons pu (.cons pz (.cons Ih (.cons pA (.cons Rp .nil))))) .nil
def uw (a0:S8) (a1:S8):O1:=
 ((rK a0 a1).bind fun y0=>some (y0.1,()))
def ux:Av:=⟨[.ro .str,.ro .str],[(.int .i64,.z)],fun z=>uw z.1 z.2.1⟩
def Aae:Bf:=⟨8,Et tys,CK ones,Dj [],false,[],[(99999,[4],[])],none,[(230,rL)],[]⟩
theorem kX:Aa prog 207 ux:=tQ Aae [] [] func207 Ag .nil .nil (hx:=(.cons jI .nil))
def ZF (a0:S8) (a1:S8):O1:=
 ((uw a0 a1).bind fun y0=>some (y0.1,()))
def gD:Av:=⟨[.ro .str,.ro .str],[(.int .i64,.z)],fun z=>ZF z.1 z.2.1⟩
def Aaf:=en 8 [(207,ux)] [([99999],[4])] []
theorem Qd:Aa prog 163 gD:=tQ Aaf [] [] func163 Ag (.cons kX .nil) .nil
def dH (a0:BN) (a1:S8):O1:=
 ((ZF a0.1 a1).bind fun y0=>some (y0.1,()))
def pC:Av:=⟨[.ro AX,.ro .str],[(.int .i64,.z)],fun z=>dH z.1 z.2.1⟩
def Aag:=en 9 [(163,gD)] [([99999],[4])] []
theorem b6:Aa prog 183 pC:=tQ Aag [] [] func183 Ag (.cons Qd .nil) .nil
def b7 (e0_0:List BN×S8×Int×Int×Unit->rh) (rec:rQ->rh) (x2:rQ):rh:=
 (cond (decide (x2.2.2.2.1<x2.2.2.2.2.1))
 (gd (decide (0<=(wrap .i64 (Int.fdiv (IntKind.wrap .u64 (wrap .i64 (x2.2.2.2.1+x2.2.2.2.2.1))) ((2:Int) ^ (Min.min (1:Int).toNat (IntKind.bits IntKind.u64)))))))
 (x2.1[(wrap .i64 (Int.fdiv (IntKind.wrap .u64 (wrap .i64 (x2.2.2.2.1+x2.2.2.2.2.1))) ((2:Int) ^ (Min.min (1:Int).toNat (IntKind.bits IntKind.u64))))).toNat]?.bind fun y4=>(dH y4 x2.2.1).bind fun y5=>cond (decide (y5.1<0))
 (rec (x2.1,x2.2.1,x2.2.2.1,wrap .i64 ((wrap .i64 (Int.fdiv (IntKind.wrap .u64 (wrap .i64 (x2.2.2.2.1+x2.2.2.2.2.1))) ((2:Int) ^ (Min.min (1:Int).toNat (IntKind.bits IntKind.u64)))))+1),x2.2.2.2.2.1,()))
 (rec (x2.1,x2.2.1,x2.2.2.1,x2.2.2.2.1,wrap .i64 (Int.fdiv (IntKind.wrap .u64 (wrap .i64 (x2.2.2.2.1+x2.2.2.2.2.1))) ((2:Int) ^ (Min.min (1:Int).toNat (IntKind.bits IntKind.u64)))),()))))
 (e0_0 (x2.1,x2.2.1,x2.2.2.1,x2.2.2.2.1,())))
def pD (a0:List BN) (a1:S8) (a2:(Unit)):rh:=
 (iter (b7
 (fun y6=>cond (decide (y6.2.2.2.1<y6.2.2.1))
 (gd (decide (0<=y6.2.2.2.1))
 (y6.1[y6.2.2.2.1.toNat]?.bind fun y7=>(dH y7 y6.2.1).bind fun y8=>some (y6.2.2.2.1,y8.1==0,())))
 (some (y6.2.2.2.1,false,())))) Af (a0,a1,(a0.length:Int),0,(a0.length:Int),()))
def uy:Av:=⟨[.ro (.slice AX),.ro .str,.st 183 []],[(.int .i64,.z),(.bool,.z)],fun z=>pD z.1 z.2.1 z.2.2.1⟩
def Aah:=en 49 [(183,pC)] [([3,4,100001],[0,1,2,8,9,10]),([8,100000],[0,1,2,8,9]),([99999],[6,7])] []
def uz:List (At T27):=[⟨3,⟨[(0,vS AX),(1,.pv .str),(2,.clo 183 []),(8,vI),(9,vI),(10,vI)],[]⟩,fun κ=>b7 (xt κ 0 ⟨[(0,vS AX),(1,.pv .str),(2,.clo 183 []),(8,vI),(9,vI)],[]⟩)⟩]
theorem kY:Aa prog 182 uy:=tQ Aah uz (Dg f182) func182 Ag (.cons b6 .nil) (.c uz[0] .nil)
def kZ (a0:List BN) (a1:S8):rh:=
 ((pD a0 a1 ()).bind fun y0=>some (y0.1,y0.2.1,()))
def u0:Av:=⟨[.ro (.slice AX),.ro .str],[(.int .i64,.z),(.bool,.z)],fun z=>kZ z.1 z.2.1⟩
def Aai:=en 11 [(182,uy),(183,pC)] [([99999],[4,5])] []
theorem k_:Aa prog 133 u0:=tQ Aai [] [] func133 Ag (.cons kY (.cons b6 .nil)) .nil
def u3 (a0:AE) (a1:S8):rf:=
 ((SR a0).bind fun y0=>(kZ y0.1 a1).bind fun y1=>cond (!y1.2.1)
 (some ((0,0,[],()),false,()))
 (gd (decide (0<=y1.1))
 (gd (decide (y1.1<y0.1.length))
 (y0.1[y1.1.toNat]?.bind fun y3=>some (y3.2.1,true,())))))
def C81:Av:=⟨[.ro Ax,.ro .str],[(Ax,.z),(.bool,.z)],fun z=>u3 z.1 z.2.1⟩
def E81:=en 29 [(116,dD),(133,u0)] [([5],[4,6,8]),([99999],[4,5])] []
theorem gE:Aa prog 81 C81:=tQ E81 [] [] func81 Ag (.consFr MZ (.cons k_ .nil)) .nil
def lc (a0:AE):rh:=
 ((u3 a0 [(105:UInt8),100]).bind fun y0=>cond (y0.1.1==2)
 ((WH y0.1.2.1 0 99).bind fun y1=>some (y0.1.2.1,y1.1,()))
 (some (y0.1.2.1,false,())))
def u4:Av:=⟨[.ro Ax],[(.int .i64,.z),(.bool,.z)],fun z=>lc z.1⟩
def E36:=en 21 [(41,gl),(81,C81)] [([99999],[2,3])] []
theorem Vh:Aa prog 36 u4:=tQ E36 [] [] func36 Ag (.cons Ih (.cons gE .nil)) .nil
def ld (a0:AE):O0:=
 (cond (a0.1==5)
 ((gA a0).bind fun y0=>some (y0.1,()))
 (some (false,())))
def u5:Av:=⟨[.ro Ax],[(.bool,.z)],fun z=>ld z.1⟩
def Aak:=en 10 [(137,pm)] [([99999],[2])] []
theorem lf:Aa prog 107 u5:=tQ Aak [] [] func107 Ag (.cons bz .nil) .nil
def xC (a0:AE):O0:=
 ((ld a0).bind fun y1=>cond (!y1.1)
 (some (false,()))
 ((lc a0).bind fun y2=>some (y2.2.1,())))
def C58:Av:=⟨[.ro Ax],[(.bool,.z)],fun z=>xC z.1⟩
def E58:=en 14 [(36,u4),(107,u5)] [([3],[1]),([99999],[2])] []
theorem pE:Aa prog 58 C58:=tQ E58 [] [] func58 Ag (.cons Vh (.cons lf .nil)) .nil
def Rq (e0_0:T2->O0) (er_1:T0->O0) (rec:T89->O0) (x2:T89):O0:=
 (cond (decide (x2.2.2.2.2.1<x2.2.2.2.1))
 (gd (decide (0<=x2.2.2.2.2.1))
 (x2.2.2.1[x2.2.2.2.2.1.toNat]?.bind fun y5=>(xC y5).bind fun y7=>cond (!y7.1)
 (er_1 (false,()))
 ((lc y5).bind fun y8=>cond (decide (y8.1<=x2.2.1))
 (er_1 (false,()))
 (rec (x2.1,y8.1,x2.2.2.1,x2.2.2.2.1,wrap .i64 (x2.2.2.2.2.1+1),())))))
 (e0_0 (x2.1,())))
def u6 (a0:List AE):O0:=
 (iter (Rq
 (fun y10=>some (decide ((y10.1.length:Int)<=20),()))
 (fun y11=>some (y11.1,()))) Af (a0,-1,a0,(a0.length:Int),0,()))
def C22:Av:=⟨[.ro (.slice Ax)],[(.bool,.z)],fun z=>u6 z.1⟩
def E22:=en 30 [(36,u4),(58,C58)] [([3,4,11,100001],[0,3,8,9,10]),([7],[0,3,5,8,9,10]),([10],[0,6,8,9,10]),([12,100000],[0]),([99999],[2])] []
def L22:List (At T0):=[⟨3,⟨[(0,vS Ax),(3,vI),(8,vS Ax),(9,vI),(10,vI)],[]⟩,fun κ=>Rq (xt κ 0 ⟨[(0,vS Ax)],[]⟩) (rt κ ⟨[(2,.pv .bool)],[]⟩)⟩]
theorem gF:Aa prog 22 C22:=tQ E22 L22 (Dg f22) func22 Ag (.cons Vh (.cons pE .nil)) (.c L22[0] .nil)
def gG (e0_0:Int×List AE×Unit->O2) (rec:(AE->Option (Bool))×wQ->O2) (x4:(AE->Option (Bool))×wQ):O2:=
 (cond (decide (x4.2.2.1<x4.2.2.2.1.length))
 (let j10:(AE->Option (Bool))×wQ->O2:=fun (y11:(AE->Option (Bool))×wQ)=>
 (rec (y11.1,y11.2.1,wrap .i64 (y11.2.2.1+1),y11.2.2.2.1,()))
 (gd (decide (0<=x4.2.2.1))
 (gd (decide (x4.2.2.1<x4.2.2.2.1.length))
 (x4.2.2.2.1[x4.2.2.1.toNat]?.bind fun y7=>(x4.1 y7).bind fun y8=>cond (!y8)
 (gd (decide (0<=x4.2.1))
 (gd (decide (x4.2.1<x4.2.2.2.1.length))
 (x4.2.2.2.1[x4.2.1.toNat]?.bind fun y9=>j10 (x4.1,wrap .i64 (x4.2.1+1),x4.2.2.1,List.set x4.2.2.2.1 x4.2.1.toNat y7,()))))
 (j10 (x4.1,x4.2.1,x4.2.2.1,x4.2.2.2.1,()))))))
 (e0_0 (x4.2.1,x4.2.2.2.1,())))
def u7 (a0:List AE) (a1:(AE->Option (Bool))):O2:=
 ((xu a0 a1).bind fun y0=>cond (y0.1==(-1))
 (some (a0,()))
 (iter (gG
 (fun y12=>gd (decide ((y12.2.1.length:Int)<=(y12.2.1.length:Int)))
 (gd (decide (0<=y12.1))
 (gd (decide (y12.1<=(((y12.2.1.length:Int).toNat:Nat):Int)))
 (gd (decide (0<=y12.1))
 (gd (decide (y12.1<=(((HG Ax y12.2.1 y12.1.toNat (y12.2.1.length:Int).toNat).length:Nat):Int)))
 (some (pre (Ty.slice (Ty.pair (Ty.int IntKind.i64) (Ty.pair (Ty.int IntKind.i64) (Ty.pair Ty.str Ty.unit)))) (HG Ax y12.2.1 y12.1.toNat (y12.2.1.length:Int).toNat) y12.1.toNat,())))))))) Af (a1,y0.1,wrap .i64 (y0.1+1),a0,())))
def C33:Av:=⟨[.tk (.slice Ax) (.own .z),.fn Ax .bool],[(.slice Ax,.own .z)],fun z=>u7 z.1 z.2.1⟩
def E33:=em 42 [(80,zI)] true [] [([4],[0,1,5]),([5,6,7,100001],[0,1,5,6]),([11,100000],[0,5]),([99999],[4])] []
def L33:List (At T2):=[⟨5,⟨[(0,vR Ax 4),(1,.fnA Ax .bool),(5,vI),(6,vI)],[(4,mO Ax)]⟩,fun κ=>gG (xt κ 0 ⟨[(0,vR Ax 4),(5,vI)],[(4,mO Ax)]⟩)⟩]
theorem gH:IoOk prog 33 C33:=tT E33 L33 (Dg f33) func33 Ag (.cons gw .nil) (.c L33[0] .nil)
def ry (a0:List AE):O2:=
 (let j1:T2->O2:=fun (y2:T2)=>
 (gd (decide ((([]:List AE).length+y2.1.length)<=A_))
 (some ([]++y2.1,())))
 (cond (List.isEmpty a0)
 (both
 (some ([],()))
 (j1 (a0,())))
 (j1 (a0,()))))
def xD:Av:=⟨[.ro (.slice Ax)],[(.slice Ax,.own .z)],fun z=>ry z.1⟩
def E34:=em 8 [] true [] [([3],[0]),([99999],[2])] []
theorem ZG:AO prog 34 xD:=tF E34 [] [] func34 Ag .nil .nil
abbrev Vi:Type:=AE->(List S8)->O2
def lg (g:Vi):Av:=⟨[.ro Ax,.ro (.slice .str)],[(.slice Ax,.own .z)],fun z=>g z.1 z.2.1⟩
def Na (g:Vi) (e1_0:T2->O2) (rec:w6->O2) (x11:w6):O2:=
 (cond (decide (x11.2.2.2.1<x11.2.2.1))
 (let j16:w6->O2:=fun (y17:w6)=>
 (rec (y17.1,y17.2.1,y17.2.2.1,wrap .i64 (y17.2.2.2.1+1),y17.2.2.2.2.1,()))
 (gd (decide (0<=x11.2.2.2.1))
 (x11.2.1[x11.2.2.2.1.toNat]?.bind fun y14=>cond (y14.1==5)
 ((g y14 x11.1).bind fun y15=>gd (decide ((x11.2.2.2.2.1.length+y15.1.length)<=A_))
 (j16 (x11.1,x11.2.1,x11.2.2.1,x11.2.2.2.1,x11.2.2.2.2.1++y15.1,())))
 (j16 (x11.1,x11.2.1,x11.2.2.1,x11.2.2.2.1,x11.2.2.2.2.1,())))))
 (e1_0 (x11.2.2.2.2.1,())))
def lh (g:Vi) (a0:AE) (a1:List S8):O2:=
 (cond ((a1.length:Int)==0)
 (let j3:T2->O2:=fun (y4:T2)=>
 (some (y4.1,()))
 (cond (a0.1==4)
 ((LT a0).bind fun y2=>gd (decide ((([]++[a0]).length+y2.1.length)<=A_))
 (j3 (([]++[a0])++y2.1,())))
 (j3 ([]++[a0],()))))
 (let j19:T2->O2:=fun (y20:T2)=>
 (some (y20.1,()))
 (cond (a0.1==5)
 (a1[(0:Int).toNat]?.bind fun y6=>(u3 a0 y6).bind fun y7=>cond y7.2.1
 (gd (decide ((a1.length:Int)<=(a1.length:Int)))
 (gd (decide (1<=(((a1.length:Int).toNat:Nat):Int)))
 ((g y7.1 (List.drop (1:Int).toNat (List.take (a1.length:Int).toNat a1))).bind fun y8=>some (y8.1,()))))
 (j19 ([],())))
 (cond (a0.1==4)
 ((LT a0).bind fun y9=>iter (Na g
 (fun y18=>j19 (y18.1,()))) Af (a1,y9.1,(y9.1.length:Int),0,[],()))
 (j19 ([],()))))))
def Aan (g:Vi):Av:=⟨[.ro Ax,.ro (.slice .str)],[(.slice Ax,.own .z)],fun z=>lh g z.1 z.2.1⟩
def Aao (g:Vi):Bf:=⟨74,Et tys,CK ones,Dj [(81,C81),(159,dF),(194,lg g)],true,[],[(7,[5],[]),(8,[1,2,5],[]),(16,[1,5,58,59,60],[]),(17,[1,5,58,59,60],[]),(20,[1,5,58,59,60],[]),(21,[5],[]),(100000,[5],[]),(100001,[5],[]),(100002,[1,5,58,59,60],[]),(99999,[4],[])],none,[],[]⟩
def u9 (g:Vi):List (At T2):=[⟨16,⟨[(1,.pv (.slice .str)),(5,vR Ax 112),(58,vS Ax),(59,vI),(60,vI)],[(112,mO Ax)]⟩,fun κ=>Na g (xt κ 1 ⟨[(5,vR Ax 112)],[(112,mO Ax)]⟩)⟩]
theorem lj (g:Vi) (hg:AO prog 194 (lg g)):AO prog 194 (Aan g):=tF (Aao g) (u9 g) (Dg f194) func194 Ag (.cons gE (.cons M_ (.consFr hg .nil))) (.c ((u9 g)[0]'(Nat.le_of_ble_eq_true rfl)) .nil)
def gI:Nat->Vi
  |0=>fun _ _=>none
  |k+1=>lh (gI k)
def pF:Vi:=gI Af
def uA:Av:=lg pF
theorem XD:∀ k,AO prog 194 (lg (gI k))
  |0=>AO.none func194 (by rfl) (by decide) fun _=>rfl
  |k+1=>lj (gI k) (XD k)
theorem lk:AO prog 194 uA:=XD Af
def gJ (a0:AE) (a1:S8):O2:=
 ((gr a1 [(46:UInt8)]).bind fun y0=>(pF a0 y0.1).bind fun y1=>some (y1.1,()))
def pG:Av:=⟨[.ro Ax,.ro .str],[(.slice Ax,.own .z)],fun z=>gJ z.1 z.2.1⟩
def Aap:=em 9 [(184,oZ),(194,uA)] true [] [([99999],[4])] []
theorem b8:AO prog 152 pG:=tF Aap [] [] func152 Ag (.cons bp (.consFr lk .nil)) .nil
def Vj (e0_0:T1->O1) (er_1:T1->O1) (rec:wJ->O1) (x2:wJ):O1:=
 (cond (decide (x2.2.2.2.1<x2.2.2.1))
 (gd (decide (0<=x2.2.2.2.1))
 (x2.2.1[x2.2.2.2.1.toNat]?.bind fun y5=>cond (y5 != x2.1)
 (er_1 (y5,()))
 (rec (x2.1,x2.2.1,x2.2.2.1,wrap .i64 (x2.2.2.2.1+1),()))))
 (e0_0 (x2.1,())))
def dI (a0:List Int):O1:=
 (iter (Vj
 (fun y6=>some (y6.1,()))
 (fun y7=>some (y7.1,()))) Af (0,a0,(a0.length:Int),0,()))
def lm:Av:=⟨[.ro (.slice (.int .i64))],[(.int .i64,.z)],fun z=>dI z.1⟩
def Aaq:=en 18 [] [([3,4,7,100001],[3,6,7,8]),([8,100000],[3]),([99999],[2])] []
def uB:List (At T1):=[⟨3,⟨[(3,vI),(6,.pv (.slice (.int .i64))),(7,vI),(8,vI)],[]⟩,fun κ=>Vj (xt κ 0 ⟨[(3,vI)],[]⟩) (rt κ ⟨[(2,vI)],[]⟩)⟩]
theorem Vk:Aa prog 157 lm:=tQ Aaq uB (Dg f157) func157 Ag .nil (.c uB[0] .nil)
def ln (a0:Int):O0:=
 (some (a0 != a0,()))
def uC:Av:=⟨[qI],[(.bool,.z)],fun z=>ln z.1⟩
def Aar:=en 6 [] [([99999],[2])] []
theorem lq:Aa prog 206 uC:=tQ Aar [] [] func206 Ag .nil .nil
def XE (a0:Int) (a1:Int):O1:=
 ((ln a0).bind fun y0=>(ln a1).bind fun y1=>cond y0.1
 (cond y1.1
 (some (0,()))
 (some (-1,())))
 (cond y1.1
 (some (1,()))
 (cond (decide (a0<a1))
 (some (-1,()))
 (cond (decide (a0>a1))
 (some (1,()))
 (some (0,()))))))
def lr:Av:=⟨[qI,qI],[(.int .i64,.z)],fun z=>XE z.1 z.2.1⟩
def Aas:=en 20 [(206,uC)] [([6,13],[]),([7],[0,1,6]),([9,11],[0,1]),([99999],[4])] []
theorem Vl:Aa prog 158 lr:=tQ Aas [] [] func158 Ag (.cons lq .nil) .nil
end
end Go.V
