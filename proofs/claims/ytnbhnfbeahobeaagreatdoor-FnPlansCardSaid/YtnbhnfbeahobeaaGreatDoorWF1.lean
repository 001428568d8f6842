/- What functions of the program compute, printed by a program of ours. No condition. -/
import Derived.Test.YtnbhnfbeahobeaaGreatDoorWF0
namespace Go.V
open Go.Proofs Go.Proofs.Tryz IntKind
noncomputable section
set_option maxRecDepth 100000
set_option linter.unusedVariables false
def ki (a0:AE):O1:=
 ((f_ a0 [(105:UInt8),100]).bind fun y0=>cond (!y0.2.1)
 (some (-1,()))
 (cond (y0.1.1 != 2)
 (some (-1,()))
 ((TC y0.1.2.1 0 99).bind fun y2=>cond (!y2.1)
 (some (-1,()))
 (some (y0.1.2.1,())))))
def xh:Av:=⟨[.ro Ax],[(.int .i64,.z)],fun z=>ki z.1⟩
def E54:=en 25 [(51,jW),(103,oJ)] [([4],[3]),([99999],[2])] []
theorem ZD:Aa prog 54 xh:=tQ E54 [] [] func54 Ag (.cons Ke (.cons ba .nil)) .nil
def U_ (e0_0:T2->O0) (er_1:T0->O0) (rec:ol->O0) (x2:ol):O0:=
 (cond (decide (x2.2.1<x2.1.length))
 (let j13:ol->O0:=fun (y14:ol)=>
 (rec (y14.1,wrap .i64 (y14.2.1+1),()))
 (gd (decide (0<=x2.2.1))
 (x2.1[x2.2.1.toNat]?.bind fun y5=>(xg y5).bind fun y6=>cond (!y6.1)
 (er_1 (false,()))
 (gd (decide (0<=x2.2.1))
 (x2.1[x2.2.1.toNat]?.bind fun y7=>(ki y7).bind fun y8=>cond (decide (y8.1<0))
 (er_1 (false,()))
 (cond (decide (x2.2.1>0))
 (gd (decide (0<=(wrap .i64 (x2.2.1-1))))
 (x2.1[(wrap .i64 (x2.2.1-1)).toNat]?.bind fun y9=>(ki y9).bind fun y10=>gd (decide (0<=x2.2.1))
 (x2.1[x2.2.1.toNat]?.bind fun y11=>(ki y11).bind fun y12=>cond (decide (y10.1>=y12.1))
 (er_1 (false,()))
 (j13 (x2.1,x2.2.1,())))))
 (j13 (x2.1,x2.2.1,()))))))))
 (e0_0 (x2.1,())))
def tz (a0:List AE):O0:=
 (iter (U_
 (fun y15=>some (decide ((y15.1.length:Int)<=20),()))
 (fun y16=>some (y16.1,()))) Af (a0,0,()))
def zb:Av:=⟨[.ro (.slice Ax)],[(.bool,.z)],fun z=>tz z.1⟩
def E20:=en 45 [(53,C53),(54,xh)] [([2,3,4,100001],[0,3]),([6,100000],[0]),([99999],[2])] []
def L20:List (At T0):=[⟨2,⟨[(0,vS Ax),(3,vI)],[]⟩,fun κ=>U_ (xt κ 0 ⟨[(0,vS Ax)],[]⟩) (rt κ ⟨[(2,.pv .bool)],[]⟩)⟩]
theorem ga:Aa prog 20 zb:=tQ E20 L20 (Dg f20) func20 Ag (.cons oI (.cons ZD .nil)) (.c L20[0] .nil)
def zc:sC:=
 (some (([(1,[],())],2,()),()))
def C55:Av:=⟨[],[(JG,.z)],fun z=>zc⟩
def E55:=en 5 [] [([99999],[0])] []
theorem oK:Aa prog 55 C55:=tQ E55 [] [] func55 Ag .nil .nil
abbrev Va:Type:=AE->(List S8)->O2
def kj (g:Va):Av:=⟨[.ro Ax,.ro (.slice .str)],[(.slice Ax,.z)],fun z=>g z.1 z.2.1⟩
def MR (g:Va) (e1_0:T2->O2) (rec:w7->O2) (x13:w7):O2:=
 (cond (decide (x13.2.2.1<x13.2.1.length))
 (let j19:w7->O2:=fun (y20:w7)=>
 (rec (y20.1,y20.2.1,wrap .i64 (y20.2.2.1+1),y20.2.2.2.1,()))
 (gd (decide (0<=x13.2.2.1))
 (x13.2.1[x13.2.2.1.toNat]?.bind fun y16=>cond (y16.1==5)
 (gd (decide (0<=x13.2.2.1))
 (x13.2.1[x13.2.2.1.toNat]?.bind fun y17=>(g y17 x13.1).bind fun y18=>gd (decide ((x13.2.2.2.1.length+y18.1.length)<=A_))
 (j19 (x13.1,x13.2.1,x13.2.2.1,x13.2.2.2.1++y18.1,()))))
 (j19 (x13.1,x13.2.1,x13.2.2.1,x13.2.2.2.1,())))))
 (e1_0 (x13.2.2.2.1,())))
def kl (g:Va) (a0:AE) (a1:List S8):O2:=
 (cond ((a1.length:Int)==0)
 (let j3:T2->O2:=fun (y4:T2)=>
 (some (y4.1,()))
 (cond (a0.1==4)
 ((LP a0.2.2.1).bind fun y2=>gd (decide (((List.length [a0])+y2.1.length)<=A_))
 (j3 ([a0]++y2.1,())))
 (j3 ([a0],()))))
 (cond (a0.1==5)
 (a1[(0:Int).toNat]?.bind fun y6=>(f_ a0 y6).bind fun y7=>cond (!y7.2.1)
 (some ([],()))
 (gd (decide ((a1.length:Int)<=(a1.length:Int)))
 (gd (decide (1<=(((a1.length:Int).toNat:Nat):Int)))
 ((g y7.1 (List.drop (1:Int).toNat (List.take (a1.length:Int).toNat a1))).bind fun y9=>some (y9.1,())))))
 (cond (a0.1==4)
 ((LP a0.2.2.1).bind fun y10=>iter (MR g
 (fun y21=>some (y21.1,()))) Af (a1,y10.1,0,[],()))
 (some ([],())))))
def zd (g:Va):Av:=⟨[.ro Ax,.ro (.slice .str)],[(.slice Ax,.z)],fun z=>kl g z.1 z.2.1⟩
def ze (g:Va):Bf:=⟨82,Et tys,CK ones,Dj [(103,oJ),(188,d8),(222,kj g)],false,[],[(6,[5],[]),(7,[1,2],[]),(12,[1,8],[]),(17,[1,10,11,13],[]),(18,[1,10,11,13],[]),(19,[1,10,11,13],[]),(21,[10],[]),(22,[],[]),(100000,[],[]),(100001,[10],[]),(100002,[1,10,11,13],[]),(99999,[4],[])],none,[],[]⟩
def t6 (g:Va):List (At T2):=[⟨17,⟨[(1,.pv (.slice .str)),(10,vR Ax 424),(11,vS Ax),(13,vI)],[(424,mO Ax)]⟩,fun κ=>MR g (xt κ 1 ⟨[(10,vR Ax 424)],[(424,mO Ax)]⟩)⟩]
theorem km (g:Va) (hg:Aa prog 222 (kj g)):Aa prog 222 (zd g):=tQ (ze g) (t6 g) (Dg f222) func222 Ag (.cons ba (.cons MM (.cons hg .nil))) (.c ((t6 g)[0]'(Nat.le_of_ble_eq_true rfl)) .nil)
def gb:Nat->Va
  |0=>fun _ _=>none
  |k+1=>kl (gb k)
def oL:Va:=gb Af
def t7:Av:=kj oL
theorem Xx:∀ k,Aa prog 222 (kj (gb k))
  |0=>Aa.none func222 (by rfl) (by decide) fun _=>rfl
  |k+1=>km (gb k) (Xx k)
theorem kn:Aa prog 222 t7:=Xx Af
def dB (a0:AE) (a1:S8):O2:=
 ((dA a1 46).bind fun y0=>(oL a0 y0.1).bind fun y1=>some (y1.1,()))
def ko:Av:=⟨[.ro Ax,.ro .str],[(.slice Ax,.z)],fun z=>dB z.1 z.2.1⟩
def zf:=en 9 [(102,oH),(222,t7)] [([99999],[4])] []
theorem Vb:Aa prog 191 ko:=tQ zf [] [] func191 Ag (.cons a_ (.cons kn .nil)) .nil
def MS (e2_0:List AE×Int×Bool×List AE×Unit->O2) (rec:T85->O2) (x9:T85):O2:=
 (cond (decide (x9.2.2.2.1<x9.2.2.2.2.1.length))
 (cond x9.2.2.1
 (rec (x9.1,x9.2.1,true,wrap .i64 (x9.2.2.2.1+1),x9.2.2.2.2.1,()))
 (gd (decide (0<=x9.2.2.2.1))
 (gd (decide (x9.2.2.2.1<x9.2.2.2.2.1.length))
 (x9.2.2.2.2.1[x9.2.2.2.1.toNat]?.bind fun y11=>gd (decide (0<=x9.2.1))
 (x9.1[x9.2.1.toNat]?.bind fun y12=>rec (x9.1,x9.2.1,(decide (y11.1=y12.1))&&((decide (y11.2.1=y12.2.1))&&((y11.2.2.1==y12.2.2.1)&&true)),wrap .i64 (x9.2.2.2.1+1),x9.2.2.2.2.1,()))))))
 (e2_0 (x9.1,x9.2.1,x9.2.2.1,x9.2.2.2.2.1,())))
def PW (e0_0:T2->O2) (rec:wH->O2) (x4:wH):O2:=
 (cond (decide (x4.2.1<x4.1.length))
 (let j15:wH->O2:=fun (y16:wH)=>
 (rec (y16.1,wrap .i64 (y16.2.1+1),y16.2.2.1,()))
 (iter (MS
 (fun y13=>cond (!y13.2.2.1)
 (gd (decide (0<=y13.2.1))
 (y13.1[y13.2.1.toNat]?.bind fun y14=>gd (decide ((y13.2.2.2.1.length+(List.length [y14]))<=A_))
 (j15 (y13.1,y13.2.1,y13.2.2.2.1++[y14],()))))
 (j15 (y13.1,y13.2.1,y13.2.2.2.1,())))) Af (x4.1,x4.2.1,false,0,x4.2.2.1,())))
 (e0_0 (x4.2.2.1,())))
def kp (a0:AE) (a1:S8):O2:=
 ((dB a0 a1).bind fun y0=>cond ((y0.1.length:Int)==0)
 (some ([(0,0,[],())],()))
 (iter (PW
 (fun y17=>some (y17.1,()))) Af (y0.1,0,[],())))
def t8:Av:=⟨[.ro Ax,.ro .str],[(.slice Ax,.z)],fun z=>kp z.1 z.2.1⟩
def zg:=en 53 [(191,ko)] [([4],[5]),([6,7,8,100001],[5,6,7]),([10,12,100003],[5,6,7,8,9]),([13,100002],[5,6,7,8]),([15,100000],[6]),([99999],[4])] []
def oM:List (At T2):=[⟨10,⟨[(5,vS Ax),(6,vR Ax 144),(7,vI),(8,.pv .bool),(9,vI)],[(144,mO Ax)]⟩,fun κ=>MS (xt κ 2 ⟨[(5,vS Ax),(6,vR Ax 144),(7,vI),(8,.pv .bool)],[(144,mO Ax)]⟩)⟩,
  ⟨6,⟨[(5,vS Ax),(6,vR Ax 144),(7,vI)],[(144,mO Ax)]⟩,fun κ=>PW (xt κ 0 ⟨[(6,vR Ax 144)],[(144,mO Ax)]⟩)⟩]
theorem kq:Aa prog 148 t8:=tQ zg oM (aU f148) func148 Ag (.cons Vb .nil) (.c oM[1] (.c oM[0] .nil))
def PX (e0_0:T6->O5) (rec:q_->O5) (x2:q_):O5:=
 (cond (decide (x2.2.1<x2.1.length))
 (gd (decide (0<=x2.2.1))
 (x2.1[x2.2.1.toNat]?.bind fun y4=>gd (decide ((x2.2.2.1.length+(List.length [IntKind.wrap .u8 (255-(((UInt8.toNat y4):Nat):Int))]))<=A_))
 (rec (x2.1,wrap .i64 (x2.2.1+1),x2.2.2.1++[IntKind.wrap .u8 (255-(((UInt8.toNat y4):Nat):Int))],()))))
 (e0_0 (x2.2.2.1,())))
def ge (a0:S8):O5:=
 (iter (PX
 (fun y5=>some ((List.map (fun (v4:Int)=>(UInt8.ofNat v4.toNat)) y5.1),()))) Af (a0,0,[],()))
def oN:Av:=⟨[.ro .str],[(.str,.z)],fun z=>ge z.1⟩
def zh:=en 21 [] [([3,5,100001],[0,3,4]),([6,100000],[3]),([99999],[2])] []
def tA:List (At T5):=[⟨3,⟨[(0,.pv .str),(3,.ref (.slice (.int .u8)) 40 []),(4,vI)],[(40,.data false (.slice (.int .u8)) (.own .z))]⟩,fun κ=>PX (xt κ 0 ⟨[(3,.ref (.slice (.int .u8)) 40 [])],[(40,.data false (.slice (.int .u8)) (.own .z))]⟩)⟩]
theorem bc:Aa prog 192 oN:=tQ zh tA (Dg f192) func192 Ag .nil (.c tA[0] .nil)
def PY (e0_0:T6->O5) (rec:q_->O5) (x2:q_):O5:=
 (cond (decide (x2.2.1<x2.1.length))
 (let j7:q_->O5:=fun (y8:q_)=>
 (rec (y8.1,wrap .i64 (y8.2.1+1),y8.2.2.1,()))
 (gd (decide (0<=x2.2.1))
 (x2.1[x2.2.1.toNat]?.bind fun y5=>gd (decide ((x2.2.2.1.length+(List.length [(((UInt8.toNat y5):Nat):Int)]))<=A_))
 (gd (decide (0<=x2.2.1))
 (x2.1[x2.2.1.toNat]?.bind fun y6=>cond ((((UInt8.toNat y6):Nat):Int)==0)
 (gd (decide (((x2.2.2.1++[(((UInt8.toNat y5):Nat):Int)]).length+([(255:Int)]:List Int).length)<=A_))
 (j7 (x2.1,x2.2.1,(x2.2.2.1++[(((UInt8.toNat y5):Nat):Int)])++[(255:Int)],())))
 (j7 (x2.1,x2.2.1,x2.2.2.1++[(((UInt8.toNat y5):Nat):Int)],())))))))
 (e0_0 (x2.2.2.1,())))
def gf (a0:S8):O5:=
 (iter (PY
 (fun y9=>gd (decide ((y9.1.length+([(0:Int),0]:List Int).length)<=A_))
 (some ((List.map (fun (v4:Int)=>(UInt8.ofNat v4.toNat)) (y9.1++[(0:Int),0])),())))) Af (a0,0,[],()))
def tB:Av:=⟨[.ro .str],[(.str,.z)],fun z=>gf z.1⟩
def zi:=en 29 [] [([3,4,5,100001],[0,3,4]),([8,100000],[3]),([99999],[2])] []
def tC:List (At T5):=[⟨3,⟨[(0,.pv .str),(3,.ref (.slice (.int .u8)) 40 []),(4,vI)],[(40,.data false (.slice (.int .u8)) (.own .z))]⟩,fun κ=>PY (xt κ 0 ⟨[(3,.ref (.slice (.int .u8)) 40 [])],[(40,.data false (.slice (.int .u8)) (.own .z))]⟩)⟩]
theorem kr:Aa prog 223 tB:=tQ zi tC (Dg f223) func223 Ag .nil (.c tC[0] .nil)
abbrev SP:Type:=AE->O5
def kt (g:SP):Av:=⟨[.ro Ax],[(.str,.z)],fun z=>g z.1⟩
def MT (g:SP) (e1_0:T5->O5) (rec:s9->O5) (x8:s9):O5:=
 (cond (decide (x8.2.2.1<x8.2.1.length))
 (gd (decide (0<=x8.2.2.1))
 (x8.2.1[x8.2.2.1.toNat]?.bind fun y10=>(g y10).bind fun y11=>gd (decide ((x8.1.length+y11.1.length)<=9223372036854775807))
 (rec (x8.1++y11.1,x8.2.1,wrap .i64 (x8.2.2.1+1),()))))
 (e1_0 (x8.1,())))
def MU (g:SP) (e3_0:T5->O5) (rec:sv->O5) (x16:sv):O5:=
 (cond (decide (x16.2.2.1<x16.2.1.length))
 (gd (decide (0<=x16.2.2.1))
 (x16.2.1[x16.2.2.1.toNat]?.bind fun y18=>(gf y18.1).bind fun y19=>gd (decide ((([(1:UInt8)]:S8).length+y19.1.length)<=9223372036854775807))
 (gd (decide (0<=x16.2.2.1))
 (x16.2.1[x16.2.2.1.toNat]?.bind fun y20=>(g y20.2.1).bind fun y21=>gd (decide ((([(1:UInt8)]++y19.1).length+y21.1.length)<=9223372036854775807))
 (gd (decide ((x16.1.length+(([(1:UInt8)]++y19.1)++y21.1).length)<=9223372036854775807))
 (rec (x16.1++(([(1:UInt8)]++y19.1)++y21.1),x16.2.1,wrap .i64 (x16.2.2.1+1),())))))))
 (e3_0 (x16.1,())))
def ku (g:SP) (a0:AE):O5:=
 ((ID (wrap .i64 (a0.1+1)) 1).bind fun y0=>cond (a0.1==0)
 (some (y0.1,()))
 (cond (a0.1==1)
 ((ID a0.2.1 1).bind fun y2=>gd (decide ((y0.1.length+y2.1.length)<=9223372036854775807))
 (some (y0.1++y2.1,())))
 (cond (a0.1==2)
 ((ID (wrap .i64 (a0.2.1+4611686018427387904)) 8).bind fun y3=>gd (decide ((y0.1.length+y3.1.length)<=9223372036854775807))
 (some (y0.1++y3.1,())))
 (cond (a0.1==3)
 ((gf a0.2.2.1).bind fun y4=>gd (decide ((y0.1.length+y4.1.length)<=9223372036854775807))
 (some (y0.1++y4.1,())))
 (cond (a0.1==4)
 ((LP a0.2.2.1).bind fun y5=>iter (MT g
 (fun y12=>gd (decide ((y12.1.length+([(0:UInt8)]:S8).length)<=9223372036854775807))
 (some (y12.1++[(0:UInt8)],())))) Af (y0.1,y5.1,0,()))
 ((SN a0.2.2.1).bind fun y13=>iter (MU g
 (fun y22=>gd (decide ((y22.1.length+([(0:UInt8)]:S8).length)<=9223372036854775807))
 (some (y22.1++[(0:UInt8)],())))) Af (y0.1,y13.1,0,())))))))
def zj (g:SP):Av:=⟨[.ro Ax],[(.str,.z)],fun z=>ku g z.1⟩
def zk (g:SP):Bf:=⟨94,Et tys,CK ones,Dj [(124,Zz),(145,fV),(188,d8),(193,kt g),(223,tB)],false,[],[(14,[3,4,6],[]),(16,[3,4,6],[]),(17,[3],[]),(18,[1,3],[]),(20,[3,7,9],[]),(22,[3,7,9],[]),(23,[3],[]),(100000,[1,3],[]),(100001,[3],[]),(100002,[3,4,6],[]),(100003,[3],[]),(100004,[3,7,9],[]),(99999,[2],[])],none,[],[]⟩
def oO (g:SP):List (At T5):=[⟨14,⟨[(3,.pv .str),(4,vS Ax),(6,vI)],[]⟩,fun κ=>MT g (xt κ 1 ⟨[(3,.pv .str)],[]⟩)⟩,
  ⟨20,⟨[(3,.pv .str),(7,vS AX),(9,vI)],[]⟩,fun κ=>MU g (xt κ 3 ⟨[(3,.pv .str)],[]⟩)⟩]
theorem kv (g:SP) (hg:Aa prog 193 (kt g)):Aa prog 193 (zj g):=tQ (zk g) (oO g) (aU f193) func193 Ag (.cons KU (.cons PR (.cons MM (.cons hg (.cons kr .nil))))) (.c ((oO g)[0]'(Nat.le_of_ble_eq_true rfl)) (.c ((oO g)[1]'(Nat.le_of_ble_eq_true rfl)) .nil))
def gh:Nat->SP
  |0=>fun _=>none
  |k+1=>ku (gh k)
def kw:SP:=gh Af
def tD:Av:=kt kw
theorem Xy:∀ k,Aa prog 193 (kt (gh k))
  |0=>Aa.none func193 (by rfl) (by decide) fun _=>rfl
  |k+1=>kv (gh k) (Xy k)
theorem kx:Aa prog 193 tD:=Xy Af
def gi (a0:AE) (a1:Bool):O5:=
 (cond a1
 ((kw a0).bind fun y1=>(ge y1.1).bind fun y2=>some (y2.1,()))
 ((kw a0).bind fun y3=>some (y3.1,())))
def oP:Av:=⟨[.ro Ax,.ro .bool],[(.str,.z)],fun z=>gi z.1 z.2.1⟩
def zl:=en 11 [(192,oN),(193,tD)] [([3],[2]),([99999],[4])] []
theorem bd:Aa prog 149 oP:=tQ zl [] [] func149 Ag (.cons bc (.cons kx .nil)) .nil
def MV (e4_0:yp->O8) (rec:T76->O8) (x13:T76):O8:=
 (cond (decide (x13.2.2.2.1<x13.2.1.length))
 (gd (decide (0<=x13.2.2.1))
 (gd (decide (x13.2.2.1<x13.2.2.2.2.2.2.1.length))
 (x13.2.2.2.2.2.2.1[x13.2.2.1.toNat]?.bind fun y15=>gd (decide (0<=x13.2.2.2.1))
 (x13.2.1[x13.2.2.2.1.toNat]?.bind fun y16=>gd (decide (0<=x13.1))
 (x13.2.2.2.2.1.2.1[x13.1.toNat]?.bind fun y17=>(gi y16 y17.2.1).bind fun y18=>gd (decide ((y15.length+y18.1.length)<=9223372036854775807))
 (gd (decide ((x13.2.2.2.2.2.2.2.1.length+(List.length [y15++y18.1]))<=A_))
 (rec (x13.1,x13.2.1,x13.2.2.1,wrap .i64 (x13.2.2.2.1+1),x13.2.2.2.2.1,x13.2.2.2.2.2.1,x13.2.2.2.2.2.2.1,x13.2.2.2.2.2.2.2.1++[y15++y18.1],()))))))))
 (e4_0 (x13.1,x13.2.1,x13.2.2.1,x13.2.2.2.2.1,x13.2.2.2.2.2.1,x13.2.2.2.2.2.2.1,x13.2.2.2.2.2.2.2.1,())))
def PZ (e2_0:yu->O8) (rec:yp->O8) (x9:yp):O8:=
 (cond (decide (x9.2.2.1<x9.2.2.2.2.2.1.length))
 (iter (MV
 (fun y19=>rec (y19.1,y19.2.1,wrap .i64 (y19.2.2.1+1),y19.2.2.2.1,y19.2.2.2.2.1,y19.2.2.2.2.2.1,y19.2.2.2.2.2.2.1,()))) Af (x9.1,x9.2.1,x9.2.2.1,0,x9.2.2.2.1,x9.2.2.2.2.1,x9.2.2.2.2.2.1,x9.2.2.2.2.2.2.1,()))
 (e2_0 (x9.1,x9.2.2.2.1,x9.2.2.2.2.1,x9.2.2.2.2.2.2.1,())))
def P' (e0_0:T8->O8) (rec:yu->O8) (x2:yu):O8:=
 (cond (decide (x2.1<x2.2.1.2.1.length))
 (gd (decide (0<=x2.1))
 (x2.2.1.2.1[x2.1.toNat]?.bind fun y5=>(kp x2.2.2.1 y5.1).bind fun y6=>iter (PZ
 (fun y20=>rec (wrap .i64 (y20.1+1),y20.2.1,y20.2.2.1,y20.2.2.2.1,()))) Af (x2.1,y6.1,0,x2.2.1,x2.2.2.1,x2.2.2.2.1,[],())))
 (e0_0 (x2.2.2.2.1,())))
def ky (a0:UU) (a1:AE):O8:=
 (iter (P'
 (fun y21=>some (y21.1,()))) Af (0,a0,a1,[[]],()))
def tE:Av:=⟨[.ro Xs,.ro Ax],[(.slice .str,.z)],fun z=>ky z.1 z.2.1⟩
def zm:=em 61 [(148,t8),(149,oP)] false [456] [([3,4,5,100001],[2,3,5,6]),([8,9,10,100003,100004],[2,3,5,6,7,8,9]),([11,13,100005],[2,3,5,6,7,8,9,10]),([14,100002],[2,3,6,8]),([15,100000],[5]),([99999],[4])] [(200003,[],[5]),(200008,[],[5]),(200011,[],[5])]
def kz:List (At T8):=[⟨11,⟨[(2,vP 16),(3,vP 24),(5,vR .str 41),(6,vI),(7,vS Ax),(8,vR .str 216),(9,vI),(10,vI)],[(16,mD Xs),(24,mD Ax),(41,mO .str),(216,mO .str)]⟩,fun κ=>MV (xt κ 4 ⟨[(2,vP 16),(3,vP 24),(5,vR .str 41),(6,vI),(7,vS Ax),(8,vR .str 216),(9,vI)],[(16,mD Xs),(24,mD Ax),(41,mO .str),(216,mO .str)]⟩)⟩,
  ⟨8,⟨[(2,vP 16),(3,vP 24),(5,vR .str 41),(6,vI),(7,vS Ax),(8,vR .str 216),(9,vI)],[(16,mD Xs),(24,mD Ax),(41,mO .str),(216,mO .str)]⟩,fun κ=>PZ (xt κ 2 ⟨[(2,vP 16),(3,vP 24),(6,vI),(8,vR .str 216)],[(16,mD Xs),(24,mD Ax),(216,mO .str)]⟩)⟩,
  ⟨3,⟨[(2,vP 16),(3,vP 24),(5,vR .str 41),(6,vI)],[(16,mD Xs),(24,mD Ax),(41,mO .str)]⟩,fun κ=>P' (xt κ 0 ⟨[(5,vR .str 41)],[(41,mO .str)]⟩)⟩]
theorem k6:Aa prog 104 tE:=tQ zm kz (lp3 f104) func104 Ag (.cons kq (.cons bd .nil)) (.c kz[2] (.c kz[1] (.c kz[0] .nil)))
def P_ (e0_0:Lq×Lq×List MJ×Unit->sC) (rec:rV->sC) (x2:rV):sC:=
 (cond (decide (x2.1<x2.2.1.1.length))
 (gd (decide (0<=x2.1))
 (x2.2.1.1[x2.1.toNat]?.bind fun y4=>gd (decide (0<=x2.1))
 (x2.2.1.1[x2.1.toNat]?.bind fun y5=>gd (decide ((([]:List Gz).length+y5.2.1.length)<=A_))
 (gd (decide ((x2.2.2.2.1.length+(List.length [(y4.1,[]++y5.2.1,())]))<=A_))
 (rec (wrap .i64 (x2.1+1),x2.2.1,x2.2.2.1,x2.2.2.2.1++[(y4.1,[]++y5.2.1,())],()))))))
 (e0_0 (x2.2.1,x2.2.2.1,x2.2.2.2.1,())))
def gj (a0:Lq):sC:=
 (iter (P_
 (fun y6=>some ((y6.2.2.1,y6.1.2),()))) Af (0,a0,([],0,()),[],()))
def oQ:Av:=⟨[.ro JG],[(JG,.pr (.own .z) .z)],fun z=>gj z.1⟩
def zn:=em 34 [] false [232] [([3,5,100001],[1,2,3,4]),([6,100000],[1,2,3]),([99999],[2])] []
def tG:List (At ym):=[⟨3,⟨[(1,vP 8),(2,vP 16),(3,vR LN 40),(4,vI)],[(8,mD JG),(16,.data true JG (.pr (.own (.pr .z (.pr (.own .z) .z))) .z)),(40,mO LN)]⟩,fun κ=>P_ (xt κ 0 ⟨[(1,vP 8),(2,vP 16),(3,vR LN 40)],[(8,mD JG),(16,.data true JG (.pr (.own (.pr .z (.pr (.own .z) .z))) .z)),(40,mO LN)]⟩)⟩]
theorem bf:AO prog 106 oQ:=tF zn tG (Dg f106) func106 Ag .nil (.c tG[0] .nil)
def dC (a0:Gz) (a1:Gz):O0:=
 (cond (Op.bytesLess a0.1 a1.1)
 (some (true,()))
 (cond (a0.1==a1.1)
 (some (decide (a0.2.1<a1.2.1),()))
 (some (false,()))))
def k7:Av:=⟨[.ro En,.ro En],[(.bool,.z)],fun z=>dC z.1 z.2.1⟩
def zo:=en 24 [] [([99999],[4])] []
theorem Vc:Aa prog 151 k7:=tQ zo [] [] func151 Ag .nil .nil
def Qa (e0_0:T1->O1) (rec:wR->O1) (x2:wR):O1:=
 (cond (decide (x2.2.1<x2.2.2.1.1.length))
 (let j9:wR->O1:=fun (y10:wR)=>
 (rec (y10.1,wrap .i64 (y10.2.1+1),y10.2.2.1,y10.2.2.2.1,()))
 (gd (decide (0<=x2.2.1))
 (x2.2.2.1.1[x2.2.1.toNat]?.bind fun y5=>cond (decide ((y5.2.1.length:Int)>0))
 (gd (decide (0<=x2.2.1))
 (x2.2.2.1.1[x2.2.1.toNat]?.bind fun y6=>y6.2.1[(0:Int).toNat]?.bind fun y7=>(dC x2.2.2.2.1 y7).bind fun y8=>cond (!y8.1)
 (j9 (x2.2.1,x2.2.1,x2.2.2.1,x2.2.2.2.1,()))
 (j9 (x2.1,x2.2.1,x2.2.2.1,x2.2.2.2.1,()))))
 (j9 (x2.1,x2.2.1,x2.2.2.1,x2.2.2.2.1,())))))
 (e0_0 (x2.1,())))
def gk (a0:Lq) (a1:Gz):O1:=
 (iter (Qa
 (fun y11=>some (y11.1,()))) Af (0,1,a0,a1,()))
def oR:Av:=⟨[.ro JG,.ro En],[(.int .i64,.z)],fun z=>gk z.1 z.2.1⟩
def zp:=en 37 [(151,k7)] [([3,4,5,100001],[2,3,5,6]),([7,100000],[5]),([99999],[4])] []
def tH:List (At T1):=[⟨3,⟨[(2,vP 16),(3,vP 24),(5,vI),(6,vI)],[(16,mD JG),(24,mD En)]⟩,fun κ=>Qa (xt κ 0 ⟨[(5,vI)],[]⟩)⟩]
theorem bg:Aa prog 150 oR:=tQ zp tH (Dg f150) func150 Ag (.cons Vc .nil) (.c tH[0] .nil)
def MW (e0_0:oh->rg) (rec:oh->rg) (x4:oh):rg:=
 (cond (decide (x4.2.2.1<x4.2.1.length))
 (gd (decide (0<=x4.2.2.1))
 (x4.2.1[x4.2.2.1.toNat]?.bind fun y6=>(dC y6 x4.2.2.2.2.1).bind fun y7=>cond y7.1
 (rec (x4.1,x4.2.1,wrap .i64 (x4.2.2.1+1),x4.2.2.2.1,x4.2.2.2.2.1,x4.2.2.2.2.2.1,()))
 (e0_0 (x4.1,x4.2.1,x4.2.2.1,x4.2.2.2.1,x4.2.2.2.2.1,x4.2.2.2.2.2.1,()))))
 (e0_0 (x4.1,x4.2.1,x4.2.2.1,x4.2.2.2.1,x4.2.2.2.2.1,x4.2.2.2.2.2.1,())))
def k9 (a0:Lq) (a1:Gz):rg:=
 ((gk a0 a1).bind fun y0=>gd (decide (0<=y0.1))
 (a0.1[y0.1.toNat]?.bind fun y1=>iter (MW
 (fun y8=>let j11:oh->rg:=fun (y12:oh)=>
 (let j14:oh->rg:=fun (y15:oh)=>let p7:=(List.drop y15.2.2.1.toNat (List.take (y15.2.1.length:Int).toNat y15.2.1));let p4:=(List.drop (0:Int).toNat (List.take y15.2.2.1.toNat y15.2.1));let p0:=((([]++p4)++[y15.2.2.2.2.1])++p7);let p3:=(wrap .i64 (Int.tdiv ((p0.length:Nat):Int) 2));let p6:=(List.drop p3.toNat (List.take ((p0.length:Nat):Int).toNat p0));
 ((gj y15.2.2.2.1).bind fun y16=>gd (decide (0<=y15.2.2.1))
 (gd (decide (y15.2.2.1<=y15.2.1.length))
 (gd (decide ((y15.2.1.length:Int)<=(y15.2.1.length:Int)))
 (gd (decide (0<=y15.2.2.1))
 (gd (decide (y15.2.2.1<=(((y15.2.1.length:Int).toNat:Nat):Int)))
 (gd (decide ((([]:List Gz).length+p4.length)<=A_))
 (gd (decide ((([]++p4).length+(List.length [y15.2.2.2.2.1]))<=A_))
 (gd (decide (((([]++p4)++[y15.2.2.2.2.1]).length+p7.length)<=A_))
 (gd (decide (0<=y15.1))
 (gd (decide (y15.1<y16.1.1.length))
 (y16.1.1[y15.1.toNat]?.bind fun y17=>let p2:=(y17.1,(([]++p4)++[y15.2.2.2.2.1])++p7,y17.2.2);
 (cond (decide (((p0.length:Nat):Int)<=4))
 (some ((List.set y16.1.1 y15.1.toNat p2,y16.1.2),0,0,()))
 (gd (decide (0<=p3))
 (gd (decide (p3<=((p0.length:Nat):Int)))
 (gd (decide ((([]:List Gz).length+(List.drop (0:Int).toNat (List.take p3.toNat p0)).length)<=A_))
 (gd (decide (0<=y15.1))
 (gd (decide (y15.1<(((List.set y16.1.1 y15.1.toNat p2).length:Nat):Int)))
 ((List.set y16.1.1 y15.1.toNat p2)[y15.1.toNat]?.bind fun y19=>let p1:=(List.set (List.set y16.1.1 y15.1.toNat p2) y15.1.toNat (y19.1,[]++(List.drop (0:Int).toNat (List.take p3.toNat p0)),y19.2.2));let p8:=(List.drop (wrap .i64 (y15.1+1)).toNat (List.take ((p1.length:Nat):Int).toNat p1));let p5:=(List.drop (0:Int).toNat (List.take (wrap .i64 (y15.1+1)).toNat p1));
 (gd (decide (((p0.length:Nat):Int)<=((p0.length:Nat):Int)))
 (gd (decide (0<=p3))
 (gd (decide (p3<=((((p0.length:Nat):Int).toNat:Nat):Int)))
 (gd (decide ((([]:List Gz).length+p6.length)<=A_))
 (gd (decide (0<=(wrap .i64 (y15.1+1))))
 (gd (decide ((wrap .i64 (y15.1+1))<=((p1.length:Nat):Int)))
 (gd (decide (((p1.length:Nat):Int)<=((p1.length:Nat):Int)))
 (gd (decide (0<=(wrap .i64 (y15.1+1))))
 (gd (decide ((wrap .i64 (y15.1+1))<=((((p1.length:Nat):Int).toNat:Nat):Int)))
 (gd (decide ((([]:List MJ).length+p5.length)<=A_))
 (gd (decide ((([]++p5).length+(List.length [(y16.1.2.1,[]++p6,())]))<=A_))
 (gd (decide (((([]++p5)++[(y16.1.2.1,[]++p6,())]).length+p8.length)<=A_))
 (some (((([]++p5)++[(y16.1.2.1,[]++p6,())])++p8,wrap .i64 (y16.1.2.1+1),y16.1.2.2),y16.1.2.1,0,()))))))))))))))))))))))))))))))))
 (cond ((y12.2.1.length:Int)==4)
 (cond ((y12.2.2.2.1.1.length:Int)==60)
 (some (y12.2.2.2.1,0,7,()))
 (cond (y12.2.2.2.1.2.1==100000)
 (some (y12.2.2.2.1,0,7,()))
 (j14 (y12.1,y12.2.1,y12.2.2.1,y12.2.2.2.1,y12.2.2.2.2.1,y12.2.2.2.2.2.1,()))))
 (j14 (y12.1,y12.2.1,y12.2.2.1,y12.2.2.2.1,y12.2.2.2.2.1,y12.2.2.2.2.2.1,()))))
 (cond (decide (y8.2.2.1<y8.2.1.length))
 (gd (decide (0<=y8.2.2.1))
 (y8.2.1[y8.2.2.1.toNat]?.bind fun y10=>cond ((y10.1==y8.2.2.2.2.1.1)&&((decide (y10.2.1=y8.2.2.2.2.1.2.1))&&true))
 (some (y8.2.2.2.1,0,12,()))
 (j11 (y8.1,y8.2.1,y8.2.2.1,y8.2.2.2.1,y8.2.2.2.2.1,y8.2.2.2.2.2.1,()))))
 (j11 (y8.1,y8.2.1,y8.2.2.1,y8.2.2.2.1,y8.2.2.2.2.1,y8.2.2.2.2.2.1,()))))) Af (y0.1,y1.2.1,0,a0,a1,([],0,()),())))
def tJ:Av:=⟨[.ro JG,.ro En],[(JG,.z),(.int .i64,.z),(.int .i64,.z)],fun z=>k9 z.1 z.2.1⟩
def zq:=em 132 [(106,oQ),(150,oR),(151,k7)] false [568,960] [([4,5,6,8,10,100000,100001],[2,3,4,7,8,9]),([15],[2,4,7,8]),([400080],[8]),([400108],[11]),([99999],[4,5,6])] []
def tL:List (At T24):=[⟨4,⟨[(2,vP 16),(3,vP 24),(4,vP 32),(7,vI),(8,vS En),(9,vI)],[(16,mD JG),(24,mD En),(32,.data true JG (.pr (.own (.pr .z (.pr (.own .z) .z))) .z))]⟩,fun κ=>MW (xt κ 0 ⟨[(2,vP 16),(3,vP 24),(4,vP 32),(7,vI),(8,vS En),(9,vI)],[(16,mD JG),(24,mD En),(32,.data true JG (.pr (.own (.pr .z (.pr (.own .z) .z))) .z))]⟩)⟩]
theorem kA:Aa prog 105 tJ:=tQ zq tL (Dg f105) func105 Ag (.consFr bf (.cons bg (.cons Vc .nil))) (.c tL[0] .nil)
def Vd (e0_0:Ig×Ig×Lq×Unit->fP) (er_1:Int×Ig×Unit->fP) (rec:T93->fP) (x3:T93):fP:=
 (cond (decide (x3.2.1<x3.1.length))
 (gd (decide (0<=x3.2.1))
 (x3.1[x3.2.1.toNat]?.bind fun y6=>(ki x3.2.2.2.1).bind fun y7=>(k9 x3.2.2.2.2.2.1 (y6,y7.1,())).bind fun y8=>cond (y8.2.2.1 != 0)
 (er_1 (y8.2.2.1,x3.2.2.1,()))
 (rec (x3.1,wrap .i64 (x3.2.1+1),x3.2.2.1,x3.2.2.2.1,x3.2.2.2.2.1,y8.1,()))))
 (e0_0 (x3.2.2.1,x3.2.2.2.2.1,x3.2.2.2.2.2.1,())))
def xk (a0:Ig) (a1:AE):fP:=
 ((ky a0.1 a1).bind fun y0=>iter (Vd
 (fun y10=>some ((y10.1.1,y10.2.2.1,y10.1.2.2),0,()))
 (fun y11=>some (y11.2.1,y11.1,()))) Af (y0.1,0,a0,a1,(([],[],()),([],0,()),()),a0.2.1,()))
def C56:Av:=⟨[.ro HF,.ro Ax],[(HF,.z),(.int .i64,.z)],fun z=>xk z.1 z.2.1⟩
def E56:=en 45 [(54,xh),(104,tE),(105,tJ)] [([4,5,6,100001],[2,3,4,6,7,8]),([9],[2,3,4,6,7,8,9]),([10,100000],[2,4,7]),([99999],[4,5])] []
def L56:List (At yi):=[⟨4,⟨[(2,vP 16),(3,vP 24),(4,vP 32),(6,.pv (.slice .str)),(7,vP 56),(8,vI)],[(16,mD HF),(24,mD Ax),(32,.data true HF (.pr (.pr .z (.pr (.own .z) .z)) (.pr (.pr (.own (.pr .z (.pr (.own .z) .z))) .z) .z))),(56,mD JG)]⟩,fun κ=>Vd (xt κ 0 ⟨[(2,vP 16),(4,vP 32),(7,vP 56)],[(16,mD HF),(32,.data true HF (.pr (.pr .z (.pr (.own .z) .z)) (.pr (.pr (.own (.pr .z (.pr (.own .z) .z))) .z) .z))),(56,mD JG)]⟩) (rt κ ⟨[(4,vP 32),(5,vI)],[(32,mD HF)]⟩)⟩]
theorem oS:Aa prog 56 C56:=tQ E56 L56 (Dg f56) func56 Ag (.cons ZD (.cons k6 (.cons kA .nil))) (.c L56[0] .nil)
def xl (a0:Ig):Option (Ig×Unit):=
 (gd (decide ((([]:List Hp).length+a0.1.2.1.length)<=A_))
 ((gj a0.2.1).bind fun y0=>some (((a0.1.1,[]++a0.1.2.1,a0.1.2.2),y0.1,a0.2.2),())))
def C57:Av:=⟨[.ro HF],[(HF,.z)],fun z=>xl z.1⟩
def E57:=en 15 [(106,oQ)] [([99999],[2])] []
theorem oT:Aa prog 57 C57:=tQ E57 [] [] func57 Ag (.consFr bf .nil) .nil
def Ve (e0_0:Ig×Ig×Unit->fP) (er_1:Int×Ig×Unit->fP) (rec:rY->fP) (x3:rY):fP:=
 (cond (decide (x3.2.1<x3.1.length))
 (gd (decide (0<=x3.2.1))
 (x3.1[x3.2.1.toNat]?.bind fun y6=>(xk x3.2.2.2.1 y6).bind fun y7=>cond (y7.2.1 != 0)
 (er_1 (y7.2.1,(([],[],()),([],0,()),()),()))
 (rec (x3.1,wrap .i64 (x3.2.1+1),x3.2.2.1,y7.1,()))))
 (e0_0 (x3.2.2.1,x3.2.2.2.1,())))
def xm (a0:UU) (a1:List AE):fP:=
 (zc.bind fun y0=>iter (Ve
 (fun y9=>(xl y9.2.1).bind fun y11=>some (y11.1,0,()))
 (fun y10=>some (y10.2.1,y10.1,()))) Af (a1,0,(([],[],()),([],0,()),()),(a0,y0.1,()),()))
def C21:Av:=⟨[.ro Xs,.ro (.slice Ax)],[(HF,.z),(.int .i64,.z)],fun z=>xm z.1 z.2.1⟩
def E21:=en 35 [(55,C55),(56,C56),(57,C57)] [([3,4,5,100001],[1,4,6,7]),([8],[1,4,6,7,8]),([9,100000],[4,6]),([99999],[4,5])] []
def L21:List (At yi):=[⟨3,⟨[(1,vS Ax),(4,vP 32),(6,vP 48),(7,vI)],[(32,.data true HF (.pr (.pr .z (.pr (.own .z) .z)) (.pr (.pr (.own (.pr .z (.pr (.own .z) .z))) .z) .z))),(48,mD HF)]⟩,fun κ=>Ve (xt κ 0 ⟨[(4,vP 32),(6,vP 48)],[(32,.data true HF (.pr (.pr .z (.pr (.own .z) .z)) (.pr (.pr (.own (.pr .z (.pr (.own .z) .z))) .z) .z))),(48,mD HF)]⟩) (rt κ ⟨[(4,vP 32),(5,vI)],[(32,.data true HF (.pr (.pr .z (.pr (.own .z) .z)) (.pr (.pr (.own (.pr .z (.pr (.own .z) .z))) .z) .z)))]⟩)⟩]
theorem oU:Aa prog 21 C21:=tQ E21 L21 (Dg f21) func21 Ag (.cons oK (.cons oS (.cons oT .nil))) (.c L21[0] .nil)
def F7 (a0:UU) (a1:List AE):fP:=
 (cond (decide ((a1.length:Int)>4096))
 (some ((([],[],()),([],0,()),()),2,()))
 ((tv a0).bind fun y2=>cond (!y2.1)
 (some ((([],[],()),([],0,()),()),1,()))
 ((tz a1).bind fun y3=>cond (!y3.1)
 (some ((([],[],()),([],0,()),()),1,()))
 ((xm a0 a1).bind fun y4=>some (y4.1,y4.2.1,())))))
def C7:Av:=⟨[.ro Xs,.ro (.slice Ax)],[(HF,.z),(.int .i64,.z)],fun z=>F7 z.1 z.2.1⟩
def E7:=en 24 [(19,y_),(20,zb),(21,C21)] [([3,5],[1,2,4]),([99999],[4,5])] []
theorem tM:Aa prog 7 C7:=tQ E7 [] [] func7 Ag (.cons fZ (.cons ga (.cons oU .nil))) .nil
def WH (a0:Int) (a1:Int) (a2:Int):O0:=
 (cond (decide (a1<=a0))
 (some (decide (a0<=a2),()))
 (some (false,())))
def gl:Av:=⟨[qI,qI,qI],[(.bool,.z)],fun z=>WH z.1 z.2.1 z.2.2.1⟩
def E41:=en 15 [] [([99999],[6])] []
theorem Ih:Aa prog 41 gl:=tQ E41 [] [] func41 Ag .nil .nil
def bi (e0_0:Unit->O1) (er_1:T1->O1) (rec:List HI×(HI->Option (Bool))×Y_->O1) (x2:List HI×(HI->Option (Bool))×Y_):O1:=
 (cond (decide (x2.2.2.2.1<x2.2.2.1))
 (gd (decide (0<=x2.2.2.2.1))
 (x2.1[x2.2.2.2.1.toNat]?.bind fun y5=>(x2.2.1 y5).bind fun y6=>cond y6
 (er_1 (x2.2.2.2.1,()))
 (rec (x2.1,x2.2.1,x2.2.2.1,wrap .i64 (x2.2.2.2.1+1),()))))
 (e0_0 (())))
def tO (a0:List HI) (a1:(HI->Option (Bool))):O1:=
 (iter (bi
 (fun y7=>some (-1,()))
 (fun y8=>some (y8.1,()))) Af (a0,a1,(a0.length:Int),0,()))
def tP:Av:=⟨[.ro (.slice IC),.fn IC .bool],[(.int .i64,.z)],fun z=>tO z.1 z.2.1⟩
def zr:=en 19 [] [([2,3,6,100001],[0,1,7,8]),([7,100000],[]),([99999],[4])] []
def tR:List (At T1):=[⟨2,⟨[(0,vS IC),(1,.fnA IC .bool),(7,vI),(8,vI)],[]⟩,fun κ=>bi (xt κ 0 ⟨[],[]⟩) (rt κ ⟨[(4,vI)],[]⟩)⟩]
theorem kB:Aa prog 134 tP:=tQ zr tR (Dg f134) func134 Ag .nil (.c tR[0] .nil)
def rr (a0:List HI) (a1:(HI->Option (Bool))):O0:=
 ((tO a0 a1).bind fun y0=>some (decide (y0.1>=0),()))
def zt:Av:=⟨[.ro (.slice IC),.fn IC .bool],[(.bool,.z)],fun z=>rr z.1 z.2.1⟩
def E83:=en 9 [(134,tP)] [([99999],[4])] []
theorem gm:Aa prog 83 zt:=tQ E83 [] [] func83 Ag (.cons kB .nil) .nil
def bj (e0_0:Unit->O1) (er_1:T1->O1) (rec:List DC×(DC->Option (Bool))×Y_->O1) (x2:List DC×(DC->Option (Bool))×Y_):O1:=
 (cond (decide (x2.2.2.2.1<x2.2.2.1))
 (gd (decide (0<=x2.2.2.2.1))
 (x2.1[x2.2.2.2.1.toNat]?.bind fun y5=>(x2.2.1 y5).bind fun y6=>cond y6
 (er_1 (x2.2.2.2.1,()))
 (rec (x2.1,x2.2.1,x2.2.2.1,wrap .i64 (x2.2.2.2.1+1),()))))
 (e0_0 (())))
def tS (a0:List DC) (a1:(DC->Option (Bool))):O1:=
 (iter (bj
 (fun y7=>some (-1,()))
 (fun y8=>some (y8.1,()))) Af (a0,a1,(a0.length:Int),0,()))
def tU:Av:=⟨[.ro (.slice GI),.fn GI .bool],[(.int .i64,.z)],fun z=>tS z.1 z.2.1⟩
def zu:=en 19 [] [([2,3,6,100001],[0,1,7,8]),([7,100000],[]),([99999],[4])] []
def tV:List (At T1):=[⟨2,⟨[(0,vS GI),(1,.fnA GI .bool),(7,vI),(8,vI)],[]⟩,fun κ=>bj (xt κ 0 ⟨[],[]⟩) (rt κ ⟨[(4,vI)],[]⟩)⟩]
theorem kC:Aa prog 135 tU:=tQ zu tV (Dg f135) func135 Ag .nil (.c tV[0] .nil)
def xp (a0:List DC) (a1:(DC->Option (Bool))):O0:=
 ((tS a0 a1).bind fun y0=>some (decide (y0.1>=0),()))
def zv:Av:=⟨[.ro (.slice GI),.fn GI .bool],[(.bool,.z)],fun z=>xp z.1 z.2.1⟩
def E85:=en 9 [(135,tU)] [([99999],[4])] []
theorem gn:Aa prog 85 zv:=tQ E85 [] [] func85 Ag (.cons kC .nil) .nil
def bm (e0_0:Unit->O1) (er_1:T1->O1) (rec:List S8×(S8->Option (Bool))×Y_->O1) (x2:List S8×(S8->Option (Bool))×Y_):O1:=
 (cond (decide (x2.2.2.2.1<x2.2.2.1))
 (gd (decide (0<=x2.2.2.2.1))
 (x2.1[x2.2.2.2.1.toNat]?.bind fun y5=>(x2.2.1 y5).bind fun y6=>cond y6
 (er_1 (x2.2.2.2.1,()))
 (rec (x2.1,x2.2.1,x2.2.2.1,wrap .i64 (x2.2.2.2.1+1),()))))
 (e0_0 (())))
def tW (a0:List S8) (a1:(S8->Option (Bool))):O1:=
 (iter (bm
 (fun y7=>some (-1,()))
 (fun y8=>some (y8.1,()))) Af (a0,a1,(a0.length:Int),0,()))
def tX:Av:=⟨[.ro (.slice .str),.fn .str .bool],[(.int .i64,.z)],fun z=>tW z.1 z.2.1⟩
def zw:=en 19 [] [([2,3,6,100001],[0,1,7,8]),([7,100000],[]),([99999],[4])] []
def tY:List (At T1):=[⟨2,⟨[(0,.pv (.slice .str)),(1,.fnA .str .bool),(7,vI),(8,vI)],[]⟩,fun κ=>bm (xt κ 0 ⟨[],[]⟩) (rt κ ⟨[(4,vI)],[]⟩)⟩]
theorem kD:Aa prog 139 tX:=tQ zw tY (Dg f139) func139 Ag .nil (.c tY[0] .nil)
def xq (a0:List S8) (a1:(S8->Option (Bool))):O0:=
 ((tW a0 a1).bind fun y0=>some (decide (y0.1>=0),()))
def zx:Av:=⟨[.ro (.slice .str),.fn .str .bool],[(.bool,.z)],fun z=>xq z.1 z.2.1⟩
def E91:=en 9 [(139,tX)] [([99999],[4])] []
theorem gp:Aa prog 91 zx:=tQ E91 [] [] func91 Ag (.cons kD .nil) .nil
def oV (a0:S8) (a1:Int):O1:=
 ((og a0 a1).bind fun y0=>some (y0.1,()))
def tZ:Av:=⟨[.ro .str,.ro (.int .u8)],[(.int .i64,.z)],fun z=>oV z.1 z.2.1⟩
def zy:Bf:=⟨8,Et tys,CK ones,Dj [],false,[],[(99999,[4],[])],none,[(263,rN)],[]⟩
theorem kE:Aa prog 259 tZ:=tQ zy [] [] func259 Ag .nil .nil (hx:=(.cons jK .nil))
def zz (a0:Int):O1:=
 (some (wrap .i64 (Int.tdiv (wrap .i64 (a0+16)) 8),()))
def t_:Av:=⟨[qI],[(.int .i64,.z)],fun z=>zz z.1⟩
def z6:=en 6 [] [([99999],[2])] []
theorem kF:Aa prog 261 t_:=tQ z6 [] [] func261 Ag .nil .nil
def oW (a0:S8) (a1:S8):O1:=
 (cond ((a1.length:Int)==0)
 (some (0,()))
 (cond (a1==a0)
 (some (0,()))
 (cond ((a1.length:Int)==1)
 (a1[(0:Int).toNat]?.bind fun y1=>(oV a0 (((UInt8.toNat y1):Nat):Int)).bind fun y2=>some (y2.1,()))
 (gd (decide ((a1.length:Int)>=(a0.length:Int)))
 (some (-1,()))))))
def ua:Av:=⟨[.ro .str,.ro .str],[(.int .i64,.z)],fun z=>oW z.1 z.2.1⟩
def z7:=en 143 [(259,tZ),(261,t_)] [([10,100000],[0,1,5]),([15,16,21,23,100002],[0,1,5,6,7,8,9,10]),([20],[0,1,5,6,7,8,9,10,11]),([29,35,100001],[]),([34],[8,13]),([99999],[4])] []
theorem kG:Aa prog 255 ua:=tQ z7 [] (Dg f255) func255 Ag (.cons kE (.cons kF .nil)) (.skip (by kernel_rfl) .nil)
def gq (a0:S8) (a1:S8):O1:=
 ((oW a0 a1).bind fun y0=>some (y0.1,()))
def oX:Av:=⟨[.ro .str,.ro .str],[(.int .i64,.z)],fun z=>gq z.1 z.2.1⟩
def z8:=en 8 [(255,ua)] [([99999],[4])] []
theorem bn:Aa prog 243 oX:=tQ z8 [] [] func243 Ag (.cons kG .nil) .nil
def bo (er_0:T1->O1) (rec:S8×S8×Int×Unit->O1) (x5:S8×S8×Int×Unit):O1:=
 ((gq x5.1 x5.2.1).bind fun y6=>cond (y6.1==(-1))
 (er_0 (x5.2.2.1,()))
 (gd (decide ((x5.1.length:Int)<=(x5.1.length:Int)))
 (gd (decide (0<=(wrap .i64 (y6.1+(x5.2.1.length:Int)))))
 (gd (decide ((wrap .i64 (y6.1+(x5.2.1.length:Int)))<=(((x5.1.length:Int).toNat:Nat):Int)))
 (rec (List.drop (wrap .i64 (y6.1+(x5.2.1.length:Int))).toNat (List.take (x5.1.length:Int).toNat x5.1),x5.2.1,wrap .i64 (x5.2.2.1+1),()))))))
def kH (a0:S8) (a1:S8):O1:=
 (cond ((a1.length:Int)==0)
 none
 (cond ((a1.length:Int)==1)
 (a1[(0:Int).toNat]?.bind fun y2=>(oe a0 (((UInt8.toNat y2):Nat):Int)).bind fun y3=>some (y3.1,()))
 (iter (bo
 (fun y8=>some (y8.1,()))) Af (a0,a1,0,()))))
def ub:Av:=⟨[.ro .str,.ro .str],[(.int .i64,.z)],fun z=>kH z.1 z.2.1⟩
def zA:Bf:=⟨34,Et tys,CK ones,Dj [(243,oX)],false,[],[(3,[0,1],[]),(5,[0,1],[]),(6,[0,1,5],[]),(9,[0,1,5,6],[]),(100000,[],[]),(100001,[0,1,5],[]),(99999,[4],[])],none,[(254,rM)],[]⟩
def uc:List (At T1):=[⟨6,⟨[(0,.pv .str),(1,.pv .str),(5,vI)],[]⟩,fun κ=>bo (rt κ ⟨[(4,vI)],[]⟩)⟩]
theorem kI:Aa prog 242 ub:=tQ zA uc (Dg f242) func242 Ag (.cons bn .nil) (.c uc[0] .nil) (hx:=(.cons jJ .nil))
def MX (e0_0:S8×Int×List S8×Unit->O8) (rec:T96->O8) (x8:T96):O8:=
 (cond (decide (x8.2.2.2.2.1<x8.2.2.2.1))
 ((gq x8.1 x8.2.1).bind fun y10=>cond (decide (y10.1<0))
 (e0_0 (x8.1,x8.2.2.2.2.1,x8.2.2.2.2.2.1,()))
 (gd (decide (0<=(wrap .i64 (y10.1+x8.2.2.1))))
 (gd (decide ((wrap .i64 (y10.1+x8.2.2.1))<=(x8.1.length:Int)))
 (gd (decide (0<=x8.2.2.2.2.1))
 (gd (decide (x8.2.2.2.2.1<x8.2.2.2.2.2.1.length))
 (x8.2.2.2.2.2.1[x8.2.2.2.2.1.toNat]?.bind fun y12=>gd (decide ((x8.1.length:Int)<=(x8.1.length:Int)))
 (gd (decide (0<=(wrap .i64 (y10.1+(x8.2.1.length:Int)))))
 (gd (decide ((wrap .i64 (y10.1+(x8.2.1.length:Int)))<=(((x8.1.length:Int).toNat:Nat):Int)))
 (rec (List.drop (wrap .i64 (y10.1+(x8.2.1.length:Int))).toNat (List.take (x8.1.length:Int).toNat x8.1),x8.2.1,x8.2.2.1,x8.2.2.2.1,wrap .i64 (x8.2.2.2.2.1+1),List.set x8.2.2.2.2.2.1 x8.2.2.2.2.1.toNat (List.drop (0:Int).toNat (List.take (wrap .i64 (y10.1+x8.2.2.1)).toNat x8.1)),()))))))))))
 (e0_0 (x8.1,x8.2.2.2.2.1,x8.2.2.2.2.2.1,())))
def oY (a0:S8) (a1:S8) (a2:Int) (a3:Int):O8:=
 (cond (a3==0)
 (some ([],()))
 (cond (a1==[])
 none
 (let j4:S8×S8×Int×Int×Unit->O8:=fun (y5:S8×S8×Int×Int×Unit)=>
 (gd (decide (0<=(cond (decide ((wrap .i64 ((y5.1.length:Int)+1))<y5.2.2.2.1)) (wrap .i64 ((y5.1.length:Int)+1)) y5.2.2.2.1)))
 (gd (decide ((cond (decide ((wrap .i64 ((y5.1.length:Int)+1))<y5.2.2.2.1)) (wrap .i64 ((y5.1.length:Int)+1)) y5.2.2.2.1)<=((4294967296:Nat):Int)))
 (gd (decide (0<=(cond (decide ((wrap .i64 ((y5.1.length:Int)+1))<y5.2.2.2.1)) (wrap .i64 ((y5.1.length:Int)+1)) y5.2.2.2.1)))
 (gd (decide ((cond (decide ((wrap .i64 ((y5.1.length:Int)+1))<y5.2.2.2.1)) (wrap .i64 ((y5.1.length:Int)+1)) y5.2.2.2.1)<=(((cond (decide ((wrap .i64 ((y5.1.length:Int)+1))<y5.2.2.2.1)) (wrap .i64 ((y5.1.length:Int)+1)) y5.2.2.2.1).toNat:Nat):Int)))
 (iter (MX
 (fun y13=>gd (decide (0<=y13.2.1))
 (gd (decide (y13.2.1<y13.2.2.1.length))
 (y13.2.2.1[y13.2.1.toNat]?.bind fun y14=>gd (decide (0<=(wrap .i64 (y13.2.1+1))))
 (gd (decide ((wrap .i64 (y13.2.1+1))<=(((List.set y13.2.2.1 y13.2.1.toNat y13.1).length:Nat):Int)))
 (some (List.drop (0:Int).toNat (List.take (wrap .i64 (y13.2.1+1)).toNat (List.set y13.2.2.1 y13.2.1.toNat y13.1)),()))))))) Af (y5.1,y5.2.1,y5.2.2.1,wrap .i64 ((cond (decide ((wrap .i64 ((y5.1.length:Int)+1))<y5.2.2.2.1)) (wrap .i64 ((y5.1.length:Int)+1)) y5.2.2.2.1)-1),0,List.replicate (cond (decide ((wrap .i64 ((y5.1.length:Int)+1))<y5.2.2.2.1)) (wrap .i64 ((y5.1.length:Int)+1)) y5.2.2.2.1).toNat [],()))))))
 (cond (decide (a3<0))
 ((kH a0 a1).bind fun y3=>j4 (a0,a1,a2,wrap .i64 (y3.1+1),()))
 (j4 (a0,a1,a2,a3,()))))))
def ud:Av:=⟨[.ro .str,.ro .str,qI,qI],[(.slice .str,.z)],fun z=>oY z.1 z.2.1 z.2.2.1 z.2.2.2.1⟩
def zB:=en 66 [(242,ub),(243,oX)] [([3,5,7],[0,1,2,3]),([11,12,100001],[0,1,2,3,9,10]),([14],[0,1,2,3,9,10,11]),([17,100000],[0,9,10]),([99999],[8])] []
def ue:List (At T8):=[⟨11,⟨[(0,.pv .str),(1,.pv .str),(2,vI),(3,vI),(9,vR .str 248),(10,vI)],[(248,mO .str)]⟩,fun κ=>MX (xt κ 0 ⟨[(0,.pv .str),(9,vR .str 248),(10,vI)],[(248,mO .str)]⟩)⟩]
theorem kJ:Aa prog 218 ud:=tQ zB ue (Dg f218) func218 Ag (.cons kI (.cons bn .nil)) (.c ue[0] .nil)
def gr (a0:S8) (a1:S8):O8:=
 ((oY a0 a1 0 (-1)).bind fun y0=>some (y0.1,()))
def oZ:Av:=⟨[.ro .str,.ro .str],[(.slice .str,.z)],fun z=>gr z.1 z.2.1⟩
def zC:=en 8 [(218,ud)] [([99999],[4])] []
theorem bp:Aa prog 184 oZ:=tQ zC [] [] func184 Ag (.cons kJ .nil) .nil
def kK (a0:Int):O0:=
 (cond (decide (a0>=97))
 (cond (decide (a0<=122))
 (some (true,()))
 (cond (decide (a0>=65))
 (cond (decide (a0<=90))
 (some (true,()))
 (some (a0==95,())))
 (some (a0==95,()))))
 (cond (decide (a0>=65))
 (cond (decide (a0<=90))
 (some (true,()))
 (some (a0==95,())))
 (some (a0==95,()))))
def uf:Av:=⟨[.ro (.int .u8)],[(.bool,.z)],fun z=>kK z.1⟩
def zD:=en 21 [] [([99999],[2])] []
theorem kL:Aa prog 140 uf:=tQ zD [] [] func140 Ag .nil .nil
def kM (a0:Int):O0:=
 (cond (decide (a0>=48))
 (some (decide (a0<=57),()))
 (some (false,())))
def ug:Av:=⟨[.ro (.int .u8)],[(.bool,.z)],fun z=>kM z.1⟩
def zF:=en 9 [] [([99999],[2])] []
theorem kN:Aa prog 141 ug:=tQ zF [] [] func141 Ag .nil .nil
def Ro (e0_0:T5->O0) (er_1:T0->O0) (rec:rc->O0) (x2:rc):O0:=
 (cond (decide (x2.2.2.1<x2.2.1))
 (let j9:rc->O0:=fun (y10:rc)=>
 (rec (y10.1,y10.2.1,wrap .i64 (y10.2.2.1+1),()))
 (gd (decide (0<=x2.2.2.1))
 (x2.1[x2.2.2.1.toNat]?.bind fun y5=>(kK (((UInt8.toNat y5):Nat):Int)).bind fun y6=>cond (!y6.1)
 (gd (decide (0<=x2.2.2.1))
 (x2.1[x2.2.2.1.toNat]?.bind fun y7=>(kM (((UInt8.toNat y7):Nat):Int)).bind fun y8=>cond (!y8.1)
 (er_1 (false,()))
 (cond (x2.2.2.1==0)
 (er_1 (false,()))
 (j9 (x2.1,x2.2.1,x2.2.2.1,())))))
 (j9 (x2.1,x2.2.1,x2.2.2.1,())))))
 (e0_0 (x2.1,())))
def xr (a0:S8):O0:=
 (iter (Ro
 (fun y11=>(WH (y11.1.length:Int) 1 40).bind fun y13=>some (y13.1,()))
 (fun y12=>some (y12.1,()))) Af (a0,(a0.length:Int),0,()))
def C93:Av:=⟨[.ro .str],[(.bool,.z)],fun z=>xr z.1⟩
def E93:=en 29 [(41,gl),(140,uf),(141,ug)] [([2,3,6,100001],[0,5,6]),([7,100000],[0]),([99999],[2])] []
def L93:List (At T0):=[⟨2,⟨[(0,.pv .str),(5,vI),(6,vI)],[]⟩,fun κ=>Ro (xt κ 0 ⟨[(0,.pv .str)],[]⟩) (rt κ ⟨[(2,.pv .bool)],[]⟩)⟩]
theorem o_:Aa prog 93 C93:=tQ E93 L93 (Dg f93) func93 Ag (.cons Ih (.cons kL (.cons kN .nil))) (.c L93[0] .nil)
def nA (a0:S8):O0:=
 (cond (decide ((a0.length:Int)<=12))
 ((xr a0).bind fun y0=>some (y0.1,()))
 (some (false,())))
def ru:Av:=⟨[.ro .str],[(.bool,.z)],fun z=>nA z.1⟩
def E43:=en 10 [(93,C93)] [([99999],[2])] []
theorem Rp:Aa prog 43 ru:=tQ E43 [] [] func43 Ag (.cons o_ .nil) .nil
def pc (a0:S8):O0:=
 ((nA a0).bind fun y0=>some (!y0.1,()))
def uh:Av:=⟨[.ro .str],[(.bool,.z)],fun z=>pc z.1⟩
def zG:=en 6 [(43,ru)] [([99999],[2])] []
theorem kO:Aa prog 185 uh:=tQ zG [] [] func185 Ag (.cons Rp .nil) .nil
def gu (a0:S8):O0:=
 ((gr a0 [(46:UInt8)]).bind fun y0=>cond (decide ((a0.length:Int)<=50))
 (cond (decide ((y0.1.length:Int)<=4))
 ((xq y0.1 (fun (v3:S8)=>(Option.map (fun (v4:T0)=>v4.1) (pc v3)))).bind fun y1=>some (!y1.1,()))
 (some (false,())))
 (some (false,())))
def pe:Av:=⟨[.ro .str],[(.bool,.z)],fun z=>gu z.1⟩
def zH:=en 19 [(91,zx),(184,oZ),(185,uh)] [([99999],[2])] []
theorem bq:Aa prog 136 pe:=tQ zH [] [] func136 Ag (.cons gp (.cons bp (.cons kO .nil))) .nil
def gv (e0_0:Unit->O1) (er_1:T1->O1) (rec:List AE×(AE->Option (Bool))×Y_->O1) (x2:List AE×(AE->Option (Bool))×Y_):O1:=
 (cond (decide (x2.2.2.2.1<x2.2.2.1))
 (gd (decide (0<=x2.2.2.2.1))
 (x2.1[x2.2.2.2.1.toNat]?.bind fun y5=>(x2.2.1 y5).bind fun y6=>cond y6
 (er_1 (x2.2.2.2.1,()))
 (rec (x2.1,x2.2.1,x2.2.2.1,wrap .i64 (x2.2.2.2.1+1),()))))
 (e0_0 (())))
def xu (a0:List AE) (a1:(AE->Option (Bool))):O1:=
 (iter (gv
 (fun y7=>some (-1,()))
 (fun y8=>some (y8.1,()))) Af (a0,a1,(a0.length:Int),0,()))
def zI:Av:=⟨[.ro (.slice Ax),.fn Ax .bool],[(.int .i64,.z)],fun z=>xu z.1 z.2.1⟩
def E80:=en 19 [] [([2,3,6,100001],[0,1,7,8]),([7,100000],[]),([99999],[4])] []
def L80:List (At T1):=[⟨2,⟨[(0,vS Ax),(1,.fnA Ax .bool),(7,vI),(8,vI)],[]⟩,fun κ=>gv (xt κ 0 ⟨[],[]⟩) (rt κ ⟨[(4,vI)],[]⟩)⟩]
theorem gw:Aa prog 80 zI:=tQ E80 L80 (Dg f80) func80 Ag .nil (.c L80[0] .nil)
end
end Go.V
