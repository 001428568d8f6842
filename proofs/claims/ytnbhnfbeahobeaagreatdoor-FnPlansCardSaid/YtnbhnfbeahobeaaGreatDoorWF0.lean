/- What functions of the program compute, printed by a program of ours. No condition. -/
import Derived.Test.YtnbhnfbeahobeaaGreatDoorWSort
namespace Go.V
open Go.Proofs Go.Proofs.Tryz IntKind
noncomputable section
set_option maxRecDepth 100000
set_option linter.unusedVariables false
theorem Bx.c {β:Type} {env:Bf} {tbl:List (At β)} {c:Code} {l:List Code} (L:At β) (r:Bx env tbl l) (hL:Rc tbl (CJ c)=some L:=by kernel_rfl) (h:∀ (κ:Gw β) (N:St->Option β) (x:L.sh.den),execK env (Gk tbl) c {κ with normal:=fun σ=>N (σ.keepAt env.hints (CJ c))} (L.sh.mk' x)=L.R κ (fun x=>N (L.sh.mk' x)) x:=by intro _ _ _;kernel_rfl):Bx env tbl (c::l):=.cons L hL h r
abbrev vI:AM:=.pv (.int .i64)
abbrev vS (t:Ty):AM:=.pv (.slice t)
abbrev vR (t:Ty) (n:Nat):AM:=.ref (.slice t) n []
abbrev vP (n:Nat):AM:=.ptr n []
abbrev mO (t:Ty):WG:=.data false (.slice t) (.own .z)
abbrev mD (t:Ty):WG:=.data true t .z
abbrev qI:PM:=.ro (.int .i64)
def xt {β:Type} (κ:Gw β) (n:Nat) (s:eG) (y:s.den):=κ.exit n (s.mk' y)
def rt {β:Type} (κ:Gw β) (s:eG) (y:s.den):=κ.ret (s.mk' y)
abbrev S8:=List UInt8
abbrev Dg (f:Func):=[CZ (Bq f) 0]
abbrev aU (f:Func):=[CZ (Bq f) 0,CZ (Bq f) 1]
abbrev lp3 (f:Func):=[CZ (Bq f) 0,CZ (Bq f) 1,CZ (Bq f) 2]
abbrev lp4 (f:Func):=[CZ (Bq f) 0,CZ (Bq f) 1,CZ (Bq f) 2,CZ (Bq f) 3]
def em (n:Nat) (l:List (FuncId×Av)) (d:Bool) (m:List Nat) (a:List (List Nat×List Nat)) (h:List (Nat×List Nat×List Name)):Bf:=⟨n,Et tys,CK ones,Dj l,d,m,(a.flatMap fun x=>x.1.map fun i=>(i,x.2,[]))++h,none,[],[]⟩
def en (n:Nat) (l:List (FuncId×Av)) (a:List (List Nat×List Nat)) (h:List (Nat×List Nat×List Name)):Bf:=⟨n,Et tys,CK ones,Dj l,false,[],(a.flatMap fun x=>x.1.map fun i=>(i,x.2,[]))++h,none,[],[]⟩
abbrev T0:=Bool×Unit
abbrev T1:=Int×Unit
abbrev T2:=List AE×Unit
abbrev T3:=NO×Unit
abbrev T4:=AE×Unit
abbrev T5:=S8×Unit
abbrev T6:=List Int×Unit
abbrev T7:=NO×NO×Unit
abbrev T8:=List S8×Unit
abbrev T9:=List AE×Bool×Unit
abbrev Y_:=Int×Int×Unit
abbrev yh:=AE×Hq×Unit
abbrev yi:=Ig×Int×Unit
abbrev wx:=List Gz×List Int×Unit
abbrev yj:=List BN×Bool×Unit
abbrev wy:=List Gz×Unit
abbrev n4:=List AE×Int×AE×AE×Unit
abbrev n5:=Int×Int×List Gz×Unit
abbrev T18:=SG×Hq×Unit
abbrev T19:=LO×Hq×Unit
abbrev T20:=fN×Unit
abbrev oh:=Int×List Gz×Int×Lq×Gz×Lq×Unit
abbrev ol:=List AE×Int×Unit
abbrev oo:=Hq×LO×LO×Unit
abbrev T24:=Lq×Int×Int×Unit
abbrev yk:=List BN×Unit
abbrev T26:=AE×Bool×Unit
abbrev T27:=Int×Bool×Unit
abbrev T28:=fN×Int×Unit
abbrev yl:=S8×Bool×Unit
abbrev ym:=Lq×Unit
abbrev qY:=S8×List BN×Bool×Int×AE×AE×List BN×Unit
abbrev T32:=List Gz×List Int×Int×Unit
abbrev qZ:=Int×Int×List Int×Unit
abbrev q_:=S8×Int×List Int×Unit
abbrev T35:=List AE×Hq×Unit
abbrev rc:=S8×Int×Int×Unit
abbrev rd:=S8×Int×Unit
abbrev wz:=Int×Int×List Gz×Int×Lq×NO×List Gz×List Int×Unit
abbrev w0:=List S8×List BN×Int×AE×List BN×Unit
abbrev w6:=List S8×List AE×Int×Int×List AE×Unit
abbrev w7:=List S8×List AE×Int×List AE×Unit
abbrev w8:=List Ig×Int×Int×LO×fN×fN×Unit
abbrev wA:=Int×Int×Hq×AE×List BN×Unit
abbrev wB:=List AE×Int×LO×List AE×Unit
abbrev wC:=Int×LO×List AE×List AE×Unit
abbrev wD:=Int×List MJ×Int×Int×Gz×Unit
abbrev wE:=List DC×Int×Int×Hp×NO×Unit
abbrev wF:=List Ig×Int×LO×fN×fN×Unit
abbrev wG:=S8×Int×Int×Int×List S8×Unit
abbrev wH:=List AE×Int×List AE×Unit
abbrev wI:=List AE×List AE×Int×Unit
abbrev wJ:=Int×List Int×Int×Int×Unit
abbrev wK:=Int×Int×Lq×Gz×MJ×Unit
abbrev wL:=Int×HI×Hp×NO×NO×Unit
abbrev wM:=S8×Int×Int×List Int×Unit
abbrev wN:=Int×List BN×Int×Unit
abbrev wO:=Int×Int×List BN×Unit
abbrev wP:=Int×Hq×List AE×Unit
abbrev wQ:=Int×Int×List AE×Unit
abbrev wR:=Int×Int×Lq×Gz×Unit
abbrev wS:=S8×Int×AE×AE×Unit
abbrev wT:=AE×AE×Unit
abbrev wU:=Int×LO×Unit
abbrev yp:=Int×List AE×Int×UU×AE×List S8×List S8×Unit
abbrev yq:=List AE×List Hp×Int×Int×List AE×Unit
abbrev yr:=Int×Int×Lq×NO×List Gz×List Int×Unit
abbrev yu:=Int×UU×AE×List S8×Unit
abbrev yw:=Int×Lq×Gz×MJ×Unit
abbrev yy:=AE×List BN×Unit
abbrev yz:=Hp×List BN×Unit
abbrev yA:=Hp×List AE×Unit
abbrev yB:=List Ig×Int×Unit
abbrev yC:=AE×S8×Bool×Unit
abbrev yD:=Int×Lq×Gz×Unit
abbrev yE:=Int×SG×Unit
abbrev T76:=Int×List AE×Int×Int×UU×AE×List S8×List S8×Unit
abbrev T77:=List S8×List BN×Int×Bool×Int×AE×List BN×Unit
abbrev T78:=List MJ×Int×Int×NO×List Gz×List Int×MJ×Unit
abbrev T79:=Int×Int×List Gz×Lq×NO×List Gz×List Int×Unit
abbrev T80:=List MJ×Int×Int×NO×List Gz×List Int×Unit
abbrev T81:=List BN×List BN×List BN×Int×Int×Unit
abbrev T82:=List MJ×Int×Int×Lq×List Int×MJ×Unit
abbrev T83:=List AE×List AE×List AE×Int×Int×Unit
abbrev T84:=Bool×Int×Int×List BN×List AE×Unit
abbrev T85:=List AE×Int×Bool×Int×List AE×Unit
abbrev T86:=List BN×Int×Int×AE×List Int×Unit
abbrev T87:=List AE×List Hp×Int×List AE×Unit
abbrev T88:=List MJ×Int×Int×Lq×List Int×Unit
abbrev T89:=List AE×Int×List AE×Int×Int×Unit
abbrev T90:=List AE×Int×Int×LO×List AE×Unit
abbrev T91:=List HI×Int×Int×Hp×NO×NO×Unit
abbrev T92:=Int×List Hp×Int×Int×AE×AE×Unit
abbrev T93:=List S8×Int×Ig×AE×Ig×Lq×Unit
abbrev T94:=List MJ×Int×Int×List Gz×Unit
abbrev T95:=Int×Int×List Int×List BN×Unit
abbrev T96:=S8×S8×Int×Int×Int×List S8×Unit
abbrev T97:=List Ig×List Ig×Int×Int×Unit
abbrev T98:=List AE×Int×Int×List Int×Unit
abbrev T99:=Int×Int×Hq×AE×List AE×Unit
abbrev rP:=Int×Int×Hq×SG×SG×HI×Unit
abbrev rQ:=List BN×S8×Int×Int×Int×Unit
abbrev rR:=List Hp×Int×Int×AE×AE×Unit
abbrev rS:=Bool×S8×Int×DC×NO×NO×Unit
abbrev rT:=List BN×List BN×Int×Unit
abbrev rU:=List AE×Bool×Int×DC×Unit
abbrev rV:=Int×Lq×Lq×List MJ×Unit
abbrev rW:=List BN×S8×Int×AE×Unit
abbrev rX:=S8×List BN×Int×AE×Unit
abbrev rY:=List AE×Int×Ig×Ig×Unit
abbrev rZ:=List AE×Int×Int×AE×Unit
abbrev r_:=List Hp×Int×AE×AE×Unit
abbrev sa:=List Int×Int×Int×Int×Unit
abbrev sc:=List AE×S8×Int×AE×Unit
abbrev sd:=List BN×List BN×Unit
abbrev sf:=Int×SG×Hp×NO×NO×Unit
abbrev sj:=List S8×S8×Int×Int×Unit
abbrev sn:=List AE×List AE×Unit
abbrev sr:=Int×List AE×Int×Unit
abbrev sv:=S8×List BN×Int×Unit
abbrev sw:=List AE×Int×AE×Unit
abbrev sy:=List Ig×Int×Int×Unit
abbrev s0:=Int×Int×Hq×AE×Unit
abbrev s7:=Int×Hq×SG×SG×Unit
abbrev s8:=Int×Hq×LO×LO×Unit
abbrev s9:=S8×List AE×Int×Unit
abbrev sA:=List Ig×S8×Int×Unit
abbrev O4:=Option T4
abbrev O0:=Option T0
abbrev O1:=Option T1
abbrev jd:=Option yj
abbrev O9:=Option T9
abbrev O5:=Option T5
abbrev d6:=Option yh
abbrev ot:=Option T18
abbrev ou:=Option T19
abbrev sB:=Option T35
abbrev O2:=Option T2
abbrev O8:=Option T8
abbrev rf:=Option T26
abbrev sC:=Option ym
abbrev rg:=Option T24
abbrev fP:=Option yi
abbrev rh:=Option T27
abbrev O6:=Option T6
abbrev sD:=Option yk
abbrev jM:=Option wy
abbrev sG:=Option T32
abbrev O3:=Option T3
abbrev ov:=Option T20
abbrev rl:=Option T28
abbrev sH:=Option yl
abbrev jN:=Option wx
def sI (a0:List Int):Option (Hq×Unit):=
 (some ((a0,0,Int.tmod (a0.length:Int) 1000,()),()))
def wV:Av:=⟨[.ro (.slice (.int .u8))],[(MI,.gone)],fun z=>sI z.1⟩
def E15:=en 9 [] [([99999],[2])] []
theorem Zx:AO prog 15 wV:=tN E15 [] [] func15 Ag .nil .nil
def jO (a0:Hq):Option (Int×Hq×Unit):=
 (cond (decide ((wrap .i64 (a0.2.1+1))<=(a0.1.length:Int)))
 (gd (decide (0<=(wrap .i64 ((wrap .i64 (a0.2.1+1))-1))))
 (a0.1[(wrap .i64 ((wrap .i64 (a0.2.1+1))-1)).toNat]?.bind fun y1=>gd (decide (0<=(wrap .i64 ((wrap .i64 (a0.2.1+1))-1))))
 (a0.1[(wrap .i64 ((wrap .i64 (a0.2.1+1))-1)).toNat]?.bind fun y2=>some (wrap .i64 y2,(a0.1,wrap .i64 (a0.2.1+1),Int.tmod (wrap .i64 ((wrap .i64 ((wrap .i64 (a0.2.2.1*31))+(wrap .i64 y1)))+7)) 2147483648,a0.2.2.2),()))))
 (cond (decide ((wrap .i64 (a0.2.1+1))>3000))
 (some (0,(a0.1,wrap .i64 (a0.2.1+1),a0.2.2),()))
 (some (Int.tmod (wrap .i64 (Int.tdiv (Int.tmod (wrap .i64 ((wrap .i64 (a0.2.2.1*1103515245))+12345)) 2147483648) 65536)) 256,(a0.1,wrap .i64 (a0.2.1+1),Int.tmod (wrap .i64 ((wrap .i64 (a0.2.2.1*1103515245))+12345)) 2147483648,a0.2.2.2),()))))
def C95:Av:=⟨[.io MI .z],[(.int .i64,.z)],fun z=>jO z.1⟩
def E95:=em 76 [] true [] [] [(5,[0],[4]),(7,[0],[4]),(99999,[2],[4])]
theorem ow:IoOk prog 95 C95:=tI E95 [] [] func95 Ag .nil (fun p=>.nil)
def Ef (a0:Hq) (a1:Int):Option (Int×Hq×Unit):=
 (cond (decide (a1<=1))
 (some (0,a0,()))
 (cond (decide (a1<=256))
 ((jO a0).bind fun y2=>cond (decide (a1=0))
 none
 (some (Int.tmod y2.1 a1,y2.2.1,())))
 ((jO a0).bind fun y3=>(jO y3.2.1).bind fun y4=>(jO y4.2.1).bind fun y5=>cond (decide (a1=0))
 none
 (some (Int.tmod (wrap .i64 ((wrap .i64 ((wrap .i64 (y3.1*65536))+(wrap .i64 (y4.1*256))))+y5.1)) a1,y5.2.1,())))))
def ox:Av:=⟨[.io MI .z,qI],[(.int .i64,.z)],fun z=>Ef z.1 z.2.1⟩
def E45:=em 31 [(95,C95)] true [] [] [(3,[0,1],[4]),(5,[0,1],[4]),(99999,[4],[4])]
theorem Od:IoOk prog 45 ox:=tI E45 [] [] func45 Ag (.consIo ow .nil) (fun p=>.nil)
def NP (a0:Hq) (a1:List S8):Option (S8×Hq×Unit):=
 (cond ((a1.length:Int)==0)
 (some ([],a0,()))
 ((Ef a0 (a1.length:Int)).bind fun y1=>gd (decide (0<=y1.1))
 (a1[y1.1.toNat]?.bind fun y2=>some (y2,y1.2.1,()))))
def rm:Av:=⟨[.io MI .z,.ro (.slice .str)],[(.str,.z)],fun z=>NP z.1 z.2.1⟩
def E48:=em 15 [(45,ox)] true [] [] [(3,[0,1],[4]),(99999,[4],[4])]
theorem Rl:IoOk prog 48 rm:=tI E48 [] [] func48 Ag (.consIo Od .nil) (fun p=>.nil)
def d7 (a0:Int):O4:=
 (some ((2,a0,[],()),()))
def wW:Av:=⟨[qI],[(Ax,.z)],fun z=>d7 z.1⟩
def E98:=en 5 [] [([99999],[2])] []
theorem Zy:Aa prog 98 wW:=tQ E98 [] [] func98 Ag .nil .nil
def fQ (a0:Int):O0:=
 (cond (decide (a0>=97))
 (cond (decide (a0<=122))
 (some (true,()))
 (cond (decide (a0>=65))
 (cond (decide (a0<=90))
 (some (true,()))
 (some (a0==95,())))
 (some (a0==95,()))))
 (cond (decide (a0>=65))
 (cond (decide (a0<=90))
 (some (true,()))
 (some (a0==95,())))
 (some (a0==95,()))))
def sJ:Av:=⟨[.ro (.int .u8)],[(.bool,.z)],fun z=>fQ z.1⟩
def yF:=en 21 [] [([99999],[2])] []
theorem jP:Aa prog 189 sJ:=tQ yF [] [] func189 Ag .nil .nil
def jQ (a0:Int):O0:=
 (cond (decide (a0>=48))
 (some (decide (a0<=57),()))
 (some (false,())))
def sK:Av:=⟨[.ro (.int .u8)],[(.bool,.z)],fun z=>jQ z.1⟩
def yG:=en 9 [] [([99999],[2])] []
theorem jR:Aa prog 190 sK:=tQ yG [] [] func190 Ag .nil .nil
def ML (e0_0:Unit->O0) (er_1:T0->O0) (rec:rd->O0) (x5:rd):O0:=
 (cond (decide (x5.2.1<x5.1.length))
 (let j12:rd->O0:=fun (y13:rd)=>
 (rec (y13.1,wrap .i64 (y13.2.1+1),()))
 (gd (decide (0<=x5.2.1))
 (x5.1[x5.2.1.toNat]?.bind fun y8=>(fQ (((UInt8.toNat y8):Nat):Int)).bind fun y9=>cond (!y9.1)
 (gd (decide (0<=x5.2.1))
 (x5.1[x5.2.1.toNat]?.bind fun y10=>(jQ (((UInt8.toNat y10):Nat):Int)).bind fun y11=>cond (!y11.1)
 (er_1 (false,()))
 (j12 (x5.1,x5.2.1,()))))
 (j12 (x5.1,x5.2.1,())))))
 (e0_0 (())))
def jS (a0:S8):O0:=
 (cond (decide ((a0.length:Int)<1))
 (some (false,()))
 (cond (decide ((a0.length:Int)>40))
 (some (false,()))
 (a0[(0:Int).toNat]?.bind fun y1=>(fQ (((UInt8.toNat y1):Nat):Int)).bind fun y2=>cond (!y2.1)
 (some (false,()))
 (iter (ML
 (fun y14=>some (true,()))
 (fun y15=>some (y15.1,()))) Af (a0,1,())))))
def sM:Av:=⟨[.ro .str],[(.bool,.z)],fun z=>jS z.1⟩
def yH:=en 36 [(189,sJ),(190,sK)] [([3],[0]),([4,5,6,100001],[0,3]),([8,100000],[]),([99999],[2])] []
def sN:List (At T0):=[⟨4,⟨[(0,.pv .str),(3,vI)],[]⟩,fun κ=>ML (xt κ 0 ⟨[],[]⟩) (rt κ ⟨[(2,.pv .bool)],[]⟩)⟩]
theorem jT:Aa prog 147 sM:=tQ yH sN (Dg f147) func147 Ag (.cons jP (.cons jR .nil)) (.c sN[0] .nil)
def jU (a0:S8):O0:=
 ((jS a0).bind fun y0=>some (y0.1,()))
def sO:Av:=⟨[.ro .str],[(.bool,.z)],fun z=>jU z.1⟩
def yI:=en 5 [(147,sM)] [([99999],[2])] []
theorem jV:Aa prog 101 sO:=tQ yI [] [] func101 Ag (.cons jT .nil) .nil
def n9 (a0:S8):O0:=
 ((jU a0).bind fun y0=>cond y0.1
 (some (decide ((a0.length:Int)<=12),()))
 (some (false,())))
def sP:Av:=⟨[.ro .str],[(.bool,.z)],fun z=>n9 z.1⟩
def E50:=en 10 [(101,sO)] [([99999],[2])] []
theorem UX:Aa prog 50 sP:=tQ E50 [] [] func50 Ag (.cons jV .nil) .nil
def TC (a0:Int) (a1:Int) (a2:Int):O0:=
 (cond (decide (a1<=a0))
 (some (decide (a0<=a2),()))
 (some (false,())))
def jW:Av:=⟨[qI,qI,qI],[(.bool,.z)],fun z=>TC z.1 z.2.1 z.2.2.1⟩
def E51:=en 15 [] [([99999],[6])] []
theorem Ke:Aa prog 51 jW:=tQ E51 [] [] func51 Ag .nil .nil
def PO (e0_0:T1->O1) (rec:rc->O1) (x2:rc):O1:=
 (cond (decide (x2.2.2.1<x2.1.length))
 (gd (decide (0<=x2.2.2.1))
 (x2.1[x2.2.2.1.toNat]?.bind fun y4=>rec (x2.1,wrap .i64 ((wrap .i64 (x2.2.1*256))+(wrap .i64 (((UInt8.toNat y4):Nat):Int))),wrap .i64 (x2.2.2.1+1),())))
 (e0_0 (x2.2.1,())))
def Xt (a0:S8):O1:=
 (iter (PO
 (fun y5=>some (y5.1,()))) Af (a0,0,0,()))
def sQ:Av:=⟨[.ro .str],[(.int .i64,.z)],fun z=>Xt z.1⟩
def yJ:=en 19 [] [([3,5,100001],[0,3,4]),([6,100000],[3]),([99999],[2])] []
def sR:List (At T1):=[⟨3,⟨[(0,.pv .str),(3,vI),(4,vI)],[]⟩,fun κ=>PO (xt κ 0 ⟨[(3,vI)],[]⟩)⟩]
theorem jX:Aa prog 213 sQ:=tQ yJ sR (Dg f213) func213 Ag .nil (.c sR[0] .nil)
def fR (a0:S8):Option yC:=
 (cond ((a0.length:Int)==0)
 (some ((0,0,[],()),[],false,()))
 (a0[(0:Int).toNat]?.bind fun y1=>let j13:wS->Option yC:=fun (y14:wS)=>
 (cond (decide ((y14.1.length:Int)<(wrap .i64 (1+y14.2.1))))
 (some ((0,0,[],()),[],false,()))
 (let j21:wS->Option yC:=fun (y22:wS)=>
 (gd (decide ((y22.1.length:Int)<=(y22.1.length:Int)))
 (gd (decide (0<=(wrap .i64 (1+y22.2.1))))
 (gd (decide ((wrap .i64 (1+y22.2.1))<=(((y22.1.length:Int).toNat:Nat):Int)))
 (some (y22.2.2.2.1,List.drop (wrap .i64 (1+y22.2.1)).toNat (List.take (y22.1.length:Int).toNat y22.1),true,())))))
 (cond (y14.2.1==1)
 (y14.1[(1:Int).toNat]?.bind fun y17=>j21 (y14.1,y14.2.1,y14.2.2.1,(y14.2.2.2.1.1,wrap .i64 (((UInt8.toNat y17):Nat):Int),y14.2.2.2.1.2.2),()))
 (y14.1[(1:Int).toNat]?.bind fun y19=>cond (decide ((((UInt8.toNat y19):Nat):Int)>127))
 (some ((0,0,[],()),[],false,()))
 (gd (decide (9<=(y14.1.length:Int)))
 ((Xt (List.drop (1:Int).toNat (List.take (9:Int).toNat y14.1))).bind fun y20=>j21 (y14.1,y14.2.1,y14.2.2.1,(y14.2.2.2.1.1,wrap .i64 (y20.1-4611686018427387904),y14.2.2.2.1.2.2),())))))))
 (cond ((wrap .i64 (((UInt8.toNat y1):Nat):Int))==0)
 (gd (decide ((a0.length:Int)<=(a0.length:Int)))
 (gd (decide (1<=(((a0.length:Int).toNat:Nat):Int)))
 (some ((wrap .i64 (((UInt8.toNat y1):Nat):Int),0,[],()),List.drop (1:Int).toNat (List.take (a0.length:Int).toNat a0),true,()))))
 (cond ((wrap .i64 (((UInt8.toNat y1):Nat):Int))==1)
 (j13 (a0,1,(0,0,[],()),(wrap .i64 (((UInt8.toNat y1):Nat):Int),0,[],()),()))
 (cond ((wrap .i64 (((UInt8.toNat y1):Nat):Int))==2)
 (j13 (a0,8,(0,0,[],()),(wrap .i64 (((UInt8.toNat y1):Nat):Int),0,[],()),()))
 (cond ((wrap .i64 (((UInt8.toNat y1):Nat):Int))==3)
 (cond ((wrap .i64 (((UInt8.toNat y1):Nat):Int))==3)
 (cond (decide ((a0.length:Int)<3))
 (some ((0,0,[],()),[],false,()))
 (gd (decide (3<=(a0.length:Int)))
 ((Xt (List.drop (1:Int).toNat (List.take (3:Int).toNat a0))).bind fun y5=>cond (decide ((a0.length:Int)<(wrap .i64 (3+y5.1))))
 (some ((0,0,[],()),[],false,()))
 (gd (decide (0<=(wrap .i64 (3+y5.1))))
 (gd (decide ((wrap .i64 (3+y5.1))<=(a0.length:Int)))
 (gd (decide (3<=(((wrap .i64 (3+y5.1)).toNat:Nat):Int)))
 (gd (decide ((a0.length:Int)<=(a0.length:Int)))
 (gd (decide (0<=(wrap .i64 (3+y5.1))))
 (gd (decide ((wrap .i64 (3+y5.1))<=(((a0.length:Int).toNat:Nat):Int)))
 (some ((wrap .i64 (((UInt8.toNat y1):Nat):Int),0,List.drop (3:Int).toNat (List.take (wrap .i64 (3+y5.1)).toNat a0),()),List.drop (wrap .i64 (3+y5.1)).toNat (List.take (a0.length:Int).toNat a0),true,())))))))))))
 (some ((0,0,[],()),[],false,())))
 (cond ((wrap .i64 (((UInt8.toNat y1):Nat):Int))==4)
 (cond ((wrap .i64 (((UInt8.toNat y1):Nat):Int))==4)
 (cond (decide ((a0.length:Int)<3))
 (some ((0,0,[],()),[],false,()))
 (gd (decide (3<=(a0.length:Int)))
 ((Xt (List.drop (1:Int).toNat (List.take (3:Int).toNat a0))).bind fun y8=>cond (decide ((a0.length:Int)<(wrap .i64 (3+y8.1))))
 (some ((0,0,[],()),[],false,()))
 (gd (decide (0<=(wrap .i64 (3+y8.1))))
 (gd (decide ((wrap .i64 (3+y8.1))<=(a0.length:Int)))
 (gd (decide (3<=(((wrap .i64 (3+y8.1)).toNat:Nat):Int)))
 (gd (decide ((a0.length:Int)<=(a0.length:Int)))
 (gd (decide (0<=(wrap .i64 (3+y8.1))))
 (gd (decide ((wrap .i64 (3+y8.1))<=(((a0.length:Int).toNat:Nat):Int)))
 (some ((wrap .i64 (((UInt8.toNat y1):Nat):Int),0,List.drop (3:Int).toNat (List.take (wrap .i64 (3+y8.1)).toNat a0),()),List.drop (wrap .i64 (3+y8.1)).toNat (List.take (a0.length:Int).toNat a0),true,())))))))))))
 (some ((0,0,[],()),[],false,())))
 (cond ((wrap .i64 (((UInt8.toNat y1):Nat):Int))==5)
 (cond (decide ((a0.length:Int)<3))
 (some ((0,0,[],()),[],false,()))
 (gd (decide (3<=(a0.length:Int)))
 ((Xt (List.drop (1:Int).toNat (List.take (3:Int).toNat a0))).bind fun y11=>cond (decide ((a0.length:Int)<(wrap .i64 (3+y11.1))))
 (some ((0,0,[],()),[],false,()))
 (gd (decide (0<=(wrap .i64 (3+y11.1))))
 (gd (decide ((wrap .i64 (3+y11.1))<=(a0.length:Int)))
 (gd (decide (3<=(((wrap .i64 (3+y11.1)).toNat:Nat):Int)))
 (gd (decide ((a0.length:Int)<=(a0.length:Int)))
 (gd (decide (0<=(wrap .i64 (3+y11.1))))
 (gd (decide ((wrap .i64 (3+y11.1))<=(((a0.length:Int).toNat:Nat):Int)))
 (some ((wrap .i64 (((UInt8.toNat y1):Nat):Int),0,List.drop (3:Int).toNat (List.take (wrap .i64 (3+y11.1)).toNat a0),()),List.drop (wrap .i64 (3+y11.1)).toNat (List.take (a0.length:Int).toNat a0),true,())))))))))))
 (some ((0,0,[],()),[],false,()))))))))))
def oy:Av:=⟨[.ro .str],[(Ax,.z),(.str,.z),(.bool,.z)],fun z=>fR z.1⟩
def yK:=en 81 [(213,sQ)] [([3],[0,2]),([18],[0,2,5]),([21],[0,2,5,7]),([23,25,29,30,100000],[0,2,5,6]),([99999],[2,3,4])] []
theorem aV:Aa prog 174 oy:=tQ yK [] [] func174 Ag (.cons jX .nil) .nil
def PP (e0_0:yk->jd) (er_1:Bool×List BN×Unit->jd) (er_2:Bool×List BN×Unit->jd) (rec:S8×List BN×Unit->jd) (x2:S8×List BN×Unit):jd:=
 (cond (decide ((x2.1.length:Int)>0))
 (x2.1[(0:Int).toNat]?.bind fun y4=>cond (decide ((x2.1.length:Int)<(wrap .i64 (1+(wrap .i64 (((UInt8.toNat y4):Nat):Int))))))
 (er_1 (false,[],()))
 (gd (decide (0<=(wrap .i64 (1+(wrap .i64 (((UInt8.toNat y4):Nat):Int))))))
 (gd (decide ((wrap .i64 (1+(wrap .i64 (((UInt8.toNat y4):Nat):Int))))<=(x2.1.length:Int)))
 (gd (decide (1<=(((wrap .i64 (1+(wrap .i64 (((UInt8.toNat y4):Nat):Int)))).toNat:Nat):Int)))
 (gd (decide ((x2.1.length:Int)<=(x2.1.length:Int)))
 (gd (decide (0<=(wrap .i64 (1+(wrap .i64 (((UInt8.toNat y4):Nat):Int))))))
 (gd (decide ((wrap .i64 (1+(wrap .i64 (((UInt8.toNat y4):Nat):Int))))<=(((x2.1.length:Int).toNat:Nat):Int)))
 ((fR (List.drop (wrap .i64 (1+(wrap .i64 (((UInt8.toNat y4):Nat):Int)))).toNat (List.take (x2.1.length:Int).toNat x2.1))).bind fun y6=>cond (!y6.2.2.1)
 (er_2 (false,[],()))
 (gd (decide ((x2.2.1.length+(List.length [(List.drop (1:Int).toNat (List.take (wrap .i64 (1+(wrap .i64 (((UInt8.toNat y4):Nat):Int)))).toNat x2.1),y6.1,())]))<=A_))
 (rec (y6.2.1,x2.2.1++[(List.drop (1:Int).toNat (List.take (wrap .i64 (1+(wrap .i64 (((UInt8.toNat y4):Nat):Int)))).toNat x2.1),y6.1,())],())))))))))))
 (e0_0 (x2.2.1,())))
def SN (a0:S8):jd:=
 (iter (PP
 (fun y8=>some (y8.1,true,()))
 (fun y9=>some (y9.2.1,y9.1,()))
 (fun y10=>some (y10.2.1,y10.1,()))) Af (a0,[],()))
def Zz:Av:=⟨[.ro .str],[(.slice AX,.z),(.bool,.z)],fun z=>SN z.1⟩
def yL:=en 47 [(174,oy)] [([2,3,100001],[0,4]),([6],[0,4,5]),([10],[4,6,7,8]),([12,100000],[4]),([99999],[2,3])] []
def sS:List (At yj):=[⟨2,⟨[(0,.pv .str),(4,vR AX 80)],[(80,mO AX)]⟩,fun κ=>PP (xt κ 0 ⟨[(4,vR AX 80)],[(80,mO AX)]⟩) (rt κ ⟨[(2,vR AX 176),(3,.pv .bool)],[(176,mO AX)]⟩) (rt κ ⟨[(2,vR AX 304),(3,.pv .bool)],[(304,mO AX)]⟩)⟩]
theorem KU:Aa prog 124 Zz:=tQ yL sS (Dg f124) func124 Ag (.cons aV .nil) (.c sS[0] .nil)
def PQ (e0_0:T2->O9) (er_1:Bool×List AE×Unit->O9) (rec:S8×List AE×Unit->O9) (x2:S8×List AE×Unit):O9:=
 (cond (decide ((x2.1.length:Int)>0))
 ((fR x2.1).bind fun y4=>cond (!y4.2.2.1)
 (er_1 (false,[],()))
 (gd (decide ((x2.2.1.length+(List.length [y4.1]))<=A_))
 (rec (y4.2.1,x2.2.1++[y4.1],()))))
 (e0_0 (x2.2.1,())))
def LP (a0:S8):O9:=
 (iter (PQ
 (fun y6=>some (y6.1,true,()))
 (fun y7=>some (y7.2.1,y7.1,()))) Af (a0,[],()))
def d8:Av:=⟨[.ro .str],[(.slice Ax,.z),(.bool,.z)],fun z=>LP z.1⟩
def yM:=en 27 [(174,oy)] [([2,3,100001],[0,4]),([6],[4,5,6]),([8,100000],[4]),([99999],[2,3])] []
def sT:List (At T9):=[⟨2,⟨[(0,.pv .str),(4,vR Ax 64)],[(64,mO Ax)]⟩,fun κ=>PQ (xt κ 0 ⟨[(4,vR Ax 64)],[(64,mO Ax)]⟩) (rt κ ⟨[(2,vR Ax 160),(3,.pv .bool)],[(160,mO Ax)]⟩)⟩]
theorem MM:Aa prog 188 d8:=tQ yM sT (Dg f188) func188 Ag (.cons aV .nil) (.c sT[0] .nil)
abbrev SO:Type:=AE->(Int)->O0
def jY (g:SO):Av:=⟨[.ro Ax,qI],[(.bool,.z)],fun z=>g z.1 z.2.1⟩
def MN (g:SO) (e1_0:Unit->O0) (er_1:T0->O0) (rec:sr->O0) (x7:sr):O0:=
 (cond (decide (x7.2.2.1<x7.2.1.length))
 (gd (decide (0<=x7.2.2.1))
 (x7.2.1[x7.2.2.1.toNat]?.bind fun y10=>(g y10 (wrap .i64 (x7.1-1))).bind fun y11=>cond (!y11.1)
 (er_1 (false,()))
 (rec (x7.1,x7.2.1,wrap .i64 (x7.2.2.1+1),()))))
 (e1_0 (())))
def MO (g:SO) (e3_0:Unit->O0) (er_1:T0->O0) (rec:wN->O0) (x18:wN):O0:=
 (cond (decide (x18.2.2.1<x18.2.1.length))
 (let j29:wN->O0:=fun (y30:wN)=>
 (rec (y30.1,y30.2.1,wrap .i64 (y30.2.2.1+1),()))
 (gd (decide (0<=x18.2.2.1))
 (x18.2.1[x18.2.2.1.toNat]?.bind fun y21=>(n9 y21.1).bind fun y22=>cond (!y22.1)
 (er_1 (false,()))
 (cond (decide (x18.2.2.1>0))
 (gd (decide (0<=(wrap .i64 (x18.2.2.1-1))))
 (x18.2.1[(wrap .i64 (x18.2.2.1-1)).toNat]?.bind fun y23=>gd (decide (0<=x18.2.2.1))
 (x18.2.1[x18.2.2.1.toNat]?.bind fun y24=>cond (!(Op.bytesLess y23.1 y24.1))
 (er_1 (false,()))
 (gd (decide (0<=x18.2.2.1))
 (x18.2.1[x18.2.2.1.toNat]?.bind fun y25=>(g y25.2.1 (wrap .i64 (x18.1-1))).bind fun y26=>cond (!y26.1)
 (er_1 (false,()))
 (j29 (x18.1,x18.2.1,x18.2.2.1,())))))))
 (gd (decide (0<=x18.2.2.1))
 (x18.2.1[x18.2.2.1.toNat]?.bind fun y27=>(g y27.2.1 (wrap .i64 (x18.1-1))).bind fun y28=>cond (!y28.1)
 (er_1 (false,()))
 (j29 (x18.1,x18.2.1,x18.2.2.1,()))))))))
 (e3_0 (())))
def jZ (g:SO) (a0:AE) (a1:Int):O0:=
 (cond (a0.1==0)
 (cond (a0.2.1==0)
 (some (a0.2.2.1==[],()))
 (some (false,())))
 (cond (a0.1==1)
 ((TC a0.2.1 0 1).bind fun y1=>cond y1.1
 (some (a0.2.2.1==[],()))
 (some (false,())))
 (cond (a0.1==2)
 ((TC a0.2.1 (-1000000000000) 1000000000000).bind fun y2=>cond y2.1
 (some (a0.2.2.1==[],()))
 (some (false,())))
 (cond (a0.1==3)
 (cond (a0.2.1==0)
 (some (decide ((a0.2.2.1.length:Int)<=300),()))
 (some (false,())))
 (cond (a0.1==4)
 ((LP a0.2.2.1).bind fun y3=>cond (a0.2.1 != 0)
 (some (false,()))
 (cond (!y3.2.1)
 (some (false,()))
 (cond (decide ((a0.2.2.1.length:Int)>300))
 (some (false,()))
 (cond (a1==0)
 (some (false,()))
 (iter (MN g
 (fun y12=>some (true,()))
 (fun y13=>some (y13.1,()))) Af (a1,y3.1,0,()))))))
 (cond (a0.1==5)
 ((SN a0.2.2.1).bind fun y14=>cond (a0.2.1 != 0)
 (some (false,()))
 (cond (!y14.2.1)
 (some (false,()))
 (cond (decide ((a0.2.2.1.length:Int)>300))
 (some (false,()))
 (cond (a1==0)
 (some (false,()))
 (iter (MO g
 (fun y31=>some (true,()))
 (fun y32=>some (y32.1,()))) Af (a1,y14.1,0,()))))))
 (some (false,()))))))))
def yN (g:SO):Av:=⟨[.ro Ax,qI],[(.bool,.z)],fun z=>jZ g z.1 z.2.1⟩
def yO (g:SO):Bf:=⟨160,Et tys,CK ones,Dj [(50,sP),(51,jW),(124,Zz),(144,jY g),(188,d8)],false,[],[(14,[1,5],[]),(15,[1,5,7],[]),(16,[1,5,7],[]),(17,[1,5,7],[]),(19,[],[]),(24,[1,8],[]),(25,[1,8,10],[]),(26,[1,8,10],[]),(27,[1,8,10],[]),(29,[],[]),(30,[],[]),(100000,[],[]),(100001,[],[]),(100002,[1,5,7],[]),(100003,[],[]),(100004,[1,8,10],[]),(99999,[4],[])],none,[],[]⟩
def oz (g:SO):List (At T0):=[⟨15,⟨[(1,vI),(5,vS Ax),(7,vI)],[]⟩,fun κ=>MN g (xt κ 1 ⟨[],[]⟩) (rt κ ⟨[(4,.pv .bool)],[]⟩)⟩,
  ⟨25,⟨[(1,vI),(8,vS AX),(10,vI)],[]⟩,fun κ=>MO g (xt κ 3 ⟨[],[]⟩) (rt κ ⟨[(4,.pv .bool)],[]⟩)⟩]
theorem j_ (g:SO) (hg:Aa prog 144 (jY g)):Aa prog 144 (yN g):=tQ (yO g) (oz g) (aU f144) func144 Ag (.cons UX (.cons Ke (.cons KU (.cons hg (.cons MM .nil))))) (.c ((oz g)[0]'(Nat.le_of_ble_eq_true rfl)) (.c ((oz g)[1]'(Nat.le_of_ble_eq_true rfl)) .nil))
def fU:Nat->SO
  |0=>fun _ _=>none
  |k+1=>jZ (fU k)
def o0:SO:=fU Af
def sU:Av:=jY o0
theorem Xu:∀ k,Aa prog 144 (jY (fU k))
  |0=>Aa.none func144 (by rfl) (by decide) fun _=>rfl
  |k+1=>j_ (fU k) (Xu k)
theorem kc:Aa prog 144 sU:=Xu Af
def eH (a0:AE):O0:=
 (cond (decide ((a0.2.2.1.length:Int)<=65536))
 ((o0 a0 5).bind fun y0=>some (y0.1,()))
 (some (false,())))
def rn:Av:=⟨[.ro Ax],[(.bool,.z)],fun z=>eH z.1⟩
def E99:=en 11 [(144,sU)] [([99999],[2])] []
theorem Rm:Aa prog 99 rn:=tQ E99 [] [] func99 Ag (.cons kc .nil) .nil
def aW (e0_0:T6->O5) (rec:qZ->O5) (x2:qZ):O5:=
 (cond (decide (x2.2.1>=0))
 (cond (decide ((IntKind.wrap .u64 (wrap .i64 (8*x2.2.1)))<0))
 none
 (gd (decide ((x2.2.2.1.length+(List.length [IntKind.wrap .u8 (Int.fdiv x2.1 ((2:Int) ^ (Min.min (IntKind.wrap .u64 (wrap .i64 (8*x2.2.1))).toNat (IntKind.bits IntKind.i64))))]))<=A_))
 (rec (x2.1,wrap .i64 (x2.2.1-1),x2.2.2.1++[IntKind.wrap .u8 (Int.fdiv x2.1 ((2:Int) ^ (Min.min (IntKind.wrap .u64 (wrap .i64 (8*x2.2.1))).toNat (IntKind.bits IntKind.i64))))],()))))
 (e0_0 (x2.2.2.1,())))
def ID (a0:Int) (a1:Int):O5:=
 (iter (aW
 (fun y4=>some ((List.map (fun (v5:Int)=>(UInt8.ofNat v5.toNat)) y4.1),()))) Af (a0,wrap .i64 (a1-1),[],()))
def fV:Av:=⟨[qI,qI],[(.str,.z)],fun z=>ID z.1 z.2.1⟩
def yP:=en 25 [] [([3,5,100001],[0,5,6]),([6,100000],[5]),([99999],[4])] []
def sV:List (At T5):=[⟨3,⟨[(0,vI),(5,.ref (.slice (.int .u8)) 56 []),(6,vI)],[(56,.data false (.slice (.int .u8)) (.own .z))]⟩,fun κ=>aW (xt κ 0 ⟨[(5,.ref (.slice (.int .u8)) 56 [])],[(56,.data false (.slice (.int .u8)) (.own .z))]⟩)⟩]
theorem PR:Aa prog 145 fV:=tQ yP sV (Dg f145) func145 Ag .nil (.c sV[0] .nil)
def fW (a0:AE):O5:=
 ((ID a0.1 1).bind fun y0=>cond (a0.1==0)
 (some (y0.1,()))
 (cond (a0.1==1)
 ((ID a0.2.1 1).bind fun y2=>gd (decide ((y0.1.length+y2.1.length)<=9223372036854775807))
 (some (y0.1++y2.1,())))
 (cond (a0.1==2)
 ((ID (wrap .i64 (a0.2.1+4611686018427387904)) 8).bind fun y3=>gd (decide ((y0.1.length+y3.1.length)<=9223372036854775807))
 (some (y0.1++y3.1,())))
 ((ID (a0.2.2.1.length:Int) 2).bind fun y4=>gd (decide ((y0.1.length+y4.1.length)<=9223372036854775807))
 (gd (decide (((y0.1++y4.1).length+a0.2.2.1.length)<=9223372036854775807))
 (some ((y0.1++y4.1)++a0.2.2.1,())))))))
def o1:Av:=⟨[.ro Ax],[(.str,.z)],fun z=>fW z.1⟩
def yQ:=en 36 [(145,fV)] [([9,100000],[1,3]),([99999],[2])] []
theorem aX:Aa prog 146 o1:=tQ yQ [] [] func146 Ag (.cons PR .nil) .nil
def PT (e0_0:S8×AE×Unit->O4) (rec:sc->O4) (x2:sc):O4:=
 (cond (decide (x2.2.2.1<x2.1.length))
 (gd (decide (0<=x2.2.2.1))
 (x2.1[x2.2.2.1.toNat]?.bind fun y4=>(fW y4).bind fun y5=>gd (decide ((x2.2.1.length+y5.1.length)<=9223372036854775807))
 (rec (x2.1,x2.2.1++y5.1,wrap .i64 (x2.2.2.1+1),x2.2.2.2.1,()))))
 (e0_0 (x2.2.1,x2.2.2.2.1,())))
def ZA (a0:List AE):O4:=
 (iter (PT
 (fun y6=>some ((4,0,y6.1,()),()))) Af (a0,[],0,(0,0,[],()),()))
def o2:Av:=⟨[.ro (.slice Ax)],[(Ax,.z)],fun z=>ZA z.1⟩
def yR:=en 20 [(146,o1)] [([3,5,100001],[0,2,3,4]),([6,100000],[2,3]),([99999],[2])] []
def sW:List (At T4):=[⟨3,⟨[(0,vS Ax),(2,vP 16),(3,.pv .str),(4,vI)],[(16,mD Ax)]⟩,fun κ=>PT (xt κ 0 ⟨[(2,vP 16),(3,.pv .str)],[(16,mD Ax)]⟩)⟩]
theorem aY:Aa prog 143 o2:=tQ yR sW (Dg f143) func143 Ag (.cons aX .nil) (.c sW[0] .nil)
def o4 (a0:S8):O4:=
 (some ((3,0,a0,()),()))
def sX:Av:=⟨[.ro .str],[(Ax,.z)],fun z=>o4 z.1⟩
def yS:=en 5 [] [([99999],[2])] []
theorem kd:Aa prog 187 sX:=tQ yS [] [] func187 Ag .nil .nil
def OY (a0:Hq) (a1:Int):Option (Bool×Hq×Unit):=
 ((Ef a0 a1).bind fun y0=>some (y0.1==(wrap .i64 (a1-1)),y0.2.1,()))
def sY:Av:=⟨[.io MI .z,qI],[(.bool,.z)],fun z=>OY z.1 z.2.1⟩
def E47:=em 11 [(45,ox)] true [] [] [(99999,[4],[4])]
theorem UY:IoOk prog 47 sY:=tI E47 [] [] func47 Ag (.consIo Od .nil) (fun p=>.nil)
def KV (e0_0:S8×AE×Unit->O4) (rec:rW->O4) (x2:rW):O4:=
 (cond (decide (x2.2.2.1<x2.1.length))
 (gd (decide (0<=x2.2.2.1))
 (x2.1[x2.2.2.1.toNat]?.bind fun y4=>(ID (y4.1.length:Int) 1).bind fun y5=>gd (decide (0<=x2.2.2.1))
 (x2.1[x2.2.2.1.toNat]?.bind fun y6=>gd (decide ((y5.1.length+y6.1.length)<=9223372036854775807))
 (gd (decide (0<=x2.2.2.1))
 (x2.1[x2.2.2.1.toNat]?.bind fun y7=>(fW y7.2.1).bind fun y8=>gd (decide (((y5.1++y6.1).length+y8.1.length)<=9223372036854775807))
 (gd (decide ((x2.2.1.length+((y5.1++y6.1)++y8.1).length)<=9223372036854775807))
 (rec (x2.1,x2.2.1++((y5.1++y6.1)++y8.1),wrap .i64 (x2.2.2.1+1),x2.2.2.2.1,()))))))))
 (e0_0 (x2.2.1,x2.2.2.2.1,())))
def PA (a0:List BN):O4:=
 (iter (KV
 (fun y9=>some ((5,0,y9.1,()),()))) Af (a0,[],0,(0,0,[],()),()))
def fX:Av:=⟨[.ro (.slice AX)],[(Ax,.z)],fun z=>PA z.1⟩
def yT:=en 35 [(145,fV),(146,o1)] [([3,5,100001],[0,2,3,4]),([6,100000],[2,3]),([99999],[2])] []
def sZ:List (At T4):=[⟨3,⟨[(0,vS AX),(2,vP 16),(3,.pv .str),(4,vI)],[(16,mD Ax)]⟩,fun κ=>KV (xt κ 0 ⟨[(2,vP 16),(3,.pv .str)],[(16,mD Ax)]⟩)⟩]
theorem PU:Aa prog 100 fX:=tQ yT sZ (Dg f100) func100 Ag (.cons PR (.cons aX .nil)) (.c sZ[0] .nil)
abbrev Kf:Type:=Hq->(Int)->d6
def d9 (g:Kf):Av:=⟨[.io MI .z,qI],[(Ax,.z)],fun z=>g z.1 z.2.1⟩
def Jf (g:Kf) (e0_0:Hq×AE×List BN×Unit->d6) (rec:wA->d6) (x2:wA):d6:=
 (cond (decide (x2.2.1<4))
 (let j8:wA->d6:=fun (y9:wA)=>
 (rec (y9.1,wrap .i64 (y9.2.1+1),y9.2.2.1,y9.2.2.2.1,y9.2.2.2.2.1,()))
 ((OY x2.2.2.1 2).bind fun y5=>cond y5.1
 (gd (decide (0<=x2.2.1))
 (Option.bind [[(97:UInt8)],[(98:UInt8)],[(99:UInt8)],[(116:UInt8),97,103,115]][x2.2.1.toNat]? fun y6=>(g y5.2.1 x2.1).bind fun y7=>gd (decide ((x2.2.2.2.2.1.length+(List.length [(y6,y7.1,())]))<=A_))
 (j8 (x2.1,x2.2.1,y7.2.1,x2.2.2.2.1,x2.2.2.2.2.1++[(y6,y7.1,())],()))))
 (j8 (x2.1,x2.2.1,y5.2.1,x2.2.2.2.1,x2.2.2.2.2.1,()))))
 (e0_0 (x2.2.2.1,x2.2.2.2.1,x2.2.2.2.2.1,())))
def o5 (g:Kf) (a0:Hq) (a1:Int):d6:=
 (iter (Jf g
 (fun y10=>(PA y10.2.2.1).bind fun y11=>(eH y11.1).bind fun y13=>cond (!y13.1)
 ((PA []).bind fun y14=>some (y14.1,y10.1,()))
 (some (y11.1,y10.1,())))) Af (a1,0,a0,(0,0,[],()),[],()))
def yU (g:Kf):Av:=⟨[.io MI .z,qI],[(Ax,.z)],fun z=>o5 g z.1 z.2.1⟩
def E97 (g:Kf):Bf:=⟨34,Et tys,CK ones,Dj [(47,sY),(99,rn),(100,fX),(142,d9 g)],true,[128],[(3,[0,1,4,5,6],[4]),(4,[0,1,4,5,6],[4]),(5,[0,1,4,5,6],[4]),(7,[4,5],[4]),(10,[4,7],[4]),(100000,[4,5],[4]),(100001,[0,1,4,5,6],[4]),(99999,[4],[4])],none,[],[]⟩
def wX (g:Kf):List (At yh):=[⟨3,⟨[(0,vP 4),(1,vI),(4,vP 32),(5,vR AX 64),(6,vI)],[(4,mD MI),(32,mD Ax),(64,mO AX)]⟩,fun κ=>Jf g (xt κ 0 ⟨[(4,vP 32),(5,vR AX 64)],[(4,mD MI),(32,mD Ax),(64,mO AX)]⟩)⟩]
theorem s_ (g:Kf):∀ p:Option Src,KT { (E97 g) with pin:=p} (wX g) ((wX g)[0]'(Nat.le_of_ble_eq_true rfl)) (CZ (Bq f97) 0):=fun p κ N x=>by kernel_rfl
theorem fY (g:Kf) (hg:IoOk prog 142 (d9 g)):IoOk prog 97 (yU g):=tI (E97 g) (wX g) (Dg f97) func97 Ag (.consIo UY (.cons Rm (.cons PU (.consIo hg .nil)))) (fun p=>(.cons ((wX g)[0]'(Nat.le_of_ble_eq_true rfl)) (by kernel_rfl) ((s_ g) p) .nil))
def GA (g:Kf) (e1_0:Hq×AE×List AE×Unit->d6) (rec:T99->d6) (x18:T99):d6:=
 (cond (decide (x18.2.1>0))
 ((g x18.2.2.1 (wrap .i64 (x18.1-1))).bind fun y20=>gd (decide ((x18.2.2.2.2.1.length+(List.length [y20.1]))<=A_))
 (rec (x18.1,wrap .i64 (x18.2.1-1),y20.2.1,x18.2.2.2.1,x18.2.2.2.2.1++[y20.1],())))
 (e1_0 (x18.2.2.1,x18.2.2.2.1,x18.2.2.2.2.1,())))
def Xv (g:Kf) (a0:Hq) (a1:Int):d6:=
 ((Ef a0 8).bind fun y0=>let j3:s0->d6:=fun (y4:s0)=>
 (let j40:Int×Hq×AE×Unit->d6:=fun (y41:Int×Hq×AE×Unit)=>
 ((o5 g y41.2.1 (wrap .i64 (y41.1-1))).bind fun y42=>some (y42.1,y42.2.1,()))
 (cond (y4.2.1==0)
 (some ((0,0,[],()),y4.2.2.1,()))
 (cond (y4.2.1==1)
 ((Ef y4.2.2.1 2).bind fun y6=>some ((1,y6.1,[],()),y6.2.1,()))
 (cond (y4.2.1==2)
 (cond (y4.2.1==2)
 ((Ef y4.2.2.1 9).bind fun y8=>(d7 (wrap .i64 (y8.1-3))).bind fun y9=>some (y9.1,y8.2.1,()))
 (cond (y4.2.1==4)
 ((NP y4.2.2.1 [[],[(97:UInt8)],[(97:UInt8),98],[(98:UInt8)],[(0:UInt8)]]).bind fun y10=>(o4 y10.1).bind fun y11=>some (y11.1,y10.2.1,()))
 (cond (y4.2.1==5)
 ((Ef y4.2.2.1 3).bind fun y12=>gd (decide (0<=y12.1))
 (Option.bind [(1000000000000:Int),-1000000000000,300][y12.1.toNat]? fun y13=>(d7 y13).bind fun y14=>some (y14.1,y12.2.1,())))
 (cond (y4.2.1==6)
 ((Ef y4.2.2.1 4).bind fun y16=>iter (GA g
 (fun y21=>(ZA y21.2.2.1).bind fun y22=>(eH y22.1).bind fun y24=>cond (!y24.1)
 ((d7 1).bind fun y25=>some (y25.1,y21.1,()))
 (some (y22.1,y21.1,())))) Af (y4.1,y16.1,y16.2.1,y4.2.2.2.1,[],()))
 (j40 (y4.1,y4.2.2.1,y4.2.2.2.1,()))))))
 (cond (y4.2.1==3)
 ((Ef y4.2.2.1 9).bind fun y26=>(d7 (wrap .i64 (y26.1-3))).bind fun y27=>some (y27.1,y26.2.1,()))
 (cond (y4.2.1==4)
 ((NP y4.2.2.1 [[],[(97:UInt8)],[(97:UInt8),98],[(98:UInt8)],[(0:UInt8)]]).bind fun y28=>(o4 y28.1).bind fun y29=>some (y29.1,y28.2.1,()))
 (cond (y4.2.1==5)
 ((Ef y4.2.2.1 3).bind fun y30=>gd (decide (0<=y30.1))
 (Option.bind [(1000000000000:Int),-1000000000000,300][y30.1.toNat]? fun y31=>(d7 y31).bind fun y32=>some (y32.1,y30.2.1,())))
 (cond (y4.2.1==6)
 ((Ef y4.2.2.1 4).bind fun y34=>iter (GA g
 (fun y35=>(ZA y35.2.2.1).bind fun y36=>(eH y36.1).bind fun y38=>cond (!y38.1)
 ((d7 1).bind fun y39=>some (y39.1,y35.1,()))
 (some (y36.1,y35.1,())))) Af (y4.1,y34.1,y34.2.1,y4.2.2.2.1,[],()))
 (j40 (y4.1,y4.2.2.1,y4.2.2.2.1,()))))))))))
 (cond (a1==0)
 ((Ef y0.2.1 6).bind fun y2=>j3 (a1,y2.1,y2.2.1,(0,0,[],()),()))
 (j3 (a1,y0.1,y0.2.1,(0,0,[],()),()))))
def yV (g:Kf):Av:=⟨[.io MI .z,qI],[(Ax,.z)],fun z=>Xv g z.1 z.2.1⟩
def ta (g:Kf):Bf:=⟨72,Et tys,CK ones,Dj [(45,ox),(48,rm),(97,yU g),(98,wW),(99,rn),(142,d9 g),(143,o2),(187,sX)],true,[272,312],[(4,[0,1,4,5],[4]),(19,[0,1,4,6,7],[4]),(21,[0,1,4,6,7],[4]),(22,[4,6],[4]),(25,[4,8],[4]),(26,[0,1,4],[4]),(100000,[0,1,4],[4]),(100001,[4,6],[4]),(100002,[0,1,4,6,7],[4]),(99999,[4],[4])],none,[],[]⟩
def kf (g:Kf):List (At yh):=[⟨19,⟨[(0,vP 4),(1,vI),(4,vP 32),(6,vR Ax 376),(7,vI)],[(4,mD MI),(32,mD Ax),(376,mO Ax)]⟩,fun κ=>GA g (xt κ 1 ⟨[(4,vP 32),(6,vR Ax 376)],[(4,mD MI),(32,mD Ax),(376,mO Ax)]⟩)⟩]
theorem kg (g:Kf):∀ p:Option Src,KT { (ta g) with pin:=p} (kf g) ((kf g)[0]'(Nat.le_of_ble_eq_true rfl)) (CZ (Bq f142) 0):=fun p κ N x=>by kernel_rfl
theorem kh (g:Kf) (hg:IoOk prog 142 (d9 g)):IoOk prog 142 (yV g):=tI (ta g) (kf g) (Dg f142) func142 Ag (.consIo Od (.consIo Rl (.consIo (fY g hg) (.cons Zy (.cons Rm (.consIo hg (.cons aY (.cons kd .nil)))))))) (fun p=>(.cons ((kf g)[0]'(Nat.le_of_ble_eq_true rfl)) (by kernel_rfl) ((kg g) p) .nil))
def ZB:Nat->Kf
  |0=>fun _ _=>none
  |k+1=>Xv (ZB k)
def MP:Kf:=ZB Af
def tc:Av:=d9 MP
theorem Xw:∀ k,IoOk prog 142 (d9 (ZB k))
  |0=>IoOk.none func142 (by rfl) (by decide) fun _=>rfl
  |k+1=>kh (ZB k) (Xw k)
theorem aZ:IoOk prog 142 tc:=Xw Af
def yW:=o5 MP
def C97:Av:=yU MP
theorem o6:IoOk prog 97 C97:=fY MP aZ
def wY (a0:Hq):Option (DC×Hq×Unit):=
 ((Ef a0 10).bind fun y0=>(NP y0.2.1 [[(97:UInt8)],[(98:UInt8)],[(99:UInt8)],[(116:UInt8),97,103,115],[(97:UInt8),46,98],[(116:UInt8),97,103,115,46,97],[(105:UInt8),100]]).bind fun y1=>(MP y1.2.1 1).bind fun y2=>let j12:Hq×DC×DC×Unit->Option (DC×Hq×Unit):=fun (y13:Hq×DC×DC×Unit)=>
 (some (y13.2.2.1,y13.1,()))
 (cond ((wrap .i64 (1+y0.1))==7)
 ((MP y2.2.1 0).bind fun y4=>(MP y4.2.1 0).bind fun y5=>(ZA [y4.1,y5.1]).bind fun y6=>j12 (y5.2.1,(0,[],(0,0,[],()),()),(wrap .i64 (1+y0.1),y1.1,y6.1,()),()))
 (cond ((wrap .i64 (1+y0.1))==8)
 ((Ef y2.2.1 2).bind fun y7=>j12 (y7.2.1,(0,[],(0,0,[],()),()),(wrap .i64 (1+y0.1),y1.1,(1,y7.1,[],()),()),()))
 (cond ((wrap .i64 (1+y0.1))==9)
 ((Ef y2.2.1 6).bind fun y8=>(d7 y8.1).bind fun y9=>j12 (y8.2.1,(0,[],(0,0,[],()),()),(wrap .i64 (1+y0.1),y1.1,y9.1,()),()))
 (cond ((wrap .i64 (1+y0.1))==10)
 ((Ef y2.2.1 3).bind fun y10=>(d7 y10.1).bind fun y11=>j12 (y10.2.1,(0,[],(0,0,[],()),()),(wrap .i64 (1+y0.1),y1.1,y11.1,()),()))
 (j12 (y2.2.1,(0,[],(0,0,[],()),()),(wrap .i64 (1+y0.1),y1.1,y2.1,()),())))))))
def C94:Av:=⟨[.io MI .z],[(GI,.z)],fun z=>wY z.1⟩
def E94:=em 43 [(45,ox),(48,rm),(98,wW),(142,tc),(143,o2)] true [64,168] [] [(11,[2,3],[4]),(100000,[2,3],[4]),(99999,[2],[4])]
theorem o7:IoOk prog 94 C94:=tI E94 [] [] func94 Ag (.consIo Od (.consIo Rl (.cons Zy (.consIo aZ (.cons aY .nil))))) (fun p=>.nil)
def LQ (e2_0:Int×Hq×SG×SG×HI×Unit->ot) (rec:rP->ot) (x9:rP):ot:=
 (cond (decide (x9.2.1>0))
 ((wY x9.2.2.1).bind fun y11=>gd (decide ((x9.2.2.2.2.2.1.1.length+(List.length [y11.1]))<=A_))
 (rec (x9.1,wrap .i64 (x9.2.1-1),y11.2.1,x9.2.2.2.1,x9.2.2.2.2.1,(x9.2.2.2.2.2.1.1++[y11.1],x9.2.2.2.2.2.1.2),())))
 (e2_0 (x9.1,x9.2.2.1,x9.2.2.2.1,x9.2.2.2.2.1,x9.2.2.2.2.2.1,())))
def Kg (e0_0:Hq×SG×SG×Unit->ot) (rec:s7->ot) (x3:s7):ot:=
 (cond (decide (x3.1>0))
 ((Ef x3.2.1 3).bind fun y7=>iter (LQ
 (fun y12=>gd (decide ((y12.2.2.2.1.1.length+(List.length [y12.2.2.2.2.1]))<=A_))
 (rec (wrap .i64 (y12.1-1),y12.2.1,y12.2.2.1,(y12.2.2.2.1.1++[y12.2.2.2.2.1],y12.2.2.2.1.2),())))) Af (x3.1,y7.1,y7.2.1,x3.2.2.1,x3.2.2.2.1,([],()),()))
 (e0_0 (x3.2.1,x3.2.2.1,x3.2.2.2.1,())))
def wZ (a0:Hq):ot:=
 ((Ef a0 4).bind fun y1=>iter (Kg
 (fun y13=>some (y13.2.2.1,y13.1,()))) Af (wrap .i64 (1+(wrap .i64 (Int.tdiv y1.1 3))),y1.2.1,([],()),([],()),()))
def C44:Av:=⟨[.io MI .z],[(Rk,.z)],fun z=>wZ z.1⟩
def yX:=em 39 [(45,ox),(94,C94)] true [] [] [(3,[0,2,3,4],[4]),(4,[0,2,3,4],[4]),(5,[0,2,3,4],[4]),(7,[0,2,3,4,5,6],[4]),(9,[0,2,3,4,5,6],[4]),(10,[0,2,3,4,5],[4]),(11,[2,3],[4]),(100000,[2,3],[4]),(100001,[0,2,3,4],[4]),(100002,[0,2,3,4,5],[4]),(100003,[0,2,3,4,5,6],[4]),(99999,[2],[4])]
def o8:List (At T18):=[⟨7,⟨[(0,vP 4),(2,vP 16),(3,vP 24),(4,vI),(5,vP 40),(6,vI)],[(4,mD MI),(16,.data true Rk (.pr (.own (.pr (.own .z) .z)) .z)),(24,.data true Rk (.pr (.own (.pr (.own .z) .z)) .z)),(40,.data true IC (.pr (.own .z) .z))]⟩,fun κ=>LQ (xt κ 2 ⟨[(0,vP 4),(2,vP 16),(3,vP 24),(4,vI),(5,vP 40)],[(4,mD MI),(16,.data true Rk (.pr (.own (.pr (.own .z) .z)) .z)),(24,.data true Rk (.pr (.own (.pr (.own .z) .z)) .z)),(40,.data true IC (.pr (.own .z) .z))]⟩)⟩,
  ⟨3,⟨[(0,vP 4),(2,vP 16),(3,vP 24),(4,vI)],[(4,mD MI),(16,.data true Rk (.pr (.own (.pr (.own .z) .z)) .z)),(24,.data true Rk (.pr (.own (.pr (.own .z) .z)) .z))]⟩,fun κ=>Kg (xt κ 0 ⟨[(2,vP 16),(3,vP 24)],[(4,mD MI),(16,.data true Rk (.pr (.own (.pr (.own .z) .z)) .z)),(24,.data true Rk (.pr (.own (.pr (.own .z) .z)) .z))]⟩)⟩]
theorem td:∀ p:Option Src,KT {yX with pin:=p} o8 o8[0] (CZ (Bq f44) 1):=fun p κ N x=>by kernel_rfl
theorem te:∀ p:Option Src,KT {yX with pin:=p} o8 o8[1] (CZ (Bq f44) 0):=fun p κ N x=>by kernel_rfl
theorem o9:IoOk prog 44 C44:=tI yX o8 (aU f44) func44 Ag (.consIo Od (.consIo o7 .nil)) (fun p=>(.cons o8[1] (by kernel_rfl) (te p) (.cons o8[0] (by kernel_rfl) (td p) .nil)))
def w_ (a0:Hq):Option (S8×Hq×Unit):=
 ((NP a0 [[(97:UInt8)],[(98:UInt8)],[(99:UInt8)],[(116:UInt8),97,103,115],[(97:UInt8),46,98],[(97:UInt8),46,97],[(98:UInt8),46,99],[(116:UInt8),97,103,115,46,97],[(97:UInt8),46,98,46,99]]).bind fun y0=>some (y0.1,y0.2.1,()))
def C46:Av:=⟨[.io MI .z],[(.str,.z)],fun z=>w_ z.1⟩
def E46:=em 6 [(48,rm)] true [32] [] [(99999,[2],[4])]
theorem oA:IoOk prog 46 C46:=tI E46 [] [] func46 Ag (.consIo Rl .nil) (fun p=>.nil)
def LR (e0_0:oo->ou) (rec:s8->ou) (x4:s8):ou:=
 (cond (decide (x4.1>0))
 ((w_ x4.2.1).bind fun y6=>(OY y6.2.1 2).bind fun y7=>gd (decide ((x4.2.2.2.1.2.1.length+(List.length [(y6.1,y7.1,())]))<=A_))
 (rec (wrap .i64 (x4.1-1),y7.2.1,x4.2.2.1,(x4.2.2.2.1.1,x4.2.2.2.1.2.1++[(y6.1,y7.1,())],x4.2.2.2.1.2.2),())))
 (e0_0 (x4.2.1,x4.2.2.1,x4.2.2.2.1,())))
def xa (a0:Hq):ou:=
 ((wZ a0).bind fun y0=>(Ef y0.2.1 3).bind fun y2=>iter (LR
 (fun y8=>let j13:oo->ou:=fun (y14:oo)=>
 (let j18:oo->ou:=fun (y19:oo)=>
 (let j23:oo->ou:=fun (y24:oo)=>
 (some (y24.2.2.1,y24.1,()))
 ((OY y19.1 3).bind fun y21=>cond y21.1
 ((NP y21.2.1 [[(111:UInt8),110,101],[(116:UInt8),119,111],[(110:UInt8),111,110,101]]).bind fun y22=>j23 (y22.2.1,y19.2.1,(y19.2.2.1.1,y19.2.2.1.2.1,y19.2.2.1.2.2.1,y19.2.2.1.2.2.2.1,y19.2.2.1.2.2.2.2.1,y22.1,y19.2.2.1.2.2.2.2.2.2),()))
 (j23 (y21.2.1,y19.2.1,y19.2.2.1,()))))
 ((OY y14.1 4).bind fun y16=>cond y16.1
 ((NP y16.2.1 [[(97:UInt8)],[(98:UInt8)]]).bind fun y17=>gd (decide ((y14.2.2.1.2.2.2.2.1.length+(List.length [y17.1]))<=A_))
 (j18 (y17.2.1,y14.2.1,(y14.2.2.1.1,y14.2.2.1.2.1,y14.2.2.1.2.2.1,y14.2.2.1.2.2.2.1,y14.2.2.1.2.2.2.2.1++[y17.1],y14.2.2.1.2.2.2.2.2),())))
 (j18 (y16.2.1,y14.2.1,y14.2.2.1,()))))
 ((OY y8.1 4).bind fun y10=>cond y10.1
 ((Ef y10.2.1 3).bind fun y11=>(Ef y11.2.1 3).bind fun y12=>j13 (y12.2.1,y8.2.1,(y8.2.2.1.1,y8.2.2.1.2.1,y11.1,y12.1,y8.2.2.1.2.2.2.2),()))
 (j13 (y10.2.1,y8.2.1,y8.2.2.1,()))))) Af (y2.1,y2.2.1,(([],()),[],0,0,[],[],()),(y0.1,[],0,0,[],[],()),()))
def C16:Av:=⟨[.io MI .z],[(Mi,.z)],fun z=>xa z.1⟩
def E16:=em 51 [(44,C44),(45,ox),(46,C46),(47,sY),(48,rm)] true [312,376] [] [(3,[0,2,3,4],[4]),(5,[0,2,3,4],[4]),(6,[0,2,3],[4]),(9,[0,2,3],[4]),(11,[0,2,3],[4]),(13,[2,3],[4]),(100000,[0,2,3],[4]),(100001,[0,2,3,4],[4]),(99999,[2],[4])]
def xb:List (At T19):=[⟨3,⟨[(0,vP 4),(2,vP 16),(3,vP 24),(4,vI)],[(4,mD MI),(16,.data true Mi (.pr (.pr (.own (.pr (.own .z) .z)) .z) (.pr (.own .z) (.pr .z (.pr .z (.pr (.own .z) .z)))))),(24,.data true Mi (.pr .z (.pr (.own .z) (.pr .z (.pr .z (.pr (.own .z) .z))))))]⟩,fun κ=>LR (xt κ 0 ⟨[(0,vP 4),(2,vP 16),(3,vP 24)],[(4,mD MI),(16,.data true Mi (.pr (.pr (.own (.pr (.own .z) .z)) .z) (.pr (.own .z) (.pr .z (.pr .z (.pr (.own .z) .z)))))),(24,.data true Mi (.pr .z (.pr (.own .z) (.pr .z (.pr .z (.pr (.own .z) .z))))))]⟩)⟩]
theorem tg:∀ p:Option Src,KT {E16 with pin:=p} xb xb[0] (CZ (Bq f16) 0):=fun p κ N x=>by kernel_rfl
theorem oB:IoOk prog 16 C16:=tI E16 xb (Dg f16) func16 Ag (.consIo o9 (.consIo Od (.consIo oA (.consIo UY (.consIo Rl .nil))))) (fun p=>(.cons xb[0] (by kernel_rfl) (tg p) .nil))
def F4 (a0:List Int):Option (LO×Unit):=
 ((sI a0).bind fun y0=>(xa y0.1).bind fun y1=>some (y1.1,()))
def C4:Av:=⟨[.ro (.slice (.int .u8))],[(Mi,.z)],fun z=>F4 z.1⟩
def E4:=en 6 [(15,wV),(16,C16)] [([99999],[2])] []
theorem ti:Aa prog 4 C4:=tQ E4 [] [] func4 Ag (.consFr Zx (.consIo oB .nil)) .nil
def UZ (e0_0:S8×Bool×AE×AE×List BN×Unit->O4) (rec:qY->O4) (x3:qY):O4:=
 (cond (decide (x3.2.2.2.1<x3.2.1.length))
 (let j12:qY->O4:=fun (y13:qY)=>
 (rec (y13.1,y13.2.1,y13.2.2.1,wrap .i64 (y13.2.2.2.1+1),y13.2.2.2.2.1,y13.2.2.2.2.2.1,y13.2.2.2.2.2.2.1,()))
 (let j8:qY->O4:=fun (y9:qY)=>
 (gd (decide (0<=y9.2.2.2.1))
 (y9.2.1[y9.2.2.2.1.toNat]?.bind fun y10=>cond (!(y10.1==y9.1))
 (gd (decide (0<=y9.2.2.2.1))
 (y9.2.1[y9.2.2.2.1.toNat]?.bind fun y11=>gd (decide ((y9.2.2.2.2.2.2.1.length+(List.length [y11]))<=A_))
 (j12 (y9.1,y9.2.1,y9.2.2.1,y9.2.2.2.1,y9.2.2.2.2.1,y9.2.2.2.2.2.1,y9.2.2.2.2.2.2.1++[y11],()))))
 (j12 (y9.1,y9.2.1,y9.2.2.1,y9.2.2.2.1,y9.2.2.2.2.1,y9.2.2.2.2.2.1,y9.2.2.2.2.2.2.1,()))))
 (cond (!x3.2.2.1)
 (gd (decide (0<=x3.2.2.2.1))
 (x3.2.1[x3.2.2.2.1.toNat]?.bind fun y7=>cond (!(Op.bytesLess y7.1 x3.1))
 (gd (decide ((x3.2.2.2.2.2.2.1.length+(List.length [(x3.1,x3.2.2.2.2.1,())]))<=A_))
 (j8 (x3.1,x3.2.1,true,x3.2.2.2.1,x3.2.2.2.2.1,x3.2.2.2.2.2.1,x3.2.2.2.2.2.2.1++[(x3.1,x3.2.2.2.2.1,())],())))
 (j8 (x3.1,x3.2.1,x3.2.2.1,x3.2.2.2.1,x3.2.2.2.2.1,x3.2.2.2.2.2.1,x3.2.2.2.2.2.2.1,()))))
 (j8 (x3.1,x3.2.1,x3.2.2.1,x3.2.2.2.1,x3.2.2.2.2.1,x3.2.2.2.2.2.1,x3.2.2.2.2.2.2.1,())))))
 (e0_0 (x3.1,x3.2.2.1,x3.2.2.2.2.1,x3.2.2.2.2.2.1,x3.2.2.2.2.2.2.1,())))
def xc (a0:AE) (a1:S8) (a2:AE) (a3:Bool):O4:=
 ((SN a0.2.2.1).bind fun y0=>iter (UZ
 (fun y14=>let j16:yy->O4:=fun (y17:yy)=>
 ((PA y17.2.1).bind fun y18=>some (y18.1,()))
 (cond (!y14.2.1)
 (gd (decide ((y14.2.2.2.2.1.length+(List.length [(y14.1,y14.2.2.1,())]))<=A_))
 (j16 (y14.2.2.2.1,y14.2.2.2.2.1++[(y14.1,y14.2.2.1,())],())))
 (j16 (y14.2.2.2.1,y14.2.2.2.2.1,()))))) Af (a1,y0.1,!a3,0,a2,(0,0,[],()),[],()))
def C96:Av:=⟨[.ro Ax,.ro .str,.ro Ax,.ro .bool],[(Ax,.z)],fun z=>xc z.1 z.2.1 z.2.2.1 z.2.2.2.1⟩
def E96:=en 70 [(100,fX),(124,Zz)] [([5,6,7,10,100001],[1,6,8,9,11,12,13]),([12,100000],[1,6,8,11,12]),([14],[8,11]),([99999],[8])] []
def L96:List (At T4):=[⟨5,⟨[(1,.pv .str),(6,vP 48),(8,vP 64),(9,vS AX),(11,vR AX 160),(12,.pv .bool),(13,vI)],[(48,mD Ax),(64,mD Ax),(160,mO AX)]⟩,fun κ=>UZ (xt κ 0 ⟨[(1,.pv .str),(6,vP 48),(8,vP 64),(11,vR AX 160),(12,.pv .bool)],[(48,mD Ax),(64,mD Ax),(160,mO AX)]⟩)⟩]
theorem oC:Aa prog 96 C96:=tQ E96 L96 (Dg f96) func96 Ag (.cons PU (.cons KU .nil)) (.c L96[0] .nil)
def oD (a0:Hq) (a1:Int):d6:=
 ((yW a0 2).bind fun y0=>(d7 a1).bind fun y1=>(xc y0.1 [(105:UInt8),100] y1.1 true).bind fun y2=>(eH y2.1).bind fun y4=>cond (!y4.1)
 ((d7 a1).bind fun y5=>(PA [([(105:UInt8),100],y5.1,())]).bind fun y6=>some (y6.1,y0.2.1,()))
 (some (y2.1,y0.2.1,())))
def C49:Av:=⟨[.io MI .z,qI],[(Ax,.z)],fun z=>oD z.1 z.2.1⟩
def E49:=em 20 [(96,C96),(97,C97),(98,wW),(99,rn),(100,fX)] true [136] [] [(4,[4,5],[4]),(99999,[4],[4])]
theorem oE:IoOk prog 49 C49:=tI E49 [] [] func49 Ag (.cons oC (.consIo o6 (.cons Zy (.cons Rm (.cons PU .nil))))) (fun p=>.nil)
def GJ (e0_0:Hq×List AE×Unit->sB) (rec:wP->sB) (x2:wP):sB:=
 (cond (decide (x2.1<9))
 (cond (decide ((x2.2.2.1.length:Int)<6))
 (let j7:wP->sB:=fun (y8:wP)=>
 (rec (wrap .i64 (y8.1+1),y8.2.1,y8.2.2.1,()))
 ((OY x2.2.1 2).bind fun y5=>cond y5.1
 ((oD y5.2.1 x2.1).bind fun y6=>gd (decide ((x2.2.2.1.length+(List.length [y6.1]))<=A_))
 (j7 (x2.1,y6.2.1,x2.2.2.1++[y6.1],())))
 (j7 (x2.1,y5.2.1,x2.2.2.1,()))))
 (e0_0 (x2.2.1,x2.2.2.1,())))
 (e0_0 (x2.2.1,x2.2.2.1,())))
def yY (a0:Hq):sB:=
 (iter (GJ
 (fun y9=>some (y9.2.1,y9.1,()))) Af (0,a0,[],()))
def C17:Av:=⟨[.io MI .z],[(.slice Ax,.z)],fun z=>yY z.1⟩
def E17:=em 24 [(47,sY),(49,C49)] true [] [] [(3,[0,3,4],[4]),(4,[0,3,4],[4]),(5,[0,3,4],[4]),(7,[3],[4]),(100000,[3],[4]),(100001,[0,3,4],[4]),(99999,[2],[4])]
def xd:List (At T35):=[⟨3,⟨[(0,vP 4),(3,vR Ax 40),(4,vI)],[(4,mD MI),(40,mO Ax)]⟩,fun κ=>GJ (xt κ 0 ⟨[(3,vR Ax 40)],[(4,mD MI),(40,mO Ax)]⟩)⟩]
theorem tm:∀ p:Option Src,KT {E17 with pin:=p} xd xd[0] (CZ (Bq f17) 0):=fun p κ N x=>by kernel_rfl
theorem oF:IoOk prog 17 C17:=tI E17 xd (Dg f17) func17 Ag (.consIo UY (.consIo oE .nil)) (fun p=>(.cons xd[0] (by kernel_rfl) (tm p) .nil))
def F5 (a0:List Int):O2:=
 ((sI a0).bind fun y0=>(yY y0.1).bind fun y1=>some (y1.1,()))
def C5:Av:=⟨[.ro (.slice (.int .u8))],[(.slice Ax,.z)],fun z=>F5 z.1⟩
def E5:=en 6 [(15,wV),(17,C17)] [([99999],[2])] []
theorem tn:Aa prog 5 C5:=tQ E5 [] [] func5 Ag (.consFr Zx (.consIo oF .nil)) .nil
def xe (a0:Hq):Option (UU×Hq×Unit):=
 ((NP a0 [[(111:UInt8),110,101],[(116:UInt8),119,111]]).bind fun y0=>(NP y0.2.1 [[(97:UInt8)],[(98:UInt8)],[(116:UInt8),97,103,115],[(97:UInt8),46,98]]).bind fun y1=>(OY y1.2.1 3).bind fun y2=>let j7:Hq×UU×UU×Unit->Option (UU×Hq×Unit):=fun (y8:Hq×UU×UU×Unit)=>
 (some (y8.2.2.1,y8.1,()))
 ((OY y2.2.1 3).bind fun y4=>cond y4.1
 ((NP y4.2.1 [[(99:UInt8)],[(105:UInt8),100]]).bind fun y5=>(OY y5.2.1 3).bind fun y6=>j7 (y6.2.1,([],[],()),(y0.1,[(y1.1,y2.1,())]++[(y5.1,y6.1,())],()),()))
 (j7 (y4.2.1,([],[],()),(y0.1,[(y1.1,y2.1,())],()),()))))
def C18:Av:=⟨[.io MI .z],[(Xs,.z)],fun z=>xe z.1⟩
def E18:=em 29 [(47,sY),(48,rm)] true [40,64,160] [] [(4,[2,3],[4]),(99999,[2],[4])]
theorem oG:IoOk prog 18 C18:=tI E18 [] [] func18 Ag (.consIo UY (.consIo Rl .nil)) (fun p=>.nil)
def F6 (a0:List Int):Option (UU×Unit):=
 ((sI a0).bind fun y0=>(xe y0.1).bind fun y1=>some (y1.1,()))
def C6:Av:=⟨[.ro (.slice (.int .u8))],[(Xs,.z)],fun z=>F6 z.1⟩
def E6:=en 6 [(15,wV),(18,C18)] [([99999],[2])] []
theorem tt:Aa prog 6 C6:=tQ E6 [] [] func6 Ag (.consFr Zx (.consIo oG .nil)) .nil
def PV (e0_0:S8×Int×List S8×Unit->O8) (rec:wG->O8) (x2:wG):O8:=
 (cond (decide (x2.2.2.2.1<x2.1.length))
 (let j6:wG->O8:=fun (y7:wG)=>
 (rec (y7.1,y7.2.1,y7.2.2.1,wrap .i64 (y7.2.2.2.1+1),y7.2.2.2.2.1,()))
 (gd (decide (0<=x2.2.2.2.1))
 (x2.1[x2.2.2.2.1.toNat]?.bind fun y5=>cond ((((UInt8.toNat y5):Nat):Int)==x2.2.1)
 (gd (decide (0<=x2.2.2.2.1))
 (gd (decide (x2.2.2.2.1<=x2.1.length))
 (gd (decide (0<=x2.2.2.1))
 (gd (decide (x2.2.2.1<=((x2.2.2.2.1.toNat:Nat):Int)))
 (gd (decide ((x2.2.2.2.2.1.length+(List.length [List.drop x2.2.2.1.toNat (List.take x2.2.2.2.1.toNat x2.1)]))<=A_))
 (j6 (x2.1,x2.2.1,wrap .i64 (x2.2.2.2.1+1),x2.2.2.2.1,x2.2.2.2.2.1++[List.drop x2.2.2.1.toNat (List.take x2.2.2.2.1.toNat x2.1)],())))))))
 (j6 (x2.1,x2.2.1,x2.2.2.1,x2.2.2.2.1,x2.2.2.2.2.1,())))))
 (e0_0 (x2.1,x2.2.2.1,x2.2.2.2.2.1,())))
def dA (a0:S8) (a1:Int):O8:=
 (iter (PV
 (fun y8=>gd (decide ((y8.1.length:Int)<=(y8.1.length:Int)))
 (gd (decide (0<=y8.2.1))
 (gd (decide (y8.2.1<=(((y8.1.length:Int).toNat:Nat):Int)))
 (gd (decide ((y8.2.2.1.length+(List.length [List.drop y8.2.1.toNat (List.take (y8.1.length:Int).toNat y8.1)]))<=A_))
 (some (y8.2.2.1++[List.drop y8.2.1.toNat (List.take (y8.1.length:Int).toNat y8.1)],()))))))) Af (a0,a1,0,0,[],()))
def oH:Av:=⟨[.ro .str,.ro (.int .u8)],[(.slice .str,.z)],fun z=>dA z.1 z.2.1⟩
def yZ:=en 35 [] [([4,5,6,100001],[0,1,5,6,7]),([9,100000],[0,5,6]),([99999],[4])] []
def tu:List (At T8):=[⟨4,⟨[(0,.pv .str),(1,.pv (.int .u8)),(5,vR .str 64),(6,vI),(7,vI)],[(64,mO .str)]⟩,fun κ=>PV (xt κ 0 ⟨[(0,.pv .str),(5,vR .str 64),(6,vI)],[(64,mO .str)]⟩)⟩]
theorem a_:Aa prog 102 oH:=tQ yZ tu (Dg f102) func102 Ag .nil (.c tu[0] .nil)
def Rn (e0_0:Unit->O0) (er_1:T0->O0) (rec:List S8×Int×Unit->O0) (x5:List S8×Int×Unit):O0:=
 (cond (decide (x5.2.1<x5.1.length))
 (gd (decide (0<=x5.2.1))
 (x5.1[x5.2.1.toNat]?.bind fun y8=>(n9 y8).bind fun y9=>cond (!y9.1)
 (er_1 (false,()))
 (rec (x5.1,wrap .i64 (x5.2.1+1),()))))
 (e0_0 (())))
def rq (a0:S8):O0:=
 (cond (decide ((a0.length:Int)>65536))
 (some (false,()))
 ((dA a0 46).bind fun y1=>cond (decide ((y1.1.length:Int)>4))
 (some (false,()))
 (cond (decide ((a0.length:Int)>50))
 (some (false,()))
 (iter (Rn
 (fun y10=>some (true,()))
 (fun y11=>some (y11.1,()))) Af (y1.1,0,())))))
def xf:Av:=⟨[.ro .str],[(.bool,.z)],fun z=>rq z.1⟩
def E52:=en 30 [(50,sP),(102,oH)] [([3],[0]),([6],[3]),([7,8,9,100001],[3,4]),([11,100000],[]),([99999],[2])] []
def L52:List (At T0):=[⟨7,⟨[(3,.pv (.slice .str)),(4,vI)],[]⟩,fun κ=>Rn (xt κ 0 ⟨[],[]⟩) (rt κ ⟨[(2,.pv .bool)],[]⟩)⟩]
theorem ZC:Aa prog 52 xf:=tQ E52 L52 (Dg f52) func52 Ag (.cons UX (.cons a_ .nil)) (.c L52[0] .nil)
def U' (e0_0:UU×Unit->O0) (er_1:T0->O0) (rec:Int×UU×Unit->O0) (x5:Int×UU×Unit):O0:=
 (cond (decide (x5.1<x5.2.1.2.1.length))
 (gd (decide (0<=x5.1))
 (x5.2.1.2.1[x5.1.toNat]?.bind fun y8=>(rq y8.1).bind fun y9=>cond (!y9.1)
 (er_1 (false,()))
 (rec (wrap .i64 (x5.1+1),x5.2.1,()))))
 (e0_0 (x5.2.1,())))
def tv (a0:UU):O0:=
 ((n9 a0.1).bind fun y1=>cond (!y1.1)
 (some (false,()))
 ((TC (a0.2.1.length:Int) 1 2).bind fun y2=>cond (!y2.1)
 (some (false,()))
 (iter (U'
 (fun y10=>cond ((y10.1.2.1.length:Int)==1)
 (some (true,()))
 (y10.1.2.1[(0:Int).toNat]?.bind fun y12=>y10.1.2.1[(1:Int).toNat]?.bind fun y13=>some (!(y12.1==y13.1),())))
 (fun y11=>some (y11.1,()))) Af (0,a0,()))))
def y_:Av:=⟨[.ro Xs],[(.bool,.z)],fun z=>tv z.1⟩
def E19:=en 47 [(50,sP),(51,jW),(52,xf)] [([3,8,100000],[1]),([4,5,6,100001],[1,3]),([99999],[2])] []
def L19:List (At T0):=[⟨4,⟨[(1,vP 8),(3,vI)],[(8,mD Xs)]⟩,fun κ=>U' (xt κ 0 ⟨[(1,vP 8)],[(8,mD Xs)]⟩) (rt κ ⟨[(2,.pv .bool)],[]⟩)⟩]
theorem fZ:Aa prog 19 y_:=tQ E19 L19 (Dg f19) func19 Ag (.cons UX (.cons Ke (.cons ZC .nil))) (.c L19[0] .nil)
def xg (a0:AE):O0:=
 ((eH a0).bind fun y0=>cond y0.1
 (some (a0.1==5,()))
 (some (false,())))
def C53:Av:=⟨[.ro Ax],[(.bool,.z)],fun z=>xg z.1⟩
def E53:=en 10 [(99,rn)] [([99999],[2])] []
theorem oI:Aa prog 53 C53:=tQ E53 [] [] func53 Ag (.cons Rm .nil) .nil
def MQ (e0_0:T4->rf) (er_1:Bool×AE×Unit->rf) (rec:rX->rf) (x3:rX):rf:=
 (cond (decide (x3.2.2.1<x3.2.1.length))
 (gd (decide (0<=x3.2.2.1))
 (x3.2.1[x3.2.2.1.toNat]?.bind fun y6=>cond (y6.1==x3.1)
 (gd (decide (0<=x3.2.2.1))
 (x3.2.1[x3.2.2.1.toNat]?.bind fun y7=>er_1 (true,y7.2.1,())))
 (rec (x3.1,x3.2.1,wrap .i64 (x3.2.2.1+1),x3.2.2.2.1,()))))
 (e0_0 (x3.2.2.2.1,())))
def f_ (a0:AE) (a1:S8):rf:=
 ((SN a0.2.2.1).bind fun y0=>iter (MQ
 (fun y8=>some ((0,0,[],()),false,()))
 (fun y9=>some (y9.2.1,y9.1,()))) Af (a1,y0.1,0,(0,0,[],()),()))
def oJ:Av:=⟨[.ro Ax,.ro .str],[(Ax,.z),(.bool,.z)],fun z=>f_ z.1 z.2.1⟩
def za:=en 34 [(124,Zz)] [([3,4,5,100001],[1,4,6,8]),([7,100000],[4]),([99999],[4,5])] []
def tw:List (At T26):=[⟨3,⟨[(1,.pv .str),(4,vP 32),(6,vS AX),(8,vI)],[(32,mD Ax)]⟩,fun κ=>MQ (xt κ 0 ⟨[(4,vP 32)],[(32,mD Ax)]⟩) (rt κ ⟨[(4,vP 32),(5,.pv .bool)],[(32,mD Ax)]⟩)⟩]
theorem ba:Aa prog 103 oJ:=tQ za tw (Dg f103) func103 Ag (.cons KU .nil) (.c tw[0] .nil)
end
end Go.V
