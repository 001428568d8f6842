/- What functions of the program compute, printed by a program of ours. No condition. -/
import Derived.Test.YtaggmkdoelocbaaGreatDoorWF3
namespace Go.V
open Go.Proofs
noncomputable section
set_option maxRecDepth 100000
set_option linter.unusedVariables false
def F47_R2 (e0_0:List (D84)×Unit→Option (Bool×Unit)) (er_1:Bool×Unit→Option (Bool×Unit)) (rec:List (D84)×List (D84)×Int×Int×Unit→Option (Bool×Unit)) (x2:List (D84)×List (D84)×Int×Int×Unit):Option (Bool×Unit):=
 (cond (decide (x2.2.2.2.1<x2.2.2.1))
 (gd (decide ((0:Int)≤x2.2.2.2.1))
 (x2.2.1[x2.2.2.2.1.toNat]?.bind fun y5=>
 ((F99 y5).bind fun y6=>
 (cond (!y6.1)
 (er_1 (false,()))
 ((F44 x2.1 y5.1.1).bind fun y7=>
 (cond (decide (y7.1<x2.2.2.2.1))
 (er_1 (false,()))
 (rec (x2.1,x2.2.1,x2.2.2.1,(IntKind.wrap .i64 (x2.2.2.2.1+(1:Int))),()))))))))
 (e0_0 (x2.1,())))
def F47 (a0:List (D84)):Option (Bool×Unit):=
 (iter (F47_R2
 (fun y8=>
 (some ((decide ((y8.1.length:Int)≤(3:Int))),())))
 (fun y9=>
 (some (y9.1,())))) fuel (a0,a0,(a0.length:Int),(0:Int),()))
def C47:Fun:=⟨[(.ro (.slice Y84))],[(.bool,.z)],fun z=>F47 z.1⟩
def E47:=en 28 [(44,C44),(99,C99)] [(2,[0,5,6,7],[]),(3,[0,5,6,7],[]),(6,[0,5,6,7],[]),(7,[0],[]),(100000,[0],[]),(100001,[0,5,6,7],[]),(99999,[2],[])]
def L47:List (LoopS (Bool×Unit)):=[⟨2,⟨[(0,(.pv (.slice Y84))),(5,(.pv (.slice Y84))),(6,(.pv (.int .i64))),(7,(.pv (.int .i64)))],[]⟩,fun κ=>F47_R2 (fun y=>κ.exit 0 (SSh.mk' ⟨[(0,(.pv (.slice Y84)))],[]⟩ y)) (fun y=>κ.ret (SSh.mk' ⟨[(2,(.pv .bool))],[]⟩ y))⟩]
theorem L47_2:RoundEq E47 L47 L47[0] (nthLoop (codeOf Tryz.f47) 0):=fun κ N x=>by kernel_rfl
theorem C47_ok:QuietOk Tryz.prog 47 C47:=tQ E47 L47 [nthLoop (codeOf Tryz.f47) 0] Tryz.func47 ty_ok (.cons C44_ok (.cons C99_ok .nil)) (.cons L47[0] (by kernel_rfl) L47_2 .nil)
def F50_R5 (e0_0:Int×List (D76)×Unit→Option (List (D76)×Unit)) (rec:(D76→Option (Bool))×Int×Int×List (D76)×Unit→Option (List (D76)×Unit)) (x4:(D76→Option (Bool))×Int×Int×List (D76)×Unit):Option (List (D76)×Unit):=
 (cond (decide (x4.2.2.1<(x4.2.2.2.1.length:Int)))
 (let j10:(D76→Option (Bool))×Int×Int×List (D76)×Unit→Option (List (D76)×Unit):=fun (y11:(D76→Option (Bool))×Int×Int×List (D76)×Unit)=>
 (rec (y11.1,y11.2.1,(IntKind.wrap .i64 (y11.2.2.1+(1:Int))),y11.2.2.2.1,()))
 (gd (decide ((0:Int)≤x4.2.2.1))
 (gd (decide (x4.2.2.1<(x4.2.2.2.1.length:Int)))
 (x4.2.2.2.1[x4.2.2.1.toNat]?.bind fun y7=>
 ((x4.1 y7).bind fun y8=>
 (cond (!y8)
 (gd (decide ((0:Int)≤x4.2.1))
 (gd (decide (x4.2.1<(x4.2.2.2.1.length:Int)))
 (x4.2.2.2.1[x4.2.1.toNat]?.bind fun y9=>
 (j10 (x4.1,(IntKind.wrap .i64 (x4.2.1+(1:Int))),x4.2.2.1,(List.set x4.2.2.2.1 x4.2.1.toNat y7),())))))
 (j10 (x4.1,x4.2.1,x4.2.2.1,x4.2.2.2.1,()))))))))
 (e0_0 (x4.2.1,x4.2.2.2.1,())))
def F50 (a0:List (D76)) (a1:(D76→Option (Bool))):Option (List (D76)×Unit):=
 ((F110 a0 a1).bind fun y0=>
 (cond (y0.1==(-(1:Int)))
 (some (a0,()))
 (iter (F50_R5
 (fun y12=>
 (gd (decide ((y12.2.1.length:Int)≤(y12.2.1.length:Int)))
 (gd (decide ((0:Int)≤y12.1))
 (gd (decide (y12.1≤(((y12.2.1.length:Int).toNat:Nat):Int)))
 (gd (decide ((0:Int)≤y12.1))
 (gd (decide (y12.1≤(((wipe Y76 y12.2.1 y12.1.toNat (y12.2.1.length:Int).toNat).length:Nat):Int)))
 (some ((pre (Ty.slice (Ty.pair (Ty.int IntKind.i64) (Ty.pair (Ty.int IntKind.i64) (Ty.pair Ty.str Ty.unit)))) (wipe Y76 y12.2.1 y12.1.toNat (y12.2.1.length:Int).toNat) y12.1.toNat),()))))))))) fuel (a1,y0.1,(IntKind.wrap .i64 (y0.1+(1:Int))),a0,()))))
def C50:Fun:=⟨[(.tk (.slice Y76) (.own .z)),(.fn Y76 .bool)],[((.slice Y76),(.own .z))],fun z=>F50 z.1 z.2.1⟩
def E50:Env:=⟨42,tyTab tys,oneTab ones,fnTab [(110,C110)],true,[],[(4,[0,1,5],[]),(5,[0,1,5,6],[]),(6,[0,1,5,6],[]),(7,[0,1,5,6],[]),(11,[0,5],[]),(100000,[0,5],[]),(100001,[0,1,5,6],[]),(99999,[4],[])],none,[],[]⟩
def L50:List (LoopS (List (D76)×Unit)):=[⟨5,⟨[(0,(.ref (.slice Y76) 4 [])),(1,(.fnA Y76 .bool)),(5,(.pv (.int .i64))),(6,(.pv (.int .i64)))],[(4,(.data false (.slice Y76) (.own .z)))]⟩,fun κ=>F50_R5 (fun y=>κ.exit 0 (SSh.mk' ⟨[(0,(.ref (.slice Y76) 4 [])),(5,(.pv (.int .i64)))],[(4,(.data false (.slice Y76) (.own .z)))]⟩ y))⟩]
theorem L50_5:RoundEq E50 L50 L50[0] (nthLoop (codeOf Tryz.f50) 0):=fun κ N x=>by kernel_rfl
theorem C50_ok:IoOk Tryz.prog 50 C50:=tT E50 L50 [nthLoop (codeOf Tryz.f50) 0] Tryz.func50 ty_ok (.cons C110_ok .nil) (.cons L50[0] (by kernel_rfl) L50_5 .nil)
def F51 (a0:List (D76)):Option (List (D76)×Unit):=
 (let j1:List (D76)×Unit→Option (List (D76)×Unit):=fun (y2:List (D76)×Unit)=>
 (gd (decide ((([]:List D76).length+y2.1.length)≤lim))
 (some (([]++y2.1),())))
 (cond (List.isEmpty a0)
 (both
 (some ([],()))
 (j1 (a0,())))
 (j1 (a0,()))))
def C51:Fun:=⟨[(.ro (.slice Y76))],[((.slice Y76),(.own .z))],fun z=>F51 z.1⟩
def E51:Env:=⟨8,tyTab tys,oneTab ones,fnTab [],true,[],[(3,[0],[]),(99999,[2],[])],none,[],[]⟩
def L51:List (LoopS (List (D76)×Unit)):=[]
theorem C51_ok:FreshOk Tryz.prog 51 C51:=tF E51 L51 [] Tryz.func51 ty_ok .nil .nil
abbrev G250:Type:=(D76)→(List (List UInt8))→Option (List (D76)×Unit)
def H250 (g:G250):Fun:=⟨[(.ro Y76),(.ro (.slice .str))],[((.slice Y76),(.own .z))],fun z=>g z.1 z.2.1⟩
def B250_R16 (g:G250) (e1_0:List (D76)×Unit→Option (List (D76)×Unit)) (rec:List (List UInt8)×List (D76)×Int×Int×List (D76)×Unit→Option (List (D76)×Unit)) (x11:List (List UInt8)×List (D76)×Int×Int×List (D76)×Unit):Option (List (D76)×Unit):=
 (cond (decide (x11.2.2.2.1<x11.2.2.1))
 (let j16:List (List UInt8)×List (D76)×Int×Int×List (D76)×Unit→Option (List (D76)×Unit):=fun (y17:List (List UInt8)×List (D76)×Int×Int×List (D76)×Unit)=>
 (rec (y17.1,y17.2.1,y17.2.2.1,(IntKind.wrap .i64 (y17.2.2.2.1+(1:Int))),y17.2.2.2.2.1,()))
 (gd (decide ((0:Int)≤x11.2.2.2.1))
 (x11.2.1[x11.2.2.2.1.toNat]?.bind fun y14=>
 (cond (y14.1==(5:Int))
 ((g y14 x11.1).bind fun y15=>
 (gd (decide ((x11.2.2.2.2.1.length+y15.1.length)≤lim))
 (j16 (x11.1,x11.2.1,x11.2.2.1,x11.2.2.2.1,(x11.2.2.2.2.1++y15.1),()))))
 (j16 (x11.1,x11.2.1,x11.2.2.1,x11.2.2.2.1,x11.2.2.2.2.1,()))))))
 (e1_0 (x11.2.2.2.2.1,())))
def B250 (g:G250) (a0:D76) (a1:List (List UInt8)):Option (List (D76)×Unit):=
 (cond ((a1.length:Int)==(0:Int))
 (let j3:List (D76)×Unit→Option (List (D76)×Unit):=fun (y4:List (D76)×Unit)=>
 (some (y4.1,()))
 (cond (a0.1==(4:Int))
 ((F209 a0).bind fun y2=>
 (gd (decide ((([]++[a0]).length+y2.1.length)≤lim))
 (j3 ((([]++[a0])++y2.1),()))))
 (j3 (([]++[a0]),()))))
 (let j19:List (D76)×Unit→Option (List (D76)×Unit):=fun (y20:List (D76)×Unit)=>
 (some (y20.1,()))
 (cond (a0.1==(5:Int))
 (a1[(0:Int).toNat]?.bind fun y6=>
 ((F111 a0 y6).bind fun y7=>
 (cond y7.2.1
 (gd (decide ((a1.length:Int)≤(a1.length:Int)))
 (gd (decide ((1:Int)≤(((a1.length:Int).toNat:Nat):Int)))
 ((g y7.1 (List.drop (1:Int).toNat (List.take (a1.length:Int).toNat a1))).bind fun y8=>
 (some (y8.1,())))))
 (j19 ([],())))))
 (cond (a0.1==(4:Int))
 ((F209 a0).bind fun y9=>
 (iter (B250_R16 g
 (fun y18=>
 (j19 (y18.1,())))) fuel (a1,y9.1,(y9.1.length:Int),(0:Int),[],())))
 (j19 ([],()))))))
def K250 (g:G250):Fun:=⟨[(.ro Y76),(.ro (.slice .str))],[((.slice Y76),(.own .z))],fun z=>B250 g z.1 z.2.1⟩
def E250 (g:G250):Env:=⟨74,tyTab tys,oneTab ones,fnTab [(111,C111),(209,C209),(250,(H250 g))],true,[],[(7,[5],[]),(8,[1,2,5],[]),(16,[1,5,58,59,60],[]),(17,[1,5,58,59,60],[]),(20,[1,5,58,59,60],[]),(21,[5],[]),(100000,[5],[]),(100001,[5],[]),(100002,[1,5,58,59,60],[]),(99999,[4],[])],none,[],[]⟩
def L250 (g:G250):List (LoopS (List (D76)×Unit)):=[⟨16,⟨[(1,(.pv (.slice .str))),(5,(.ref (.slice Y76) 112 [])),(58,(.pv (.slice Y76))),(59,(.pv (.int .i64))),(60,(.pv (.int .i64)))],[(112,(.data false (.slice Y76) (.own .z)))]⟩,fun κ=>B250_R16 g (fun y=>κ.exit 1 (SSh.mk' ⟨[(5,(.ref (.slice Y76) 112 []))],[(112,(.data false (.slice Y76) (.own .z)))]⟩ y))⟩]
theorem L250_16 (g:G250):RoundEq (E250 g) (L250 g) ((L250 g)[0]'(Nat.le_of_ble_eq_true rfl)) (nthLoop (codeOf Tryz.f250) 0):=fun κ N x=>by kernel_rfl
theorem K250_ok (g:G250) (hg:FreshOk Tryz.prog 250 (H250 g)):FreshOk Tryz.prog 250 (K250 g):=tF (E250 g) (L250 g) [nthLoop (codeOf Tryz.f250) 0] Tryz.func250 ty_ok (.cons C111_ok (.cons C209_ok (.consFr hg .nil))) (.cons ((L250 g)[0]'(Nat.le_of_ble_eq_true rfl)) (by kernel_rfl) (L250_16 g) .nil)
def S250:Nat→G250
  |0=>fun _ _=>none
  |k+1=>B250 (S250 k)
def F250:G250:=S250 fuel
def C250:Fun:=H250 F250
theorem C250_all:∀ k,FreshOk Tryz.prog 250 (H250 (S250 k))
  |0=>FreshOk.none Tryz.func250 (by rfl) (by decide) fun _=>rfl
  |k+1=>K250_ok (S250 k) (C250_all k)
theorem C250_ok:FreshOk Tryz.prog 250 C250:=C250_all fuel
def F202 (a0:D76) (a1:List UInt8):Option (List (D76)×Unit):=
 ((F247 a1 [(46:UInt8)]).bind fun y0=>
 ((F250 a0 y0.1).bind fun y1=>
 (some (y1.1,()))))
def C202:Fun:=⟨[(.ro Y76),(.ro .str)],[((.slice Y76),(.own .z))],fun z=>F202 z.1 z.2.1⟩
def E202:Env:=⟨9,tyTab tys,oneTab ones,fnTab [(247,C247),(250,C250)],true,[],[(99999,[4],[])],none,[],[]⟩
def L202:List (LoopS (List (D76)×Unit)):=[]
theorem C202_ok:FreshOk Tryz.prog 202 C202:=tF E202 L202 [] Tryz.func202 ty_ok (.cons C247_ok (.consFr C250_ok .nil)) .nil
abbrev G158:Type:=(D76)→(D76)→Option (Int×Unit)
def H158 (g:G158):Fun:=⟨[(.ro Y76),(.ro Y76)],[((.int .i64),.z)],fun z=>g z.1 z.2.1⟩
def B210_R2 (g:G158) (e0_0:List (D76)×List (D76)×Unit→Option (Int×Unit)) (er_1:Int×Unit→Option (Int×Unit)) (rec:List (D76)×List (D76)×List (D76)×Int×Int×Unit→Option (Int×Unit)) (x2:List (D76)×List (D76)×List (D76)×Int×Int×Unit):Option (Int×Unit):=
 (cond (decide (x2.2.2.2.2.1<x2.2.2.2.1))
 (gd (decide ((0:Int)≤x2.2.2.2.2.1))
 (x2.2.2.1[x2.2.2.2.2.1.toNat]?.bind fun y5=>
 (cond (decide (x2.2.2.2.2.1≥(x2.2.1.length:Int)))
 (er_1 ((1:Int),()))
 (gd (decide ((0:Int)≤x2.2.2.2.2.1))
 (x2.2.1[x2.2.2.2.2.1.toNat]?.bind fun y7=>
 ((g y5 y7).bind fun y8=>
 (cond (y8.1 != (0:Int))
 (er_1 (y8.1,()))
 (rec (x2.1,x2.2.1,x2.2.2.1,x2.2.2.2.1,(IntKind.wrap .i64 (x2.2.2.2.2.1+(1:Int))),())))))))))
 (e0_0 (x2.1,x2.2.1,())))
def B210 (g:G158) (a0:List (D76)) (a1:List (D76)) (a2:(Unit)):Option (Int×Unit):=
 (iter (B210_R2 g
 (fun y9=>
 (cond (decide ((y9.1.length:Int)<(y9.2.1.length:Int)))
 (some ((-(1:Int)),()))
 (some ((0:Int),()))))
 (fun y10=>
 (some (y10.1,())))) fuel (a0,a1,a0,(a0.length:Int),(0:Int),()))
def K210 (g:G158):Fun:=⟨[(.ro (.slice Y76)),(.ro (.slice Y76)),(.st 158 [])],[((.int .i64),.z)],fun z=>B210 g z.1 z.2.1 z.2.2.1⟩
def E210 (g:G158):Env:=⟨39,tyTab tys,oneTab ones,fnTab [(158,(H158 g))],false,[],[(2,[0,1,2,11,12,13],[]),(3,[0,1,2,11,12,13],[]),(6,[0,1,2,7,8,11,12,13],[]),(10,[0,1,2,11,12,13],[]),(11,[0,1],[]),(13,[],[]),(100000,[0,1],[]),(100001,[0,1,2,11,12,13],[]),(99999,[6],[])],none,[],[]⟩
def L210 (g:G158):List (LoopS (Int×Unit)):=[⟨2,⟨[(0,(.pv (.slice Y76))),(1,(.pv (.slice Y76))),(2,(.clo 158 [])),(11,(.pv (.slice Y76))),(12,(.pv (.int .i64))),(13,(.pv (.int .i64)))],[]⟩,fun κ=>B210_R2 g (fun y=>κ.exit 0 (SSh.mk' ⟨[(0,(.pv (.slice Y76))),(1,(.pv (.slice Y76)))],[]⟩ y)) (fun y=>κ.ret (SSh.mk' ⟨[(6,(.pv (.int .i64)))],[]⟩ y))⟩]
theorem L210_2 (g:G158):RoundEq (E210 g) (L210 g) ((L210 g)[0]'(Nat.le_of_ble_eq_true rfl)) (nthLoop (codeOf Tryz.f210) 0):=fun κ N x=>by kernel_rfl
theorem K210_ok (g:G158) (hg:QuietOk Tryz.prog 158 (H158 g)):QuietOk Tryz.prog 210 (K210 g):=tQ (E210 g) (L210 g) [nthLoop (codeOf Tryz.f210) 0] Tryz.func210 ty_ok (.cons hg .nil) (.cons ((L210 g)[0]'(Nat.le_of_ble_eq_true rfl)) (by kernel_rfl) (L210_2 g) .nil)
def B212 (g:G158) (a0:D211) (a1:D211):Option (Int×Unit):=
 ((F213 a0.1 a1.1).bind fun y0=>
 ((g a0.2.1 a1.2.1).bind fun y1=>
 ((F207 [y0.1,y1.1]).bind fun y2=>
 (some (y2.1,())))))
def K212 (g:G158):Fun:=⟨[(.ro Y211),(.ro Y211)],[((.int .i64),.z)],fun z=>B212 g z.1 z.2.1⟩
def E212 (g:G158):Env:=⟨17,tyTab tys,oneTab ones,fnTab [(158,(H158 g)),(207,C207),(213,C213)],false,[120],[(99999,[4],[])],none,[],[]⟩
def L212 (g:G158):List (LoopS (Int×Unit)):=[]
theorem K212_ok (g:G158) (hg:QuietOk Tryz.prog 158 (H158 g)):QuietOk Tryz.prog 212 (K212 g):=tQ (E212 g) (L212 g) [] Tryz.func212 ty_ok (.cons hg (.cons C207_ok (.cons C213_ok .nil))) .nil
def B211_R2 (g:G158) (e0_0:List (D211)×List (D211)×Unit→Option (Int×Unit)) (er_1:Int×Unit→Option (Int×Unit)) (rec:List (D211)×List (D211)×List (D211)×Int×Int×Unit→Option (Int×Unit)) (x2:List (D211)×List (D211)×List (D211)×Int×Int×Unit):Option (Int×Unit):=
 (cond (decide (x2.2.2.2.2.1<x2.2.2.2.1))
 (gd (decide ((0:Int)≤x2.2.2.2.2.1))
 (x2.2.2.1[x2.2.2.2.2.1.toNat]?.bind fun y5=>
 (cond (decide (x2.2.2.2.2.1≥(x2.2.1.length:Int)))
 (er_1 ((1:Int),()))
 (gd (decide ((0:Int)≤x2.2.2.2.2.1))
 (x2.2.1[x2.2.2.2.2.1.toNat]?.bind fun y7=>
 ((B212 g y5 y7).bind fun y8=>
 (cond (y8.1 != (0:Int))
 (er_1 (y8.1,()))
 (rec (x2.1,x2.2.1,x2.2.2.1,x2.2.2.2.1,(IntKind.wrap .i64 (x2.2.2.2.2.1+(1:Int))),())))))))))
 (e0_0 (x2.1,x2.2.1,())))
def B211 (g:G158) (a0:List (D211)) (a1:List (D211)) (a2:(Unit)):Option (Int×Unit):=
 (iter (B211_R2 g
 (fun y9=>
 (cond (decide ((y9.1.length:Int)<(y9.2.1.length:Int)))
 (some ((-(1:Int)),()))
 (some ((0:Int),()))))
 (fun y10=>
 (some (y10.1,())))) fuel (a0,a1,a0,(a0.length:Int),(0:Int),()))
def K211 (g:G158):Fun:=⟨[(.ro (.slice Y211)),(.ro (.slice Y211)),(.st 212 [])],[((.int .i64),.z)],fun z=>B211 g z.1 z.2.1 z.2.2.1⟩
def E211 (g:G158):Env:=⟨39,tyTab tys,oneTab ones,fnTab [(212,(K212 g))],false,[],[(2,[0,1,2,11,12,13],[]),(3,[0,1,2,11,12,13],[]),(6,[0,1,2,7,8,11,12,13],[]),(10,[0,1,2,11,12,13],[]),(11,[0,1],[]),(13,[],[]),(100000,[0,1],[]),(100001,[0,1,2,11,12,13],[]),(99999,[6],[])],none,[],[]⟩
def L211 (g:G158):List (LoopS (Int×Unit)):=[⟨2,⟨[(0,(.pv (.slice Y211))),(1,(.pv (.slice Y211))),(2,(.clo 212 [])),(11,(.pv (.slice Y211))),(12,(.pv (.int .i64))),(13,(.pv (.int .i64)))],[]⟩,fun κ=>B211_R2 g (fun y=>κ.exit 0 (SSh.mk' ⟨[(0,(.pv (.slice Y211))),(1,(.pv (.slice Y211)))],[]⟩ y)) (fun y=>κ.ret (SSh.mk' ⟨[(6,(.pv (.int .i64)))],[]⟩ y))⟩]
theorem L211_2 (g:G158):RoundEq (E211 g) (L211 g) ((L211 g)[0]'(Nat.le_of_ble_eq_true rfl)) (nthLoop (codeOf Tryz.f211) 0):=fun κ N x=>by kernel_rfl
theorem K211_ok (g:G158) (hg:QuietOk Tryz.prog 158 (H158 g)):QuietOk Tryz.prog 211 (K211 g):=tQ (E211 g) (L211 g) [nthLoop (codeOf Tryz.f211) 0] Tryz.func211 ty_ok (.cons (K212_ok g hg) .nil) (.cons ((L211 g)[0]'(Nat.le_of_ble_eq_true rfl)) (by kernel_rfl) (L211_2 g) .nil)
def B158 (g:G158) (a0:D76) (a1:D76):Option (Int×Unit):=
 ((F208 a0.1 a1.1).bind fun y1=>
 ((F208 a0.2.1 a1.2.1).bind fun y2=>
 ((F207 [y1.1,y2.1]).bind fun y3=>
 (cond (y3.1 != (0:Int))
 (some (y3.1,()))
 (cond (a0.1==(4:Int))
 ((F209 a0).bind fun y5=>
 ((F209 a1).bind fun y6=>
 ((B210 g y5.1 y6.1 ()).bind fun y7=>
 (some (y7.1,())))))
 (cond (a0.1==(5:Int))
 ((F161 a0).bind fun y8=>
 ((F161 a1).bind fun y9=>
 ((B211 g y8.1 y9.1 ()).bind fun y10=>
 (some (y10.1,())))))
 ((F213 a0.2.2.1 a1.2.2.1).bind fun y11=>
 (some (y11.1,())))))))))
def K158 (g:G158):Fun:=⟨[(.ro Y76),(.ro Y76)],[((.int .i64),.z)],fun z=>B158 g z.1 z.2.1⟩
def E158 (g:G158):Env:=⟨66,tyTab tys,oneTab ones,fnTab [(158,(H158 g)),(161,C161),(207,C207),(208,C208),(209,C209),(210,(K210 g)),(211,(K211 g)),(212,(K212 g)),(213,C213)],false,[192],[(4,[2,3],[]),(13,[2,3],[]),(100000,[2,3],[]),(99999,[4],[])],none,[],[]⟩
def L158 (g:G158):List (LoopS (Int×Unit)):=[]
theorem K158_ok (g:G158) (hg:QuietOk Tryz.prog 158 (H158 g)):QuietOk Tryz.prog 158 (K158 g):=tQ (E158 g) (L158 g) [] Tryz.func158 ty_ok (.cons hg (.consFr C161_ok (.cons C207_ok (.cons C208_ok (.cons C209_ok (.cons (K210_ok g hg) (.cons (K211_ok g hg) (.cons (K212_ok g hg) (.cons C213_ok .nil))))))))) .nil
def S158:Nat→G158
  |0=>fun _ _=>none
  |k+1=>B158 (S158 k)
def F158:G158:=S158 fuel
def C158:Fun:=H158 F158
theorem C158_all:∀ k,QuietOk Tryz.prog 158 (H158 (S158 k))
  |0=>QuietOk.none Tryz.func158 (by rfl) (by decide) fun _=>rfl
  |k+1=>K158_ok (S158 k) (C158_all k)
theorem C158_ok:QuietOk Tryz.prog 158 C158:=C158_all fuel
def F290_R2 (e0_0:Unit→Option (Int×Unit)) (er_1:Int×Unit→Option (Int×Unit)) (rec:List (D76)×Int×Int×D76×Unit→Option (Int×Unit)) (x2:List (D76)×Int×Int×D76×Unit):Option (Int×Unit):=
 (cond (decide (x2.2.2.1<x2.2.1))
 (gd (decide ((0:Int)≤x2.2.2.1))
 (x2.1[x2.2.2.1.toNat]?.bind fun y5=>
 (cond ((decide (x2.2.2.2.1.1=y5.1))&&((decide (x2.2.2.2.1.2.1=y5.2.1))&&((x2.2.2.2.1.2.2.1==y5.2.2.1)&&true)))
 (er_1 (x2.2.2.1,()))
 (rec (x2.1,x2.2.1,(IntKind.wrap .i64 (x2.2.2.1+(1:Int))),x2.2.2.2.1,())))))
 (e0_0 (())))
def F290 (a0:List (D76)) (a1:D76):Option (Int×Unit):=
 (iter (F290_R2
 (fun y6=>
 (some ((-(1:Int)),())))
 (fun y7=>
 (some (y7.1,())))) fuel (a0,(a0.length:Int),(0:Int),a1,()))
def C290:Fun:=⟨[(.ro (.slice Y76)),(.ro Y76)],[((.int .i64),.z)],fun z=>F290 z.1 z.2.1⟩
def E290:=en 19 [] [(2,[0,3,7,8],[]),(3,[0,3,7,8],[]),(6,[0,3,7,8],[]),(7,[],[]),(100000,[],[]),(100001,[0,3,7,8],[]),(99999,[4],[])]
def L290:List (LoopS (Int×Unit)):=[⟨2,⟨[(0,(.pv (.slice Y76))),(3,(.ptr 24 [])),(7,(.pv (.int .i64))),(8,(.pv (.int .i64)))],[(24,(.data true Y76 .z))]⟩,fun κ=>F290_R2 (fun y=>κ.exit 0 (SSh.mk' ⟨[],[]⟩ y)) (fun y=>κ.ret (SSh.mk' ⟨[(4,(.pv (.int .i64)))],[]⟩ y))⟩]
theorem L290_2:RoundEq E290 L290 L290[0] (nthLoop (codeOf Tryz.f290) 0):=fun κ N x=>by kernel_rfl
theorem C290_ok:QuietOk Tryz.prog 290 C290:=tQ E290 L290 [nthLoop (codeOf Tryz.f290) 0] Tryz.func290 ty_ok .nil (.cons L290[0] (by kernel_rfl) L290_2 .nil)
def F251 (a0:List (D76)) (a1:D76):Option (Bool×Unit):=
 ((F290 a0 a1).bind fun y0=>
 (some ((decide (y0.1≥(0:Int))),())))
def C251:Fun:=⟨[(.ro (.slice Y76)),(.ro Y76)],[(.bool,.z)],fun z=>F251 z.1 z.2.1⟩
def E251:=en 9 [(290,C290)] [(99999,[4],[])]
def L251:List (LoopS (Bool×Unit)):=[]
theorem C251_ok:QuietOk Tryz.prog 251 C251:=tQ E251 L251 [] Tryz.func251 ty_ok (.cons C290_ok .nil) .nil
def F204 (a0:D190) (a1:D76):Option (Bool×Unit):=
 ((F158 a1 a0.2.2.1).bind fun y0=>
 (let j7:D190×D76×Unit→Option (Bool×Unit):=fun (y8:D190×D76×Unit)=>
 ((F209 y8.2.1).bind fun y9=>
 (cond (y8.2.1.1==(4:Int))
 (some (((y9.1.length:Int)==y8.1.2.2.1.2.1),()))
 (some (false,()))))
 (cond (a0.1==(1:Int))
 (cond (a0.1==(1:Int))
 (some ((y0.1==(0:Int)),()))
 (cond (a0.1==(3:Int))
 (cond (a1.1==a0.2.2.1.1)
 (some ((decide (y0.1<(0:Int))),()))
 (some (false,())))
 (cond (a0.1==(4:Int))
 (cond (a1.1==a0.2.2.1.1)
 (some ((decide (y0.1≤(0:Int))),()))
 (some (false,())))
 (cond (a0.1==(5:Int))
 (cond (a1.1==a0.2.2.1.1)
 (some ((decide (y0.1>(0:Int))),()))
 (some (false,())))
 (cond (a0.1==(6:Int))
 (cond (a1.1==a0.2.2.1.1)
 (some ((decide (y0.1≥(0:Int))),()))
 (some (false,())))
 (cond (a0.1==(7:Int))
 ((F209 a0.2.2.1).bind fun y3=>
 ((F251 y3.1 a1).bind fun y4=>
 (some (y4.1,()))))
 (cond (a0.1==(9:Int))
 (some ((a1.1==a0.2.2.1.2.1),()))
 (j7 (a0,a1,())))))))))
 (cond (a0.1==(2:Int))
 (some ((y0.1==(0:Int)),()))
 (cond (a0.1==(3:Int))
 (cond (a1.1==a0.2.2.1.1)
 (some ((decide (y0.1<(0:Int))),()))
 (some (false,())))
 (cond (a0.1==(4:Int))
 (cond (a1.1==a0.2.2.1.1)
 (some ((decide (y0.1≤(0:Int))),()))
 (some (false,())))
 (cond (a0.1==(5:Int))
 (cond (a1.1==a0.2.2.1.1)
 (some ((decide (y0.1>(0:Int))),()))
 (some (false,())))
 (cond (a0.1==(6:Int))
 (cond (a1.1==a0.2.2.1.1)
 (some ((decide (y0.1≥(0:Int))),()))
 (some (false,())))
 (cond (a0.1==(7:Int))
 ((F209 a0.2.2.1).bind fun y5=>
 ((F251 y5.1 a1).bind fun y6=>
 (some (y6.1,()))))
 (cond (a0.1==(9:Int))
 (some ((a1.1==a0.2.2.1.2.1),()))
 (j7 (a0,a1,()))))))))))))
def C204:Fun:=⟨[(.ro Y190),(.ro Y76)],[(.bool,.z)],fun z=>F204 z.1 z.2.1⟩
def E204:=en 91 [(158,C158),(209,C209),(251,C251)] [(20,[2,3],[]),(100000,[2,3],[]),(99999,[4],[])]
def L204:List (LoopS (Bool×Unit)):=[]
theorem C204_ok:QuietOk Tryz.prog 204 C204:=tQ E204 L204 [] Tryz.func204 ty_ok (.cons C158_ok (.cons C209_ok (.cons C251_ok .nil))) .nil
def F155 (a0:D190) (a1:D76):Option (Bool×Unit):=
 ((F202 a1 a0.2.1).bind fun y0=>
 (cond (a0.1==(8:Int))
 (some (((decide ((y0.1.length:Int)>(0:Int)))==(a0.2.2.1.2.1==(1:Int))),()))
 (let j3:D190×List (D76)×Unit→Option (Bool×Unit):=fun (y4:D190×List (D76)×Unit)=>
 ((F203 y4.2.1 (fun (v7:D76)=>(Option.map (fun (v8:(Bool×Unit))=>v8.1) (F204 y4.1 v7)))).bind fun y5=>
 (some ((!(y5.1==(y4.1.1==(2:Int)))),())))
 (cond ((y0.1.length:Int)==(0:Int))
 (cond (a0.1 != (9:Int))
 (gd (decide ((y0.1.length+([((0:Int),((0:Int),([],())))]:List D76).length)≤lim))
 (j3 (a0,(y0.1++[((0:Int),((0:Int),([],())))]),())))
 (j3 (a0,y0.1,())))
 (j3 (a0,y0.1,()))))))
def C155:Fun:=⟨[(.ro Y190),(.ro Y76)],[(.bool,.z)],fun z=>F155 z.1 z.2.1⟩
def E155:=en 41 [(202,C202),(203,C203),(204,C204)] [(4,[2,5],[]),(6,[2,5],[]),(99999,[4],[])]
def L155:List (LoopS (Bool×Unit)):=[]
theorem C155_ok:QuietOk Tryz.prog 155 C155:=tQ E155 L155 [] Tryz.func155 ty_ok (.consFr C202_ok (.cons C203_ok (.cons C204_ok .nil))) .nil
def F154 (a0:D190) (a1:D76):Option (Bool×Unit):=
 ((F155 a0 a1).bind fun y0=>
 (some ((!y0.1),())))
def C154:Fun:=⟨[(.ro Y190),(.rp Y76)],[(.bool,.z)],fun z=>F154 z.1 z.2.1⟩
def E154:=en 8 [(155,C155)] [(99999,[3],[])]
def L154:List (LoopS (Bool×Unit)):=[]
theorem C154_ok:QuietOk Tryz.prog 154 C154:=tQ E154 L154 [] Tryz.func154 ty_ok (.cons C155_ok .nil) .nil
def F153 (a0:D183) (a1:D76):Option (Bool×Unit):=
 ((F143 a0.1 (fun (v3:D190)=>(Option.map (fun (v4:(Bool×Unit))=>v4.1) (F154 v3 a1)))).bind fun y0=>
 (some ((!y0.1),())))
def C153:Fun:=⟨[(.ro Y183),(.rp Y76)],[(.bool,.z)],fun z=>F153 z.1 z.2.1⟩
def E153:=en 9 [(143,C143),(154,C154)] [(99999,[3],[])]
def L153:List (LoopS (Bool×Unit)):=[]
theorem C153_ok:QuietOk Tryz.prog 153 C153:=tQ E153 L153 [] Tryz.func153 ty_ok (.cons C143_ok (.cons C154_ok .nil)) .nil
def F101 (a0:D27) (a1:D76):Option (Bool×Unit):=
 ((F141 a0.1 (fun (v3:D183)=>(Option.map (fun (v4:(Bool×Unit))=>v4.1) (F153 v3 a1)))).bind fun y0=>
 (some (y0.1,())))
def C101:Fun:=⟨[(.ro Y27),(.ro Y76)],[(.bool,.z)],fun z=>F101 z.1 z.2.1⟩
def E101:=en 9 [(141,C141),(153,C153)] [(99999,[4],[])]
def L101:List (LoopS (Bool×Unit)):=[]
theorem C101_ok:QuietOk Tryz.prog 101 C101:=tQ E101 L101 [] Tryz.func101 ty_ok (.cons C141_ok (.cons C153_ok .nil)) .nil
def F100 (a0:D76) (a1:D31):Option (Bool×Unit):=
 ((F101 a1.1 a0).bind fun y0=>
 (some ((!y0.1),())))
def C100:Fun:=⟨[(.ro Y76),(.rp Y31)],[(.bool,.z)],fun z=>F100 z.1 z.2.1⟩
def E100:=en 9 [(101,C101)] [(99999,[3],[])]
def L100:List (LoopS (Bool×Unit)):=[]
theorem C100_ok:QuietOk Tryz.prog 100 C100:=tQ E100 L100 [] Tryz.func100 ty_ok (.cons C101_ok .nil) .nil
def F214_R5 (e0_0:D76×D76×Unit→Option (D76×Unit)) (rec:List (D76)×Int×D76×D76×Unit→Option (D76×Unit)) (x4:List (D76)×Int×D76×D76×Unit):Option (D76×Unit):=
 (cond (decide (x4.2.1<(x4.1.length:Int)))
 (let j10:List (D76)×Int×D76×D76×Unit→Option (D76×Unit):=fun (y11:List (D76)×Int×D76×D76×Unit)=>
 (rec (y11.1,(IntKind.wrap .i64 (y11.2.1+(1:Int))),y11.2.2.1,y11.2.2.2.1,()))
 (gd (decide ((0:Int)≤x4.2.1))
 (x4.1[x4.2.1.toNat]?.bind fun y7=>
 ((F158 y7 x4.2.2.2.1).bind fun y8=>
 (cond (decide (y8.1<(0:Int)))
 (gd (decide ((0:Int)≤x4.2.1))
 (x4.1[x4.2.1.toNat]?.bind fun y9=>
 (j10 (x4.1,x4.2.1,x4.2.2.1,y9,()))))
 (j10 (x4.1,x4.2.1,x4.2.2.1,x4.2.2.2.1,())))))))
 (e0_0 (x4.2.2.1,x4.2.2.2.1,())))
def F214 (a0:List (D76)) (a1:(Unit)):Option (D76×Unit):=
 (cond (decide ((a0.length:Int)<(1:Int)))
 none
 (a0[(0:Int).toNat]?.bind fun y1=>
 (iter (F214_R5
 (fun y12=>
 (some (y12.2.1,())))) fuel (a0,(1:Int),((0:Int),((0:Int),([],()))),y1,()))))
def C214:Fun:=⟨[(.ro (.slice Y76)),(.st 158 [])],[(Y76,.z)],fun z=>F214 z.1 z.2.1⟩
def E214:=en 33 [(158,C158)] [(3,[0,1,4],[]),(5,[0,1,4,5,6],[]),(6,[0,1,4,5,6],[]),(7,[0,1,4,5,6],[]),(9,[4,5],[]),(100000,[4,5],[]),(100001,[0,1,4,5,6],[]),(99999,[4],[])]
def L214:List (LoopS (D76×Unit)):=[⟨5,⟨[(0,(.pv (.slice Y76))),(1,(.clo 158 [])),(4,(.ptr 32 [])),(5,(.ptr 40 [])),(6,(.pv (.int .i64)))],[(32,(.data true Y76 .z)),(40,(.data true Y76 .z))]⟩,fun κ=>F214_R5 (fun y=>κ.exit 0 (SSh.mk' ⟨[(4,(.ptr 32 [])),(5,(.ptr 40 []))],[(32,(.data true Y76 .z)),(40,(.data true Y76 .z))]⟩ y))⟩]
theorem L214_5:RoundEq E214 L214 L214[0] (nthLoop (codeOf Tryz.f214) 0):=fun κ N x=>by kernel_rfl
theorem C214_ok:QuietOk Tryz.prog 214 C214:=tQ E214 L214 [nthLoop (codeOf Tryz.f214) 0] Tryz.func214 ty_ok (.cons C158_ok .nil) (.cons L214[0] (by kernel_rfl) L214_5 .nil)
def F159 (a0:D76) (a1:List UInt8):Option (D76×Unit):=
 ((F202 a0 a1).bind fun y0=>
 (cond ((y0.1.length:Int)==(0:Int))
 (some (((0:Int),((0:Int),([],()))),()))
 ((F214 y0.1 ()).bind fun y2=>
 (some (y2.1,())))))
def C159:Fun:=⟨[(.ro Y76),(.ro .str)],[(Y76,.z)],fun z=>F159 z.1 z.2.1⟩
def E159:=en 15 [(158,C158),(202,C202),(214,C214)] [(4,[4,5],[]),(99999,[4],[])]
def L159:List (LoopS (D76×Unit)):=[]
theorem C159_ok:QuietOk Tryz.prog 159 C159:=tQ E159 L159 [] Tryz.func159 ty_ok (.cons C158_ok (.consFr C202_ok (.cons C214_ok .nil))) .nil
def F160 (a0:D76) (a1:D76):Option (Int×Unit):=
 ((F53 a0).bind fun y0=>
 ((F53 a1).bind fun y1=>
 ((F208 y0.1 y1.1).bind fun y2=>
 (some (y2.1,())))))
def C160:Fun:=⟨[(.ro Y76),(.ro Y76)],[((.int .i64),.z)],fun z=>F160 z.1 z.2.1⟩
def E160:=en 22 [(53,C53),(208,C208)] [(99999,[4],[])]
def L160:List (LoopS (Int×Unit)):=[]
theorem C160_ok:QuietOk Tryz.prog 160 C160:=tQ E160 L160 [] Tryz.func160 ty_ok (.cons C53_ok (.cons C208_ok .nil)) .nil
def F157_R2 (e0_0:D76×D76×Unit→Option (Int×Unit)) (er_1:Int×Unit→Option (Int×Unit)) (rec:List (D139)×Int×Int×D76×D76×Unit→Option (Int×Unit)) (x2:List (D139)×Int×Int×D76×D76×Unit):Option (Int×Unit):=
 (cond (decide (x2.2.2.1<x2.2.1))
 (gd (decide ((0:Int)≤x2.2.2.1))
 (x2.1[x2.2.2.1.toNat]?.bind fun y5=>
 ((F159 x2.2.2.2.1 y5.1).bind fun y6=>
 ((F159 x2.2.2.2.2.1 y5.1).bind fun y7=>
 ((F158 y6.1 y7.1).bind fun y8=>
 (let j10:Int×List (D139)×Int×Int×D76×D76×Unit→Option (Int×Unit):=fun (y11:Int×List (D139)×Int×Int×D76×D76×Unit)=>
 (cond (y11.1 != (0:Int))
 (er_1 (y11.1,()))
 (rec (y11.2.1,y11.2.2.1,(IntKind.wrap .i64 (y11.2.2.2.1+(1:Int))),y11.2.2.2.2.1,y11.2.2.2.2.2.1,())))
 (cond y5.2.1
 (j10 ((IntKind.wrap .i64 ((0:Int)-y8.1)),x2.1,x2.2.1,x2.2.2.1,x2.2.2.2.1,x2.2.2.2.2.1,()))
 (j10 (y8.1,x2.1,x2.2.1,x2.2.2.1,x2.2.2.2.1,x2.2.2.2.2.1,())))))))))
 (e0_0 (x2.2.2.2.1,x2.2.2.2.2.1,())))
def F157 (a0:D76) (a1:D76) (a2:List (D139)):Option (Int×Unit):=
 (iter (F157_R2
 (fun y12=>
 ((F160 y12.1 y12.2.1).bind fun y14=>
 (some (y14.1,()))))
 (fun y13=>
 (some (y13.1,())))) fuel (a2,(a2.length:Int),(0:Int),a0,a1,()))
def C157:Fun:=⟨[(.ro Y76),(.ro Y76),(.rp (.slice Y139))],[((.int .i64),.z)],fun z=>F157 z.1 z.2.1 z.2.2.1⟩
def E157:=en 35 [(158,C158),(159,C159),(160,C160)] [(2,[3,4,9,10,11],[]),(3,[3,4,9,10,11],[]),(7,[3,4,8,9,10,11],[]),(9,[3,4,9,10,11],[]),(10,[3,4],[]),(100000,[3,4],[]),(100001,[3,4,9,10,11],[]),(99999,[5],[])]
def L157:List (LoopS (Int×Unit)):=[⟨2,⟨[(3,(.ptr 24 [])),(4,(.ptr 32 [])),(9,(.pv (.slice Y139))),(10,(.pv (.int .i64))),(11,(.pv (.int .i64)))],[(24,(.data true Y76 .z)),(32,(.data true Y76 .z))]⟩,fun κ=>F157_R2 (fun y=>κ.exit 0 (SSh.mk' ⟨[(3,(.ptr 24 [])),(4,(.ptr 32 []))],[(24,(.data true Y76 .z)),(32,(.data true Y76 .z))]⟩ y)) (fun y=>κ.ret (SSh.mk' ⟨[(5,(.pv (.int .i64)))],[]⟩ y))⟩]
theorem L157_2:RoundEq E157 L157 L157[0] (nthLoop (codeOf Tryz.f157) 0):=fun κ N x=>by kernel_rfl
theorem C157_ok:QuietOk Tryz.prog 157 C157:=tQ E157 L157 [nthLoop (codeOf Tryz.f157) 0] Tryz.func157 ty_ok (.cons C158_ok (.cons C159_ok (.cons C160_ok .nil))) (.cons L157[0] (by kernel_rfl) L157_2 .nil)
def F156 (a0:List (D76)) (a1:(List (D139)×Unit)):Option (List (D76)×Unit):=
 (Option.map (fun l=>(l,())) (sortF (fun x y=>(Option.map (fun r=>r.1) (F157 x y a1.1))) a0))
def C156:Fun:=⟨[(.io (.slice Y76) (.own .z)),(.st 157 [(.slice Y139)])],[],fun ar=>F156 ar.1 ar.2.1⟩
theorem C156_ok:IoOk Tryz.prog 156 C156:=sort_ok Tryz.vSort156 (e:=Y76) rfl Tryz.isAgg95 Tryz.sizeOf95 Tryz.vSort156_fn (cmp_ok1 C157_ok)
def F102 (a0:List (D76)) (a1:List (D139)):Option (List (D76)×Unit):=
 ((F51 a0).bind fun y0=>
 ((F156 y0.1 (a1,())).bind fun y1=>
 (some (y1.1,()))))
def C102:Fun:=⟨[(.ro (.slice Y76)),(.ro (.slice Y139))],[((.slice Y76),(.own .z))],fun z=>F102 z.1 z.2.1⟩
def E102:Env:=⟨12,tyTab tys,oneTab ones,fnTab [(51,C51),(156,C156),(157,C157)],true,[],[(99999,[4],[])],none,[],[]⟩
def L102:List (LoopS (List (D76)×Unit)):=[]
theorem C102_ok:FreshOk Tryz.prog 102 C102:=tF E102 L102 [] Tryz.func102 ty_ok (.consFr C51_ok (.consIo C156_ok (.cons C157_ok .nil))) .nil
def F266_R3 (e0_0:List (Int)×Unit→Option (List (Int)×Unit)) (rec:Int×Int×List (Int)×Unit→Option (List (Int)×Unit)) (x2:Int×Int×List (Int)×Unit):Option (List (Int)×Unit):=
 (cond (decide (x2.2.1<(8:Int)))
 (cond (decide ((IntKind.wrap .i64 ((56:Int)-(IntKind.wrap .i64 ((8:Int)*x2.2.1))))<(0:Int)))
 none
 (gd (decide ((0:Int)≤x2.2.1))
 (gd (decide (x2.2.1<(x2.2.2.1.length:Int)))
 (x2.2.2.1[x2.2.1.toNat]?.bind fun y4=>
 (rec (x2.1,(IntKind.wrap .i64 (x2.2.1+(1:Int))),(List.set x2.2.2.1 x2.2.1.toNat (IntKind.wrap .u8 (Int.fdiv x2.1 ((2:Int) ^ (Min.min (IntKind.wrap .i64 ((56:Int)-(IntKind.wrap .i64 ((8:Int)*x2.2.1)))).toNat (IntKind.bits IntKind.i64)))))),()))))))
 (e0_0 (x2.2.2.1,())))
def F266 (a0:Int):Option (List (Int)×Unit):=
 (iter (F266_R3
 (fun y5=>
 (some (y5.1,())))) fuel (a0,(0:Int),(List.replicate (8:Int).toNat (0:Int)),()))
def C266:Fun:=⟨[(.ro (.int .i64))],[((.slice (.int .u8)),.z)],fun z=>F266 z.1⟩
def E266:=en 20 [] [(3,[0,3,6],[]),(4,[0,3,6],[]),(7,[3],[]),(100000,[3],[]),(100001,[0,3,6],[]),(99999,[2],[])]
def L266:List (LoopS (List (Int)×Unit)):=[⟨3,⟨[(0,(.pv (.int .i64))),(3,(.ref (.slice (.int .u8)) 40 [])),(6,(.pv (.int .i64)))],[(40,(.data false (.slice (.int .u8)) (.own .z)))]⟩,fun κ=>F266_R3 (fun y=>κ.exit 0 (SSh.mk' ⟨[(3,(.ref (.slice (.int .u8)) 40 []))],[(40,(.data false (.slice (.int .u8)) (.own .z)))]⟩ y))⟩]
theorem L266_3:RoundEq E266 L266 L266[0] (nthLoop (codeOf Tryz.f266) 0):=fun κ N x=>by kernel_rfl
theorem C266_ok:QuietOk Tryz.prog 266 C266:=tQ E266 L266 [nthLoop (codeOf Tryz.f266) 0] Tryz.func266 ty_ok .nil (.cons L266[0] (by kernel_rfl) L266_3 .nil)
def F218 (a0:List (Int)) (a1:D76):Option (List (Int)×Unit):=
 (gd (decide ((a0.length+(List.length [(IntKind.wrap .u8 a1.1)]))≤lim))
 (let j3:List (Int)×Unit→Option (List (Int)×Unit):=fun (y4:List (Int)×Unit)=>
 (some (y4.1,()))
 (cond (a1.1==(1:Int))
 (gd (decide (((a0++[(IntKind.wrap .u8 a1.1)]).length+(List.length [(IntKind.wrap .u8 a1.2.1)]))≤lim))
 (some (((a0++[(IntKind.wrap .u8 a1.1)])++[(IntKind.wrap .u8 a1.2.1)]),())))
 (cond (a1.1==(2:Int))
 ((F266 (IntKind.wrap .i64 (a1.2.1+(4611686018427387904:Int)))).bind fun y1=>
 (gd (decide (((a0++[(IntKind.wrap .u8 a1.1)]).length+y1.1.length)≤lim))
 (some (((a0++[(IntKind.wrap .u8 a1.1)])++y1.1),()))))
 (cond (a1.1==(3:Int))
 (cond (a1.1==(3:Int))
 (gd (decide (((a0++[(IntKind.wrap .u8 a1.1)]).length+(List.length [(IntKind.wrap .u8 (Int.fdiv (a1.2.2.1.length:Int) ((2:Int) ^ (Min.min (8:Int).toNat (IntKind.bits IntKind.i64))))),(IntKind.wrap .u8 (a1.2.2.1.length:Int))]))≤lim))
 (gd (decide ((((a0++[(IntKind.wrap .u8 a1.1)])++[(IntKind.wrap .u8 (Int.fdiv (a1.2.2.1.length:Int) ((2:Int) ^ (Min.min (8:Int).toNat (IntKind.bits IntKind.i64))))),(IntKind.wrap .u8 (a1.2.2.1.length:Int))]).length+(List.map (fun (v5:UInt8)=>(((UInt8.toNat v5):Nat):Int)) a1.2.2.1).length)≤lim))
 (some ((((a0++[(IntKind.wrap .u8 a1.1)])++[(IntKind.wrap .u8 (Int.fdiv (a1.2.2.1.length:Int) ((2:Int) ^ (Min.min (8:Int).toNat (IntKind.bits IntKind.i64))))),(IntKind.wrap .u8 (a1.2.2.1.length:Int))])++(List.map (fun (v5:UInt8)=>(((UInt8.toNat v5):Nat):Int)) a1.2.2.1)),()))))
 (j3 ((a0++[(IntKind.wrap .u8 a1.1)]),())))
 (cond (a1.1==(4:Int))
 (cond (a1.1==(4:Int))
 (gd (decide (((a0++[(IntKind.wrap .u8 a1.1)]).length+(List.length [(IntKind.wrap .u8 (Int.fdiv (a1.2.2.1.length:Int) ((2:Int) ^ (Min.min (8:Int).toNat (IntKind.bits IntKind.i64))))),(IntKind.wrap .u8 (a1.2.2.1.length:Int))]))≤lim))
 (gd (decide ((((a0++[(IntKind.wrap .u8 a1.1)])++[(IntKind.wrap .u8 (Int.fdiv (a1.2.2.1.length:Int) ((2:Int) ^ (Min.min (8:Int).toNat (IntKind.bits IntKind.i64))))),(IntKind.wrap .u8 (a1.2.2.1.length:Int))]).length+(List.map (fun (v5:UInt8)=>(((UInt8.toNat v5):Nat):Int)) a1.2.2.1).length)≤lim))
 (some ((((a0++[(IntKind.wrap .u8 a1.1)])++[(IntKind.wrap .u8 (Int.fdiv (a1.2.2.1.length:Int) ((2:Int) ^ (Min.min (8:Int).toNat (IntKind.bits IntKind.i64))))),(IntKind.wrap .u8 (a1.2.2.1.length:Int))])++(List.map (fun (v5:UInt8)=>(((UInt8.toNat v5):Nat):Int)) a1.2.2.1)),()))))
 (j3 ((a0++[(IntKind.wrap .u8 a1.1)]),())))
 (cond (a1.1==(5:Int))
 (gd (decide (((a0++[(IntKind.wrap .u8 a1.1)]).length+(List.length [(IntKind.wrap .u8 (Int.fdiv (a1.2.2.1.length:Int) ((2:Int) ^ (Min.min (8:Int).toNat (IntKind.bits IntKind.i64))))),(IntKind.wrap .u8 (a1.2.2.1.length:Int))]))≤lim))
 (gd (decide ((((a0++[(IntKind.wrap .u8 a1.1)])++[(IntKind.wrap .u8 (Int.fdiv (a1.2.2.1.length:Int) ((2:Int) ^ (Min.min (8:Int).toNat (IntKind.bits IntKind.i64))))),(IntKind.wrap .u8 (a1.2.2.1.length:Int))]).length+(List.map (fun (v5:UInt8)=>(((UInt8.toNat v5):Nat):Int)) a1.2.2.1).length)≤lim))
 (some ((((a0++[(IntKind.wrap .u8 a1.1)])++[(IntKind.wrap .u8 (Int.fdiv (a1.2.2.1.length:Int) ((2:Int) ^ (Min.min (8:Int).toNat (IntKind.bits IntKind.i64))))),(IntKind.wrap .u8 (a1.2.2.1.length:Int))])++(List.map (fun (v5:UInt8)=>(((UInt8.toNat v5):Nat):Int)) a1.2.2.1)),()))))
 (j3 ((a0++[(IntKind.wrap .u8 a1.1)]),())))))))))
def C218:Fun:=⟨[(.tk (.slice (.int .u8)) (.own .z)),(.ro Y76)],[((.slice (.int .u8)),(.own .z))],fun z=>F218 z.1 z.2.1⟩
def E218:Env:=⟨49,tyTab tys,oneTab ones,fnTab [(266,C266)],true,[72,152,344],[(11,[0],[]),(100000,[0],[]),(99999,[4],[])],none,[],[]⟩
def L218:List (LoopS (List (Int)×Unit)):=[]
theorem C218_ok:IoOk Tryz.prog 218 C218:=tT E218 L218 [] Tryz.func218 ty_ok (.cons C266_ok .nil) .nil
def F162_R3 (e0_0:D76×List (Int)×Unit→Option (D76×Unit)) (rec:List (D211)×Int×Int×D76×List (Int)×Unit→Option (D76×Unit)) (x2:List (D211)×Int×Int×D76×List (Int)×Unit):Option (D76×Unit):=
 (cond (decide (x2.2.2.1<x2.2.1))
 (gd (decide ((0:Int)≤x2.2.2.1))
 (x2.1[x2.2.2.1.toNat]?.bind fun y4=>
 (gd (decide ((x2.2.2.2.2.1.length+(List.length [(IntKind.wrap .u8 (y4.1.length:Int))]))≤lim))
 (gd (decide (((x2.2.2.2.2.1++[(IntKind.wrap .u8 (y4.1.length:Int))]).length+(List.map (fun (v8:UInt8)=>(((UInt8.toNat v8):Nat):Int)) y4.1).length)≤lim))
 ((F218 ((x2.2.2.2.2.1++[(IntKind.wrap .u8 (y4.1.length:Int))])++(List.map (fun (v8:UInt8)=>(((UInt8.toNat v8):Nat):Int)) y4.1)) y4.2.1).bind fun y5=>
 (rec (x2.1,x2.2.1,(IntKind.wrap .i64 (x2.2.2.1+(1:Int))),x2.2.2.2.1,y5.1,())))))))
 (e0_0 (x2.2.2.2.1,x2.2.2.2.2.1,())))
def F162 (a0:List (D211)):Option (D76×Unit):=
 (iter (F162_R3
 (fun y6=>
 (some (((5:Int),((0:Int),((List.map (fun (v4:Int)=>(UInt8.ofNat v4.toNat)) y6.2.1),()))),())))) fuel (a0,(a0.length:Int),(0:Int),((0:Int),((0:Int),([],()))),[],()))
def C162:Fun:=⟨[(.ro (.slice Y211))],[(Y76,.z)],fun z=>F162 z.1⟩
def E162:Env:=⟨30,tyTab tys,oneTab ones,fnTab [(218,C218)],false,[144],[(3,[2,3,7,8,9],[]),(4,[2,3,7,8,9],[]),(7,[2,3],[]),(100000,[2,3],[]),(100001,[2,3,7,8,9],[]),(99999,[2],[])],none,[],[]⟩
def L162:List (LoopS (D76×Unit)):=[⟨3,⟨[(2,(.ptr 16 [])),(3,(.ref (.slice (.int .u8)) 48 [])),(7,(.pv (.slice Y211))),(8,(.pv (.int .i64))),(9,(.pv (.int .i64)))],[(16,(.data true Y76 .z)),(48,(.data false (.slice (.int .u8)) (.own .z)))]⟩,fun κ=>F162_R3 (fun y=>κ.exit 0 (SSh.mk' ⟨[(2,(.ptr 16 [])),(3,(.ref (.slice (.int .u8)) 48 []))],[(16,(.data true Y76 .z)),(48,(.data false (.slice (.int .u8)) (.own .z)))]⟩ y))⟩]
theorem L162_3:RoundEq E162 L162 L162[0] (nthLoop (codeOf Tryz.f162) 0):=fun κ N x=>by kernel_rfl
theorem C162_ok:QuietOk Tryz.prog 162 C162:=tQ E162 L162 [nthLoop (codeOf Tryz.f162) 0] Tryz.func162 ty_ok (.consIo C218_ok .nil) (.cons L162[0] (by kernel_rfl) L162_3 .nil)
def F219_R2 (e0_0:Unit→Option (Int×Unit)) (er_1:Int×Unit→Option (Int×Unit)) (rec:List (D211)×(D211→Option (Bool))×Int×Int×Unit→Option (Int×Unit)) (x2:List (D211)×(D211→Option (Bool))×Int×Int×Unit):Option (Int×Unit):=
 (cond (decide (x2.2.2.2.1<x2.2.2.1))
 (gd (decide ((0:Int)≤x2.2.2.2.1))
 (x2.1[x2.2.2.2.1.toNat]?.bind fun y5=>
 ((x2.2.1 y5).bind fun y6=>
 (cond y6
 (er_1 (x2.2.2.2.1,()))
 (rec (x2.1,x2.2.1,x2.2.2.1,(IntKind.wrap .i64 (x2.2.2.2.1+(1:Int))),()))))))
 (e0_0 (())))
def F219 (a0:List (D211)) (a1:(D211→Option (Bool))):Option (Int×Unit):=
 (iter (F219_R2
 (fun y7=>
 (some ((-(1:Int)),())))
 (fun y8=>
 (some (y8.1,())))) fuel (a0,a1,(a0.length:Int),(0:Int),()))
def C219:Fun:=⟨[(.ro (.slice Y211)),(.fn Y211 .bool)],[((.int .i64),.z)],fun z=>F219 z.1 z.2.1⟩
def E219:=en 19 [] [(2,[0,1,7,8],[]),(3,[0,1,7,8],[]),(6,[0,1,7,8],[]),(7,[],[]),(100000,[],[]),(100001,[0,1,7,8],[]),(99999,[4],[])]
def L219:List (LoopS (Int×Unit)):=[⟨2,⟨[(0,(.pv (.slice Y211))),(1,(.fnA Y211 .bool)),(7,(.pv (.int .i64))),(8,(.pv (.int .i64)))],[]⟩,fun κ=>F219_R2 (fun y=>κ.exit 0 (SSh.mk' ⟨[],[]⟩ y)) (fun y=>κ.ret (SSh.mk' ⟨[(4,(.pv (.int .i64)))],[]⟩ y))⟩]
theorem L219_2:RoundEq E219 L219 L219[0] (nthLoop (codeOf Tryz.f219) 0):=fun κ N x=>by kernel_rfl
theorem C219_ok:QuietOk Tryz.prog 219 C219:=tQ E219 L219 [nthLoop (codeOf Tryz.f219) 0] Tryz.func219 ty_ok .nil (.cons L219[0] (by kernel_rfl) L219_2 .nil)
def F163_R5 (e0_0:Int×List (D211)×Unit→Option (List (D211)×Unit)) (rec:(D211→Option (Bool))×Int×Int×List (D211)×Unit→Option (List (D211)×Unit)) (x4:(D211→Option (Bool))×Int×Int×List (D211)×Unit):Option (List (D211)×Unit):=
 (cond (decide (x4.2.2.1<(x4.2.2.2.1.length:Int)))
 (let j10:(D211→Option (Bool))×Int×Int×List (D211)×Unit→Option (List (D211)×Unit):=fun (y11:(D211→Option (Bool))×Int×Int×List (D211)×Unit)=>
 (rec (y11.1,y11.2.1,(IntKind.wrap .i64 (y11.2.2.1+(1:Int))),y11.2.2.2.1,()))
 (gd (decide ((0:Int)≤x4.2.2.1))
 (gd (decide (x4.2.2.1<(x4.2.2.2.1.length:Int)))
 (x4.2.2.2.1[x4.2.2.1.toNat]?.bind fun y7=>
 ((x4.1 y7).bind fun y8=>
 (cond (!y8)
 (gd (decide ((0:Int)≤x4.2.1))
 (gd (decide (x4.2.1<(x4.2.2.2.1.length:Int)))
 (x4.2.2.2.1[x4.2.1.toNat]?.bind fun y9=>
 (j10 (x4.1,(IntKind.wrap .i64 (x4.2.1+(1:Int))),x4.2.2.1,(List.set x4.2.2.2.1 x4.2.1.toNat y7),())))))
 (j10 (x4.1,x4.2.1,x4.2.2.1,x4.2.2.2.1,()))))))))
 (e0_0 (x4.2.1,x4.2.2.2.1,())))
def F163 (a0:List (D211)) (a1:(D211→Option (Bool))):Option (List (D211)×Unit):=
 ((F219 a0 a1).bind fun y0=>
 (cond (y0.1==(-(1:Int)))
 (some (a0,()))
 (iter (F163_R5
 (fun y12=>
 (gd (decide ((y12.2.1.length:Int)≤(y12.2.1.length:Int)))
 (gd (decide ((0:Int)≤y12.1))
 (gd (decide (y12.1≤(((y12.2.1.length:Int).toNat:Nat):Int)))
 (gd (decide ((0:Int)≤y12.1))
 (gd (decide (y12.1≤(((wipe Y211 y12.2.1 y12.1.toNat (y12.2.1.length:Int).toNat).length:Nat):Int)))
 (some ((pre (Ty.slice (Ty.pair Ty.str (Ty.pair (Ty.pair (Ty.int IntKind.i64) (Ty.pair (Ty.int IntKind.i64) (Ty.pair Ty.str Ty.unit))) Ty.unit))) (wipe Y211 y12.2.1 y12.1.toNat (y12.2.1.length:Int).toNat) y12.1.toNat),()))))))))) fuel (a1,y0.1,(IntKind.wrap .i64 (y0.1+(1:Int))),a0,()))))
def C163:Fun:=⟨[(.tk (.slice Y211) (.own .z)),(.fn Y211 .bool)],[((.slice Y211),(.own .z))],fun z=>F163 z.1 z.2.1⟩
def E163:Env:=⟨42,tyTab tys,oneTab ones,fnTab [(219,C219)],true,[],[(4,[0,1,5],[]),(5,[0,1,5,6],[]),(6,[0,1,5,6],[]),(7,[0,1,5,6],[]),(11,[0,5],[]),(100000,[0,5],[]),(100001,[0,1,5,6],[]),(99999,[4],[])],none,[],[]⟩
def L163:List (LoopS (List (D211)×Unit)):=[⟨5,⟨[(0,(.ref (.slice Y211) 4 [])),(1,(.fnA Y211 .bool)),(5,(.pv (.int .i64))),(6,(.pv (.int .i64)))],[(4,(.data false (.slice Y211) (.own .z)))]⟩,fun κ=>F163_R5 (fun y=>κ.exit 0 (SSh.mk' ⟨[(0,(.ref (.slice Y211) 4 [])),(5,(.pv (.int .i64)))],[(4,(.data false (.slice Y211) (.own .z)))]⟩ y))⟩]
theorem L163_5:RoundEq E163 L163 L163[0] (nthLoop (codeOf Tryz.f163) 0):=fun κ N x=>by kernel_rfl
theorem C163_ok:IoOk Tryz.prog 163 C163:=tT E163 L163 [nthLoop (codeOf Tryz.f163) 0] Tryz.func163 ty_ok (.cons C219_ok .nil) (.cons L163[0] (by kernel_rfl) L163_5 .nil)
def F220_R2 (e0_0:Unit→Option (Int×Unit)) (er_1:Int×Unit→Option (Int×Unit)) (rec:List (List UInt8)×List UInt8×Int×Int×Unit→Option (Int×Unit)) (x2:List (List UInt8)×List UInt8×Int×Int×Unit):Option (Int×Unit):=
 (cond (decide (x2.2.2.2.1<x2.2.2.1))
 (gd (decide ((0:Int)≤x2.2.2.2.1))
 (x2.1[x2.2.2.2.1.toNat]?.bind fun y5=>
 (cond (x2.2.1==y5)
 (er_1 (x2.2.2.2.1,()))
 (rec (x2.1,x2.2.1,x2.2.2.1,(IntKind.wrap .i64 (x2.2.2.2.1+(1:Int))),())))))
 (e0_0 (())))
def F220 (a0:List (List UInt8)) (a1:List UInt8):Option (Int×Unit):=
 (iter (F220_R2
 (fun y6=>
 (some ((-(1:Int)),())))
 (fun y7=>
 (some (y7.1,())))) fuel (a0,a1,(a0.length:Int),(0:Int),()))
def C220:Fun:=⟨[(.ro (.slice .str)),(.ro .str)],[((.int .i64),.z)],fun z=>F220 z.1 z.2.1⟩
def E220:=en 19 [] [(2,[0,1,7,8],[]),(3,[0,1,7,8],[]),(6,[0,1,7,8],[]),(7,[],[]),(100000,[],[]),(100001,[0,1,7,8],[]),(99999,[4],[])]
def L220:List (LoopS (Int×Unit)):=[⟨2,⟨[(0,(.pv (.slice .str))),(1,(.pv .str)),(7,(.pv (.int .i64))),(8,(.pv (.int .i64)))],[]⟩,fun κ=>F220_R2 (fun y=>κ.exit 0 (SSh.mk' ⟨[],[]⟩ y)) (fun y=>κ.ret (SSh.mk' ⟨[(4,(.pv (.int .i64)))],[]⟩ y))⟩]
theorem L220_2:RoundEq E220 L220 L220[0] (nthLoop (codeOf Tryz.f220) 0):=fun κ N x=>by kernel_rfl
theorem C220_ok:QuietOk Tryz.prog 220 C220:=tQ E220 L220 [nthLoop (codeOf Tryz.f220) 0] Tryz.func220 ty_ok .nil (.cons L220[0] (by kernel_rfl) L220_2 .nil)
def F165 (a0:List (List UInt8)) (a1:List UInt8):Option (Bool×Unit):=
 ((F220 a0 a1).bind fun y0=>
 (some ((decide (y0.1≥(0:Int))),())))
def C165:Fun:=⟨[(.ro (.slice .str)),(.ro .str)],[(.bool,.z)],fun z=>F165 z.1 z.2.1⟩
def E165:=en 9 [(220,C220)] [(99999,[4],[])]
def L165:List (LoopS (Bool×Unit)):=[]
theorem C165_ok:QuietOk Tryz.prog 165 C165:=tQ E165 L165 [] Tryz.func165 ty_ok (.cons C220_ok .nil) .nil
def F164 (a0:D211) (a1:List (List UInt8)):Option (Bool×Unit):=
 (cond (!(a0.1==[(105:UInt8),(100:UInt8)]))
 ((F165 a1 a0.1).bind fun y0=>
 (some ((!y0.1),())))
 (some (false,())))
def C164:Fun:=⟨[(.ro Y211),(.rp (.slice .str))],[(.bool,.z)],fun z=>F164 z.1 z.2.1⟩
def E164:=en 14 [(165,C165)] [(99999,[3],[])]
def L164:List (LoopS (Bool×Unit)):=[]
theorem C164_ok:QuietOk Tryz.prog 164 C164:=tQ E164 L164 [] Tryz.func164 ty_ok (.cons C165_ok .nil) .nil
def F103 (a0:D76) (a1:List (List UInt8)):Option (D76×Unit):=
 (cond ((a1.length:Int)==(0:Int))
 (some (a0,()))
 ((F161 a0).bind fun y1=>
 ((F163 y1.1 (fun (v5:D211)=>(Option.map (fun (v6:(Bool×Unit))=>v6.1) (F164 v5 a1)))).bind fun y2=>
 ((F162 y2.1).bind fun y3=>
 (some (y3.1,()))))))
def C103:Fun:=⟨[(.ro Y76),(.ro (.slice .str))],[(Y76,.z)],fun z=>F103 z.1 z.2.1⟩
def E103:=en 20 [(161,C161),(162,C162),(163,C163),(164,C164)] [(3,[2,3,4],[]),(99999,[4],[])]
def L103:List (LoopS (D76×Unit)):=[]
theorem C103_ok:QuietOk Tryz.prog 103 C103:=tQ E103 L103 [] Tryz.func103 ty_ok (.consFr C161_ok (.cons C162_ok (.consIo C163_ok (.cons C164_ok .nil)))) .nil
def F48_R8 (e0_0:List (D76)×Unit→Option (List (D76)×Unit)) (rec:List (D76)×Int×Int×D31×List (D76)×Unit→Option (List (D76)×Unit)) (x8:List (D76)×Int×Int×D31×List (D76)×Unit):Option (List (D76)×Unit):=
 (cond (decide (x8.2.2.1<x8.2.1))
 (gd (decide ((0:Int)≤x8.2.2.1))
 (x8.1[x8.2.2.1.toNat]?.bind fun y10=>
 ((F103 y10 x8.2.2.2.1.2.2.2.2.1).bind fun y11=>
 (gd (decide ((x8.2.2.2.2.1.length+(List.length [y11.1]))≤lim))
 (rec (x8.1,x8.2.1,(IntKind.wrap .i64 (x8.2.2.1+(1:Int))),x8.2.2.2.1,(x8.2.2.2.2.1++[y11.1]),()))))))
 (e0_0 (x8.2.2.2.2.1,())))
def F48 (a0:D31) (a1:List (D76)):Option (List (D76)×Unit):=
 ((F51 a1).bind fun y0=>
 ((F50 y0.1 (fun (v4:D76)=>(Option.map (fun (v5:(Bool×Unit))=>v5.1) (F100 v4 a0)))).bind fun y1=>
 ((F102 y1.1 a0.2.1).bind fun y2=>
 (gd (decide ((y2.1.length:Int)≤(y2.1.length:Int)))
 (gd (decide ((0:Int)≤(cond (decide ((y2.1.length:Int)<a0.2.2.1)) (y2.1.length:Int) a0.2.2.1)))
 (gd (decide ((cond (decide ((y2.1.length:Int)<a0.2.2.1)) (y2.1.length:Int) a0.2.2.1)≤(((y2.1.length:Int).toNat:Nat):Int)))
 (let j4:List (D76)×D31×Unit→Option (List (D76)×Unit):=fun (y5:List (D76)×D31×Unit)=>
 (iter (F48_R8
 (fun y12=>
 (some (y12.1,())))) fuel (y5.1,(y5.1.length:Int),(0:Int),y5.2.1,[],()))
 (cond (decide (a0.2.2.2.1>(0:Int)))
 (gd (decide ((0:Int)≤(cond (decide ((((List.drop (cond (decide ((y2.1.length:Int)<a0.2.2.1)) (y2.1.length:Int) a0.2.2.1).toNat (List.take (y2.1.length:Int).toNat y2.1)).length:Nat):Int)<a0.2.2.2.1)) (((List.drop (cond (decide ((y2.1.length:Int)<a0.2.2.1)) (y2.1.length:Int) a0.2.2.1).toNat (List.take (y2.1.length:Int).toNat y2.1)).length:Nat):Int) a0.2.2.2.1)))
 (gd (decide ((cond (decide ((((List.drop (cond (decide ((y2.1.length:Int)<a0.2.2.1)) (y2.1.length:Int) a0.2.2.1).toNat (List.take (y2.1.length:Int).toNat y2.1)).length:Nat):Int)<a0.2.2.2.1)) (((List.drop (cond (decide ((y2.1.length:Int)<a0.2.2.1)) (y2.1.length:Int) a0.2.2.1).toNat (List.take (y2.1.length:Int).toNat y2.1)).length:Nat):Int) a0.2.2.2.1)≤(((List.drop (cond (decide ((y2.1.length:Int)<a0.2.2.1)) (y2.1.length:Int) a0.2.2.1).toNat (List.take (y2.1.length:Int).toNat y2.1)).length:Nat):Int)))
 (j4 ((List.drop (0:Int).toNat (List.take (cond (decide ((((List.drop (cond (decide ((y2.1.length:Int)<a0.2.2.1)) (y2.1.length:Int) a0.2.2.1).toNat (List.take (y2.1.length:Int).toNat y2.1)).length:Nat):Int)<a0.2.2.2.1)) (((List.drop (cond (decide ((y2.1.length:Int)<a0.2.2.1)) (y2.1.length:Int) a0.2.2.1).toNat (List.take (y2.1.length:Int).toNat y2.1)).length:Nat):Int) a0.2.2.2.1).toNat (List.drop (cond (decide ((y2.1.length:Int)<a0.2.2.1)) (y2.1.length:Int) a0.2.2.1).toNat (List.take (y2.1.length:Int).toNat y2.1)))),a0,()))))
 (j4 ((List.drop (cond (decide ((y2.1.length:Int)<a0.2.2.1)) (y2.1.length:Int) a0.2.2.1).toNat (List.take (y2.1.length:Int).toNat y2.1)),a0,()))))))))))
def C48:Fun:=⟨[(.ro Y31),(.ro (.slice Y76))],[((.slice Y76),(.own .z))],fun z=>F48 z.1 z.2.1⟩
def E48:Env:=⟨50,tyTab tys,oneTab ones,fnTab [(50,C50),(51,C51),(100,C100),(102,C102),(103,C103)],true,[],[(3,[2,5],[]),(6,[2,5],[]),(8,[2,6,35,36,37],[]),(9,[2,6,35,36,37],[]),(12,[6],[]),(100000,[6],[]),(100001,[2,6,35,36,37],[]),(200003,[5],[]),(99999,[4],[])],none,[],[]⟩
def L48:List (LoopS (List (D76)×Unit)):=[⟨8,⟨[(2,(.ptr 16 [])),(6,(.ref (.slice Y76) 272 [])),(35,(.pv (.slice Y76))),(36,(.pv (.int .i64))),(37,(.pv (.int .i64)))],[(16,(.data true Y31 .z)),(272,(.data false (.slice Y76) (.own .z)))]⟩,fun κ=>F48_R8 (fun y=>κ.exit 0 (SSh.mk' ⟨[(6,(.ref (.slice Y76) 272 []))],[(272,(.data false (.slice Y76) (.own .z)))]⟩ y))⟩]
theorem L48_8:RoundEq E48 L48 L48[0] (nthLoop (codeOf Tryz.f48) 0):=fun κ N x=>by kernel_rfl
theorem C48_ok:FreshOk Tryz.prog 48 C48:=tF E48 L48 [nthLoop (codeOf Tryz.f48) 0] Tryz.func48 ty_ok (.consIo C50_ok (.consFr C51_ok (.cons C100_ok (.consFr C102_ok (.cons C103_ok .nil))))) (.cons L48[0] (by kernel_rfl) L48_8 .nil)
def F112_R2 (e0_0:Unit→Option (Int×Unit)) (er_1:Int×Unit→Option (Int×Unit)) (rec:List (D114)×(D114→Option (Bool))×Int×Int×Unit→Option (Int×Unit)) (x2:List (D114)×(D114→Option (Bool))×Int×Int×Unit):Option (Int×Unit):=
 (cond (decide (x2.2.2.2.1<x2.2.2.1))
 (gd (decide ((0:Int)≤x2.2.2.2.1))
 (x2.1[x2.2.2.2.1.toNat]?.bind fun y5=>
 ((x2.2.1 y5).bind fun y6=>
 (cond y6
 (er_1 (x2.2.2.2.1,()))
 (rec (x2.1,x2.2.1,x2.2.2.1,(IntKind.wrap .i64 (x2.2.2.2.1+(1:Int))),()))))))
 (e0_0 (())))
def F112 (a0:List (D114)) (a1:(D114→Option (Bool))):Option (Int×Unit):=
 (iter (F112_R2
 (fun y7=>
 (some ((-(1:Int)),())))
 (fun y8=>
 (some (y8.1,())))) fuel (a0,a1,(a0.length:Int),(0:Int),()))
def C112:Fun:=⟨[(.ro (.slice Y114)),(.fn Y114 .bool)],[((.int .i64),.z)],fun z=>F112 z.1 z.2.1⟩
def E112:=en 19 [] [(2,[0,1,7,8],[]),(3,[0,1,7,8],[]),(6,[0,1,7,8],[]),(7,[],[]),(100000,[],[]),(100001,[0,1,7,8],[]),(99999,[4],[])]
def L112:List (LoopS (Int×Unit)):=[⟨2,⟨[(0,(.pv (.slice Y114))),(1,(.fnA Y114 .bool)),(7,(.pv (.int .i64))),(8,(.pv (.int .i64)))],[]⟩,fun κ=>F112_R2 (fun y=>κ.exit 0 (SSh.mk' ⟨[],[]⟩ y)) (fun y=>κ.ret (SSh.mk' ⟨[(4,(.pv (.int .i64)))],[]⟩ y))⟩]
theorem L112_2:RoundEq E112 L112 L112[0] (nthLoop (codeOf Tryz.f112) 0):=fun κ N x=>by kernel_rfl
theorem C112_ok:QuietOk Tryz.prog 112 C112:=tQ E112 L112 [nthLoop (codeOf Tryz.f112) 0] Tryz.func112 ty_ok .nil (.cons L112[0] (by kernel_rfl) L112_2 .nil)
def F105_R5 (e0_0:Int×List (D114)×Unit→Option (List (D114)×Unit)) (rec:(D114→Option (Bool))×Int×Int×List (D114)×Unit→Option (List (D114)×Unit)) (x4:(D114→Option (Bool))×Int×Int×List (D114)×Unit):Option (List (D114)×Unit):=
 (cond (decide (x4.2.2.1<(x4.2.2.2.1.length:Int)))
 (let j10:(D114→Option (Bool))×Int×Int×List (D114)×Unit→Option (List (D114)×Unit):=fun (y11:(D114→Option (Bool))×Int×Int×List (D114)×Unit)=>
 (rec (y11.1,y11.2.1,(IntKind.wrap .i64 (y11.2.2.1+(1:Int))),y11.2.2.2.1,()))
 (gd (decide ((0:Int)≤x4.2.2.1))
 (gd (decide (x4.2.2.1<(x4.2.2.2.1.length:Int)))
 (x4.2.2.2.1[x4.2.2.1.toNat]?.bind fun y7=>
 ((x4.1 y7).bind fun y8=>
 (cond (!y8)
 (gd (decide ((0:Int)≤x4.2.1))
 (gd (decide (x4.2.1<(x4.2.2.2.1.length:Int)))
 (x4.2.2.2.1[x4.2.1.toNat]?.bind fun y9=>
 (j10 (x4.1,(IntKind.wrap .i64 (x4.2.1+(1:Int))),x4.2.2.1,(List.set x4.2.2.2.1 x4.2.1.toNat y7),())))))
 (j10 (x4.1,x4.2.1,x4.2.2.1,x4.2.2.2.1,()))))))))
 (e0_0 (x4.2.1,x4.2.2.2.1,())))
def F105 (a0:List (D114)) (a1:(D114→Option (Bool))):Option (List (D114)×Unit):=
 ((F112 a0 a1).bind fun y0=>
 (cond (y0.1==(-(1:Int)))
 (some (a0,()))
 (iter (F105_R5
 (fun y12=>
 (gd (decide ((y12.2.1.length:Int)≤(y12.2.1.length:Int)))
 (gd (decide ((0:Int)≤y12.1))
 (gd (decide (y12.1≤(((y12.2.1.length:Int).toNat:Nat):Int)))
 (gd (decide ((0:Int)≤y12.1))
 (gd (decide (y12.1≤(((wipe Y114 y12.2.1 y12.1.toNat (y12.2.1.length:Int).toNat).length:Nat):Int)))
 (some ((pre (Ty.slice (Ty.pair Ty.str (Ty.pair (Ty.int IntKind.i64) Ty.unit))) (wipe Y114 y12.2.1 y12.1.toNat (y12.2.1.length:Int).toNat) y12.1.toNat),()))))))))) fuel (a1,y0.1,(IntKind.wrap .i64 (y0.1+(1:Int))),a0,()))))
def C105:Fun:=⟨[(.tk (.slice Y114) (.own .z)),(.fn Y114 .bool)],[((.slice Y114),(.own .z))],fun z=>F105 z.1 z.2.1⟩
def E105:Env:=⟨42,tyTab tys,oneTab ones,fnTab [(112,C112)],true,[],[(4,[0,1,5],[]),(5,[0,1,5,6],[]),(6,[0,1,5,6],[]),(7,[0,1,5,6],[]),(11,[0,5],[]),(100000,[0,5],[]),(100001,[0,1,5,6],[]),(99999,[4],[])],none,[],[]⟩
def L105:List (LoopS (List (D114)×Unit)):=[⟨5,⟨[(0,(.ref (.slice Y114) 4 [])),(1,(.fnA Y114 .bool)),(5,(.pv (.int .i64))),(6,(.pv (.int .i64)))],[(4,(.data false (.slice Y114) (.own .z)))]⟩,fun κ=>F105_R5 (fun y=>κ.exit 0 (SSh.mk' ⟨[(0,(.ref (.slice Y114) 4 [])),(5,(.pv (.int .i64)))],[(4,(.data false (.slice Y114) (.own .z)))]⟩ y))⟩]
theorem L105_5:RoundEq E105 L105 L105[0] (nthLoop (codeOf Tryz.f105) 0):=fun κ N x=>by kernel_rfl
theorem C105_ok:IoOk Tryz.prog 105 C105:=tT E105 L105 [nthLoop (codeOf Tryz.f105) 0] Tryz.func105 ty_ok (.cons C112_ok .nil) (.cons L105[0] (by kernel_rfl) L105_5 .nil)
def F108 (a0:D22) (a1:List UInt8):Option (Bool×Unit):=
 (cond (!(Op.bytesLess a1 a0.1))
 (cond a0.2.2.1
 (some (true,()))
 (some ((Op.bytesLess a1 a0.2.1),())))
 (some (false,())))
def C108:Fun:=⟨[(.ro Y22),(.ro .str)],[(.bool,.z)],fun z=>F108 z.1 z.2.1⟩
def E108:=en 19 [] [(99999,[4],[])]
def L108:List (LoopS (Bool×Unit)):=[]
theorem C108_ok:QuietOk Tryz.prog 108 C108:=tQ E108 L108 [] Tryz.func108 ty_ok .nil .nil
def F107 (a0:D114) (a1:D22):Option (Bool×Unit):=
 ((F108 a1 a0.1).bind fun y0=>
 (some ((!y0.1),())))
def C107:Fun:=⟨[(.ro Y114),(.rp Y22)],[(.bool,.z)],fun z=>F107 z.1 z.2.1⟩
def E107:=en 9 [(108,C108)] [(99999,[3],[])]
def L107:List (LoopS (Bool×Unit)):=[]
theorem C107_ok:QuietOk Tryz.prog 107 C107:=tQ E107 L107 [] Tryz.func107 ty_ok (.cons C108_ok .nil) .nil
def F109_R3 (e0_0:Int×Unit→Option (Int×Unit)) (rec:Int×List (D162)×Int×Int×D114×Unit→Option (Int×Unit)) (x2:Int×List (D162)×Int×Int×D114×Unit):Option (Int×Unit):=
 (cond (decide (x2.2.2.2.1<x2.2.2.1))
 (let j8:Int×List (D162)×Int×Int×D114×Unit→Option (Int×Unit):=fun (y9:Int×List (D162)×Int×Int×D114×Unit)=>
 (rec (y9.1,y9.2.1,y9.2.2.1,(IntKind.wrap .i64 (y9.2.2.2.1+(1:Int))),y9.2.2.2.2.1,()))
 (gd (decide ((0:Int)≤x2.2.2.2.1))
 (x2.2.1[x2.2.2.2.1.toNat]?.bind fun y5=>
 (cond (decide ((y5.2.1.length:Int)>(0:Int)))
 (y5.2.1[(0:Int).toNat]?.bind fun y6=>
 ((F168 y6 x2.2.2.2.2.1).bind fun y7=>
 (cond (decide (y7.1≤(0:Int)))
 (j8 (x2.2.2.2.1,x2.2.1,x2.2.2.1,x2.2.2.2.1,x2.2.2.2.2.1,()))
 (j8 (x2.1,x2.2.1,x2.2.2.1,x2.2.2.2.1,x2.2.2.2.2.1,())))))
 (j8 (x2.1,x2.2.1,x2.2.2.1,x2.2.2.2.1,x2.2.2.2.2.1,()))))))
 (e0_0 (x2.1,())))
def F109 (a0:D82) (a1:D114):Option (Int×Unit):=
 (iter (F109_R3
 (fun y10=>
 (some (y10.1,())))) fuel ((0:Int),a0.1,(a0.1.length:Int),(0:Int),a1,()))
def C109:Fun:=⟨[(.ro Y82),(.ro Y114)],[((.int .i64),.z)],fun z=>F109 z.1 z.2.1⟩
def E109:=en 32 [(168,C168)] [(3,[3,5,9,10,11],[]),(4,[3,5,9,10,11],[]),(7,[3,5,9,10,11],[]),(8,[5],[]),(100000,[5],[]),(100001,[3,5,9,10,11],[]),(99999,[4],[])]
def L109:List (LoopS (Int×Unit)):=[⟨3,⟨[(3,(.ptr 24 [])),(5,(.pv (.int .i64))),(9,(.pv (.slice Y162))),(10,(.pv (.int .i64))),(11,(.pv (.int .i64)))],[(24,(.data true Y114 .z))]⟩,fun κ=>F109_R3 (fun y=>κ.exit 0 (SSh.mk' ⟨[(5,(.pv (.int .i64)))],[]⟩ y))⟩]
theorem L109_3:RoundEq E109 L109 L109[0] (nthLoop (codeOf Tryz.f109) 0):=fun κ N x=>by kernel_rfl
theorem C109_ok:QuietOk Tryz.prog 109 C109:=tQ E109 L109 [nthLoop (codeOf Tryz.f109) 0] Tryz.func109 ty_ok (.cons C168_ok .nil) (.cons L109[0] (by kernel_rfl) L109_3 .nil)
def F49_R6 (e0_0:List (D114)×List (Int)×Unit→Option (List (D114)×List (Int)×Int×Unit)) (rec:List (D162)×Int×Int×D22×List (D114)×List (Int)×Unit→Option (List (D114)×List (Int)×Int×Unit)) (x7:List (D162)×Int×Int×D22×List (D114)×List (Int)×Unit):Option (List (D114)×List (Int)×Int×Unit):=
 (cond (decide (x7.2.2.1<x7.2.1))
 (gd (decide ((0:Int)≤x7.2.2.1))
 (x7.1[x7.2.2.1.toNat]?.bind fun y10=>
 (let j13:List (D162)×Int×Int×D22×List (D114)×List (Int)×D162×Unit→Option (List (D114)×List (Int)×Int×Unit):=fun (y14:List (D162)×Int×Int×D22×List (D114)×List (Int)×D162×Unit)=>
 (gd (decide ((y14.2.2.2.2.2.1.length+(List.length [y14.2.2.2.2.2.2.1.1]))≤lim))
 (rec (y14.1,y14.2.1,(IntKind.wrap .i64 (y14.2.2.1+(1:Int))),y14.2.2.2.1,y14.2.2.2.2.1,(y14.2.2.2.2.2.1++[y14.2.2.2.2.2.2.1.1]),())))
 (cond (decide (x7.2.2.1>(0:Int)))
 (cond (!x7.2.2.2.1.2.2.1)
 (y10.2.1[(0:Int).toNat]?.bind fun y12=>
 (cond (!(Op.bytesLess y12.1 x7.2.2.2.1.2.1))
 (e0_0 (x7.2.2.2.2.1,x7.2.2.2.2.2.1,()))
 (j13 (x7.1,x7.2.1,x7.2.2.1,x7.2.2.2.1,x7.2.2.2.2.1,x7.2.2.2.2.2.1,y10,()))))
 (j13 (x7.1,x7.2.1,x7.2.2.1,x7.2.2.2.1,x7.2.2.2.2.1,x7.2.2.2.2.2.1,y10,())))
 (j13 (x7.1,x7.2.1,x7.2.2.1,x7.2.2.2.1,x7.2.2.2.2.1,x7.2.2.2.2.2.1,y10,()))))))
 (e0_0 (x7.2.2.2.2.1,x7.2.2.2.2.2.1,())))
def F49 (a0:D82) (a1:D22):Option (List (D114)×List (Int)×Int×Unit):=
 ((F104 a0).bind fun y1=>
 (cond (!y1.1)
 (some ([],([],((1:Int),()))))
 ((F106 a0).bind fun y2=>
 ((F105 y2.1 (fun (v6:D114)=>(Option.map (fun (v7:(Bool×Unit))=>v7.1) (F107 v6 a1)))).bind fun y3=>
 ((F109 a0 (a1.1,((-(1:Int)),()))).bind fun y4=>
 (gd (decide ((a0.1.length:Int)≤(a0.1.length:Int)))
 (gd (decide ((0:Int)≤y4.1))
 (gd (decide (y4.1≤(((a0.1.length:Int).toNat:Nat):Int)))
 (iter (F49_R6
 (fun y15=>
 (some (y15.1,(y15.2.1,((0:Int),())))))) fuel ((List.drop y4.1.toNat (List.take (a0.1.length:Int).toNat a0.1)),(((List.drop y4.1.toNat (List.take (a0.1.length:Int).toNat a0.1)).length:Nat):Int),(0:Int),a1,y3.1,[],()))))))))))
def C49:Fun:=⟨[(.ro Y82),(.ro Y22)],[((.slice Y114),.z),((.slice (.int .i64)),.z),((.int .i64),.z)],fun z=>F49 z.1 z.2.1⟩
def E49:=en 60 [(104,C104),(105,C105),(106,C106),(107,C107),(109,C109)] [(3,[2,3],[]),(6,[3,7,9,28,29,30],[]),(7,[3,7,9,28,29,30],[]),(9,[3,7,9,11,28,29,30],[]),(10,[3,7,9,28,29,30],[]),(11,[7,9],[]),(100000,[7,9],[]),(100001,[3,7,9,28,29,30],[]),(99999,[4,5,6],[])]
def L49:List (LoopS (List (D114)×List (Int)×Int×Unit)):=[⟨6,⟨[(3,(.ptr 24 [])),(7,(.ref (.slice Y114) 128 [])),(9,(.ref (.slice (.int .i64)) 192 [])),(28,(.pv (.slice Y162))),(29,(.pv (.int .i64))),(30,(.pv (.int .i64)))],[(24,(.data true Y22 .z)),(128,(.data false (.slice Y114) (.own .z))),(192,(.data false (.slice (.int .i64)) (.own .z)))]⟩,fun κ=>F49_R6 (fun y=>κ.exit 0 (SSh.mk' ⟨[(7,(.ref (.slice Y114) 128 [])),(9,(.ref (.slice (.int .i64)) 192 []))],[(128,(.data false (.slice Y114) (.own .z))),(192,(.data false (.slice (.int .i64)) (.own .z)))]⟩ y))⟩]
theorem L49_6:RoundEq E49 L49 L49[0] (nthLoop (codeOf Tryz.f49) 0):=fun κ N x=>by kernel_rfl
theorem C49_ok:QuietOk Tryz.prog 49 C49:=tQ E49 L49 [nthLoop (codeOf Tryz.f49) 0] Tryz.func49 ty_ok (.cons C104_ok (.consIo C105_ok (.consFr C106_ok (.cons C107_ok (.cons C109_ok .nil))))) (.cons L49[0] (by kernel_rfl) L49_6 .nil)
def F54 (a0:List (D114)) (a1:(D114→Option (Bool))):Option (Bool×Unit):=
 ((F112 a0 a1).bind fun y0=>
 (some ((decide (y0.1≥(0:Int))),())))
def C54:Fun:=⟨[(.ro (.slice Y114)),(.fn Y114 .bool)],[(.bool,.z)],fun z=>F54 z.1 z.2.1⟩
def E54:=en 9 [(112,C112)] [(99999,[4],[])]
def L54:List (LoopS (Bool×Unit)):=[]
theorem C54_ok:QuietOk Tryz.prog 54 C54:=tQ E54 L54 [] Tryz.func54 ty_ok (.cons C112_ok .nil) .nil
def F55 (a0:D114) (a1:Int):Option (Bool×Unit):=
 (some ((a0.2.1==a1),()))
def C55:Fun:=⟨[(.ro Y114),(.rp (.int .i64))],[(.bool,.z)],fun z=>F55 z.1 z.2.1⟩
def E55:=en 8 [] [(99999,[3],[])]
def L55:List (LoopS (Bool×Unit)):=[]
theorem C55_ok:QuietOk Tryz.prog 55 C55:=tQ E55 L55 [] Tryz.func55 ty_ok .nil .nil
def F52 (a0:D76) (a1:List (D114)):Option (Bool×Unit):=
 ((F53 a0).bind fun y0=>
 ((F54 a1 (fun (v4:D114)=>(Option.map (fun (v5:(Bool×Unit))=>v5.1) (F55 v4 y0.1)))).bind fun y1=>
 (some ((!y1.1),()))))
def C52:Fun:=⟨[(.ro Y76),(.rp (.slice Y114))],[(.bool,.z)],fun z=>F52 z.1 z.2.1⟩
def E52:=en 15 [(53,C53),(54,C54),(55,C55)] [(99999,[3],[])]
def L52:List (LoopS (Bool×Unit)):=[]
theorem C52_ok:QuietOk Tryz.prog 52 C52:=tQ E52 L52 [] Tryz.func52 ty_ok (.cons C53_ok (.cons C54_ok (.cons C55_ok .nil))) .nil
def F14 (a0:D24) (a1:D31) (a2:List (D76)) (a3:List (D84)):Option (List (D76)×Int×Unit):=
 ((F44 a3 a0.1).bind fun y0=>
 (cond (decide ((a2.length:Int)>(4096:Int)))
 (some ([],((2:Int),())))
 (cond (decide ((a3.length:Int)>(4096:Int)))
 (some ([],((2:Int),())))
 ((F45 a1).bind fun y2=>
 (cond (!y2.1)
 (some ([],((1:Int),())))
 ((F46 a2).bind fun y3=>
 (cond (!y3.1)
 (some ([],((1:Int),())))
 ((F47 a3).bind fun y4=>
 (cond (!y4.1)
 (some ([],((1:Int),())))
 (cond (a0.1==[])
 ((F48 a1 a2).bind fun y5=>
 (some (y5.1,((0:Int),()))))
 (cond (decide (y0.1<(0:Int)))
 (some ([],((11:Int),())))
 (gd (decide ((0:Int)≤y0.1))
 (a3[y0.1.toNat]?.bind fun y6=>
 ((F49 y6.2.1 a0.2.1).bind fun y7=>
 ((F51 a2).bind fun y8=>
 ((F50 y8.1 (fun (v13:D76)=>(Option.map (fun (v14:(Bool×Unit))=>v14.1) (F52 v13 y7.1)))).bind fun y9=>
 ((F48 a1 y9.1).bind fun y10=>
 (some (y10.1,((0:Int),()))))))))))))))))))))
def C14:Fun:=⟨[(.ro Y24),(.ro Y31),(.ro (.slice Y76)),(.ro (.slice Y84))],[((.slice Y76),(.own .z)),((.int .i64),.z)],fun z=>F14 z.1 z.2.1 z.2.2.1 z.2.2.2.1⟩
def E14:Env:=⟨69,tyTab tys,oneTab ones,fnTab [(44,C44),(45,C45),(46,C46),(47,C47),(48,C48),(49,C49),(50,C50),(51,C51),(52,C52)],true,[],[(10,[2,3,4,5,10],[]),(100000,[2,3,4,5,10],[]),(99999,[8,9],[])],none,[],[]⟩
def L14:List (LoopS (List (D76)×Int×Unit)):=[]
theorem C14_ok:FreshOk Tryz.prog 14 C14:=tF E14 L14 [] Tryz.func14 ty_ok (.cons C44_ok (.cons C45_ok (.cons C46_ok (.cons C47_ok (.consFr C48_ok (.cons C49_ok (.consIo C50_ok (.consFr C51_ok (.cons C52_ok .nil))))))))) .nil
end
end Go.V
