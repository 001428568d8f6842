/- What functions of the program compute, printed by a program of ours. No condition. -/
import Derived.Test.YtaggmkdoelocbaaGreatDoorWF2
namespace Go.V
open Go.Proofs
noncomputable section
set_option maxRecDepth 100000
set_option linter.unusedVariables false
def F217 (a0:D139):Option (D76×D139×Unit):=
 ((F216 a0 (1:Int)).bind fun y0=>
 (let j11:D139×D76×D76×Unit→Option (D76×D139×Unit):=fun (y12:D139×D76×D76×Unit)=>
 (some (y12.2.2.1,(y12.1,())))
 (cond (y0.1==(1:Int))
 ((F216 y0.2.1 (1:Int)).bind fun y2=>
 (j11 (y2.2.1,((0:Int),((0:Int),([],()))),(y0.1,(y2.1,([],()))),())))
 (cond (y0.1==(2:Int))
 ((F216 y0.2.1 (8:Int)).bind fun y3=>
 (j11 (y3.2.1,((0:Int),((0:Int),([],()))),(y0.1,((IntKind.wrap .i64 (y3.1-(4611686018427387904:Int))),([],()))),())))
 (cond (y0.1==(3:Int))
 (cond (y0.1==(3:Int))
 ((F216 y0.2.1 (2:Int)).bind fun y5=>
 ((F215 y5.2.1 y5.1).bind fun y6=>
 (j11 (y6.2.1,((0:Int),((0:Int),([],()))),(y0.1,((0:Int),(y6.1,()))),()))))
 (j11 (y0.2.1,((0:Int),((0:Int),([],()))),(y0.1,((0:Int),([],()))),())))
 (cond (y0.1==(4:Int))
 (cond (y0.1==(4:Int))
 ((F216 y0.2.1 (2:Int)).bind fun y7=>
 ((F215 y7.2.1 y7.1).bind fun y8=>
 (j11 (y8.2.1,((0:Int),((0:Int),([],()))),(y0.1,((0:Int),(y8.1,()))),()))))
 (j11 (y0.2.1,((0:Int),((0:Int),([],()))),(y0.1,((0:Int),([],()))),())))
 (cond (y0.1==(5:Int))
 ((F216 y0.2.1 (2:Int)).bind fun y9=>
 ((F215 y9.2.1 y9.1).bind fun y10=>
 (j11 (y10.2.1,((0:Int),((0:Int),([],()))),(y0.1,((0:Int),(y10.1,()))),()))))
 (j11 (y0.2.1,((0:Int),((0:Int),([],()))),(y0.1,((0:Int),([],()))),())))))))))
def C217:Fun:=⟨[(.io Y139 .z)],[(Y76,.z)],fun z=>F217 z.1⟩
def E217:=en 30 [(215,C215),(216,C216)] [(11,[2,3],[4]),(100000,[2,3],[4]),(99999,[2],[4])]
def L217:List (LoopS (D76×D139×Unit)):=[]
theorem C217_ok:IoOk Tryz.prog 217 C217:=tI E217 L217 [] Tryz.func217 ty_ok (.consIo C215_ok (.consIo C216_ok .nil)) (fun p=>.nil)
def F161_R2 (e0_0:D139×List (D211)×Unit→Option (List (D211)×Bool×Unit)) (rec:D139×List (D211)×Unit→Option (List (D211)×Bool×Unit)) (x2:D139×List (D211)×Unit):Option (List (D211)×Bool×Unit):=
 (cond (!(x2.1.1==[]))
 (cond (!x2.1.2.1)
 ((F216 x2.1 (1:Int)).bind fun y4=>
 ((F215 y4.2.1 y4.1).bind fun y5=>
 ((F217 y5.2.1).bind fun y6=>
 (gd (decide ((x2.2.1.length+(List.length [(y5.1,(y6.1,()))]))≤lim))
 (rec (y6.2.1,(x2.2.1++[(y5.1,(y6.1,()))]),()))))))
 (e0_0 (x2.1,x2.2.1,())))
 (e0_0 (x2.1,x2.2.1,())))
def F161 (a0:D76):Option (List (D211)×Bool×Unit):=
 (iter (F161_R2
 (fun y7=>
 (some (y7.2.1,((!y7.1.2.1),()))))) fuel ((a0.2.2.1,(false,())),[],()))
def C161:Fun:=⟨[(.ro Y76)],[((.slice Y211),(.own .z)),(.bool,.z)],fun z=>F161 z.1⟩
def E161:Env:=⟨39,tyTab tys,oneTab ones,fnTab [(215,C215),(216,C216),(217,C217)],true,[],[(2,[4,5],[]),(3,[4,5],[]),(4,[4,5],[]),(100000,[4,5],[]),(100001,[4,5],[]),(99999,[2,3],[])],none,[],[]⟩
def L161:List (LoopS (List (D211)×Bool×Unit)):=[⟨2,⟨[(4,(.ptr 72 [])),(5,(.ref (.slice Y211) 80 []))],[(72,(.data true Y139 .z)),(80,(.data false (.slice Y211) (.own .z)))]⟩,fun κ=>F161_R2 (fun y=>κ.exit 0 (SSh.mk' ⟨[(4,(.ptr 72 [])),(5,(.ref (.slice Y211) 80 []))],[(72,(.data true Y139 .z)),(80,(.data false (.slice Y211) (.own .z)))]⟩ y))⟩]
theorem L161_2:RoundEq E161 L161 L161[0] (nthLoop (codeOf Tryz.f161) 0):=fun κ N x=>by kernel_rfl
theorem C161_ok:FreshOk Tryz.prog 161 C161:=tF E161 L161 [nthLoop (codeOf Tryz.f161) 0] Tryz.func161 ty_ok (.consIo C215_ok (.consIo C216_ok (.consIo C217_ok .nil))) (.cons L161[0] (by kernel_rfl) L161_2 .nil)
def F209_R2 (e0_0:D139×List (D76)×Unit→Option (List (D76)×Bool×Unit)) (rec:D139×List (D76)×Unit→Option (List (D76)×Bool×Unit)) (x2:D139×List (D76)×Unit):Option (List (D76)×Bool×Unit):=
 (cond (!(x2.1.1==[]))
 (cond (!x2.1.2.1)
 ((F217 x2.1).bind fun y4=>
 (gd (decide ((x2.2.1.length+(List.length [y4.1]))≤lim))
 (rec (y4.2.1,(x2.2.1++[y4.1]),()))))
 (e0_0 (x2.1,x2.2.1,())))
 (e0_0 (x2.1,x2.2.1,())))
def F209 (a0:D76):Option (List (D76)×Bool×Unit):=
 (iter (F209_R2
 (fun y5=>
 (some (y5.2.1,((!y5.1.2.1),()))))) fuel ((a0.2.2.1,(false,())),[],()))
def C209:Fun:=⟨[(.ro Y76)],[((.slice Y76),.z),(.bool,.z)],fun z=>F209 z.1⟩
def E209:=en 34 [(217,C217)] [(2,[4,5],[]),(3,[4,5],[]),(4,[4,5],[]),(100000,[4,5],[]),(100001,[4,5],[]),(99999,[2,3],[])]
def L209:List (LoopS (List (D76)×Bool×Unit)):=[⟨2,⟨[(4,(.ptr 72 [])),(5,(.ref (.slice Y76) 80 []))],[(72,(.data true Y139 .z)),(80,(.data false (.slice Y76) (.own .z)))]⟩,fun κ=>F209_R2 (fun y=>κ.exit 0 (SSh.mk' ⟨[(4,(.ptr 72 [])),(5,(.ref (.slice Y76) 80 []))],[(72,(.data true Y139 .z)),(80,(.data false (.slice Y76) (.own .z)))]⟩ y))⟩]
theorem L209_2:RoundEq E209 L209 L209[0] (nthLoop (codeOf Tryz.f209) 0):=fun κ N x=>by kernel_rfl
theorem C209_ok:QuietOk Tryz.prog 209 C209:=tQ E209 L209 [nthLoop (codeOf Tryz.f209) 0] Tryz.func209 ty_ok (.consIo C217_ok .nil) (.cons L209[0] (by kernel_rfl) L209_2 .nil)
def F288_R6 (e0_0:Bool×List (D76)×Unit→Option (List (D76)×Bool×Unit)) (rec:Bool×Int×Int×List (D211)×List (D76)×Unit→Option (List (D76)×Bool×Unit)) (x5:Bool×Int×Int×List (D211)×List (D76)×Unit):Option (List (D76)×Bool×Unit):=
 (cond (decide (x5.2.2.1<x5.2.1))
 (gd (decide ((0:Int)≤x5.2.2.1))
 (gd (decide (x5.2.2.1<(x5.2.2.2.1.length:Int)))
 (x5.2.2.2.1[x5.2.2.1.toNat]?.bind fun y7=>
 (cond x5.1
 ((F97 y7.1).bind fun y8=>
 (cond y8.1
 (cond (x5.2.2.1==(0:Int))
 (gd (decide ((x5.2.2.2.2.1.length+(List.length [y7.2.1]))≤lim))
 (rec (true,x5.2.1,(IntKind.wrap .i64 (x5.2.2.1+(1:Int))),x5.2.2.2.1,(x5.2.2.2.2.1++[y7.2.1]),())))
 (gd (decide ((0:Int)≤(IntKind.wrap .i64 (x5.2.2.1-(1:Int)))))
 (gd (decide ((IntKind.wrap .i64 (x5.2.2.1-(1:Int)))<(x5.2.2.2.1.length:Int)))
 (x5.2.2.2.1[(IntKind.wrap .i64 (x5.2.2.1-(1:Int))).toNat]?.bind fun y9=>
 (gd (decide ((x5.2.2.2.2.1.length+(List.length [y7.2.1]))≤lim))
 (rec ((Op.bytesLess y9.1 y7.1),x5.2.1,(IntKind.wrap .i64 (x5.2.2.1+(1:Int))),x5.2.2.2.1,(x5.2.2.2.2.1++[y7.2.1]),())))))))
 (gd (decide ((x5.2.2.2.2.1.length+(List.length [y7.2.1]))≤lim))
 (rec (false,x5.2.1,(IntKind.wrap .i64 (x5.2.2.1+(1:Int))),x5.2.2.2.1,(x5.2.2.2.2.1++[y7.2.1]),())))))
 (gd (decide ((x5.2.2.2.2.1.length+(List.length [y7.2.1]))≤lim))
 (rec (false,x5.2.1,(IntKind.wrap .i64 (x5.2.2.1+(1:Int))),x5.2.2.2.1,(x5.2.2.2.2.1++[y7.2.1]),())))))))
 (e0_0 (x5.1,x5.2.2.2.2.1,())))
def F288 (a0:D76):Option (List (D76)×Bool×Unit):=
 (cond (a0.1==(4:Int))
 ((F209 a0).bind fun y1=>
 (some (y1.1,(y1.2.1,()))))
 ((F161 a0).bind fun y2=>
 (iter (F288_R6
 (fun y10=>
 (some (y10.2.1,(y10.1,()))))) fuel (y2.2.1,(y2.1.length:Int),(0:Int),y2.1,[],()))))
def C288:Fun:=⟨[(.ro Y76)],[((.slice Y76),.z),(.bool,.z)],fun z=>F288 z.1⟩
def E288:=en 58 [(97,C97),(161,C161),(209,C209)] [(3,[1],[]),(6,[4,5,6,22,23,24],[]),(7,[4,5,6,22,23,24],[]),(11,[5,6],[]),(100000,[5,6],[]),(100001,[4,5,6,22,23,24],[]),(99999,[2,3],[])]
def L288:List (LoopS (List (D76)×Bool×Unit)):=[⟨6,⟨[(4,(.ref (.slice Y211) 144 [])),(5,(.pv .bool)),(6,(.ref (.slice Y76) 168 [])),(22,(.ref (.slice Y211) 144 [])),(23,(.pv (.int .i64))),(24,(.pv (.int .i64)))],[(144,(.data false (.slice Y211) (.own .z))),(168,(.data false (.slice Y76) (.own .z)))]⟩,fun κ=>F288_R6 (fun y=>κ.exit 0 (SSh.mk' ⟨[(5,(.pv .bool)),(6,(.ref (.slice Y76) 168 []))],[(168,(.data false (.slice Y76) (.own .z)))]⟩ y))⟩]
theorem L288_6:RoundEq E288 L288 L288[0] (nthLoop (codeOf Tryz.f288) 0):=fun κ N x=>by kernel_rfl
theorem C288_ok:QuietOk Tryz.prog 288 C288:=tQ E288 L288 [nthLoop (codeOf Tryz.f288) 0] Tryz.func288 ty_ok (.cons C97_ok (.consFr C161_ok (.cons C209_ok .nil))) (.cons L288[0] (by kernel_rfl) L288_6 .nil)
abbrev G249:Type:=(D76)→(Int)→Option (Bool×Unit)
def H249 (g:G249):Fun:=⟨[(.ro Y76),(.ro (.int .i64))],[(.bool,.z)],fun z=>g z.1 z.2.1⟩
def B289 (g:G249) (a0:D76) (a1:Int):Option (Bool×Unit):=
 ((g a0 (IntKind.wrap .i64 (a1-(1:Int)))).bind fun y0=>
 (some ((!y0.1),())))
def K289 (g:G249):Fun:=⟨[(.ro Y76),(.rp (.int .i64))],[(.bool,.z)],fun z=>B289 g z.1 z.2.1⟩
def E289 (g:G249):Env:=⟨9,tyTab tys,oneTab ones,fnTab [(249,(H249 g))],false,[],[(99999,[3],[])],none,[],[]⟩
def L289 (g:G249):List (LoopS (Bool×Unit)):=[]
theorem K289_ok (g:G249) (hg:QuietOk Tryz.prog 249 (H249 g)):QuietOk Tryz.prog 289 (K289 g):=tQ (E289 g) (L289 g) [] Tryz.func289 ty_ok (.cons hg .nil) .nil
def B249 (g:G249) (a0:D76) (a1:Int):Option (Bool×Unit):=
 (let j8:Unit→Option (Bool×Unit):=fun (y9:Unit)=>
 (some (false,()))
 (cond (a0.1==(0:Int))
 (some (((decide (a0.1=(0:Int)))&&((decide (a0.2.1=(0:Int)))&&((a0.2.2.1==[])&&true))),()))
 (cond (a0.1==(1:Int))
 ((F95 a0.2.1 (0:Int) (1:Int)).bind fun y1=>
 (cond y1.1
 (some ((a0.2.2.1==[]),()))
 (some (false,()))))
 (cond (a0.1==(2:Int))
 ((F287 a0.2.1).bind fun y2=>
 (cond y2.1
 (some ((a0.2.2.1==[]),()))
 (some (false,()))))
 (cond (a0.1==(3:Int))
 (cond (a0.2.1==(0:Int))
 (some ((decide ((a0.2.2.1.length:Int)≤(300:Int))),()))
 (some (false,())))
 (cond (a0.1==(4:Int))
 (cond (a0.1==(4:Int))
 ((F288 a0).bind fun y4=>
 (cond (a0.2.1==(0:Int))
 (cond (decide ((a0.2.2.1.length:Int)≤(300:Int)))
 (cond (decide (a1>(0:Int)))
 (cond y4.2.1
 ((F203 y4.1 (fun (v6:D76)=>(Option.map (fun (v7:(Bool×Unit))=>v7.1) (B289 g v6 a1)))).bind fun y5=>
 (some ((!y5.1),())))
 (some (false,())))
 (some (false,())))
 (some (false,())))
 (some (false,()))))
 (j8 (())))
 (cond (a0.1==(5:Int))
 ((F288 a0).bind fun y6=>
 (cond (a0.2.1==(0:Int))
 (cond (decide ((a0.2.2.1.length:Int)≤(300:Int)))
 (cond (decide (a1>(0:Int)))
 (cond y6.2.1
 ((F203 y6.1 (fun (v6:D76)=>(Option.map (fun (v7:(Bool×Unit))=>v7.1) (B289 g v6 a1)))).bind fun y7=>
 (some ((!y7.1),())))
 (some (false,())))
 (some (false,())))
 (some (false,())))
 (some (false,()))))
 (j8 (())))))))))
def K249 (g:G249):Fun:=⟨[(.ro Y76),(.ro (.int .i64))],[(.bool,.z)],fun z=>B249 g z.1 z.2.1⟩
def E249 (g:G249):Env:=⟨75,tyTab tys,oneTab ones,fnTab [(95,C95),(203,C203),(287,C287),(288,C288),(289,(K289 g))],false,[],[(14,[],[]),(100000,[],[]),(99999,[4],[])],none,[],[]⟩
def L249 (g:G249):List (LoopS (Bool×Unit)):=[]
theorem K249_ok (g:G249) (hg:QuietOk Tryz.prog 249 (H249 g)):QuietOk Tryz.prog 249 (K249 g):=tQ (E249 g) (L249 g) [] Tryz.func249 ty_ok (.cons C95_ok (.cons C203_ok (.cons C287_ok (.cons C288_ok (.cons (K289_ok g hg) .nil))))) .nil
def S249:Nat→G249
  |0=>fun _ _=>none
  |k+1=>B249 (S249 k)
def F249:G249:=S249 fuel
def C249:Fun:=H249 F249
theorem C249_all:∀ k,QuietOk Tryz.prog 249 (H249 (S249 k))
  |0=>QuietOk.none Tryz.func249 (by rfl) (by decide) fun _=>rfl
  |k+1=>K249_ok (S249 k) (C249_all k)
theorem C249_ok:QuietOk Tryz.prog 249 C249:=C249_all fuel
def F197 (a0:D76):Option (Bool×Unit):=
 ((F249 a0 (5:Int)).bind fun y0=>
 (some (y0.1,())))
def C197:Fun:=⟨[(.ro Y76)],[(.bool,.z)],fun z=>F197 z.1⟩
def E197:=en 5 [(249,C249)] [(99999,[2],[])]
def L197:List (LoopS (Bool×Unit)):=[]
theorem C197_ok:QuietOk Tryz.prog 197 C197:=tQ E197 L197 [] Tryz.func197 ty_ok (.cons C249_ok .nil) .nil
def F145 (a0:D190):Option (Bool×Unit):=
 ((F196 a0.2.1).bind fun y1=>
 (cond (!y1.1)
 (some (false,()))
 ((F197 a0.2.2.1).bind fun y2=>
 (cond (!y2.1)
 (some (false,()))
 (cond (a0.1==(7:Int))
 (some ((a0.2.2.1.1==(4:Int)),()))
 (cond (a0.1==(8:Int))
 (some ((a0.2.2.1.1==(1:Int)),()))
 (cond (a0.1==(9:Int))
 (cond (a0.2.2.1.1==(2:Int))
 ((F95 a0.2.2.1.2.1 (0:Int) (5:Int)).bind fun y4=>
 (some (y4.1,())))
 (some (false,())))
 (cond (a0.1==(10:Int))
 (cond (a0.2.2.1.1==(2:Int))
 (some ((decide (a0.2.2.1.2.1≥(0:Int))),()))
 (some (false,())))
 ((F95 a0.1 (1:Int) (6:Int)).bind fun y5=>
 (some (y5.1,())))))))))))
def C145:Fun:=⟨[(.ro Y190)],[(.bool,.z)],fun z=>F145 z.1⟩
def E145:=en 54 [(95,C95),(196,C196),(197,C197)] [(3,[1],[]),(12,[1],[]),(100000,[1],[]),(99999,[2],[])]
def L145:List (LoopS (Bool×Unit)):=[]
theorem C145_ok:QuietOk Tryz.prog 145 C145:=tQ E145 L145 [] Tryz.func145 ty_ok (.cons C95_ok (.cons C196_ok (.cons C197_ok .nil))) .nil
def F144 (a0:D190):Option (Bool×Unit):=
 ((F145 a0).bind fun y0=>
 (some ((!y0.1),())))
def C144:Fun:=⟨[(.ro Y190)],[(.bool,.z)],fun z=>F144 z.1⟩
def E144:=en 6 [(145,C145)] [(99999,[2],[])]
def L144:List (LoopS (Bool×Unit)):=[]
theorem C144_ok:QuietOk Tryz.prog 144 C144:=tQ E144 L144 [] Tryz.func144 ty_ok (.cons C145_ok .nil) .nil
def F142 (a0:D183):Option (Bool×Unit):=
 (cond (decide ((a0.1.length:Int)>(4:Int)))
 (some (true,()))
 ((F143 a0.1 (fun (v2:D190)=>(Option.map (fun (v3:(Bool×Unit))=>v3.1) (F144 v2)))).bind fun y0=>
 (some (y0.1,()))))
def C142:Fun:=⟨[(.ro Y183)],[(.bool,.z)],fun z=>F142 z.1⟩
def E142:=en 12 [(143,C143),(144,C144)] [(99999,[2],[])]
def L142:List (LoopS (Bool×Unit)):=[]
theorem C142_ok:QuietOk Tryz.prog 142 C142:=tQ E142 L142 [] Tryz.func142 ty_ok (.cons C143_ok (.cons C144_ok .nil)) .nil
def F93 (a0:D27):Option (Bool×Unit):=
 ((F95 (a0.1.length:Int) (1:Int) (3:Int)).bind fun y0=>
 (cond y0.1
 ((F141 a0.1 (fun (v3:D183)=>(Option.map (fun (v4:(Bool×Unit))=>v4.1) (F142 v3)))).bind fun y1=>
 (some ((!y1.1),())))
 (some (false,()))))
def C93:Fun:=⟨[(.ro Y27)],[(.bool,.z)],fun z=>F93 z.1⟩
def E93:=en 13 [(95,C95),(141,C141),(142,C142)] [(99999,[2],[])]
def L93:List (LoopS (Bool×Unit)):=[]
theorem C93_ok:QuietOk Tryz.prog 93 C93:=tQ E93 L93 [] Tryz.func93 ty_ok (.cons C95_ok (.cons C141_ok (.cons C142_ok .nil))) .nil
def F198_R2 (e0_0:Unit→Option (Int×Unit)) (er_1:Int×Unit→Option (Int×Unit)) (rec:List (D139)×(D139→Option (Bool))×Int×Int×Unit→Option (Int×Unit)) (x2:List (D139)×(D139→Option (Bool))×Int×Int×Unit):Option (Int×Unit):=
 (cond (decide (x2.2.2.2.1<x2.2.2.1))
 (gd (decide ((0:Int)≤x2.2.2.2.1))
 (x2.1[x2.2.2.2.1.toNat]?.bind fun y5=>
 ((x2.2.1 y5).bind fun y6=>
 (cond y6
 (er_1 (x2.2.2.2.1,()))
 (rec (x2.1,x2.2.1,x2.2.2.1,(IntKind.wrap .i64 (x2.2.2.2.1+(1:Int))),()))))))
 (e0_0 (())))
def F198 (a0:List (D139)) (a1:(D139→Option (Bool))):Option (Int×Unit):=
 (iter (F198_R2
 (fun y7=>
 (some ((-(1:Int)),())))
 (fun y8=>
 (some (y8.1,())))) fuel (a0,a1,(a0.length:Int),(0:Int),()))
def C198:Fun:=⟨[(.ro (.slice Y139)),(.fn Y139 .bool)],[((.int .i64),.z)],fun z=>F198 z.1 z.2.1⟩
def E198:=en 19 [] [(2,[0,1,7,8],[]),(3,[0,1,7,8],[]),(6,[0,1,7,8],[]),(7,[],[]),(100000,[],[]),(100001,[0,1,7,8],[]),(99999,[4],[])]
def L198:List (LoopS (Int×Unit)):=[⟨2,⟨[(0,(.pv (.slice Y139))),(1,(.fnA Y139 .bool)),(7,(.pv (.int .i64))),(8,(.pv (.int .i64)))],[]⟩,fun κ=>F198_R2 (fun y=>κ.exit 0 (SSh.mk' ⟨[],[]⟩ y)) (fun y=>κ.ret (SSh.mk' ⟨[(4,(.pv (.int .i64)))],[]⟩ y))⟩]
theorem L198_2:RoundEq E198 L198 L198[0] (nthLoop (codeOf Tryz.f198) 0):=fun κ N x=>by kernel_rfl
theorem C198_ok:QuietOk Tryz.prog 198 C198:=tQ E198 L198 [nthLoop (codeOf Tryz.f198) 0] Tryz.func198 ty_ok .nil (.cons L198[0] (by kernel_rfl) L198_2 .nil)
def F146 (a0:List (D139)) (a1:(D139→Option (Bool))):Option (Bool×Unit):=
 ((F198 a0 a1).bind fun y0=>
 (some ((decide (y0.1≥(0:Int))),())))
def C146:Fun:=⟨[(.ro (.slice Y139)),(.fn Y139 .bool)],[(.bool,.z)],fun z=>F146 z.1 z.2.1⟩
def E146:=en 9 [(198,C198)] [(99999,[4],[])]
def L146:List (LoopS (Bool×Unit)):=[]
theorem C146_ok:QuietOk Tryz.prog 146 C146:=tQ E146 L146 [] Tryz.func146 ty_ok (.cons C198_ok .nil) .nil
def F148 (a0:D139):Option (Bool×Unit):=
 ((F196 a0.1).bind fun y0=>
 (some (y0.1,())))
def C148:Fun:=⟨[(.ro Y139)],[(.bool,.z)],fun z=>F148 z.1⟩
def E148:=en 6 [(196,C196)] [(99999,[2],[])]
def L148:List (LoopS (Bool×Unit)):=[]
theorem C148_ok:QuietOk Tryz.prog 148 C148:=tQ E148 L148 [] Tryz.func148 ty_ok (.cons C196_ok .nil) .nil
def F147 (a0:D139):Option (Bool×Unit):=
 ((F148 a0).bind fun y0=>
 (some ((!y0.1),())))
def C147:Fun:=⟨[(.ro Y139)],[(.bool,.z)],fun z=>F147 z.1⟩
def E147:=en 6 [(148,C148)] [(99999,[2],[])]
def L147:List (LoopS (Bool×Unit)):=[]
theorem C147_ok:QuietOk Tryz.prog 147 C147:=tQ E147 L147 [] Tryz.func147 ty_ok (.cons C148_ok .nil) .nil
def F94 (a0:List (D139)):Option (Bool×Unit):=
 (cond (decide ((a0.length:Int)≤(2:Int)))
 ((F146 a0 (fun (v2:D139)=>(Option.map (fun (v3:(Bool×Unit))=>v3.1) (F147 v2)))).bind fun y0=>
 (some ((!y0.1),())))
 (some (false,())))
def C94:Fun:=⟨[(.ro (.slice Y139))],[(.bool,.z)],fun z=>F94 z.1⟩
def E94:=en 11 [(146,C146),(147,C147)] [(99999,[2],[])]
def L94:List (LoopS (Bool×Unit)):=[]
theorem C94_ok:QuietOk Tryz.prog 94 C94:=tQ E94 L94 [] Tryz.func94 ty_ok (.cons C146_ok (.cons C147_ok .nil)) .nil
def F150 (a0:List UInt8):Option (Bool×Unit):=
 ((F97 a0).bind fun y0=>
 (some ((!y0.1),())))
def C150:Fun:=⟨[(.ro .str)],[(.bool,.z)],fun z=>F150 z.1⟩
def E150:=en 6 [(97,C97)] [(99999,[2],[])]
def L150:List (LoopS (Bool×Unit)):=[]
theorem C150_ok:QuietOk Tryz.prog 150 C150:=tQ E150 L150 [] Tryz.func150 ty_ok (.cons C97_ok .nil) .nil
def F96 (a0:List (List UInt8)):Option (Bool×Unit):=
 ((F149 a0 (fun (v2:List UInt8)=>(Option.map (fun (v3:(Bool×Unit))=>v3.1) (F150 v2)))).bind fun y0=>
 (some ((!y0.1),())))
def C96:Fun:=⟨[(.ro (.slice .str))],[(.bool,.z)],fun z=>F96 z.1⟩
def E96:=en 6 [(149,C149),(150,C150)] [(99999,[2],[])]
def L96:List (LoopS (Bool×Unit)):=[]
theorem C96_ok:QuietOk Tryz.prog 96 C96:=tQ E96 L96 [] Tryz.func96 ty_ok (.cons C149_ok (.cons C150_ok .nil)) .nil
def F45 (a0:D31):Option (Bool×Unit):=
 ((F93 a0.1).bind fun y0=>
 (cond y0.1
 ((F94 a0.2.1).bind fun y1=>
 (cond y1.1
 ((F95 a0.2.2.1 (0:Int) (100:Int)).bind fun y2=>
 (cond y2.1
 ((F95 a0.2.2.2.1 (0:Int) (100:Int)).bind fun y3=>
 (cond y3.1
 (cond (decide ((a0.2.2.2.2.1.length:Int)≤(4:Int)))
 ((F96 a0.2.2.2.2.1).bind fun y4=>
 (cond y4.1
 (cond (a0.2.2.2.2.2.1==[])
 (some (true,()))
 ((F97 a0.2.2.2.2.2.1).bind fun y5=>
 (some (y5.1,()))))
 (some (false,()))))
 (some (false,())))
 (some (false,()))))
 (some (false,()))))
 (some (false,()))))
 (some (false,()))))
def C45:Fun:=⟨[(.ro Y31)],[(.bool,.z)],fun z=>F45 z.1⟩
def E45:=en 42 [(93,C93),(94,C94),(95,C95),(96,C96),(97,C97)] [(99999,[2],[])]
def L45:List (LoopS (Bool×Unit)):=[]
theorem C45_ok:QuietOk Tryz.prog 45 C45:=tQ E45 L45 [] Tryz.func45 ty_ok (.cons C93_ok (.cons C94_ok (.cons C95_ok (.cons C96_ok (.cons C97_ok .nil))))) .nil
def F263 (a0:List UInt8) (a1:List UInt8):Option (Int×Unit):=
 ((F296 a0 a1).bind fun y0=>
 (some (y0.1,())))
def C263:Fun:=⟨[(.ro .str),(.ro .str)],[((.int .i64),.z)],fun z=>F263 z.1 z.2.1⟩
def E263:Env:=⟨8,tyTab tys,oneTab ones,fnTab [],false,[],[(99999,[4],[])],none,[(296,C296)],[]⟩
def L263:List (LoopS (Int×Unit)):=[]
theorem C263_ok:QuietOk Tryz.prog 263 C263:=tQ E263 L263 [] Tryz.func263 ty_ok .nil .nil (hx:=(.cons C296_ok .nil))
def F213 (a0:List UInt8) (a1:List UInt8):Option (Int×Unit):=
 ((F263 a0 a1).bind fun y0=>
 (some (y0.1,())))
def C213:Fun:=⟨[(.ro .str),(.ro .str)],[((.int .i64),.z)],fun z=>F213 z.1 z.2.1⟩
def E213:=en 8 [(263,C263)] [(99999,[4],[])]
def L213:List (LoopS (Int×Unit)):=[]
theorem C213_ok:QuietOk Tryz.prog 213 C213:=tQ E213 L213 [] Tryz.func213 ty_ok (.cons C263_ok .nil) .nil
def F223 (a0:D211) (a1:List UInt8):Option (Int×Unit):=
 ((F213 a0.1 a1).bind fun y0=>
 (some (y0.1,())))
def C223:Fun:=⟨[(.ro Y211),(.ro .str)],[((.int .i64),.z)],fun z=>F223 z.1 z.2.1⟩
def E223:=en 9 [(213,C213)] [(99999,[4],[])]
def L223:List (LoopS (Int×Unit)):=[]
theorem C223_ok:QuietOk Tryz.prog 223 C223:=tQ E223 L223 [] Tryz.func223 ty_ok (.cons C213_ok .nil) .nil
def F222_R3 (e0_0:List (D211)×List UInt8×Int×Int×Unit→Option (Int×Bool×Unit)) (rec:List (D211)×List UInt8×Int×Int×Int×Unit→Option (Int×Bool×Unit)) (x2:List (D211)×List UInt8×Int×Int×Int×Unit):Option (Int×Bool×Unit):=
 (cond (decide (x2.2.2.2.1<x2.2.2.2.2.1))
 (gd (decide ((0:Int)≤(IntKind.wrap .i64 (Int.fdiv (IntKind.wrap .u64 (IntKind.wrap .i64 (x2.2.2.2.1+x2.2.2.2.2.1))) ((2:Int) ^ (Min.min (1:Int).toNat (IntKind.bits IntKind.u64)))))))
 (x2.1[(IntKind.wrap .i64 (Int.fdiv (IntKind.wrap .u64 (IntKind.wrap .i64 (x2.2.2.2.1+x2.2.2.2.2.1))) ((2:Int) ^ (Min.min (1:Int).toNat (IntKind.bits IntKind.u64))))).toNat]?.bind fun y4=>
 ((F223 y4 x2.2.1).bind fun y5=>
 (cond (decide (y5.1<(0:Int)))
 (rec (x2.1,x2.2.1,x2.2.2.1,(IntKind.wrap .i64 ((IntKind.wrap .i64 (Int.fdiv (IntKind.wrap .u64 (IntKind.wrap .i64 (x2.2.2.2.1+x2.2.2.2.2.1))) ((2:Int) ^ (Min.min (1:Int).toNat (IntKind.bits IntKind.u64)))))+(1:Int))),x2.2.2.2.2.1,()))
 (rec (x2.1,x2.2.1,x2.2.2.1,x2.2.2.2.1,(IntKind.wrap .i64 (Int.fdiv (IntKind.wrap .u64 (IntKind.wrap .i64 (x2.2.2.2.1+x2.2.2.2.2.1))) ((2:Int) ^ (Min.min (1:Int).toNat (IntKind.bits IntKind.u64))))),()))))))
 (e0_0 (x2.1,x2.2.1,x2.2.2.1,x2.2.2.2.1,())))
def F222 (a0:List (D211)) (a1:List UInt8) (a2:(Unit)):Option (Int×Bool×Unit):=
 (iter (F222_R3
 (fun y6=>
 (cond (decide (y6.2.2.2.1<y6.2.2.1))
 (gd (decide ((0:Int)≤y6.2.2.2.1))
 (y6.1[y6.2.2.2.1.toNat]?.bind fun y7=>
 ((F223 y7 y6.2.1).bind fun y8=>
 (some (y6.2.2.2.1,((y8.1==(0:Int)),()))))))
 (some (y6.2.2.2.1,(false,())))))) fuel (a0,a1,(a0.length:Int),(0:Int),(a0.length:Int),()))
def C222:Fun:=⟨[(.ro (.slice Y211)),(.ro .str),(.st 223 [])],[((.int .i64),.z),(.bool,.z)],fun z=>F222 z.1 z.2.1 z.2.2.1⟩
def E222:=en 49 [(223,C223)] [(3,[0,1,2,8,9,10],[]),(4,[0,1,2,8,9,10],[]),(8,[0,1,2,8,9],[]),(100000,[0,1,2,8,9],[]),(100001,[0,1,2,8,9,10],[]),(99999,[6,7],[])]
def L222:List (LoopS (Int×Bool×Unit)):=[⟨3,⟨[(0,(.pv (.slice Y211))),(1,(.pv .str)),(2,(.clo 223 [])),(8,(.pv (.int .i64))),(9,(.pv (.int .i64))),(10,(.pv (.int .i64)))],[]⟩,fun κ=>F222_R3 (fun y=>κ.exit 0 (SSh.mk' ⟨[(0,(.pv (.slice Y211))),(1,(.pv .str)),(2,(.clo 223 [])),(8,(.pv (.int .i64))),(9,(.pv (.int .i64)))],[]⟩ y))⟩]
theorem L222_3:RoundEq E222 L222 L222[0] (nthLoop (codeOf Tryz.f222) 0):=fun κ N x=>by kernel_rfl
theorem C222_ok:QuietOk Tryz.prog 222 C222:=tQ E222 L222 [nthLoop (codeOf Tryz.f222) 0] Tryz.func222 ty_ok (.cons C223_ok .nil) (.cons L222[0] (by kernel_rfl) L222_3 .nil)
def F169 (a0:List (D211)) (a1:List UInt8):Option (Int×Bool×Unit):=
 ((F222 a0 a1 ()).bind fun y0=>
 (some (y0.1,(y0.2.1,()))))
def C169:Fun:=⟨[(.ro (.slice Y211)),(.ro .str)],[((.int .i64),.z),(.bool,.z)],fun z=>F169 z.1 z.2.1⟩
def E169:=en 11 [(222,C222),(223,C223)] [(99999,[4,5],[])]
def L169:List (LoopS (Int×Bool×Unit)):=[]
theorem C169_ok:QuietOk Tryz.prog 169 C169:=tQ E169 L169 [] Tryz.func169 ty_ok (.cons C222_ok (.cons C223_ok .nil)) .nil
def F111 (a0:D76) (a1:List UInt8):Option (D76×Bool×Unit):=
 ((F161 a0).bind fun y0=>
 ((F169 y0.1 a1).bind fun y1=>
 (cond (!y1.2.1)
 (some (((0:Int),((0:Int),([],()))),(false,())))
 (gd (decide ((0:Int)≤y1.1))
 (gd (decide (y1.1<(y0.1.length:Int)))
 (y0.1[y1.1.toNat]?.bind fun y3=>
 (some (y3.2.1,(true,())))))))))
def C111:Fun:=⟨[(.ro Y76),(.ro .str)],[(Y76,.z),(.bool,.z)],fun z=>F111 z.1 z.2.1⟩
def E111:=en 29 [(161,C161),(169,C169)] [(5,[4,6,8],[]),(99999,[4,5],[])]
def L111:List (LoopS (D76×Bool×Unit)):=[]
theorem C111_ok:QuietOk Tryz.prog 111 C111:=tQ E111 L111 [] Tryz.func111 ty_ok (.consFr C161_ok (.cons C169_ok .nil)) .nil
def F53 (a0:D76):Option (Int×Bool×Unit):=
 ((F111 a0 [(105:UInt8),(100:UInt8)]).bind fun y0=>
 (cond (y0.1.1==(2:Int))
 ((F95 y0.1.2.1 (0:Int) (99:Int)).bind fun y1=>
 (some (y0.1.2.1,(y1.1,()))))
 (some (y0.1.2.1,(false,())))))
def C53:Fun:=⟨[(.ro Y76)],[((.int .i64),.z),(.bool,.z)],fun z=>F53 z.1⟩
def E53:=en 21 [(95,C95),(111,C111)] [(99999,[2,3],[])]
def L53:List (LoopS (Int×Bool×Unit)):=[]
theorem C53_ok:QuietOk Tryz.prog 53 C53:=tQ E53 L53 [] Tryz.func53 ty_ok (.cons C95_ok (.cons C111_ok .nil)) .nil
def F152 (a0:D76):Option (Bool×Unit):=
 (cond (a0.1==(5:Int))
 ((F197 a0).bind fun y0=>
 (some (y0.1,())))
 (some (false,())))
def C152:Fun:=⟨[(.ro Y76)],[(.bool,.z)],fun z=>F152 z.1⟩
def E152:=en 10 [(197,C197)] [(99999,[2],[])]
def L152:List (LoopS (Bool×Unit)):=[]
theorem C152_ok:QuietOk Tryz.prog 152 C152:=tQ E152 L152 [] Tryz.func152 ty_ok (.cons C197_ok .nil) .nil
def F98 (a0:D76):Option (Bool×Unit):=
 ((F152 a0).bind fun y1=>
 (cond (!y1.1)
 (some (false,()))
 ((F53 a0).bind fun y2=>
 (some (y2.2.1,())))))
def C98:Fun:=⟨[(.ro Y76)],[(.bool,.z)],fun z=>F98 z.1⟩
def E98:=en 14 [(53,C53),(152,C152)] [(3,[1],[]),(99999,[2],[])]
def L98:List (LoopS (Bool×Unit)):=[]
theorem C98_ok:QuietOk Tryz.prog 98 C98:=tQ E98 L98 [] Tryz.func98 ty_ok (.cons C53_ok (.cons C152_ok .nil)) .nil
def F46_R3 (e0_0:List (D76)×Unit→Option (Bool×Unit)) (er_1:Bool×Unit→Option (Bool×Unit)) (rec:List (D76)×Int×List (D76)×Int×Int×Unit→Option (Bool×Unit)) (x2:List (D76)×Int×List (D76)×Int×Int×Unit):Option (Bool×Unit):=
 (cond (decide (x2.2.2.2.2.1<x2.2.2.2.1))
 (gd (decide ((0:Int)≤x2.2.2.2.2.1))
 (x2.2.2.1[x2.2.2.2.2.1.toNat]?.bind fun y5=>
 ((F98 y5).bind fun y7=>
 (cond (!y7.1)
 (er_1 (false,()))
 ((F53 y5).bind fun y8=>
 (cond (decide (y8.1≤x2.2.1))
 (er_1 (false,()))
 (rec (x2.1,y8.1,x2.2.2.1,x2.2.2.2.1,(IntKind.wrap .i64 (x2.2.2.2.2.1+(1:Int))),()))))))))
 (e0_0 (x2.1,())))
def F46 (a0:List (D76)):Option (Bool×Unit):=
 (iter (F46_R3
 (fun y10=>
 (some ((decide ((y10.1.length:Int)≤(20:Int))),())))
 (fun y11=>
 (some (y11.1,())))) fuel (a0,(-(1:Int)),a0,(a0.length:Int),(0:Int),()))
def C46:Fun:=⟨[(.ro (.slice Y76))],[(.bool,.z)],fun z=>F46 z.1⟩
def E46:=en 30 [(53,C53),(98,C98)] [(3,[0,3,8,9,10],[]),(4,[0,3,8,9,10],[]),(7,[0,3,5,8,9,10],[]),(10,[0,6,8,9,10],[]),(11,[0,3,8,9,10],[]),(12,[0],[]),(100000,[0],[]),(100001,[0,3,8,9,10],[]),(99999,[2],[])]
def L46:List (LoopS (Bool×Unit)):=[⟨3,⟨[(0,(.pv (.slice Y76))),(3,(.pv (.int .i64))),(8,(.pv (.slice Y76))),(9,(.pv (.int .i64))),(10,(.pv (.int .i64)))],[]⟩,fun κ=>F46_R3 (fun y=>κ.exit 0 (SSh.mk' ⟨[(0,(.pv (.slice Y76)))],[]⟩ y)) (fun y=>κ.ret (SSh.mk' ⟨[(2,(.pv .bool))],[]⟩ y))⟩]
theorem L46_3:RoundEq E46 L46 L46[0] (nthLoop (codeOf Tryz.f46) 0):=fun κ N x=>by kernel_rfl
theorem C46_ok:QuietOk Tryz.prog 46 C46:=tQ E46 L46 [nthLoop (codeOf Tryz.f46) 0] Tryz.func46 ty_ok (.cons C53_ok (.cons C98_ok .nil)) (.cons L46[0] (by kernel_rfl) L46_3 .nil)
def F106_R3 (e0_0:List (D114)×Unit→Option (List (D114)×Unit)) (rec:List (D162)×Int×Int×List (D114)×Unit→Option (List (D114)×Unit)) (x2:List (D162)×Int×Int×List (D114)×Unit):Option (List (D114)×Unit):=
 (cond (decide (x2.2.2.1<x2.2.1))
 (gd (decide ((0:Int)≤x2.2.2.1))
 (x2.1[x2.2.2.1.toNat]?.bind fun y4=>
 (gd (decide ((x2.2.2.2.1.length+y4.2.1.length)≤lim))
 (rec (x2.1,x2.2.1,(IntKind.wrap .i64 (x2.2.2.1+(1:Int))),(x2.2.2.2.1++y4.2.1),())))))
 (e0_0 (x2.2.2.2.1,())))
def F106 (a0:D82):Option (List (D114)×Unit):=
 (iter (F106_R3
 (fun y5=>
 (some (y5.1,())))) fuel (a0.1,(a0.1.length:Int),(0:Int),[],()))
def C106:Fun:=⟨[(.ro Y82)],[((.slice Y114),(.own .z))],fun z=>F106 z.1⟩
def E106:Env:=⟨20,tyTab tys,oneTab ones,fnTab [],true,[],[(3,[3,8,9,10],[]),(4,[3,8,9,10],[]),(7,[3],[]),(100000,[3],[]),(100001,[3,8,9,10],[]),(99999,[2],[])],none,[],[]⟩
def L106:List (LoopS (List (D114)×Unit)):=[⟨3,⟨[(3,(.ref (.slice Y114) 48 [])),(8,(.pv (.slice Y162))),(9,(.pv (.int .i64))),(10,(.pv (.int .i64)))],[(48,(.data false (.slice Y114) (.own .z)))]⟩,fun κ=>F106_R3 (fun y=>κ.exit 0 (SSh.mk' ⟨[(3,(.ref (.slice Y114) 48 []))],[(48,(.data false (.slice Y114) (.own .z)))]⟩ y))⟩]
theorem L106_3:RoundEq E106 L106 L106[0] (nthLoop (codeOf Tryz.f106) 0):=fun κ N x=>by kernel_rfl
theorem C106_ok:FreshOk Tryz.prog 106 C106:=tF E106 L106 [nthLoop (codeOf Tryz.f106) 0] Tryz.func106 ty_ok .nil (.cons L106[0] (by kernel_rfl) L106_3 .nil)
def F221_R2 (e0_0:Unit→Option (Int×Unit)) (er_1:Int×Unit→Option (Int×Unit)) (rec:List (Int)×Int×Int×Int×Unit→Option (Int×Unit)) (x2:List (Int)×Int×Int×Int×Unit):Option (Int×Unit):=
 (cond (decide (x2.2.2.2.1<x2.2.2.1))
 (gd (decide ((0:Int)≤x2.2.2.2.1))
 (x2.1[x2.2.2.2.1.toNat]?.bind fun y5=>
 (cond (x2.2.1==y5)
 (er_1 (x2.2.2.2.1,()))
 (rec (x2.1,x2.2.1,x2.2.2.1,(IntKind.wrap .i64 (x2.2.2.2.1+(1:Int))),())))))
 (e0_0 (())))
def F221 (a0:List (Int)) (a1:Int):Option (Int×Unit):=
 (iter (F221_R2
 (fun y6=>
 (some ((-(1:Int)),())))
 (fun y7=>
 (some (y7.1,())))) fuel (a0,a1,(a0.length:Int),(0:Int),()))
def C221:Fun:=⟨[(.ro (.slice (.int .i64))),(.ro (.int .i64))],[((.int .i64),.z)],fun z=>F221 z.1 z.2.1⟩
def E221:=en 19 [] [(2,[0,1,7,8],[]),(3,[0,1,7,8],[]),(6,[0,1,7,8],[]),(7,[],[]),(100000,[],[]),(100001,[0,1,7,8],[]),(99999,[4],[])]
def L221:List (LoopS (Int×Unit)):=[⟨2,⟨[(0,(.pv (.slice (.int .i64)))),(1,(.pv (.int .i64))),(7,(.pv (.int .i64))),(8,(.pv (.int .i64)))],[]⟩,fun κ=>F221_R2 (fun y=>κ.exit 0 (SSh.mk' ⟨[],[]⟩ y)) (fun y=>κ.ret (SSh.mk' ⟨[(4,(.pv (.int .i64)))],[]⟩ y))⟩]
theorem L221_2:RoundEq E221 L221 L221[0] (nthLoop (codeOf Tryz.f221) 0):=fun κ N x=>by kernel_rfl
theorem C221_ok:QuietOk Tryz.prog 221 C221:=tQ E221 L221 [nthLoop (codeOf Tryz.f221) 0] Tryz.func221 ty_ok .nil (.cons L221[0] (by kernel_rfl) L221_2 .nil)
def F166 (a0:List (Int)) (a1:Int):Option (Bool×Unit):=
 ((F221 a0 a1).bind fun y0=>
 (some ((decide (y0.1≥(0:Int))),())))
def C166:Fun:=⟨[(.ro (.slice (.int .i64))),(.ro (.int .i64))],[(.bool,.z)],fun z=>F166 z.1 z.2.1⟩
def E166:=en 9 [(221,C221)] [(99999,[4],[])]
def L166:List (LoopS (Bool×Unit)):=[]
theorem C166_ok:QuietOk Tryz.prog 166 C166:=tQ E166 L166 [] Tryz.func166 ty_ok (.cons C221_ok .nil) .nil
def F167 (a0:D114):Option (Bool×Unit):=
 (cond (decide ((a0.1.length:Int)≤(2000:Int)))
 ((F95 a0.2.1 (0:Int) (9999:Int)).bind fun y0=>
 (some (y0.1,())))
 (some (false,())))
def C167:Fun:=⟨[(.ro Y114)],[(.bool,.z)],fun z=>F167 z.1⟩
def E167:=en 12 [(95,C95)] [(99999,[2],[])]
def L167:List (LoopS (Bool×Unit)):=[]
theorem C167_ok:QuietOk Tryz.prog 167 C167:=tQ E167 L167 [] Tryz.func167 ty_ok (.cons C95_ok .nil) .nil
def F207_R3 (e0_0:Int×Unit→Option (Int×Unit)) (er_1:Int×Unit→Option (Int×Unit)) (rec:Int×List (Int)×Int×Int×Unit→Option (Int×Unit)) (x2:Int×List (Int)×Int×Int×Unit):Option (Int×Unit):=
 (cond (decide (x2.2.2.2.1<x2.2.2.1))
 (gd (decide ((0:Int)≤x2.2.2.2.1))
 (x2.2.1[x2.2.2.2.1.toNat]?.bind fun y5=>
 (cond (y5 != x2.1)
 (er_1 (y5,()))
 (rec (x2.1,x2.2.1,x2.2.2.1,(IntKind.wrap .i64 (x2.2.2.2.1+(1:Int))),())))))
 (e0_0 (x2.1,())))
def F207 (a0:List (Int)):Option (Int×Unit):=
 (iter (F207_R3
 (fun y6=>
 (some (y6.1,())))
 (fun y7=>
 (some (y7.1,())))) fuel ((0:Int),a0,(a0.length:Int),(0:Int),()))
def C207:Fun:=⟨[(.ro (.slice (.int .i64)))],[((.int .i64),.z)],fun z=>F207 z.1⟩
def E207:=en 18 [] [(3,[3,6,7,8],[]),(4,[3,6,7,8],[]),(7,[3,6,7,8],[]),(8,[3],[]),(100000,[3],[]),(100001,[3,6,7,8],[]),(99999,[2],[])]
def L207:List (LoopS (Int×Unit)):=[⟨3,⟨[(3,(.pv (.int .i64))),(6,(.pv (.slice (.int .i64)))),(7,(.pv (.int .i64))),(8,(.pv (.int .i64)))],[]⟩,fun κ=>F207_R3 (fun y=>κ.exit 0 (SSh.mk' ⟨[(3,(.pv (.int .i64)))],[]⟩ y)) (fun y=>κ.ret (SSh.mk' ⟨[(2,(.pv (.int .i64)))],[]⟩ y))⟩]
theorem L207_3:RoundEq E207 L207 L207[0] (nthLoop (codeOf Tryz.f207) 0):=fun κ N x=>by kernel_rfl
theorem C207_ok:QuietOk Tryz.prog 207 C207:=tQ E207 L207 [nthLoop (codeOf Tryz.f207) 0] Tryz.func207 ty_ok .nil (.cons L207[0] (by kernel_rfl) L207_3 .nil)
def F262 (a0:Int):Option (Bool×Unit):=
 (some ((a0 != a0),()))
def C262:Fun:=⟨[(.ro (.int .i64))],[(.bool,.z)],fun z=>F262 z.1⟩
def E262:=en 6 [] [(99999,[2],[])]
def L262:List (LoopS (Bool×Unit)):=[]
theorem C262_ok:QuietOk Tryz.prog 262 C262:=tQ E262 L262 [] Tryz.func262 ty_ok .nil .nil
def F208 (a0:Int) (a1:Int):Option (Int×Unit):=
 ((F262 a0).bind fun y0=>
 ((F262 a1).bind fun y1=>
 (cond y0.1
 (cond y1.1
 (some ((0:Int),()))
 (some ((-(1:Int)),())))
 (cond y1.1
 (some ((1:Int),()))
 (cond (decide (a0<a1))
 (some ((-(1:Int)),()))
 (cond (decide (a0>a1))
 (some ((1:Int),()))
 (some ((0:Int),()))))))))
def C208:Fun:=⟨[(.ro (.int .i64)),(.ro (.int .i64))],[((.int .i64),.z)],fun z=>F208 z.1 z.2.1⟩
def E208:=en 20 [(262,C262)] [(6,[],[]),(7,[0,1,6],[]),(9,[0,1],[]),(11,[0,1],[]),(13,[],[]),(99999,[4],[])]
def L208:List (LoopS (Int×Unit)):=[]
theorem C208_ok:QuietOk Tryz.prog 208 C208:=tQ E208 L208 [] Tryz.func208 ty_ok (.cons C262_ok .nil) .nil
def F168 (a0:D114) (a1:D114):Option (Int×Unit):=
 ((F213 a0.1 a1.1).bind fun y0=>
 ((F208 a0.2.1 a1.2.1).bind fun y1=>
 ((F207 [y0.1,y1.1]).bind fun y2=>
 (some (y2.1,())))))
def C168:Fun:=⟨[(.ro Y114),(.ro Y114)],[((.int .i64),.z)],fun z=>F168 z.1 z.2.1⟩
def E168:Env:=⟨17,tyTab tys,oneTab ones,fnTab [(207,C207),(208,C208),(213,C213)],false,[120],[(99999,[4],[])],none,[],[]⟩
def L168:List (LoopS (Int×Unit)):=[]
theorem C168_ok:QuietOk Tryz.prog 168 C168:=tQ E168 L168 [] Tryz.func168 ty_ok (.cons C207_ok (.cons C208_ok (.cons C213_ok .nil))) .nil
def F104_R5 (e0_0:D82×Unit→Option (Bool×Unit)) (er_1:Bool×Unit→Option (Bool×Unit)) (rec:List (D162)×Int×Int×D82×List (Int)×Unit→Option (Bool×Unit)) (x5:List (D162)×Int×Int×D82×List (Int)×Unit):Option (Bool×Unit):=
 (cond (decide (x5.2.2.1<x5.2.1))
 (gd (decide ((0:Int)≤x5.2.2.1))
 (x5.1[x5.2.2.1.toNat]?.bind fun y8=>
 (let j12:List (D162)×Int×Int×D82×List (Int)×D162×Unit→Option (Bool×Unit):=fun (y13:List (D162)×Int×Int×D82×List (Int)×D162×Unit)=>
 (gd (decide ((y13.2.2.2.2.1.length+(List.length [y13.2.2.2.2.2.1.1]))≤lim))
 (rec (y13.1,y13.2.1,(IntKind.wrap .i64 (y13.2.2.1+(1:Int))),y13.2.2.2.1,(y13.2.2.2.2.1++[y13.2.2.2.2.2.1.1]),())))
 ((F95 y8.1 (1:Int) (IntKind.wrap .i64 (x5.2.2.2.1.2.1-(1:Int)))).bind fun y10=>
 (cond (!y10.1)
 (er_1 (false,()))
 ((F166 x5.2.2.2.2.1 y8.1).bind fun y11=>
 (cond y11.1
 (er_1 (false,()))
 (cond (decide ((y8.2.1.length:Int)>(4:Int)))
 (er_1 (false,()))
 (cond ((y8.2.1.length:Int)==(0:Int))
 (cond (decide ((x5.2.2.2.1.1.length:Int)>(1:Int)))
 (er_1 (false,()))
 (j12 (x5.1,x5.2.1,x5.2.2.1,x5.2.2.2.1,x5.2.2.2.2.1,y8,())))
 (j12 (x5.1,x5.2.1,x5.2.2.1,x5.2.2.2.1,x5.2.2.2.2.1,y8,())))))))))))
 (e0_0 (x5.2.2.2.1,())))
def F104_R13 (e2_0:Unit→Option (Bool×Unit)) (er_1:Bool×Unit→Option (Bool×Unit)) (rec:Int×Int×List (D114)×Unit→Option (Bool×Unit)) (x19:Int×Int×List (D114)×Unit):Option (Bool×Unit):=
 (cond (decide (x19.2.1<x19.1))
 (let j26:Int×Int×List (D114)×Unit→Option (Bool×Unit):=fun (y27:Int×Int×List (D114)×Unit)=>
 (rec (y27.1,(IntKind.wrap .i64 (y27.2.1+(1:Int))),y27.2.2.1,()))
 (gd (decide ((0:Int)≤x19.2.1))
 (gd (decide (x19.2.1<(x19.2.2.1.length:Int)))
 (x19.2.2.1[x19.2.1.toNat]?.bind fun y22=>
 ((F167 y22).bind fun y23=>
 (cond (!y23.1)
 (er_1 (false,()))
 (cond (decide (x19.2.1>(0:Int)))
 (gd (decide ((0:Int)≤(IntKind.wrap .i64 (x19.2.1-(1:Int)))))
 (gd (decide ((IntKind.wrap .i64 (x19.2.1-(1:Int)))<(x19.2.2.1.length:Int)))
 (x19.2.2.1[(IntKind.wrap .i64 (x19.2.1-(1:Int))).toNat]?.bind fun y24=>
 ((F168 y24 y22).bind fun y25=>
 (cond (decide (y25.1≥(0:Int)))
 (er_1 (false,()))
 (j26 (x19.1,x19.2.1,x19.2.2.1,())))))))
 (j26 (x19.1,x19.2.1,x19.2.2.1,())))))))))
 (e2_0 (())))
def F104 (a0:D82):Option (Bool×Unit):=
 ((F95 (a0.1.length:Int) (1:Int) (60:Int)).bind fun y1=>
 (cond (!y1.1)
 (some (false,()))
 ((F95 a0.2.1 (2:Int) (100000:Int)).bind fun y2=>
 (cond (!y2.1)
 (some (false,()))
 (iter (F104_R5
 (fun y14=>
 ((F106 y14.1).bind fun y16=>
 (iter (F104_R13
 (fun y28=>
 (some (true,())))
 (fun y29=>
 (some (y29.1,())))) fuel ((y16.1.length:Int),(0:Int),y16.1,()))))
 (fun y15=>
 (some (y15.1,())))) fuel (a0.1,(a0.1.length:Int),(0:Int),a0,[],()))))))
def C104:Fun:=⟨[(.ro Y82)],[(.bool,.z)],fun z=>F104 z.1⟩
def E104:=en 92 [(95,C95),(106,C106),(166,C166),(167,C167),(168,C168)] [(3,[1],[]),(5,[1,3,22,23,24],[]),(6,[1,3,22,23,24],[]),(9,[1,3,5,22,23,24],[]),(10,[1,3,22,23,24],[]),(11,[1],[]),(13,[6,67,68,69],[]),(14,[6,67,68,69],[]),(17,[6,67,68,69],[]),(18,[],[]),(100000,[1],[]),(100001,[1,3,22,23,24],[]),(100002,[],[]),(100003,[6,67,68,69],[]),(99999,[2],[])]
def L104:List (LoopS (Bool×Unit)):=[⟨5,⟨[(1,(.ptr 8 [])),(3,(.ref (.slice (.int .i64)) 160 [])),(22,(.pv (.slice Y162))),(23,(.pv (.int .i64))),(24,(.pv (.int .i64)))],[(8,(.data true Y82 .z)),(160,(.data false (.slice (.int .i64)) (.own .z)))]⟩,fun κ=>F104_R5 (fun y=>κ.exit 0 (SSh.mk' ⟨[(1,(.ptr 8 []))],[(8,(.data true Y82 .z))]⟩ y)) (fun y=>κ.ret (SSh.mk' ⟨[(2,(.pv .bool))],[]⟩ y))⟩,
  ⟨13,⟨[(6,(.ref (.slice Y114) 528 [])),(67,(.ref (.slice Y114) 528 [])),(68,(.pv (.int .i64))),(69,(.pv (.int .i64)))],[(528,(.data false (.slice Y114) (.own .z)))]⟩,fun κ=>F104_R13 (fun y=>κ.exit 2 (SSh.mk' ⟨[],[]⟩ y)) (fun y=>κ.ret (SSh.mk' ⟨[(2,(.pv .bool))],[]⟩ y))⟩]
theorem L104_13:RoundEq E104 L104 L104[1] (nthLoop (codeOf Tryz.f104) 1):=fun κ N x=>by kernel_rfl
theorem L104_5:RoundEq E104 L104 L104[0] (nthLoop (codeOf Tryz.f104) 0):=fun κ N x=>by kernel_rfl
theorem C104_ok:QuietOk Tryz.prog 104 C104:=tQ E104 L104 [nthLoop (codeOf Tryz.f104) 0,nthLoop (codeOf Tryz.f104) 1] Tryz.func104 ty_ok (.cons C95_ok (.consFr C106_ok (.cons C166_ok (.cons C167_ok (.cons C168_ok .nil))))) (.cons L104[0] (by kernel_rfl) L104_5 (.cons L104[1] (by kernel_rfl) L104_13 .nil))
def F181 (a0:D139):Option (Bool×Unit):=
 ((F148 a0).bind fun y0=>
 (some ((!y0.1),())))
def C181:Fun:=⟨[(.ro Y139)],[(.bool,.z)],fun z=>F181 z.1⟩
def E181:=en 6 [(148,C148)] [(99999,[2],[])]
def L181:List (LoopS (Bool×Unit)):=[]
theorem C181_ok:QuietOk Tryz.prog 181 C181:=tQ E181 L181 [] Tryz.func181 ty_ok (.cons C148_ok .nil) .nil
def F126 (a0:D79):Option (Bool×Unit):=
 ((F97 a0.1).bind fun y1=>
 (cond (!y1.1)
 (some (false,()))
 ((F95 (a0.2.1.length:Int) (1:Int) (2:Int)).bind fun y2=>
 (cond (!y2.1)
 (some (false,()))
 ((F146 a0.2.1 (fun (v5:D139)=>(Option.map (fun (v6:(Bool×Unit))=>v6.1) (F181 v5)))).bind fun y3=>
 (cond y3.1
 (some (false,()))
 (cond ((a0.2.1.length:Int)==(1:Int))
 (some (true,()))
 (a0.2.1[(0:Int).toNat]?.bind fun y4=>
 (a0.2.1[(1:Int).toNat]?.bind fun y5=>
 (some ((!(y4.1==y5.1)),())))))))))))
def C126:Fun:=⟨[(.ro Y79)],[(.bool,.z)],fun z=>F126 z.1⟩
def E126:=en 36 [(95,C95),(97,C97),(146,C146),(181,C181)] [(3,[1],[]),(99999,[2],[])]
def L126:List (LoopS (Bool×Unit)):=[]
theorem C126_ok:QuietOk Tryz.prog 126 C126:=tQ E126 L126 [] Tryz.func126 ty_ok (.cons C95_ok (.cons C97_ok (.cons C146_ok (.cons C181_ok .nil)))) .nil
def F99 (a0:D84):Option (Bool×Unit):=
 ((F126 a0.1).bind fun y0=>
 (cond y0.1
 ((F104 a0.2.1).bind fun y1=>
 (some (y1.1,())))
 (some (false,()))))
def C99:Fun:=⟨[(.ro Y84)],[(.bool,.z)],fun z=>F99 z.1⟩
def E99:=en 11 [(104,C104),(126,C126)] [(99999,[2],[])]
def L99:List (LoopS (Bool×Unit)):=[]
theorem C99_ok:QuietOk Tryz.prog 99 C99:=tQ E99 L99 [] Tryz.func99 ty_ok (.cons C104_ok (.cons C126_ok .nil)) .nil
end
end Go.V
