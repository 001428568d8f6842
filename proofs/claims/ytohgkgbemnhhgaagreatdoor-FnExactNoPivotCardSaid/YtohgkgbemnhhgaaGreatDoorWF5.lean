/- What functions of the program compute, printed by a program of ours. No condition. -/
import Derived.Test.YtohgkgbemnhhgaaGreatDoorWF4
namespace Go.V
open Go.Proofs
set_option maxRecDepth 100000
set_option linter.unusedVariables false

/- 19: loop.example/g00380/impl.hits -/
noncomputable def F19 (a0 : List (D93)) (a1 : List (D95)) : Option (Bool × Unit) :=
 (Option.bind (F41 a0 (fun (v3 : D93) => (Option.map (fun (v4 : (Bool × Unit)) => v4.1) (F42 v3 a1)))) fun y0 =>
 (some (y0.1, ())))

noncomputable def C19 : Fun := ⟨[(.ro (.slice Y93)), (.ro (.slice Y95))], [(.bool, .z)], fun z => F19 z.1 z.2.1⟩
noncomputable def E19 : Env := ⟨8, tyTab tys, oneTab ones, fnTab [(41, C41), (42, C42)], false, [], [(99999, [4], [])], none, []⟩
noncomputable def L19 : List (LoopS (Bool × Unit)) := []
theorem C19_ok : QuietOk Tryz.prog 19 C19 :=
  told (env := E19) (fn := Tryz.f19) (c := (codeOf Tryz.f19)) (tbl := L19) (ls := []) (vars := Tryz.f19.results.toList) Tryz.func19 (tysC_ok tys_ok rfl rfl) (Told.fnOk (.cons C41_ok (.cons C42_ok .nil)) rfl) (by kernel_rfl) (by decide) rfl (by decide) rfl rfl rfl (by kernel_rfl) .nil (by kernel_rfl)

/- 7: loop.example/g00380/impl.NoPivot -/
noncomputable def F7_R8 (e2_0 : Bool × Bool × List (D44) × Int × Int × D25 × Unit → Option (Bool × Int × Unit)) (rec : Int × Bool × Bool × List (D44) × Int × Int × List (D44) × Int × Int × D25 × D44 × Unit → Option (Bool × Int × Unit)) (x10 : Int × Bool × Bool × List (D44) × Int × Int × List (D44) × Int × Int × D25 × D44 × Unit) : Option (Bool × Int × Unit) :=
 (cond (decide (x10.2.2.2.2.2.2.2.2.1 < x10.2.2.2.2.2.2.2.1))
 (let j18 : Int × Bool × Bool × List (D44) × Int × Int × List (D44) × Int × Int × D25 × D44 × Unit → Option (Bool × Int × Unit) := fun (y19 : Int × Bool × Bool × List (D44) × Int × Int × List (D44) × Int × Int × D25 × D44 × Unit) =>
 (rec (y19.1, y19.2.1, y19.2.2.1, y19.2.2.2.1, y19.2.2.2.2.1, y19.2.2.2.2.2.1, y19.2.2.2.2.2.2.1, y19.2.2.2.2.2.2.2.1, (IntKind.wrap IntKind.i64 (y19.2.2.2.2.2.2.2.2.1 + (1 : Int))), y19.2.2.2.2.2.2.2.2.2.1, y19.2.2.2.2.2.2.2.2.2.2.1, ()))
 (gd (decide ((0 : Int) ≤ x10.2.2.2.2.2.2.2.2.1))
 (Option.bind x10.2.2.2.2.2.2.1[(Int.toNat x10.2.2.2.2.2.2.2.2.1)]? fun y13 =>
 (cond (x10.1 != x10.2.2.2.2.2.2.2.2.1)
 (Option.bind (F18 x10.2.2.2.2.2.2.2.2.2.2.1 y13) fun y14 =>
 (cond y14.1
 (cond x10.2.1
 (cond x10.2.2.1
 (j18 (x10.1, true, true, x10.2.2.2.1, x10.2.2.2.2.1, x10.2.2.2.2.2.1, x10.2.2.2.2.2.2.1, x10.2.2.2.2.2.2.2.1, x10.2.2.2.2.2.2.2.2.1, x10.2.2.2.2.2.2.2.2.2.1, x10.2.2.2.2.2.2.2.2.2.2.1, ()))
 (Option.bind (F19 x10.2.2.2.2.2.2.2.2.2.2.1.2.2.1 y13.2.2.2.1) fun y15 =>
 (j18 (x10.1, true, y15.1, x10.2.2.2.1, x10.2.2.2.2.1, x10.2.2.2.2.2.1, x10.2.2.2.2.2.2.1, x10.2.2.2.2.2.2.2.1, x10.2.2.2.2.2.2.2.2.1, x10.2.2.2.2.2.2.2.2.2.1, x10.2.2.2.2.2.2.2.2.2.2.1, ()))))
 (Option.bind (F19 y13.2.2.1 x10.2.2.2.2.2.2.2.2.2.2.1.2.2.2.1) fun y16 =>
 (cond x10.2.2.1
 (j18 (x10.1, y16.1, true, x10.2.2.2.1, x10.2.2.2.2.1, x10.2.2.2.2.2.1, x10.2.2.2.2.2.2.1, x10.2.2.2.2.2.2.2.1, x10.2.2.2.2.2.2.2.2.1, x10.2.2.2.2.2.2.2.2.2.1, x10.2.2.2.2.2.2.2.2.2.2.1, ()))
 (Option.bind (F19 x10.2.2.2.2.2.2.2.2.2.2.1.2.2.1 y13.2.2.2.1) fun y17 =>
 (j18 (x10.1, y16.1, y17.1, x10.2.2.2.1, x10.2.2.2.2.1, x10.2.2.2.2.2.1, x10.2.2.2.2.2.2.1, x10.2.2.2.2.2.2.2.1, x10.2.2.2.2.2.2.2.2.1, x10.2.2.2.2.2.2.2.2.2.1, x10.2.2.2.2.2.2.2.2.2.2.1, ()))))))
 (j18 (x10.1, x10.2.1, x10.2.2.1, x10.2.2.2.1, x10.2.2.2.2.1, x10.2.2.2.2.2.1, x10.2.2.2.2.2.2.1, x10.2.2.2.2.2.2.2.1, x10.2.2.2.2.2.2.2.2.1, x10.2.2.2.2.2.2.2.2.2.1, x10.2.2.2.2.2.2.2.2.2.2.1, ()))))
 (j18 (x10.1, x10.2.1, x10.2.2.1, x10.2.2.2.1, x10.2.2.2.2.1, x10.2.2.2.2.2.1, x10.2.2.2.2.2.2.1, x10.2.2.2.2.2.2.2.1, x10.2.2.2.2.2.2.2.2.1, x10.2.2.2.2.2.2.2.2.2.1, x10.2.2.2.2.2.2.2.2.2.2.1, ()))))))
 (e2_0 (x10.2.1, x10.2.2.1, x10.2.2.2.1, x10.2.2.2.2.1, x10.2.2.2.2.2.1, x10.2.2.2.2.2.2.2.2.2.1, ())))

noncomputable def F7_R4 (e0_0 : Unit → Option (Bool × Int × Unit)) (er_1 : Bool × Int × Unit → Option (Bool × Int × Unit)) (rec : List (D44) × Int × Int × D25 × Unit → Option (Bool × Int × Unit)) (x4 : List (D44) × Int × Int × D25 × Unit) : Option (Bool × Int × Unit) :=
 (cond (decide (x4.2.2.1 < x4.2.1))
 (let j21 : List (D44) × Int × Int × D25 × Unit → Option (Bool × Int × Unit) := fun (y22 : List (D44) × Int × Int × D25 × Unit) =>
 (rec (y22.1, y22.2.1, (IntKind.wrap IntKind.i64 (y22.2.2.1 + (1 : Int))), y22.2.2.2.1, ()))
 (gd (decide ((0 : Int) ≤ x4.2.2.1))
 (Option.bind x4.1[(Int.toNat x4.2.2.1)]? fun y7 =>
 (iter (F7_R8
 (fun y20 =>
 (cond y20.1
 (cond y20.2.1
 (er_1 (false, (0 : Int), ()))
 (j21 (y20.2.2.1, y20.2.2.2.1, y20.2.2.2.2.1, y20.2.2.2.2.2.1, ())))
 (j21 (y20.2.2.1, y20.2.2.2.1, y20.2.2.2.2.1, y20.2.2.2.2.2.1, ()))))) fuel (x4.2.2.1, false, false, x4.1, x4.2.1, x4.2.2.1, x4.2.2.2.1.2.2.1, (((List.length x4.2.2.2.1.2.2.1) : Nat) : Int), (0 : Int), x4.2.2.2.1, y7, ())))))
 (e0_0 (())))

noncomputable def F7 (a0 : D25) : Option (Bool × Int × Unit) :=
 (Option.bind (F17 a0) fun y1 =>
 (cond (!y1.1)
 (some (false, ((1 : Int), ())))
 (iter (F7_R4
 (fun y23 =>
 (some (true, ((0 : Int), ()))))
 (fun y24 =>
 (some (y24.1, (y24.2.1, ()))))) fuel (a0.2.2.1, (((List.length a0.2.2.1) : Nat) : Int), (0 : Int), a0, ()))))

noncomputable def C7 : Fun := ⟨[(.ro Y25)], [(.bool, .z), ((.int .i64), .z)], fun z => F7 z.1⟩
noncomputable def E7 : Env := ⟨59, tyTab tys, oneTab ones, fnTab [(17, C17), (18, C18), (19, C19)], false, [], [(3, [1], []), (4, [1, 14, 15, 16], []), (5, [1, 14, 15, 16], []), (8, [1, 4, 5, 6, 7, 14, 15, 16, 22, 23, 24], []), (9, [1, 4, 5, 6, 7, 14, 15, 16, 22, 23, 24], []), (13, [1, 4, 5, 6, 7, 14, 15, 16, 22, 23, 24], []), (14, [1, 6, 7, 14, 15, 16], []), (16, [1, 14, 15, 16], []), (17, [], []), (100000, [], []), (100001, [1, 14, 15, 16], []), (100002, [1, 6, 7, 14, 15, 16], []), (100003, [1, 4, 5, 6, 7, 14, 15, 16, 22, 23, 24], []), (99999, [2, 3], [])], none, []⟩
noncomputable def L7 : List (LoopS (Bool × Int × Unit)) := [⟨8, ⟨[(1, (.ptr 8 [])), (4, (.pv (.int .i64))), (5, (.ptr 40 [])), (6, (.pv .bool)), (7, (.pv .bool)), (14, (.pv (.slice Y44))), (15, (.pv (.int .i64))), (16, (.pv (.int .i64))), (22, (.pv (.slice Y44))), (23, (.pv (.int .i64))), (24, (.pv (.int .i64)))], [(8, (.data true Y25 .z)), (40, (.data true Y44 .z))]⟩, fun κ => F7_R8 (fun y => κ.exit 2 (SSh.mk' ⟨[(1, (.ptr 8 [])), (6, (.pv .bool)), (7, (.pv .bool)), (14, (.pv (.slice Y44))), (15, (.pv (.int .i64))), (16, (.pv (.int .i64)))], [(8, (.data true Y25 .z))]⟩ y))⟩,
  ⟨4, ⟨[(1, (.ptr 8 [])), (14, (.pv (.slice Y44))), (15, (.pv (.int .i64))), (16, (.pv (.int .i64)))], [(8, (.data true Y25 .z))]⟩, fun κ => F7_R4 (fun y => κ.exit 0 (SSh.mk' ⟨[], []⟩ y)) (fun y => κ.ret (SSh.mk' ⟨[(2, (.pv .bool)), (3, (.pv (.int .i64)))], []⟩ y))⟩]
theorem L7_8 : ∀ (κ : Kont (Bool × Int × Unit)) (N : St → Option (Bool × Int × Unit)) (x : (L7[0]).sh.den), execK E7 (lpOf L7) (nthLoop (codeOf Tryz.f7) 1) { κ with normal := fun σ => N (σ.keepAt (E7).hints 8) } ((L7[0]).sh.mk' x) = (L7[0]).R κ (fun x => N ((L7[0]).sh.mk' x)) x :=
  fun κ N x => by kernel_rfl
theorem L7_4 : ∀ (κ : Kont (Bool × Int × Unit)) (N : St → Option (Bool × Int × Unit)) (x : (L7[1]).sh.den), execK E7 (lpOf L7) (nthLoop (codeOf Tryz.f7) 0) { κ with normal := fun σ => N (σ.keepAt (E7).hints 4) } ((L7[1]).sh.mk' x) = (L7[1]).R κ (fun x => N ((L7[1]).sh.mk' x)) x :=
  fun κ N x => by kernel_rfl
theorem C7_ok : QuietOk Tryz.prog 7 C7 :=
  told (env := E7) (fn := Tryz.f7) (c := (codeOf Tryz.f7)) (tbl := L7) (ls := [nthLoop (codeOf Tryz.f7) 0, nthLoop (codeOf Tryz.f7) 1]) (vars := Tryz.f7.results.toList) Tryz.func7 (tysC_ok tys_ok rfl rfl) (Told.fnOk (.cons C17_ok (.cons C18_ok (.cons C19_ok .nil))) rfl) (by kernel_rfl) (by decide) rfl (by decide) rfl rfl rfl (by kernel_rfl) (.cons L7[1] (by kernel_rfl) L7_4 (.cons L7[0] (by kernel_rfl) L7_8 .nil)) (by kernel_rfl)

/- 157: loop.example/g00380/laws.eqValue -/
noncomputable def F157 (a0 : D78) (a1 : D78) : Option (Bool × Unit) :=
 (cond (a0.1 != a1.1)
 (some (false, ()))
 (cond (a0.2.1 != a1.2.1)
 (some (false, ()))
 (cond (!(a0.2.2.1 == a1.2.2.1))
 (some (false, ()))
 (some (true, ())))))

noncomputable def C157 : Fun := ⟨[(.ro Y78), (.ro Y78)], [(.bool, .z)], fun z => F157 z.1 z.2.1⟩
noncomputable def E157 : Env := ⟨20, tyTab tys, oneTab ones, fnTab [], false, [], [(3, [2, 3], []), (5, [2, 3], []), (7, [], []), (99999, [4], [])], none, []⟩
noncomputable def L157 : List (LoopS (Bool × Unit)) := []
theorem C157_ok : QuietOk Tryz.prog 157 C157 :=
  told (env := E157) (fn := Tryz.f157) (c := (codeOf Tryz.f157)) (tbl := L157) (ls := []) (vars := Tryz.f157.results.toList) Tryz.func157 (tysC_ok tys_ok rfl rfl) (Told.fnOk .nil rfl) (by kernel_rfl) (by decide) rfl (by decide) rfl rfl rfl (by kernel_rfl) .nil (by kernel_rfl)

/- 185: loop.example/g00380/laws.eqVersion -/
noncomputable def F185 (a0 : D80) (a1 : D80) : Option (Bool × Unit) :=
 (cond (a0.1 != a1.1)
 (some (false, ()))
 (cond (!(a0.2.1 == a1.2.1))
 (some (false, ()))
 (Option.bind (F157 a0.2.2.1 a1.2.2.1) fun y3 =>
 (cond (!y3.1)
 (some (false, ()))
 (some (true, ()))))))

noncomputable def C185 : Fun := ⟨[(.ro Y80), (.ro Y80)], [(.bool, .z)], fun z => F185 z.1 z.2.1⟩
noncomputable def E185 : Env := ⟨21, tyTab tys, oneTab ones, fnTab [(157, C157)], false, [], [(3, [2, 3], []), (5, [2, 3], []), (7, [], []), (99999, [4], [])], none, []⟩
noncomputable def L185 : List (LoopS (Bool × Unit)) := []
theorem C185_ok : QuietOk Tryz.prog 185 C185 :=
  told (env := E185) (fn := Tryz.f185) (c := (codeOf Tryz.f185)) (tbl := L185) (ls := []) (vars := Tryz.f185.results.toList) Tryz.func185 (tysC_ok tys_ok rfl rfl) (Told.fnOk (.cons C157_ok .nil) rfl) (by kernel_rfl) (by decide) rfl (by decide) rfl rfl rfl (by kernel_rfl) .nil (by kernel_rfl)

/- 154: loop.example/g00380/laws.eqVersionS -/
noncomputable def F154_R4 (e0_0 : Unit → Option (Bool × Unit)) (er_1 : Bool × Unit → Option (Bool × Unit)) (rec : List (D80) × List (D80) × Int × Unit → Option (Bool × Unit)) (x3 : List (D80) × List (D80) × Int × Unit) : Option (Bool × Unit) :=
 (cond (decide (x3.2.2.1 < (((List.length x3.1) : Nat) : Int)))
 (gd (decide ((0 : Int) ≤ x3.2.2.1))
 (Option.bind x3.1[(Int.toNat x3.2.2.1)]? fun y6 =>
 (gd (decide ((0 : Int) ≤ x3.2.2.1))
 (Option.bind x3.2.1[(Int.toNat x3.2.2.1)]? fun y7 =>
 (Option.bind (F185 y6 y7) fun y8 =>
 (cond (!y8.1)
 (er_1 (false, ()))
 (rec (x3.1, x3.2.1, (IntKind.wrap IntKind.i64 (x3.2.2.1 + (1 : Int))), ()))))))))
 (e0_0 (())))

noncomputable def F154 (a0 : List (D80)) (a1 : List (D80)) : Option (Bool × Unit) :=
 (cond ((((List.length a0) : Nat) : Int) != (((List.length a1) : Nat) : Int))
 (some (false, ()))
 (iter (F154_R4
 (fun y9 =>
 (some (true, ())))
 (fun y10 =>
 (some (y10.1, ())))) fuel (a0, a1, (0 : Int), ())))

noncomputable def C154 : Fun := ⟨[(.ro (.slice Y80)), (.ro (.slice Y80))], [(.bool, .z)], fun z => F154 z.1 z.2.1⟩
noncomputable def E154 : Env := ⟨27, tyTab tys, oneTab ones, fnTab [(185, C185)], false, [], [(3, [0, 1], []), (4, [0, 1, 5], []), (5, [0, 1, 5], []), (6, [0, 1, 5], []), (8, [], []), (100000, [], []), (100001, [0, 1, 5], []), (99999, [4], [])], none, []⟩
noncomputable def L154 : List (LoopS (Bool × Unit)) := [⟨4, ⟨[(0, (.pv (.slice Y80))), (1, (.pv (.slice Y80))), (5, (.pv (.int .i64)))], []⟩, fun κ => F154_R4 (fun y => κ.exit 0 (SSh.mk' ⟨[], []⟩ y)) (fun y => κ.ret (SSh.mk' ⟨[(4, (.pv .bool))], []⟩ y))⟩]
theorem L154_4 : ∀ (κ : Kont (Bool × Unit)) (N : St → Option (Bool × Unit)) (x : (L154[0]).sh.den), execK E154 (lpOf L154) (nthLoop (codeOf Tryz.f154) 0) { κ with normal := fun σ => N (σ.keepAt (E154).hints 4) } ((L154[0]).sh.mk' x) = (L154[0]).R κ (fun x => N ((L154[0]).sh.mk' x)) x :=
  fun κ N x => by kernel_rfl
theorem C154_ok : QuietOk Tryz.prog 154 C154 :=
  told (env := E154) (fn := Tryz.f154) (c := (codeOf Tryz.f154)) (tbl := L154) (ls := [nthLoop (codeOf Tryz.f154) 0]) (vars := Tryz.f154.results.toList) Tryz.func154 (tysC_ok tys_ok rfl rfl) (Told.fnOk (.cons C185_ok .nil) rfl) (by kernel_rfl) (by decide) rfl (by decide) rfl rfl rfl (by kernel_rfl) (.cons L154[0] (by kernel_rfl) L154_4 .nil) (by kernel_rfl)

/- 115: loop.example/g00380/laws.eqChain -/
noncomputable def F115 (a0 : D76) (a1 : D76) : Option (Bool × Unit) :=
 (cond (a0.1 != a1.1)
 (some (false, ()))
 (Option.bind (F154 a0.2.1 a1.2.1) fun y2 =>
 (cond (!y2.1)
 (some (false, ()))
 (some (true, ())))))

noncomputable def C115 : Fun := ⟨[(.ro Y76), (.ro Y76)], [(.bool, .z)], fun z => F115 z.1 z.2.1⟩
noncomputable def E115 : Env := ⟨16, tyTab tys, oneTab ones, fnTab [(154, C154)], false, [], [(3, [2, 3], []), (5, [], []), (99999, [4], [])], none, []⟩
noncomputable def L115 : List (LoopS (Bool × Unit)) := []
theorem C115_ok : QuietOk Tryz.prog 115 C115 :=
  told (env := E115) (fn := Tryz.f115) (c := (codeOf Tryz.f115)) (tbl := L115) (ls := []) (vars := Tryz.f115.results.toList) Tryz.func115 (tysC_ok tys_ok rfl rfl) (Told.fnOk (.cons C154_ok .nil) rfl) (by kernel_rfl) (by decide) rfl (by decide) rfl rfl rfl (by kernel_rfl) .nil (by kernel_rfl)

/- 74: loop.example/g00380/laws.eqChainS -/
noncomputable def F74_R4 (e0_0 : Unit → Option (Bool × Unit)) (er_1 : Bool × Unit → Option (Bool × Unit)) (rec : List (D76) × List (D76) × Int × Unit → Option (Bool × Unit)) (x3 : List (D76) × List (D76) × Int × Unit) : Option (Bool × Unit) :=
 (cond (decide (x3.2.2.1 < (((List.length x3.1) : Nat) : Int)))
 (gd (decide ((0 : Int) ≤ x3.2.2.1))
 (Option.bind x3.1[(Int.toNat x3.2.2.1)]? fun y6 =>
 (gd (decide ((0 : Int) ≤ x3.2.2.1))
 (Option.bind x3.2.1[(Int.toNat x3.2.2.1)]? fun y7 =>
 (Option.bind (F115 y6 y7) fun y8 =>
 (cond (!y8.1)
 (er_1 (false, ()))
 (rec (x3.1, x3.2.1, (IntKind.wrap IntKind.i64 (x3.2.2.1 + (1 : Int))), ()))))))))
 (e0_0 (())))

noncomputable def F74 (a0 : List (D76)) (a1 : List (D76)) : Option (Bool × Unit) :=
 (cond ((((List.length a0) : Nat) : Int) != (((List.length a1) : Nat) : Int))
 (some (false, ()))
 (iter (F74_R4
 (fun y9 =>
 (some (true, ())))
 (fun y10 =>
 (some (y10.1, ())))) fuel (a0, a1, (0 : Int), ())))

noncomputable def C74 : Fun := ⟨[(.ro (.slice Y76)), (.ro (.slice Y76))], [(.bool, .z)], fun z => F74 z.1 z.2.1⟩
noncomputable def E74 : Env := ⟨27, tyTab tys, oneTab ones, fnTab [(115, C115)], false, [], [(3, [0, 1], []), (4, [0, 1, 5], []), (5, [0, 1, 5], []), (6, [0, 1, 5], []), (8, [], []), (100000, [], []), (100001, [0, 1, 5], []), (99999, [4], [])], none, []⟩
noncomputable def L74 : List (LoopS (Bool × Unit)) := [⟨4, ⟨[(0, (.pv (.slice Y76))), (1, (.pv (.slice Y76))), (5, (.pv (.int .i64)))], []⟩, fun κ => F74_R4 (fun y => κ.exit 0 (SSh.mk' ⟨[], []⟩ y)) (fun y => κ.ret (SSh.mk' ⟨[(4, (.pv .bool))], []⟩ y))⟩]
theorem L74_4 : ∀ (κ : Kont (Bool × Unit)) (N : St → Option (Bool × Unit)) (x : (L74[0]).sh.den), execK E74 (lpOf L74) (nthLoop (codeOf Tryz.f74) 0) { κ with normal := fun σ => N (σ.keepAt (E74).hints 4) } ((L74[0]).sh.mk' x) = (L74[0]).R κ (fun x => N ((L74[0]).sh.mk' x)) x :=
  fun κ N x => by kernel_rfl
theorem C74_ok : QuietOk Tryz.prog 74 C74 :=
  told (env := E74) (fn := Tryz.f74) (c := (codeOf Tryz.f74)) (tbl := L74) (ls := [nthLoop (codeOf Tryz.f74) 0]) (vars := Tryz.f74.results.toList) Tryz.func74 (tysC_ok tys_ok rfl rfl) (Told.fnOk (.cons C115_ok .nil) rfl) (by kernel_rfl) (by decide) rfl (by decide) rfl rfl rfl (by kernel_rfl) (.cons L74[0] (by kernel_rfl) L74_4 .nil) (by kernel_rfl)

/- 186: loop.example/g00380/laws.eqPart -/
noncomputable def F186 (a0 : D193) (a1 : D193) : Option (Bool × Unit) :=
 (cond (!(a0.1 == a1.1))
 (some (false, ()))
 (cond (!(a0.2.1 == a1.2.1))
 (some (false, ()))
 (some (true, ()))))

noncomputable def C186 : Fun := ⟨[(.ro Y193), (.ro Y193)], [(.bool, .z)], fun z => F186 z.1 z.2.1⟩
noncomputable def E186 : Env := ⟨15, tyTab tys, oneTab ones, fnTab [], false, [], [(3, [2, 3], []), (5, [], []), (99999, [4], [])], none, []⟩
noncomputable def L186 : List (LoopS (Bool × Unit)) := []
theorem C186_ok : QuietOk Tryz.prog 186 C186 :=
  told (env := E186) (fn := Tryz.f186) (c := (codeOf Tryz.f186)) (tbl := L186) (ls := []) (vars := Tryz.f186.results.toList) Tryz.func186 (tysC_ok tys_ok rfl rfl) (Told.fnOk .nil rfl) (by kernel_rfl) (by decide) rfl (by decide) rfl rfl rfl (by kernel_rfl) .nil (by kernel_rfl)

/- 155: loop.example/g00380/laws.eqPartS -/
noncomputable def F155_R4 (e0_0 : Unit → Option (Bool × Unit)) (er_1 : Bool × Unit → Option (Bool × Unit)) (rec : List (D193) × List (D193) × Int × Unit → Option (Bool × Unit)) (x3 : List (D193) × List (D193) × Int × Unit) : Option (Bool × Unit) :=
 (cond (decide (x3.2.2.1 < (((List.length x3.1) : Nat) : Int)))
 (gd (decide ((0 : Int) ≤ x3.2.2.1))
 (Option.bind x3.1[(Int.toNat x3.2.2.1)]? fun y6 =>
 (gd (decide ((0 : Int) ≤ x3.2.2.1))
 (Option.bind x3.2.1[(Int.toNat x3.2.2.1)]? fun y7 =>
 (Option.bind (F186 y6 y7) fun y8 =>
 (cond (!y8.1)
 (er_1 (false, ()))
 (rec (x3.1, x3.2.1, (IntKind.wrap IntKind.i64 (x3.2.2.1 + (1 : Int))), ()))))))))
 (e0_0 (())))

noncomputable def F155 (a0 : List (D193)) (a1 : List (D193)) : Option (Bool × Unit) :=
 (cond ((((List.length a0) : Nat) : Int) != (((List.length a1) : Nat) : Int))
 (some (false, ()))
 (iter (F155_R4
 (fun y9 =>
 (some (true, ())))
 (fun y10 =>
 (some (y10.1, ())))) fuel (a0, a1, (0 : Int), ())))

noncomputable def C155 : Fun := ⟨[(.ro (.slice Y193)), (.ro (.slice Y193))], [(.bool, .z)], fun z => F155 z.1 z.2.1⟩
noncomputable def E155 : Env := ⟨27, tyTab tys, oneTab ones, fnTab [(186, C186)], false, [], [(3, [0, 1], []), (4, [0, 1, 5], []), (5, [0, 1, 5], []), (6, [0, 1, 5], []), (8, [], []), (100000, [], []), (100001, [0, 1, 5], []), (99999, [4], [])], none, []⟩
noncomputable def L155 : List (LoopS (Bool × Unit)) := [⟨4, ⟨[(0, (.pv (.slice Y193))), (1, (.pv (.slice Y193))), (5, (.pv (.int .i64)))], []⟩, fun κ => F155_R4 (fun y => κ.exit 0 (SSh.mk' ⟨[], []⟩ y)) (fun y => κ.ret (SSh.mk' ⟨[(4, (.pv .bool))], []⟩ y))⟩]
theorem L155_4 : ∀ (κ : Kont (Bool × Unit)) (N : St → Option (Bool × Unit)) (x : (L155[0]).sh.den), execK E155 (lpOf L155) (nthLoop (codeOf Tryz.f155) 0) { κ with normal := fun σ => N (σ.keepAt (E155).hints 4) } ((L155[0]).sh.mk' x) = (L155[0]).R κ (fun x => N ((L155[0]).sh.mk' x)) x :=
  fun κ N x => by kernel_rfl
theorem C155_ok : QuietOk Tryz.prog 155 C155 :=
  told (env := E155) (fn := Tryz.f155) (c := (codeOf Tryz.f155)) (tbl := L155) (ls := [nthLoop (codeOf Tryz.f155) 0]) (vars := Tryz.f155.results.toList) Tryz.func155 (tysC_ok tys_ok rfl rfl) (Told.fnOk (.cons C186_ok .nil) rfl) (by kernel_rfl) (by decide) rfl (by decide) rfl rfl rfl (by kernel_rfl) (.cons L155[0] (by kernel_rfl) L155_4 .nil) (by kernel_rfl)

/- 116: loop.example/g00380/laws.eqDef -/
noncomputable def F116 (a0 : D139) (a1 : D139) : Option (Bool × Unit) :=
 (cond (!(a0.1 == a1.1))
 (some (false, ()))
 (Option.bind (F155 a0.2.1 a1.2.1) fun y2 =>
 (cond (!y2.1)
 (some (false, ()))
 (some (true, ())))))

noncomputable def C116 : Fun := ⟨[(.ro Y139), (.ro Y139)], [(.bool, .z)], fun z => F116 z.1 z.2.1⟩
noncomputable def E116 : Env := ⟨16, tyTab tys, oneTab ones, fnTab [(155, C155)], false, [], [(3, [2, 3], []), (5, [], []), (99999, [4], [])], none, []⟩
noncomputable def L116 : List (LoopS (Bool × Unit)) := []
theorem C116_ok : QuietOk Tryz.prog 116 C116 :=
  told (env := E116) (fn := Tryz.f116) (c := (codeOf Tryz.f116)) (tbl := L116) (ls := []) (vars := Tryz.f116.results.toList) Tryz.func116 (tysC_ok tys_ok rfl rfl) (Told.fnOk (.cons C155_ok .nil) rfl) (by kernel_rfl) (by decide) rfl (by decide) rfl rfl rfl (by kernel_rfl) .nil (by kernel_rfl)

/- 75: loop.example/g00380/laws.eqDefS -/
noncomputable def F75_R4 (e0_0 : Unit → Option (Bool × Unit)) (er_1 : Bool × Unit → Option (Bool × Unit)) (rec : List (D139) × List (D139) × Int × Unit → Option (Bool × Unit)) (x3 : List (D139) × List (D139) × Int × Unit) : Option (Bool × Unit) :=
 (cond (decide (x3.2.2.1 < (((List.length x3.1) : Nat) : Int)))
 (gd (decide ((0 : Int) ≤ x3.2.2.1))
 (Option.bind x3.1[(Int.toNat x3.2.2.1)]? fun y6 =>
 (gd (decide ((0 : Int) ≤ x3.2.2.1))
 (Option.bind x3.2.1[(Int.toNat x3.2.2.1)]? fun y7 =>
 (Option.bind (F116 y6 y7) fun y8 =>
 (cond (!y8.1)
 (er_1 (false, ()))
 (rec (x3.1, x3.2.1, (IntKind.wrap IntKind.i64 (x3.2.2.1 + (1 : Int))), ()))))))))
 (e0_0 (())))

noncomputable def F75 (a0 : List (D139)) (a1 : List (D139)) : Option (Bool × Unit) :=
 (cond ((((List.length a0) : Nat) : Int) != (((List.length a1) : Nat) : Int))
 (some (false, ()))
 (iter (F75_R4
 (fun y9 =>
 (some (true, ())))
 (fun y10 =>
 (some (y10.1, ())))) fuel (a0, a1, (0 : Int), ())))

noncomputable def C75 : Fun := ⟨[(.ro (.slice Y139)), (.ro (.slice Y139))], [(.bool, .z)], fun z => F75 z.1 z.2.1⟩
noncomputable def E75 : Env := ⟨27, tyTab tys, oneTab ones, fnTab [(116, C116)], false, [], [(3, [0, 1], []), (4, [0, 1, 5], []), (5, [0, 1, 5], []), (6, [0, 1, 5], []), (8, [], []), (100000, [], []), (100001, [0, 1, 5], []), (99999, [4], [])], none, []⟩
noncomputable def L75 : List (LoopS (Bool × Unit)) := [⟨4, ⟨[(0, (.pv (.slice Y139))), (1, (.pv (.slice Y139))), (5, (.pv (.int .i64)))], []⟩, fun κ => F75_R4 (fun y => κ.exit 0 (SSh.mk' ⟨[], []⟩ y)) (fun y => κ.ret (SSh.mk' ⟨[(4, (.pv .bool))], []⟩ y))⟩]
theorem L75_4 : ∀ (κ : Kont (Bool × Unit)) (N : St → Option (Bool × Unit)) (x : (L75[0]).sh.den), execK E75 (lpOf L75) (nthLoop (codeOf Tryz.f75) 0) { κ with normal := fun σ => N (σ.keepAt (E75).hints 4) } ((L75[0]).sh.mk' x) = (L75[0]).R κ (fun x => N ((L75[0]).sh.mk' x)) x :=
  fun κ N x => by kernel_rfl
theorem C75_ok : QuietOk Tryz.prog 75 C75 :=
  told (env := E75) (fn := Tryz.f75) (c := (codeOf Tryz.f75)) (tbl := L75) (ls := [nthLoop (codeOf Tryz.f75) 0]) (vars := Tryz.f75.results.toList) Tryz.func75 (tysC_ok tys_ok rfl rfl) (Told.fnOk (.cons C116_ok .nil) rfl) (by kernel_rfl) (by decide) rfl (by decide) rfl rfl rfl (by kernel_rfl) (.cons L75[0] (by kernel_rfl) L75_4 .nil) (by kernel_rfl)

/- 45: loop.example/g00380/laws.eqColl -/
noncomputable def F45 (a0 : D57) (a1 : D57) : Option (Bool × Unit) :=
 (cond (!(a0.1 == a1.1))
 (some (false, ()))
 (Option.bind (F74 a0.2.1 a1.2.1) fun y2 =>
 (cond (!y2.1)
 (some (false, ()))
 (Option.bind (F75 a0.2.2.1 a1.2.2.1) fun y4 =>
 (cond (!y4.1)
 (some (false, ()))
 (some (true, ())))))))

noncomputable def C45 : Fun := ⟨[(.ro Y57), (.ro Y57)], [(.bool, .z)], fun z => F45 z.1 z.2.1⟩
noncomputable def E45 : Env := ⟨22, tyTab tys, oneTab ones, fnTab [(74, C74), (75, C75)], false, [], [(3, [2, 3], []), (5, [2, 3], []), (7, [], []), (99999, [4], [])], none, []⟩
noncomputable def L45 : List (LoopS (Bool × Unit)) := []
theorem C45_ok : QuietOk Tryz.prog 45 C45 :=
  told (env := E45) (fn := Tryz.f45) (c := (codeOf Tryz.f45)) (tbl := L45) (ls := []) (vars := Tryz.f45.results.toList) Tryz.func45 (tysC_ok tys_ok rfl rfl) (Told.fnOk (.cons C74_ok (.cons C75_ok .nil)) rfl) (by kernel_rfl) (by decide) rfl (by decide) rfl rfl rfl (by kernel_rfl) .nil (by kernel_rfl)

/- 20: loop.example/g00380/laws.eqCollS -/
noncomputable def F20_R4 (e0_0 : Unit → Option (Bool × Unit)) (er_1 : Bool × Unit → Option (Bool × Unit)) (rec : List (D57) × List (D57) × Int × Unit → Option (Bool × Unit)) (x3 : List (D57) × List (D57) × Int × Unit) : Option (Bool × Unit) :=
 (cond (decide (x3.2.2.1 < (((List.length x3.1) : Nat) : Int)))
 (gd (decide ((0 : Int) ≤ x3.2.2.1))
 (Option.bind x3.1[(Int.toNat x3.2.2.1)]? fun y6 =>
 (gd (decide ((0 : Int) ≤ x3.2.2.1))
 (Option.bind x3.2.1[(Int.toNat x3.2.2.1)]? fun y7 =>
 (Option.bind (F45 y6 y7) fun y8 =>
 (cond (!y8.1)
 (er_1 (false, ()))
 (rec (x3.1, x3.2.1, (IntKind.wrap IntKind.i64 (x3.2.2.1 + (1 : Int))), ()))))))))
 (e0_0 (())))

noncomputable def F20 (a0 : List (D57)) (a1 : List (D57)) : Option (Bool × Unit) :=
 (cond ((((List.length a0) : Nat) : Int) != (((List.length a1) : Nat) : Int))
 (some (false, ()))
 (iter (F20_R4
 (fun y9 =>
 (some (true, ())))
 (fun y10 =>
 (some (y10.1, ())))) fuel (a0, a1, (0 : Int), ())))

noncomputable def C20 : Fun := ⟨[(.ro (.slice Y57)), (.ro (.slice Y57))], [(.bool, .z)], fun z => F20 z.1 z.2.1⟩
noncomputable def E20 : Env := ⟨27, tyTab tys, oneTab ones, fnTab [(45, C45)], false, [], [(3, [0, 1], []), (4, [0, 1, 5], []), (5, [0, 1, 5], []), (6, [0, 1, 5], []), (8, [], []), (100000, [], []), (100001, [0, 1, 5], []), (99999, [4], [])], none, []⟩
noncomputable def L20 : List (LoopS (Bool × Unit)) := [⟨4, ⟨[(0, (.pv (.slice Y57))), (1, (.pv (.slice Y57))), (5, (.pv (.int .i64)))], []⟩, fun κ => F20_R4 (fun y => κ.exit 0 (SSh.mk' ⟨[], []⟩ y)) (fun y => κ.ret (SSh.mk' ⟨[(4, (.pv .bool))], []⟩ y))⟩]
theorem L20_4 : ∀ (κ : Kont (Bool × Unit)) (N : St → Option (Bool × Unit)) (x : (L20[0]).sh.den), execK E20 (lpOf L20) (nthLoop (codeOf Tryz.f20) 0) { κ with normal := fun σ => N (σ.keepAt (E20).hints 4) } ((L20[0]).sh.mk' x) = (L20[0]).R κ (fun x => N ((L20[0]).sh.mk' x)) x :=
  fun κ N x => by kernel_rfl
theorem C20_ok : QuietOk Tryz.prog 20 C20 :=
  told (env := E20) (fn := Tryz.f20) (c := (codeOf Tryz.f20)) (tbl := L20) (ls := [nthLoop (codeOf Tryz.f20) 0]) (vars := Tryz.f20.results.toList) Tryz.func20 (tysC_ok tys_ok rfl rfl) (Told.fnOk (.cons C45_ok .nil) rfl) (by kernel_rfl) (by decide) rfl (by decide) rfl rfl rfl (by kernel_rfl) (.cons L20[0] (by kernel_rfl) L20_4 .nil) (by kernel_rfl)

/- 240: loop.example/g00380/laws.eqTerm -/
noncomputable def F240 (a0 : D182) (a1 : D182) : Option (Bool × Unit) :=
 (cond (a0.1 != a1.1)
 (some (false, ()))
 (cond (!(a0.2.1 == a1.2.1))
 (some (false, ()))
 (Option.bind (F157 a0.2.2.1 a1.2.2.1) fun y3 =>
 (cond (!y3.1)
 (some (false, ()))
 (some (true, ()))))))

noncomputable def C240 : Fun := ⟨[(.ro Y182), (.ro Y182)], [(.bool, .z)], fun z => F240 z.1 z.2.1⟩
noncomputable def E240 : Env := ⟨21, tyTab tys, oneTab ones, fnTab [(157, C157)], false, [], [(3, [2, 3], []), (5, [2, 3], []), (7, [], []), (99999, [4], [])], none, []⟩
noncomputable def L240 : List (LoopS (Bool × Unit)) := []
theorem C240_ok : QuietOk Tryz.prog 240 C240 :=
  told (env := E240) (fn := Tryz.f240) (c := (codeOf Tryz.f240)) (tbl := L240) (ls := []) (vars := Tryz.f240.results.toList) Tryz.func240 (tysC_ok tys_ok rfl rfl) (Told.fnOk (.cons C157_ok .nil) rfl) (by kernel_rfl) (by decide) rfl (by decide) rfl rfl rfl (by kernel_rfl) .nil (by kernel_rfl)

/- 225: loop.example/g00380/laws.eqTermS -/
noncomputable def F225_R4 (e0_0 : Unit → Option (Bool × Unit)) (er_1 : Bool × Unit → Option (Bool × Unit)) (rec : List (D182) × List (D182) × Int × Unit → Option (Bool × Unit)) (x3 : List (D182) × List (D182) × Int × Unit) : Option (Bool × Unit) :=
 (cond (decide (x3.2.2.1 < (((List.length x3.1) : Nat) : Int)))
 (gd (decide ((0 : Int) ≤ x3.2.2.1))
 (Option.bind x3.1[(Int.toNat x3.2.2.1)]? fun y6 =>
 (gd (decide ((0 : Int) ≤ x3.2.2.1))
 (Option.bind x3.2.1[(Int.toNat x3.2.2.1)]? fun y7 =>
 (Option.bind (F240 y6 y7) fun y8 =>
 (cond (!y8.1)
 (er_1 (false, ()))
 (rec (x3.1, x3.2.1, (IntKind.wrap IntKind.i64 (x3.2.2.1 + (1 : Int))), ()))))))))
 (e0_0 (())))

noncomputable def F225 (a0 : List (D182)) (a1 : List (D182)) : Option (Bool × Unit) :=
 (cond ((((List.length a0) : Nat) : Int) != (((List.length a1) : Nat) : Int))
 (some (false, ()))
 (iter (F225_R4
 (fun y9 =>
 (some (true, ())))
 (fun y10 =>
 (some (y10.1, ())))) fuel (a0, a1, (0 : Int), ())))

noncomputable def C225 : Fun := ⟨[(.ro (.slice Y182)), (.ro (.slice Y182))], [(.bool, .z)], fun z => F225 z.1 z.2.1⟩
noncomputable def E225 : Env := ⟨27, tyTab tys, oneTab ones, fnTab [(240, C240)], false, [], [(3, [0, 1], []), (4, [0, 1, 5], []), (5, [0, 1, 5], []), (6, [0, 1, 5], []), (8, [], []), (100000, [], []), (100001, [0, 1, 5], []), (99999, [4], [])], none, []⟩
noncomputable def L225 : List (LoopS (Bool × Unit)) := [⟨4, ⟨[(0, (.pv (.slice Y182))), (1, (.pv (.slice Y182))), (5, (.pv (.int .i64)))], []⟩, fun κ => F225_R4 (fun y => κ.exit 0 (SSh.mk' ⟨[], []⟩ y)) (fun y => κ.ret (SSh.mk' ⟨[(4, (.pv .bool))], []⟩ y))⟩]
theorem L225_4 : ∀ (κ : Kont (Bool × Unit)) (N : St → Option (Bool × Unit)) (x : (L225[0]).sh.den), execK E225 (lpOf L225) (nthLoop (codeOf Tryz.f225) 0) { κ with normal := fun σ => N (σ.keepAt (E225).hints 4) } ((L225[0]).sh.mk' x) = (L225[0]).R κ (fun x => N ((L225[0]).sh.mk' x)) x :=
  fun κ N x => by kernel_rfl
theorem C225_ok : QuietOk Tryz.prog 225 C225 :=
  told (env := E225) (fn := Tryz.f225) (c := (codeOf Tryz.f225)) (tbl := L225) (ls := [nthLoop (codeOf Tryz.f225) 0]) (vars := Tryz.f225.results.toList) Tryz.func225 (tysC_ok tys_ok rfl rfl) (Told.fnOk (.cons C240_ok .nil) rfl) (by kernel_rfl) (by decide) rfl (by decide) rfl rfl rfl (by kernel_rfl) (.cons L225[0] (by kernel_rfl) L225_4 .nil) (by kernel_rfl)

/- 212: loop.example/g00380/laws.eqClause -/
noncomputable def F212 (a0 : D163) (a1 : D163) : Option (Bool × Unit) :=
 (Option.bind (F225 a0.1 a1.1) fun y1 =>
 (cond (!y1.1)
 (some (false, ()))
 (some (true, ()))))

noncomputable def C212 : Fun := ⟨[(.ro Y163), (.ro Y163)], [(.bool, .z)], fun z => F212 z.1 z.2.1⟩
noncomputable def E212 : Env := ⟨11, tyTab tys, oneTab ones, fnTab [(225, C225)], false, [], [(3, [], []), (99999, [4], [])], none, []⟩
noncomputable def L212 : List (LoopS (Bool × Unit)) := []
theorem C212_ok : QuietOk Tryz.prog 212 C212 :=
  told (env := E212) (fn := Tryz.f212) (c := (codeOf Tryz.f212)) (tbl := L212) (ls := []) (vars := Tryz.f212.results.toList) Tryz.func212 (tysC_ok tys_ok rfl rfl) (Told.fnOk (.cons C225_ok .nil) rfl) (by kernel_rfl) (by decide) rfl (by decide) rfl rfl rfl (by kernel_rfl) .nil (by kernel_rfl)

/- 187: loop.example/g00380/laws.eqClauseS -/
noncomputable def F187_R4 (e0_0 : Unit → Option (Bool × Unit)) (er_1 : Bool × Unit → Option (Bool × Unit)) (rec : List (D163) × List (D163) × Int × Unit → Option (Bool × Unit)) (x3 : List (D163) × List (D163) × Int × Unit) : Option (Bool × Unit) :=
 (cond (decide (x3.2.2.1 < (((List.length x3.1) : Nat) : Int)))
 (gd (decide ((0 : Int) ≤ x3.2.2.1))
 (Option.bind x3.1[(Int.toNat x3.2.2.1)]? fun y6 =>
 (gd (decide ((0 : Int) ≤ x3.2.2.1))
 (Option.bind x3.2.1[(Int.toNat x3.2.2.1)]? fun y7 =>
 (Option.bind (F212 y6 y7) fun y8 =>
 (cond (!y8.1)
 (er_1 (false, ()))
 (rec (x3.1, x3.2.1, (IntKind.wrap IntKind.i64 (x3.2.2.1 + (1 : Int))), ()))))))))
 (e0_0 (())))

noncomputable def F187 (a0 : List (D163)) (a1 : List (D163)) : Option (Bool × Unit) :=
 (cond ((((List.length a0) : Nat) : Int) != (((List.length a1) : Nat) : Int))
 (some (false, ()))
 (iter (F187_R4
 (fun y9 =>
 (some (true, ())))
 (fun y10 =>
 (some (y10.1, ())))) fuel (a0, a1, (0 : Int), ())))

noncomputable def C187 : Fun := ⟨[(.ro (.slice Y163)), (.ro (.slice Y163))], [(.bool, .z)], fun z => F187 z.1 z.2.1⟩
noncomputable def E187 : Env := ⟨27, tyTab tys, oneTab ones, fnTab [(212, C212)], false, [], [(3, [0, 1], []), (4, [0, 1, 5], []), (5, [0, 1, 5], []), (6, [0, 1, 5], []), (8, [], []), (100000, [], []), (100001, [0, 1, 5], []), (99999, [4], [])], none, []⟩
noncomputable def L187 : List (LoopS (Bool × Unit)) := [⟨4, ⟨[(0, (.pv (.slice Y163))), (1, (.pv (.slice Y163))), (5, (.pv (.int .i64)))], []⟩, fun κ => F187_R4 (fun y => κ.exit 0 (SSh.mk' ⟨[], []⟩ y)) (fun y => κ.ret (SSh.mk' ⟨[(4, (.pv .bool))], []⟩ y))⟩]
theorem L187_4 : ∀ (κ : Kont (Bool × Unit)) (N : St → Option (Bool × Unit)) (x : (L187[0]).sh.den), execK E187 (lpOf L187) (nthLoop (codeOf Tryz.f187) 0) { κ with normal := fun σ => N (σ.keepAt (E187).hints 4) } ((L187[0]).sh.mk' x) = (L187[0]).R κ (fun x => N ((L187[0]).sh.mk' x)) x :=
  fun κ N x => by kernel_rfl
theorem C187_ok : QuietOk Tryz.prog 187 C187 :=
  told (env := E187) (fn := Tryz.f187) (c := (codeOf Tryz.f187)) (tbl := L187) (ls := [nthLoop (codeOf Tryz.f187) 0]) (vars := Tryz.f187.results.toList) Tryz.func187 (tysC_ok tys_ok rfl rfl) (Told.fnOk (.cons C212_ok .nil) rfl) (by kernel_rfl) (by decide) rfl (by decide) rfl rfl rfl (by kernel_rfl) (.cons L187[0] (by kernel_rfl) L187_4 .nil) (by kernel_rfl)

/- 156: loop.example/g00380/laws.eqFilter -/
noncomputable def F156 (a0 : D91) (a1 : D91) : Option (Bool × Unit) :=
 (Option.bind (F187 a0.1 a1.1) fun y1 =>
 (cond (!y1.1)
 (some (false, ()))
 (some (true, ()))))

noncomputable def C156 : Fun := ⟨[(.ro Y91), (.ro Y91)], [(.bool, .z)], fun z => F156 z.1 z.2.1⟩
noncomputable def E156 : Env := ⟨11, tyTab tys, oneTab ones, fnTab [(187, C187)], false, [], [(3, [], []), (99999, [4], [])], none, []⟩
noncomputable def L156 : List (LoopS (Bool × Unit)) := []
theorem C156_ok : QuietOk Tryz.prog 156 C156 :=
  told (env := E156) (fn := Tryz.f156) (c := (codeOf Tryz.f156)) (tbl := L156) (ls := []) (vars := Tryz.f156.results.toList) Tryz.func156 (tysC_ok tys_ok rfl rfl) (Told.fnOk (.cons C187_ok .nil) rfl) (by kernel_rfl) (by decide) rfl (by decide) rfl rfl rfl (by kernel_rfl) .nil (by kernel_rfl)

/- 117: loop.example/g00380/laws.eqRead -/
noncomputable def F117 (a0 : D93) (a1 : D93) : Option (Bool × Unit) :=
 (cond (!(a0.1 == a1.1))
 (some (false, ()))
 (Option.bind (F156 a0.2.1 a1.2.1) fun y2 =>
 (cond (!y2.1)
 (some (false, ()))
 (some (true, ())))))

noncomputable def C117 : Fun := ⟨[(.ro Y93), (.ro Y93)], [(.bool, .z)], fun z => F117 z.1 z.2.1⟩
noncomputable def E117 : Env := ⟨16, tyTab tys, oneTab ones, fnTab [(156, C156)], false, [], [(3, [2, 3], []), (5, [], []), (99999, [4], [])], none, []⟩
noncomputable def L117 : List (LoopS (Bool × Unit)) := []
theorem C117_ok : QuietOk Tryz.prog 117 C117 :=
  told (env := E117) (fn := Tryz.f117) (c := (codeOf Tryz.f117)) (tbl := L117) (ls := []) (vars := Tryz.f117.results.toList) Tryz.func117 (tysC_ok tys_ok rfl rfl) (Told.fnOk (.cons C156_ok .nil) rfl) (by kernel_rfl) (by decide) rfl (by decide) rfl rfl rfl (by kernel_rfl) .nil (by kernel_rfl)

/- 76: loop.example/g00380/laws.eqReadS -/
noncomputable def F76_R4 (e0_0 : Unit → Option (Bool × Unit)) (er_1 : Bool × Unit → Option (Bool × Unit)) (rec : List (D93) × List (D93) × Int × Unit → Option (Bool × Unit)) (x3 : List (D93) × List (D93) × Int × Unit) : Option (Bool × Unit) :=
 (cond (decide (x3.2.2.1 < (((List.length x3.1) : Nat) : Int)))
 (gd (decide ((0 : Int) ≤ x3.2.2.1))
 (Option.bind x3.1[(Int.toNat x3.2.2.1)]? fun y6 =>
 (gd (decide ((0 : Int) ≤ x3.2.2.1))
 (Option.bind x3.2.1[(Int.toNat x3.2.2.1)]? fun y7 =>
 (Option.bind (F117 y6 y7) fun y8 =>
 (cond (!y8.1)
 (er_1 (false, ()))
 (rec (x3.1, x3.2.1, (IntKind.wrap IntKind.i64 (x3.2.2.1 + (1 : Int))), ()))))))))
 (e0_0 (())))

noncomputable def F76 (a0 : List (D93)) (a1 : List (D93)) : Option (Bool × Unit) :=
 (cond ((((List.length a0) : Nat) : Int) != (((List.length a1) : Nat) : Int))
 (some (false, ()))
 (iter (F76_R4
 (fun y9 =>
 (some (true, ())))
 (fun y10 =>
 (some (y10.1, ())))) fuel (a0, a1, (0 : Int), ())))

noncomputable def C76 : Fun := ⟨[(.ro (.slice Y93)), (.ro (.slice Y93))], [(.bool, .z)], fun z => F76 z.1 z.2.1⟩
noncomputable def E76 : Env := ⟨27, tyTab tys, oneTab ones, fnTab [(117, C117)], false, [], [(3, [0, 1], []), (4, [0, 1, 5], []), (5, [0, 1, 5], []), (6, [0, 1, 5], []), (8, [], []), (100000, [], []), (100001, [0, 1, 5], []), (99999, [4], [])], none, []⟩
noncomputable def L76 : List (LoopS (Bool × Unit)) := [⟨4, ⟨[(0, (.pv (.slice Y93))), (1, (.pv (.slice Y93))), (5, (.pv (.int .i64)))], []⟩, fun κ => F76_R4 (fun y => κ.exit 0 (SSh.mk' ⟨[], []⟩ y)) (fun y => κ.ret (SSh.mk' ⟨[(4, (.pv .bool))], []⟩ y))⟩]
theorem L76_4 : ∀ (κ : Kont (Bool × Unit)) (N : St → Option (Bool × Unit)) (x : (L76[0]).sh.den), execK E76 (lpOf L76) (nthLoop (codeOf Tryz.f76) 0) { κ with normal := fun σ => N (σ.keepAt (E76).hints 4) } ((L76[0]).sh.mk' x) = (L76[0]).R κ (fun x => N ((L76[0]).sh.mk' x)) x :=
  fun κ N x => by kernel_rfl
theorem C76_ok : QuietOk Tryz.prog 76 C76 :=
  told (env := E76) (fn := Tryz.f76) (c := (codeOf Tryz.f76)) (tbl := L76) (ls := [nthLoop (codeOf Tryz.f76) 0]) (vars := Tryz.f76.results.toList) Tryz.func76 (tysC_ok tys_ok rfl rfl) (Told.fnOk (.cons C117_ok .nil) rfl) (by kernel_rfl) (by decide) rfl (by decide) rfl rfl rfl (by kernel_rfl) (.cons L76[0] (by kernel_rfl) L76_4 .nil) (by kernel_rfl)

/- 118: loop.example/g00380/laws.eqWrite -/
noncomputable def F118 (a0 : D87) (a1 : D87) : Option (Bool × Unit) :=
 (cond (!(a0.1 == a1.1))
 (some (false, ()))
 (cond (a0.2.1 != a1.2.1)
 (some (false, ()))
 (cond (!(a0.2.2.1 == a1.2.2.1))
 (some (false, ()))
 (Option.bind (F157 a0.2.2.2.1 a1.2.2.2.1) fun y4 =>
 (cond (!y4.1)
 (some (false, ()))
 (some (true, ())))))))

noncomputable def C118 : Fun := ⟨[(.ro Y87), (.ro Y87)], [(.bool, .z)], fun z => F118 z.1 z.2.1⟩
noncomputable def E118 : Env := ⟨26, tyTab tys, oneTab ones, fnTab [(157, C157)], false, [], [(3, [2, 3], []), (5, [2, 3], []), (7, [2, 3], []), (9, [], []), (99999, [4], [])], none, []⟩
noncomputable def L118 : List (LoopS (Bool × Unit)) := []
theorem C118_ok : QuietOk Tryz.prog 118 C118 :=
  told (env := E118) (fn := Tryz.f118) (c := (codeOf Tryz.f118)) (tbl := L118) (ls := []) (vars := Tryz.f118.results.toList) Tryz.func118 (tysC_ok tys_ok rfl rfl) (Told.fnOk (.cons C157_ok .nil) rfl) (by kernel_rfl) (by decide) rfl (by decide) rfl rfl rfl (by kernel_rfl) .nil (by kernel_rfl)

/- 77: loop.example/g00380/laws.eqWriteS -/
noncomputable def F77_R4 (e0_0 : Unit → Option (Bool × Unit)) (er_1 : Bool × Unit → Option (Bool × Unit)) (rec : List (D87) × List (D87) × Int × Unit → Option (Bool × Unit)) (x3 : List (D87) × List (D87) × Int × Unit) : Option (Bool × Unit) :=
 (cond (decide (x3.2.2.1 < (((List.length x3.1) : Nat) : Int)))
 (gd (decide ((0 : Int) ≤ x3.2.2.1))
 (Option.bind x3.1[(Int.toNat x3.2.2.1)]? fun y6 =>
 (gd (decide ((0 : Int) ≤ x3.2.2.1))
 (Option.bind x3.2.1[(Int.toNat x3.2.2.1)]? fun y7 =>
 (Option.bind (F118 y6 y7) fun y8 =>
 (cond (!y8.1)
 (er_1 (false, ()))
 (rec (x3.1, x3.2.1, (IntKind.wrap IntKind.i64 (x3.2.2.1 + (1 : Int))), ()))))))))
 (e0_0 (())))

noncomputable def F77 (a0 : List (D87)) (a1 : List (D87)) : Option (Bool × Unit) :=
 (cond ((((List.length a0) : Nat) : Int) != (((List.length a1) : Nat) : Int))
 (some (false, ()))
 (iter (F77_R4
 (fun y9 =>
 (some (true, ())))
 (fun y10 =>
 (some (y10.1, ())))) fuel (a0, a1, (0 : Int), ())))

noncomputable def C77 : Fun := ⟨[(.ro (.slice Y87)), (.ro (.slice Y87))], [(.bool, .z)], fun z => F77 z.1 z.2.1⟩
noncomputable def E77 : Env := ⟨27, tyTab tys, oneTab ones, fnTab [(118, C118)], false, [], [(3, [0, 1], []), (4, [0, 1, 5], []), (5, [0, 1, 5], []), (6, [0, 1, 5], []), (8, [], []), (100000, [], []), (100001, [0, 1, 5], []), (99999, [4], [])], none, []⟩
noncomputable def L77 : List (LoopS (Bool × Unit)) := [⟨4, ⟨[(0, (.pv (.slice Y87))), (1, (.pv (.slice Y87))), (5, (.pv (.int .i64)))], []⟩, fun κ => F77_R4 (fun y => κ.exit 0 (SSh.mk' ⟨[], []⟩ y)) (fun y => κ.ret (SSh.mk' ⟨[(4, (.pv .bool))], []⟩ y))⟩]
theorem L77_4 : ∀ (κ : Kont (Bool × Unit)) (N : St → Option (Bool × Unit)) (x : (L77[0]).sh.den), execK E77 (lpOf L77) (nthLoop (codeOf Tryz.f77) 0) { κ with normal := fun σ => N (σ.keepAt (E77).hints 4) } ((L77[0]).sh.mk' x) = (L77[0]).R κ (fun x => N ((L77[0]).sh.mk' x)) x :=
  fun κ N x => by kernel_rfl
theorem C77_ok : QuietOk Tryz.prog 77 C77 :=
  told (env := E77) (fn := Tryz.f77) (c := (codeOf Tryz.f77)) (tbl := L77) (ls := [nthLoop (codeOf Tryz.f77) 0]) (vars := Tryz.f77.results.toList) Tryz.func77 (tysC_ok tys_ok rfl rfl) (Told.fnOk (.cons C118_ok .nil) rfl) (by kernel_rfl) (by decide) rfl (by decide) rfl rfl rfl (by kernel_rfl) (.cons L77[0] (by kernel_rfl) L77_4 .nil) (by kernel_rfl)

/- 46: loop.example/g00380/laws.eqTxn -/
noncomputable def F46 (a0 : D62) (a1 : D62) : Option (Bool × Unit) :=
 (cond (a0.1 != a1.1)
 (some (false, ()))
 (cond (a0.2.1 != a1.2.1)
 (some (false, ()))
 (Option.bind (F76 a0.2.2.1 a1.2.2.1) fun y3 =>
 (cond (!y3.1)
 (some (false, ()))
 (Option.bind (F77 a0.2.2.2.1 a1.2.2.2.1) fun y5 =>
 (cond (!y5.1)
 (some (false, ()))
 (some (true, ()))))))))

noncomputable def C46 : Fun := ⟨[(.ro Y62), (.ro Y62)], [(.bool, .z)], fun z => F46 z.1 z.2.1⟩
noncomputable def E46 : Env := ⟨27, tyTab tys, oneTab ones, fnTab [(76, C76), (77, C77)], false, [], [(3, [2, 3], []), (5, [2, 3], []), (7, [2, 3], []), (9, [], []), (99999, [4], [])], none, []⟩
noncomputable def L46 : List (LoopS (Bool × Unit)) := []
theorem C46_ok : QuietOk Tryz.prog 46 C46 :=
  told (env := E46) (fn := Tryz.f46) (c := (codeOf Tryz.f46)) (tbl := L46) (ls := []) (vars := Tryz.f46.results.toList) Tryz.func46 (tysC_ok tys_ok rfl rfl) (Told.fnOk (.cons C76_ok (.cons C77_ok .nil)) rfl) (by kernel_rfl) (by decide) rfl (by decide) rfl rfl rfl (by kernel_rfl) .nil (by kernel_rfl)

/- 21: loop.example/g00380/laws.eqTxnS -/
noncomputable def F21_R4 (e0_0 : Unit → Option (Bool × Unit)) (er_1 : Bool × Unit → Option (Bool × Unit)) (rec : List (D62) × List (D62) × Int × Unit → Option (Bool × Unit)) (x3 : List (D62) × List (D62) × Int × Unit) : Option (Bool × Unit) :=
 (cond (decide (x3.2.2.1 < (((List.length x3.1) : Nat) : Int)))
 (gd (decide ((0 : Int) ≤ x3.2.2.1))
 (Option.bind x3.1[(Int.toNat x3.2.2.1)]? fun y6 =>
 (gd (decide ((0 : Int) ≤ x3.2.2.1))
 (Option.bind x3.2.1[(Int.toNat x3.2.2.1)]? fun y7 =>
 (Option.bind (F46 y6 y7) fun y8 =>
 (cond (!y8.1)
 (er_1 (false, ()))
 (rec (x3.1, x3.2.1, (IntKind.wrap IntKind.i64 (x3.2.2.1 + (1 : Int))), ()))))))))
 (e0_0 (())))

noncomputable def F21 (a0 : List (D62)) (a1 : List (D62)) : Option (Bool × Unit) :=
 (cond ((((List.length a0) : Nat) : Int) != (((List.length a1) : Nat) : Int))
 (some (false, ()))
 (iter (F21_R4
 (fun y9 =>
 (some (true, ())))
 (fun y10 =>
 (some (y10.1, ())))) fuel (a0, a1, (0 : Int), ())))

noncomputable def C21 : Fun := ⟨[(.ro (.slice Y62)), (.ro (.slice Y62))], [(.bool, .z)], fun z => F21 z.1 z.2.1⟩
noncomputable def E21 : Env := ⟨27, tyTab tys, oneTab ones, fnTab [(46, C46)], false, [], [(3, [0, 1], []), (4, [0, 1, 5], []), (5, [0, 1, 5], []), (6, [0, 1, 5], []), (8, [], []), (100000, [], []), (100001, [0, 1, 5], []), (99999, [4], [])], none, []⟩
noncomputable def L21 : List (LoopS (Bool × Unit)) := [⟨4, ⟨[(0, (.pv (.slice Y62))), (1, (.pv (.slice Y62))), (5, (.pv (.int .i64)))], []⟩, fun κ => F21_R4 (fun y => κ.exit 0 (SSh.mk' ⟨[], []⟩ y)) (fun y => κ.ret (SSh.mk' ⟨[(4, (.pv .bool))], []⟩ y))⟩]
theorem L21_4 : ∀ (κ : Kont (Bool × Unit)) (N : St → Option (Bool × Unit)) (x : (L21[0]).sh.den), execK E21 (lpOf L21) (nthLoop (codeOf Tryz.f21) 0) { κ with normal := fun σ => N (σ.keepAt (E21).hints 4) } ((L21[0]).sh.mk' x) = (L21[0]).R κ (fun x => N ((L21[0]).sh.mk' x)) x :=
  fun κ N x => by kernel_rfl
theorem C21_ok : QuietOk Tryz.prog 21 C21 :=
  told (env := E21) (fn := Tryz.f21) (c := (codeOf Tryz.f21)) (tbl := L21) (ls := [nthLoop (codeOf Tryz.f21) 0]) (vars := Tryz.f21.results.toList) Tryz.func21 (tysC_ok tys_ok rfl rfl) (Told.fnOk (.cons C46_ok .nil) rfl) (by kernel_rfl) (by decide) rfl (by decide) rfl rfl rfl (by kernel_rfl) (.cons L21[0] (by kernel_rfl) L21_4 .nil) (by kernel_rfl)

/- 119: loop.example/g00380/laws.eqChange -/
noncomputable def F119 (a0 : D95) (a1 : D95) : Option (Bool × Unit) :=
 (Option.bind (F118 a0.1 a1.1) fun y1 =>
 (cond (!y1.1)
 (some (false, ()))
 (Option.bind (F157 a0.2.1 a1.2.1) fun y3 =>
 (cond (!y3.1)
 (some (false, ()))
 (cond (!(a0.2.2.1 == a1.2.2.1))
 (some (false, ()))
 (some (true, ())))))))

noncomputable def C119 : Fun := ⟨[(.ro Y95), (.ro Y95)], [(.bool, .z)], fun z => F119 z.1 z.2.1⟩
noncomputable def E119 : Env := ⟨22, tyTab tys, oneTab ones, fnTab [(118, C118), (157, C157)], false, [], [(3, [2, 3], []), (5, [2, 3], []), (7, [], []), (99999, [4], [])], none, []⟩
noncomputable def L119 : List (LoopS (Bool × Unit)) := []
theorem C119_ok : QuietOk Tryz.prog 119 C119 :=
  told (env := E119) (fn := Tryz.f119) (c := (codeOf Tryz.f119)) (tbl := L119) (ls := []) (vars := Tryz.f119.results.toList) Tryz.func119 (tysC_ok tys_ok rfl rfl) (Told.fnOk (.cons C118_ok (.cons C157_ok .nil)) rfl) (by kernel_rfl) (by decide) rfl (by decide) rfl rfl rfl (by kernel_rfl) .nil (by kernel_rfl)

/- 78: loop.example/g00380/laws.eqChangeS -/
noncomputable def F78_R4 (e0_0 : Unit → Option (Bool × Unit)) (er_1 : Bool × Unit → Option (Bool × Unit)) (rec : List (D95) × List (D95) × Int × Unit → Option (Bool × Unit)) (x3 : List (D95) × List (D95) × Int × Unit) : Option (Bool × Unit) :=
 (cond (decide (x3.2.2.1 < (((List.length x3.1) : Nat) : Int)))
 (gd (decide ((0 : Int) ≤ x3.2.2.1))
 (Option.bind x3.1[(Int.toNat x3.2.2.1)]? fun y6 =>
 (gd (decide ((0 : Int) ≤ x3.2.2.1))
 (Option.bind x3.2.1[(Int.toNat x3.2.2.1)]? fun y7 =>
 (Option.bind (F119 y6 y7) fun y8 =>
 (cond (!y8.1)
 (er_1 (false, ()))
 (rec (x3.1, x3.2.1, (IntKind.wrap IntKind.i64 (x3.2.2.1 + (1 : Int))), ()))))))))
 (e0_0 (())))

noncomputable def F78 (a0 : List (D95)) (a1 : List (D95)) : Option (Bool × Unit) :=
 (cond ((((List.length a0) : Nat) : Int) != (((List.length a1) : Nat) : Int))
 (some (false, ()))
 (iter (F78_R4
 (fun y9 =>
 (some (true, ())))
 (fun y10 =>
 (some (y10.1, ())))) fuel (a0, a1, (0 : Int), ())))

noncomputable def C78 : Fun := ⟨[(.ro (.slice Y95)), (.ro (.slice Y95))], [(.bool, .z)], fun z => F78 z.1 z.2.1⟩
noncomputable def E78 : Env := ⟨27, tyTab tys, oneTab ones, fnTab [(119, C119)], false, [], [(3, [0, 1], []), (4, [0, 1, 5], []), (5, [0, 1, 5], []), (6, [0, 1, 5], []), (8, [], []), (100000, [], []), (100001, [0, 1, 5], []), (99999, [4], [])], none, []⟩
noncomputable def L78 : List (LoopS (Bool × Unit)) := [⟨4, ⟨[(0, (.pv (.slice Y95))), (1, (.pv (.slice Y95))), (5, (.pv (.int .i64)))], []⟩, fun κ => F78_R4 (fun y => κ.exit 0 (SSh.mk' ⟨[], []⟩ y)) (fun y => κ.ret (SSh.mk' ⟨[(4, (.pv .bool))], []⟩ y))⟩]
theorem L78_4 : ∀ (κ : Kont (Bool × Unit)) (N : St → Option (Bool × Unit)) (x : (L78[0]).sh.den), execK E78 (lpOf L78) (nthLoop (codeOf Tryz.f78) 0) { κ with normal := fun σ => N (σ.keepAt (E78).hints 4) } ((L78[0]).sh.mk' x) = (L78[0]).R κ (fun x => N ((L78[0]).sh.mk' x)) x :=
  fun κ N x => by kernel_rfl
theorem C78_ok : QuietOk Tryz.prog 78 C78 :=
  told (env := E78) (fn := Tryz.f78) (c := (codeOf Tryz.f78)) (tbl := L78) (ls := [nthLoop (codeOf Tryz.f78) 0]) (vars := Tryz.f78.results.toList) Tryz.func78 (tysC_ok tys_ok rfl rfl) (Told.fnOk (.cons C119_ok .nil) rfl) (by kernel_rfl) (by decide) rfl (by decide) rfl rfl rfl (by kernel_rfl) (.cons L78[0] (by kernel_rfl) L78_4 .nil) (by kernel_rfl)

/- 47: loop.example/g00380/laws.eqDone -/
noncomputable def F47 (a0 : D44) (a1 : D44) : Option (Bool × Unit) :=
 (cond (a0.1 != a1.1)
 (some (false, ()))
 (cond (a0.2.1 != a1.2.1)
 (some (false, ()))
 (Option.bind (F76 a0.2.2.1 a1.2.2.1) fun y3 =>
 (cond (!y3.1)
 (some (false, ()))
 (Option.bind (F78 a0.2.2.2.1 a1.2.2.2.1) fun y5 =>
 (cond (!y5.1)
 (some (false, ()))
 (cond (!(a0.2.2.2.2.1 == a1.2.2.2.2.1))
 (some (false, ()))
 (cond (!(a0.2.2.2.2.2.1 == a1.2.2.2.2.2.1))
 (some (false, ()))
 (some (true, ()))))))))))

noncomputable def C47 : Fun := ⟨[(.ro Y44), (.ro Y44)], [(.bool, .z)], fun z => F47 z.1 z.2.1⟩
noncomputable def E47 : Env := ⟨37, tyTab tys, oneTab ones, fnTab [(76, C76), (78, C78)], false, [], [(3, [2, 3], []), (5, [2, 3], []), (7, [2, 3], []), (9, [2, 3], []), (11, [2, 3], []), (13, [], []), (99999, [4], [])], none, []⟩
noncomputable def L47 : List (LoopS (Bool × Unit)) := []
theorem C47_ok : QuietOk Tryz.prog 47 C47 :=
  told (env := E47) (fn := Tryz.f47) (c := (codeOf Tryz.f47)) (tbl := L47) (ls := []) (vars := Tryz.f47.results.toList) Tryz.func47 (tysC_ok tys_ok rfl rfl) (Told.fnOk (.cons C76_ok (.cons C78_ok .nil)) rfl) (by kernel_rfl) (by decide) rfl (by decide) rfl rfl rfl (by kernel_rfl) .nil (by kernel_rfl)

/- 22: loop.example/g00380/laws.eqDoneS -/
noncomputable def F22_R4 (e0_0 : Unit → Option (Bool × Unit)) (er_1 : Bool × Unit → Option (Bool × Unit)) (rec : List (D44) × List (D44) × Int × Unit → Option (Bool × Unit)) (x3 : List (D44) × List (D44) × Int × Unit) : Option (Bool × Unit) :=
 (cond (decide (x3.2.2.1 < (((List.length x3.1) : Nat) : Int)))
 (gd (decide ((0 : Int) ≤ x3.2.2.1))
 (Option.bind x3.1[(Int.toNat x3.2.2.1)]? fun y6 =>
 (gd (decide ((0 : Int) ≤ x3.2.2.1))
 (Option.bind x3.2.1[(Int.toNat x3.2.2.1)]? fun y7 =>
 (Option.bind (F47 y6 y7) fun y8 =>
 (cond (!y8.1)
 (er_1 (false, ()))
 (rec (x3.1, x3.2.1, (IntKind.wrap IntKind.i64 (x3.2.2.1 + (1 : Int))), ()))))))))
 (e0_0 (())))

noncomputable def F22 (a0 : List (D44)) (a1 : List (D44)) : Option (Bool × Unit) :=
 (cond ((((List.length a0) : Nat) : Int) != (((List.length a1) : Nat) : Int))
 (some (false, ()))
 (iter (F22_R4
 (fun y9 =>
 (some (true, ())))
 (fun y10 =>
 (some (y10.1, ())))) fuel (a0, a1, (0 : Int), ())))

noncomputable def C22 : Fun := ⟨[(.ro (.slice Y44)), (.ro (.slice Y44))], [(.bool, .z)], fun z => F22 z.1 z.2.1⟩
noncomputable def E22 : Env := ⟨27, tyTab tys, oneTab ones, fnTab [(47, C47)], false, [], [(3, [0, 1], []), (4, [0, 1, 5], []), (5, [0, 1, 5], []), (6, [0, 1, 5], []), (8, [], []), (100000, [], []), (100001, [0, 1, 5], []), (99999, [4], [])], none, []⟩
noncomputable def L22 : List (LoopS (Bool × Unit)) := [⟨4, ⟨[(0, (.pv (.slice Y44))), (1, (.pv (.slice Y44))), (5, (.pv (.int .i64)))], []⟩, fun κ => F22_R4 (fun y => κ.exit 0 (SSh.mk' ⟨[], []⟩ y)) (fun y => κ.ret (SSh.mk' ⟨[(4, (.pv .bool))], []⟩ y))⟩]
theorem L22_4 : ∀ (κ : Kont (Bool × Unit)) (N : St → Option (Bool × Unit)) (x : (L22[0]).sh.den), execK E22 (lpOf L22) (nthLoop (codeOf Tryz.f22) 0) { κ with normal := fun σ => N (σ.keepAt (E22).hints 4) } ((L22[0]).sh.mk' x) = (L22[0]).R κ (fun x => N ((L22[0]).sh.mk' x)) x :=
  fun κ N x => by kernel_rfl
theorem C22_ok : QuietOk Tryz.prog 22 C22 :=
  told (env := E22) (fn := Tryz.f22) (c := (codeOf Tryz.f22)) (tbl := L22) (ls := [nthLoop (codeOf Tryz.f22) 0]) (vars := Tryz.f22.results.toList) Tryz.func22 (tysC_ok tys_ok rfl rfl) (Told.fnOk (.cons C47_ok .nil) rfl) (by kernel_rfl) (by decide) rfl (by decide) rfl rfl rfl (by kernel_rfl) (.cons L22[0] (by kernel_rfl) L22_4 .nil) (by kernel_rfl)

/- 8: loop.example/g00380/laws.eqStore -/
noncomputable def F8 (a0 : D25) (a1 : D25) : Option (Bool × Unit) :=
 (Option.bind (F20 a0.1 a1.1) fun y1 =>
 (cond (!y1.1)
 (some (false, ()))
 (Option.bind (F21 a0.2.1 a1.2.1) fun y3 =>
 (cond (!y3.1)
 (some (false, ()))
 (Option.bind (F22 a0.2.2.1 a1.2.2.1) fun y5 =>
 (cond (!y5.1)
 (some (false, ()))
 (cond (a0.2.2.2.1 != a1.2.2.2.1)
 (some (false, ()))
 (some (true, ())))))))))

noncomputable def C8 : Fun := ⟨[(.ro Y25), (.ro Y25)], [(.bool, .z)], fun z => F8 z.1 z.2.1⟩
noncomputable def E8 : Env := ⟨28, tyTab tys, oneTab ones, fnTab [(20, C20), (21, C21), (22, C22)], false, [], [(3, [2, 3], []), (5, [2, 3], []), (7, [2, 3], []), (9, [], []), (99999, [4], [])], none, []⟩
noncomputable def L8 : List (LoopS (Bool × Unit)) := []
theorem C8_ok : QuietOk Tryz.prog 8 C8 :=
  told (env := E8) (fn := Tryz.f8) (c := (codeOf Tryz.f8)) (tbl := L8) (ls := []) (vars := Tryz.f8.results.toList) Tryz.func8 (tysC_ok tys_ok rfl rfl) (Told.fnOk (.cons C20_ok (.cons C21_ok (.cons C22_ok .nil))) rfl) (by kernel_rfl) (by decide) rfl (by decide) rfl rfl rfl (by kernel_rfl) .nil (by kernel_rfl)

/- 3: loop.example/g00380/laws.FnExactNoPivot -/
noncomputable def F3 (a0 : D25) : Option (Bool × Unit) :=
 (Option.bind (F4 a0 (1048576 : Int)) fun y0 =>
 (cond (decide (y0.1 < (0 : Int)))
 (some (true, ()))
 (Option.bind (F6 a0) fun y2 =>
 (Option.bind (F5 y2.1) fun y3 =>
 (Option.bind (F6 a0) fun y4 =>
 (Option.bind (F7 y4.1) fun y5 =>
 (cond (!(y5.1 == y3.1))
 (some (false, ()))
 (cond (y5.2.1 != y3.2.1)
 (some (false, ()))
 (Option.bind (F6 a0) fun y8 =>
 (Option.bind (F8 y4.1 y8.1) fun y9 =>
 (cond (!y9.1)
 (some (false, ()))
 (some (true, ())))))))))))))

noncomputable def C3 : Fun := ⟨[(.ro Y25)], [(.bool, .z)], fun z => F3 z.1⟩
noncomputable def E3 : Env := ⟨40, tyTab tys, oneTab ones, fnTab [(4, C4), (5, C5), (6, C6), (7, C7), (8, C8)], false, [], [(5, [1], []), (10, [1, 6], []), (12, [], []), (99999, [2], [])], none, []⟩
noncomputable def L3 : List (LoopS (Bool × Unit)) := []
theorem C3_ok : QuietOk Tryz.prog 3 C3 :=
  told (env := E3) (fn := Tryz.f3) (c := (codeOf Tryz.f3)) (tbl := L3) (ls := []) (vars := Tryz.f3.results.toList) Tryz.func3 (tysC_ok tys_ok rfl rfl) (Told.fnOk (.cons C4_ok (.cons C5_ok (.cons C6_ok (.cons C7_ok (.cons C8_ok .nil))))) rfl) (by kernel_rfl) (by decide) rfl (by decide) rfl rfl rfl (by kernel_rfl) .nil (by kernel_rfl)

end Go.V
