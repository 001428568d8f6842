/- What functions of the program compute, printed by a program of ours. No condition. -/
import Derived.Test.YtohgkgbemnhhgaaGreatDoorWF0
namespace Go.V
open Go.Proofs
set_option maxRecDepth 100000
set_option linter.unusedVariables false
abbrev G191 : Type := (D78) → (Int) → Option (Bool × Unit)
noncomputable def H191 (g : G191) : Fun := ⟨[(.ro Y78), (.ro (.int .i64))], [(.bool, .z)], fun z => g z.1 z.2.1⟩

/- 191: loop.example/g00380/spec.l01OK -/
noncomputable def B191_R15 (g : G191) (e1_0 : Unit → Option (Bool × Unit)) (er_1 : Bool × Unit → Option (Bool × Unit)) (rec : Int × List (D78) × Int × Unit → Option (Bool × Unit)) (x7 : Int × List (D78) × Int × Unit) : Option (Bool × Unit) :=
 (cond (decide (x7.2.2.1 < (((List.length x7.2.1) : Nat) : Int)))
 (gd (decide ((0 : Int) ≤ x7.2.2.1))
 (Option.bind x7.2.1[(Int.toNat x7.2.2.1)]? fun y10 =>
 (Option.bind (g y10 (IntKind.wrap IntKind.i64 (x7.1 - (1 : Int)))) fun y11 =>
 (cond (!y11.1)
 (er_1 (false, ()))
 (rec (x7.1, x7.2.1, (IntKind.wrap IntKind.i64 (x7.2.2.1 + (1 : Int))), ()))))))
 (e1_0 (())))

noncomputable def B191_R25 (g : G191) (e3_0 : Unit → Option (Bool × Unit)) (er_1 : Bool × Unit → Option (Bool × Unit)) (rec : Int × List (D253) × Int × Unit → Option (Bool × Unit)) (x18 : Int × List (D253) × Int × Unit) : Option (Bool × Unit) :=
 (cond (decide (x18.2.2.1 < (((List.length x18.2.1) : Nat) : Int)))
 (let j29 : Int × List (D253) × Int × Unit → Option (Bool × Unit) := fun (y30 : Int × List (D253) × Int × Unit) =>
 (rec (y30.1, y30.2.1, (IntKind.wrap IntKind.i64 (y30.2.2.1 + (1 : Int))), ()))
 (gd (decide ((0 : Int) ≤ x18.2.2.1))
 (Option.bind x18.2.1[(Int.toNat x18.2.2.1)]? fun y21 =>
 (Option.bind (F84 y21.1) fun y22 =>
 (cond (!y22.1)
 (er_1 (false, ()))
 (cond (decide (x18.2.2.1 > (0 : Int)))
 (gd (decide ((0 : Int) ≤ (IntKind.wrap IntKind.i64 (x18.2.2.1 - (1 : Int)))))
 (Option.bind x18.2.1[(Int.toNat (IntKind.wrap IntKind.i64 (x18.2.2.1 - (1 : Int))))]? fun y23 =>
 (gd (decide ((0 : Int) ≤ x18.2.2.1))
 (Option.bind x18.2.1[(Int.toNat x18.2.2.1)]? fun y24 =>
 (cond (!(Op.bytesLess y23.1 y24.1))
 (er_1 (false, ()))
 (gd (decide ((0 : Int) ≤ x18.2.2.1))
 (Option.bind x18.2.1[(Int.toNat x18.2.2.1)]? fun y25 =>
 (Option.bind (g y25.2.1 (IntKind.wrap IntKind.i64 (x18.1 - (1 : Int)))) fun y26 =>
 (cond (!y26.1)
 (er_1 (false, ()))
 (j29 (x18.1, x18.2.1, x18.2.2.1, ())))))))))))
 (gd (decide ((0 : Int) ≤ x18.2.2.1))
 (Option.bind x18.2.1[(Int.toNat x18.2.2.1)]? fun y27 =>
 (Option.bind (g y27.2.1 (IntKind.wrap IntKind.i64 (x18.1 - (1 : Int)))) fun y28 =>
 (cond (!y28.1)
 (er_1 (false, ()))
 (j29 (x18.1, x18.2.1, x18.2.2.1, ()))))))))))))
 (e3_0 (())))

noncomputable def B191 (g : G191) (a0 : D78) (a1 : Int) : Option (Bool × Unit) :=
 (cond (a0.1 == (0 : Int))
 (cond (a0.2.1 == (0 : Int))
 (some ((a0.2.2.1 == []), ()))
 (some (false, ())))
 (cond (a0.1 == (1 : Int))
 (Option.bind (F26 a0.2.1 (0 : Int) (1 : Int)) fun y1 =>
 (cond y1.1
 (some ((a0.2.2.1 == []), ()))
 (some (false, ()))))
 (cond (a0.1 == (2 : Int))
 (Option.bind (F26 a0.2.1 (-(1000000000000 : Int)) (1000000000000 : Int)) fun y2 =>
 (cond y2.1
 (some ((a0.2.2.1 == []), ()))
 (some (false, ()))))
 (cond (a0.1 == (3 : Int))
 (cond (a0.2.1 == (0 : Int))
 (some ((decide ((((List.length a0.2.2.1) : Nat) : Int) ≤ (300 : Int))), ()))
 (some (false, ())))
 (cond (a0.1 == (4 : Int))
 (Option.bind (F195 a0.2.2.1) fun y3 =>
 (cond (a0.2.1 != (0 : Int))
 (some (false, ()))
 (cond (!y3.2.1)
 (some (false, ()))
 (cond (decide ((((List.length a0.2.2.1) : Nat) : Int) > (300 : Int)))
 (some (false, ()))
 (cond (a1 == (0 : Int))
 (some (false, ()))
 (iter (B191_R15 g
 (fun y12 =>
 (some (true, ())))
 (fun y13 =>
 (some (y13.1, ())))) fuel (a1, y3.1, (0 : Int), ())))))))
 (cond (a0.1 == (5 : Int))
 (Option.bind (F192 a0.2.2.1) fun y14 =>
 (cond (a0.2.1 != (0 : Int))
 (some (false, ()))
 (cond (!y14.2.1)
 (some (false, ()))
 (cond (decide ((((List.length a0.2.2.1) : Nat) : Int) > (300 : Int)))
 (some (false, ()))
 (cond (a1 == (0 : Int))
 (some (false, ()))
 (iter (B191_R25 g
 (fun y31 =>
 (some (true, ())))
 (fun y32 =>
 (some (y32.1, ())))) fuel (a1, y14.1, (0 : Int), ())))))))
 (some (false, ()))))))))

noncomputable def K191 (g : G191) : Fun := ⟨[(.ro Y78), (.ro (.int .i64))], [(.bool, .z)], fun z => B191 g z.1 z.2.1⟩
noncomputable def E191 (g : G191) : Env := ⟨160, tyTab tys, oneTab ones, fnTab [(26, C26), (84, C84), (191, (H191 g)), (192, C192), (195, C195)], false, [], [(14, [1, 5], []), (15, [1, 5, 7], []), (16, [1, 5, 7], []), (17, [1, 5, 7], []), (19, [], []), (24, [1, 8], []), (25, [1, 8, 10], []), (26, [1, 8, 10], []), (27, [1, 8, 10], []), (29, [], []), (30, [], []), (100000, [], []), (100001, [], []), (100002, [1, 5, 7], []), (100003, [], []), (100004, [1, 8, 10], []), (99999, [4], [])], none, []⟩
noncomputable def L191 (g : G191) : List (LoopS (Bool × Unit)) := [⟨15, ⟨[(1, (.pv (.int .i64))), (5, (.pv (.slice Y78))), (7, (.pv (.int .i64)))], []⟩, fun κ => B191_R15 g (fun y => κ.exit 1 (SSh.mk' ⟨[], []⟩ y)) (fun y => κ.ret (SSh.mk' ⟨[(4, (.pv .bool))], []⟩ y))⟩,
  ⟨25, ⟨[(1, (.pv (.int .i64))), (8, (.pv (.slice Y253))), (10, (.pv (.int .i64)))], []⟩, fun κ => B191_R25 g (fun y => κ.exit 3 (SSh.mk' ⟨[], []⟩ y)) (fun y => κ.ret (SSh.mk' ⟨[(4, (.pv .bool))], []⟩ y))⟩]
theorem L191_25 (g : G191) : ∀ (κ : Kont (Bool × Unit)) (N : St → Option (Bool × Unit)) (x : (((L191 g)[1]'(Nat.le_of_ble_eq_true rfl))).sh.den), execK (E191 g) (lpOf (L191 g)) (nthLoop (codeOf Tryz.f191) 1) { κ with normal := fun σ => N (σ.keepAt ((E191 g)).hints 25) } ((((L191 g)[1]'(Nat.le_of_ble_eq_true rfl))).sh.mk' x) = (((L191 g)[1]'(Nat.le_of_ble_eq_true rfl))).R κ (fun x => N ((((L191 g)[1]'(Nat.le_of_ble_eq_true rfl))).sh.mk' x)) x :=
  fun κ N x => by kernel_rfl
theorem L191_15 (g : G191) : ∀ (κ : Kont (Bool × Unit)) (N : St → Option (Bool × Unit)) (x : (((L191 g)[0]'(Nat.le_of_ble_eq_true rfl))).sh.den), execK (E191 g) (lpOf (L191 g)) (nthLoop (codeOf Tryz.f191) 0) { κ with normal := fun σ => N (σ.keepAt ((E191 g)).hints 15) } ((((L191 g)[0]'(Nat.le_of_ble_eq_true rfl))).sh.mk' x) = (((L191 g)[0]'(Nat.le_of_ble_eq_true rfl))).R κ (fun x => N ((((L191 g)[0]'(Nat.le_of_ble_eq_true rfl))).sh.mk' x)) x :=
  fun κ N x => by kernel_rfl
theorem K191_ok (g : G191) (hg : QuietOk Tryz.prog 191 (H191 g)) : QuietOk Tryz.prog 191 (K191 g) :=
  told (env := (E191 g)) (fn := Tryz.f191) (c := (codeOf Tryz.f191)) (tbl := (L191 g)) (ls := [nthLoop (codeOf Tryz.f191) 0, nthLoop (codeOf Tryz.f191) 1]) (vars := Tryz.f191.results.toList) Tryz.func191 (tysC_ok tys_ok rfl rfl) (Told.fnOk (.cons C26_ok (.cons C84_ok (.cons hg (.cons C192_ok (.cons C195_ok .nil))))) rfl) (by kernel_rfl) (by decide) rfl (by decide) rfl rfl rfl (by kernel_rfl) (.cons ((L191 g)[0]'(Nat.le_of_ble_eq_true rfl)) (by kernel_rfl) (L191_15 g) (.cons ((L191 g)[1]'(Nat.le_of_ble_eq_true rfl)) (by kernel_rfl) (L191_25 g) .nil)) (by kernel_rfl)

noncomputable def S191 : Nat → G191
  | 0 => fun _ _ => none
  | k + 1 => B191 (S191 k)
noncomputable def F191 : G191 := S191 fuel
noncomputable def C191 : Fun := H191 F191
theorem C191_all : ∀ k, QuietOk Tryz.prog 191 (H191 (S191 k))
  | 0 => QuietOk.none Tryz.func191 (by rfl) (by decide) fun _ => rfl
  | k + 1 => K191_ok (S191 k) (C191_all k)
theorem C191_ok : QuietOk Tryz.prog 191 C191 := C191_all fuel

/- 163: loop.example/g00380/spec.ValueOK -/
noncomputable def F163 (a0 : D78) : Option (Bool × Unit) :=
 (cond (decide ((((List.length a0.2.2.1) : Nat) : Int) ≤ (65536 : Int)))
 (Option.bind (F191 a0 (5 : Int)) fun y0 =>
 (some (y0.1, ())))
 (some (false, ())))

noncomputable def C163 : Fun := ⟨[(.ro Y78)], [(.bool, .z)], fun z => F163 z.1⟩
noncomputable def E163 : Env := ⟨11, tyTab tys, oneTab ones, fnTab [(191, C191)], false, [], [(99999, [2], [])], none, []⟩
noncomputable def L163 : List (LoopS (Bool × Unit)) := []
theorem C163_ok : QuietOk Tryz.prog 163 C163 :=
  told (env := E163) (fn := Tryz.f163) (c := (codeOf Tryz.f163)) (tbl := L163) (ls := []) (vars := Tryz.f163.results.toList) Tryz.func163 (tysC_ok tys_ok rfl rfl) (Told.fnOk (.cons C191_ok .nil) rfl) (by kernel_rfl) (by decide) rfl (by decide) rfl rfl rfl (by kernel_rfl) .nil (by kernel_rfl)

/- 126: loop.example/g00380/spec.l03Doc -/
noncomputable def F126 (a0 : D78) : Option (Bool × Unit) :=
 (Option.bind (F163 a0) fun y0 =>
 (cond y0.1
 (some ((a0.1 == (5 : Int)), ()))
 (some (false, ()))))

noncomputable def C126 : Fun := ⟨[(.ro Y78)], [(.bool, .z)], fun z => F126 z.1⟩
noncomputable def E126 : Env := ⟨10, tyTab tys, oneTab ones, fnTab [(163, C163)], false, [], [(99999, [2], [])], none, []⟩
noncomputable def L126 : List (LoopS (Bool × Unit)) := []
theorem C126_ok : QuietOk Tryz.prog 126 C126 :=
  told (env := E126) (fn := Tryz.f126) (c := (codeOf Tryz.f126)) (tbl := L126) (ls := []) (vars := Tryz.f126.results.toList) Tryz.func126 (tysC_ok tys_ok rfl rfl) (Told.fnOk (.cons C163_ok .nil) rfl) (by kernel_rfl) (by decide) rfl (by decide) rfl rfl rfl (by kernel_rfl) .nil (by kernel_rfl)

/- 164: loop.example/g00380/spec.l02Field -/
noncomputable def F164_R3 (e0_0 : D78 × Unit → Option (D78 × Bool × Unit)) (er_1 : Bool × D78 × Unit → Option (D78 × Bool × Unit)) (rec : List UInt8 × List (D253) × Int × D78 × Unit → Option (D78 × Bool × Unit)) (x3 : List UInt8 × List (D253) × Int × D78 × Unit) : Option (D78 × Bool × Unit) :=
 (cond (decide (x3.2.2.1 < (((List.length x3.2.1) : Nat) : Int)))
 (gd (decide ((0 : Int) ≤ x3.2.2.1))
 (Option.bind x3.2.1[(Int.toNat x3.2.2.1)]? fun y6 =>
 (cond (y6.1 == x3.1)
 (gd (decide ((0 : Int) ≤ x3.2.2.1))
 (Option.bind x3.2.1[(Int.toNat x3.2.2.1)]? fun y7 =>
 (er_1 (true, y7.2.1, ()))))
 (rec (x3.1, x3.2.1, (IntKind.wrap IntKind.i64 (x3.2.2.1 + (1 : Int))), x3.2.2.2.1, ())))))
 (e0_0 (x3.2.2.2.1, ())))

noncomputable def F164 (a0 : D78) (a1 : List UInt8) : Option (D78 × Bool × Unit) :=
 (Option.bind (F192 a0.2.2.1) fun y0 =>
 (iter (F164_R3
 (fun y8 =>
 (some (((0 : Int), ((0 : Int), ([], ()))), (false, ()))))
 (fun y9 =>
 (some (y9.2.1, (y9.1, ()))))) fuel (a1, y0.1, (0 : Int), ((0 : Int), ((0 : Int), ([], ()))), ())))

noncomputable def C164 : Fun := ⟨[(.ro Y78), (.ro .str)], [(Y78, .z), (.bool, .z)], fun z => F164 z.1 z.2.1⟩
noncomputable def E164 : Env := ⟨34, tyTab tys, oneTab ones, fnTab [(192, C192)], false, [], [(3, [1, 4, 6, 8], []), (4, [1, 4, 6, 8], []), (5, [1, 4, 6, 8], []), (7, [4], []), (100000, [4], []), (100001, [1, 4, 6, 8], []), (99999, [4, 5], [])], none, []⟩
noncomputable def L164 : List (LoopS (D78 × Bool × Unit)) := [⟨3, ⟨[(1, (.pv .str)), (4, (.ptr 32 [])), (6, (.pv (.slice Y253))), (8, (.pv (.int .i64)))], [(32, (.data true Y78 .z))]⟩, fun κ => F164_R3 (fun y => κ.exit 0 (SSh.mk' ⟨[(4, (.ptr 32 []))], [(32, (.data true Y78 .z))]⟩ y)) (fun y => κ.ret (SSh.mk' ⟨[(4, (.ptr 32 [])), (5, (.pv .bool))], [(32, (.data true Y78 .z))]⟩ y))⟩]
theorem L164_3 : ∀ (κ : Kont (D78 × Bool × Unit)) (N : St → Option (D78 × Bool × Unit)) (x : (L164[0]).sh.den), execK E164 (lpOf L164) (nthLoop (codeOf Tryz.f164) 0) { κ with normal := fun σ => N (σ.keepAt (E164).hints 3) } ((L164[0]).sh.mk' x) = (L164[0]).R κ (fun x => N ((L164[0]).sh.mk' x)) x :=
  fun κ N x => by kernel_rfl
theorem C164_ok : QuietOk Tryz.prog 164 C164 :=
  told (env := E164) (fn := Tryz.f164) (c := (codeOf Tryz.f164)) (tbl := L164) (ls := [nthLoop (codeOf Tryz.f164) 0]) (vars := Tryz.f164.results.toList) Tryz.func164 (tysC_ok tys_ok rfl rfl) (Told.fnOk (.cons C192_ok .nil) rfl) (by kernel_rfl) (by decide) rfl (by decide) rfl rfl rfl (by kernel_rfl) (.cons L164[0] (by kernel_rfl) L164_3 .nil) (by kernel_rfl)

/- 127: loop.example/g00380/spec.l06Id -/
noncomputable def F127 (a0 : D78) : Option (Int × Unit) :=
 (Option.bind (F164 a0 [(105 : UInt8), (100 : UInt8)]) fun y0 =>
 (cond (!y0.2.1)
 (some ((-(1 : Int)), ()))
 (cond (y0.1.1 != (2 : Int))
 (some ((-(1 : Int)), ()))
 (Option.bind (F26 y0.1.2.1 (0 : Int) (99 : Int)) fun y2 =>
 (cond (!y2.1)
 (some ((-(1 : Int)), ()))
 (some (y0.1.2.1, ())))))))

noncomputable def C127 : Fun := ⟨[(.ro Y78)], [((.int .i64), .z)], fun z => F127 z.1⟩
noncomputable def E127 : Env := ⟨25, tyTab tys, oneTab ones, fnTab [(26, C26), (164, C164)], false, [], [(4, [3], []), (99999, [2], [])], none, []⟩
noncomputable def L127 : List (LoopS (Int × Unit)) := []
theorem C127_ok : QuietOk Tryz.prog 127 C127 :=
  told (env := E127) (fn := Tryz.f127) (c := (codeOf Tryz.f127)) (tbl := L127) (ls := []) (vars := Tryz.f127.results.toList) Tryz.func127 (tysC_ok tys_ok rfl rfl) (Told.fnOk (.cons C26_ok (.cons C164_ok .nil)) rfl) (by kernel_rfl) (by decide) rfl (by decide) rfl rfl rfl (by kernel_rfl) .nil (by kernel_rfl)

/- 86: loop.example/g00380/spec.l08Doc -/
noncomputable def F86 (a0 : Int) (a1 : Bool) (a2 : D78) : Option (Bool × Unit) :=
 (cond a1
 (some (((decide (a2.1 = (0 : Int))) && ((decide (a2.2.1 = (0 : Int))) && ((a2.2.2.1 == []) && true))), ()))
 (Option.bind (F126 a2) fun y1 =>
 (cond y1.1
 (Option.bind (F127 a2) fun y2 =>
 (some ((y2.1 == a0), ())))
 (some (false, ())))))

noncomputable def C86 : Fun := ⟨[(.ro (.int .i64)), (.ro .bool), (.ro Y78)], [(.bool, .z)], fun z => F86 z.1 z.2.1 z.2.2.1⟩
noncomputable def E86 : Env := ⟨19, tyTab tys, oneTab ones, fnTab [(126, C126), (127, C127)], false, [], [(3, [0, 5], []), (99999, [6], [])], none, []⟩
noncomputable def L86 : List (LoopS (Bool × Unit)) := []
theorem C86_ok : QuietOk Tryz.prog 86 C86 :=
  told (env := E86) (fn := Tryz.f86) (c := (codeOf Tryz.f86)) (tbl := L86) (ls := []) (vars := Tryz.f86.results.toList) Tryz.func86 (tysC_ok tys_ok rfl rfl) (Told.fnOk (.cons C126_ok (.cons C127_ok .nil)) rfl) (by kernel_rfl) (by decide) rfl (by decide) rfl rfl rfl (by kernel_rfl) .nil (by kernel_rfl)

/- 53: loop.example/g00380/spec.CollOK -/
noncomputable def F53_R9 (e2_0 : Int × D57 × Unit → Option (Bool × Unit)) (er_1 : Bool × Unit → Option (Bool × Unit)) (rec : Int × Int × D57 × Unit → Option (Bool × Unit)) (x11 : Int × Int × D57 × Unit) : Option (Bool × Unit) :=
 (cond (decide (x11.2.1 < x11.1))
 (gd (decide ((0 : Int) ≤ x11.2.1))
 (Option.bind x11.2.2.1.2.2.1[(Int.toNat x11.2.1)]? fun y14 =>
 (gd (decide ((0 : Int) ≤ x11.1))
 (Option.bind x11.2.2.1.2.2.1[(Int.toNat x11.1)]? fun y15 =>
 (cond (y14.1 == y15.1)
 (er_1 (false, ()))
 (rec (x11.1, (IntKind.wrap IntKind.i64 (x11.2.1 + (1 : Int))), x11.2.2.1, ())))))))
 (e2_0 (x11.1, x11.2.2.1, ())))

noncomputable def F53_R4 (e0_0 : D57 × Unit → Option (Bool × Unit)) (er_1 : Bool × Unit → Option (Bool × Unit)) (rec : Int × D57 × Unit → Option (Bool × Unit)) (x4 : Int × D57 × Unit) : Option (Bool × Unit) :=
 (cond (decide (x4.1 < (((List.length x4.2.1.2.2.1) : Nat) : Int)))
 (gd (decide ((0 : Int) ≤ x4.1))
 (Option.bind x4.2.1.2.2.1[(Int.toNat x4.1)]? fun y8 =>
 (Option.bind (F85 y8) fun y9 =>
 (cond (!y9.1)
 (er_1 (false, ()))
 (iter (F53_R9
 (fun y16 =>
 (rec ((IntKind.wrap IntKind.i64 (y16.1 + (1 : Int))), y16.2.1, ())))
 (fun y17 =>
 (er_1 (y17.1, ())))) fuel (x4.1, (0 : Int), x4.2.1, ()))))))
 (e0_0 (x4.2.1, ())))

noncomputable def F53_R20 (e6_0 : Int × D57 × Unit → Option (Bool × Unit)) (er_1 : Bool × Unit → Option (Bool × Unit)) (rec : Int × Int × D57 × D76 × Unit → Option (Bool × Unit)) (x34 : Int × Int × D57 × D76 × Unit) : Option (Bool × Unit) :=
 (cond (decide (x34.2.1 < (((List.length x34.2.2.2.1.2.1) : Nat) : Int)))
 (let j42 : Int × Int × D57 × D76 × Unit → Option (Bool × Unit) := fun (y43 : Int × Int × D57 × D76 × Unit) =>
 (rec (y43.1, (IntKind.wrap IntKind.i64 (y43.2.1 + (1 : Int))), y43.2.2.1, y43.2.2.2.1, ()))
 (gd (decide ((0 : Int) ≤ x34.2.1))
 (Option.bind x34.2.2.2.1.2.1[(Int.toNat x34.2.1)]? fun y37 =>
 (Option.bind (F26 y37.1 (1 : Int) (10000 : Int)) fun y38 =>
 (cond (!y38.1)
 (er_1 (false, ()))
 (cond (decide (x34.2.1 > (0 : Int)))
 (gd (decide ((0 : Int) ≤ (IntKind.wrap IntKind.i64 (x34.2.1 - (1 : Int)))))
 (Option.bind x34.2.2.2.1.2.1[(Int.toNat (IntKind.wrap IntKind.i64 (x34.2.1 - (1 : Int))))]? fun y39 =>
 (cond (decide (y39.1 ≥ y37.1))
 (er_1 (false, ()))
 (Option.bind (F86 x34.2.2.2.1.1 y37.2.1 y37.2.2.1) fun y40 =>
 (cond (!y40.1)
 (er_1 (false, ()))
 (j42 (x34.1, x34.2.1, x34.2.2.1, x34.2.2.2.1, ())))))))
 (Option.bind (F86 x34.2.2.2.1.1 y37.2.1 y37.2.2.1) fun y41 =>
 (cond (!y41.1)
 (er_1 (false, ()))
 (j42 (x34.1, x34.2.1, x34.2.2.1, x34.2.2.2.1, ()))))))))))
 (e6_0 (x34.1, x34.2.2.1, ())))

noncomputable def F53_R14 (e4_0 : Unit → Option (Bool × Unit)) (er_1 : Bool × Unit → Option (Bool × Unit)) (rec : Int × D57 × Unit → Option (Bool × Unit)) (x22 : Int × D57 × Unit) : Option (Bool × Unit) :=
 (cond (decide (x22.1 < (((List.length x22.2.1.2.1) : Nat) : Int)))
 (gd (decide ((0 : Int) ≤ x22.1))
 (Option.bind x22.2.1.2.1[(Int.toNat x22.1)]? fun y25 =>
 (let j31 : Int × D57 × D76 × Unit → Option (Bool × Unit) := fun (y32 : Int × D57 × D76 × Unit) =>
 (iter (F53_R20
 (fun y44 =>
 (rec ((IntKind.wrap IntKind.i64 (y44.1 + (1 : Int))), y44.2.1, ())))
 (fun y45 =>
 (er_1 (y45.1, ())))) fuel (y32.1, (0 : Int), y32.2.1, y32.2.2.1, ()))
 (Option.bind (F26 y25.1 (0 : Int) (19 : Int)) fun y27 =>
 (cond (!y27.1)
 (er_1 (false, ()))
 (cond (decide (x22.1 > (0 : Int)))
 (gd (decide ((0 : Int) ≤ (IntKind.wrap IntKind.i64 (x22.1 - (1 : Int)))))
 (Option.bind x22.2.1.2.1[(Int.toNat (IntKind.wrap IntKind.i64 (x22.1 - (1 : Int))))]? fun y28 =>
 (cond (decide (y28.1 ≥ y25.1))
 (er_1 (false, ()))
 (Option.bind (F26 (((List.length y25.2.1) : Nat) : Int) (1 : Int) (12 : Int)) fun y29 =>
 (cond (!y29.1)
 (er_1 (false, ()))
 (j31 (x22.1, x22.2.1, y25, ())))))))
 (Option.bind (F26 (((List.length y25.2.1) : Nat) : Int) (1 : Int) (12 : Int)) fun y30 =>
 (cond (!y30.1)
 (er_1 (false, ()))
 (j31 (x22.1, x22.2.1, y25, ()))))))))))
 (e4_0 (())))

noncomputable def F53 (a0 : D57) : Option (Bool × Unit) :=
 (Option.bind (F84 a0.1) fun y1 =>
 (cond (!y1.1)
 (some (false, ()))
 (cond (decide ((((List.length a0.2.1) : Nat) : Int) > (20 : Int)))
 (some (false, ()))
 (cond (decide ((((List.length a0.2.2.1) : Nat) : Int) > (3 : Int)))
 (some (false, ()))
 (iter (F53_R4
 (fun y18 =>
 (iter (F53_R14
 (fun y46 =>
 (some (true, ())))
 (fun y47 =>
 (some (y47.1, ())))) fuel ((0 : Int), y18.1, ())))
 (fun y19 =>
 (some (y19.1, ())))) fuel ((0 : Int), a0, ()))))))

noncomputable def C53 : Fun := ⟨[(.ro Y57)], [(.bool, .z)], fun z => F53 z.1⟩
noncomputable def E53 : Env := ⟨138, tyTab tys, oneTab ones, fnTab [(26, C26), (84, C84), (85, C85), (86, C86)], false, [], [(3, [1], []), (4, [1, 3], []), (5, [1, 3], []), (6, [1, 3], []), (8, [1, 3], []), (9, [1, 3, 4], []), (10, [1, 3, 4], []), (11, [1, 3, 4], []), (13, [1], []), (14, [1, 5], []), (15, [1, 5], []), (16, [1, 5], []), (19, [1, 5, 6], []), (20, [1, 5, 6, 7], []), (21, [1, 5, 6, 7], []), (22, [1, 5, 6, 7], []), (25, [], []), (100000, [1], []), (100001, [1, 3], []), (100002, [1, 3], []), (100003, [1, 3, 4], []), (100004, [], []), (100005, [1, 5], []), (100006, [1, 5], []), (100007, [1, 5, 6, 7], []), (99999, [2], [])], none, []⟩
noncomputable def L53 : List (LoopS (Bool × Unit)) := [⟨9, ⟨[(1, (.ptr 8 [])), (3, (.pv (.int .i64))), (4, (.pv (.int .i64)))], [(8, (.data true Y57 .z))]⟩, fun κ => F53_R9 (fun y => κ.exit 2 (SSh.mk' ⟨[(1, (.ptr 8 [])), (3, (.pv (.int .i64)))], [(8, (.data true Y57 .z))]⟩ y)) (fun y => κ.ret (SSh.mk' ⟨[(2, (.pv .bool))], []⟩ y))⟩,
  ⟨4, ⟨[(1, (.ptr 8 [])), (3, (.pv (.int .i64)))], [(8, (.data true Y57 .z))]⟩, fun κ => F53_R4 (fun y => κ.exit 0 (SSh.mk' ⟨[(1, (.ptr 8 []))], [(8, (.data true Y57 .z))]⟩ y)) (fun y => κ.ret (SSh.mk' ⟨[(2, (.pv .bool))], []⟩ y))⟩,
  ⟨20, ⟨[(1, (.ptr 8 [])), (5, (.pv (.int .i64))), (6, (.ptr 48 [])), (7, (.pv (.int .i64)))], [(8, (.data true Y57 .z)), (48, (.data true Y76 .z))]⟩, fun κ => F53_R20 (fun y => κ.exit 6 (SSh.mk' ⟨[(1, (.ptr 8 [])), (5, (.pv (.int .i64)))], [(8, (.data true Y57 .z))]⟩ y)) (fun y => κ.ret (SSh.mk' ⟨[(2, (.pv .bool))], []⟩ y))⟩,
  ⟨14, ⟨[(1, (.ptr 8 [])), (5, (.pv (.int .i64)))], [(8, (.data true Y57 .z))]⟩, fun κ => F53_R14 (fun y => κ.exit 4 (SSh.mk' ⟨[], []⟩ y)) (fun y => κ.ret (SSh.mk' ⟨[(2, (.pv .bool))], []⟩ y))⟩]
theorem L53_20 : ∀ (κ : Kont (Bool × Unit)) (N : St → Option (Bool × Unit)) (x : (L53[2]).sh.den), execK E53 (lpOf L53) (nthLoop (codeOf Tryz.f53) 3) { κ with normal := fun σ => N (σ.keepAt (E53).hints 20) } ((L53[2]).sh.mk' x) = (L53[2]).R κ (fun x => N ((L53[2]).sh.mk' x)) x :=
  fun κ N x => by kernel_rfl
theorem L53_14 : ∀ (κ : Kont (Bool × Unit)) (N : St → Option (Bool × Unit)) (x : (L53[3]).sh.den), execK E53 (lpOf L53) (nthLoop (codeOf Tryz.f53) 2) { κ with normal := fun σ => N (σ.keepAt (E53).hints 14) } ((L53[3]).sh.mk' x) = (L53[3]).R κ (fun x => N ((L53[3]).sh.mk' x)) x :=
  fun κ N x => by kernel_rfl
theorem L53_9 : ∀ (κ : Kont (Bool × Unit)) (N : St → Option (Bool × Unit)) (x : (L53[0]).sh.den), execK E53 (lpOf L53) (nthLoop (codeOf Tryz.f53) 1) { κ with normal := fun σ => N (σ.keepAt (E53).hints 9) } ((L53[0]).sh.mk' x) = (L53[0]).R κ (fun x => N ((L53[0]).sh.mk' x)) x :=
  fun κ N x => by kernel_rfl
theorem L53_4 : ∀ (κ : Kont (Bool × Unit)) (N : St → Option (Bool × Unit)) (x : (L53[1]).sh.den), execK E53 (lpOf L53) (nthLoop (codeOf Tryz.f53) 0) { κ with normal := fun σ => N (σ.keepAt (E53).hints 4) } ((L53[1]).sh.mk' x) = (L53[1]).R κ (fun x => N ((L53[1]).sh.mk' x)) x :=
  fun κ N x => by kernel_rfl
theorem C53_ok : QuietOk Tryz.prog 53 C53 :=
  told (env := E53) (fn := Tryz.f53) (c := (codeOf Tryz.f53)) (tbl := L53) (ls := [nthLoop (codeOf Tryz.f53) 0, nthLoop (codeOf Tryz.f53) 1, nthLoop (codeOf Tryz.f53) 2, nthLoop (codeOf Tryz.f53) 3]) (vars := Tryz.f53.results.toList) Tryz.func53 (tysC_ok tys_ok rfl rfl) (Told.fnOk (.cons C26_ok (.cons C84_ok (.cons C85_ok (.cons C86_ok .nil)))) rfl) (by kernel_rfl) (by decide) rfl (by decide) rfl rfl rfl (by kernel_rfl) (.cons L53[1] (by kernel_rfl) L53_4 (.cons L53[0] (by kernel_rfl) L53_9 (.cons L53[3] (by kernel_rfl) L53_14 (.cons L53[2] (by kernel_rfl) L53_20 .nil)))) (by kernel_rfl)

/- 27: loop.example/g00380/spec.l10Colls -/
noncomputable def F27_R2 (e0_0 : List (D57) × Unit → Option (Bool × Unit)) (er_1 : Bool × Unit → Option (Bool × Unit)) (rec : List (D57) × Int × Unit → Option (Bool × Unit)) (x2 : List (D57) × Int × Unit) : Option (Bool × Unit) :=
 (cond (decide (x2.2.1 < (((List.length x2.1) : Nat) : Int)))
 (let j9 : List (D57) × Int × Unit → Option (Bool × Unit) := fun (y10 : List (D57) × Int × Unit) =>
 (rec (y10.1, (IntKind.wrap IntKind.i64 (y10.2.1 + (1 : Int))), ()))
 (gd (decide ((0 : Int) ≤ x2.2.1))
 (Option.bind x2.1[(Int.toNat x2.2.1)]? fun y5 =>
 (Option.bind (F53 y5) fun y6 =>
 (cond (!y6.1)
 (er_1 (false, ()))
 (cond (decide (x2.2.1 > (0 : Int)))
 (gd (decide ((0 : Int) ≤ (IntKind.wrap IntKind.i64 (x2.2.1 - (1 : Int)))))
 (Option.bind x2.1[(Int.toNat (IntKind.wrap IntKind.i64 (x2.2.1 - (1 : Int))))]? fun y7 =>
 (gd (decide ((0 : Int) ≤ x2.2.1))
 (Option.bind x2.1[(Int.toNat x2.2.1)]? fun y8 =>
 (cond (!(Op.bytesLess y7.1 y8.1))
 (er_1 (false, ()))
 (j9 (x2.1, x2.2.1, ())))))))
 (j9 (x2.1, x2.2.1, ()))))))))
 (e0_0 (x2.1, ())))

noncomputable def F27 (a0 : List (D57)) : Option (Bool × Unit) :=
 (iter (F27_R2
 (fun y11 =>
 (some ((decide ((((List.length y11.1) : Nat) : Int) ≤ (3 : Int))), ())))
 (fun y12 =>
 (some (y12.1, ())))) fuel (a0, (0 : Int), ()))

noncomputable def C27 : Fun := ⟨[(.ro (.slice Y57))], [(.bool, .z)], fun z => F27 z.1⟩
noncomputable def E27 : Env := ⟨37, tyTab tys, oneTab ones, fnTab [(53, C53)], false, [], [(2, [0, 3], []), (3, [0, 3], []), (4, [0, 3], []), (6, [0], []), (100000, [0], []), (100001, [0, 3], []), (99999, [2], [])], none, []⟩
noncomputable def L27 : List (LoopS (Bool × Unit)) := [⟨2, ⟨[(0, (.pv (.slice Y57))), (3, (.pv (.int .i64)))], []⟩, fun κ => F27_R2 (fun y => κ.exit 0 (SSh.mk' ⟨[(0, (.pv (.slice Y57)))], []⟩ y)) (fun y => κ.ret (SSh.mk' ⟨[(2, (.pv .bool))], []⟩ y))⟩]
theorem L27_2 : ∀ (κ : Kont (Bool × Unit)) (N : St → Option (Bool × Unit)) (x : (L27[0]).sh.den), execK E27 (lpOf L27) (nthLoop (codeOf Tryz.f27) 0) { κ with normal := fun σ => N (σ.keepAt (E27).hints 2) } ((L27[0]).sh.mk' x) = (L27[0]).R κ (fun x => N ((L27[0]).sh.mk' x)) x :=
  fun κ N x => by kernel_rfl
theorem C27_ok : QuietOk Tryz.prog 27 C27 :=
  told (env := E27) (fn := Tryz.f27) (c := (codeOf Tryz.f27)) (tbl := L27) (ls := [nthLoop (codeOf Tryz.f27) 0]) (vars := Tryz.f27.results.toList) Tryz.func27 (tysC_ok tys_ok rfl rfl) (Told.fnOk (.cons C53_ok .nil) rfl) (by kernel_rfl) (by decide) rfl (by decide) rfl rfl rfl (by kernel_rfl) (.cons L27[0] (by kernel_rfl) L27_2 .nil) (by kernel_rfl)

/- 129: loop.example/g00380/spec.TermOK -/
noncomputable def F129 (a0 : D182) : Option (Bool × Unit) :=
 (cond (decide ((((List.length a0.2.1) : Nat) : Int) > (65536 : Int)))
 (some (false, ()))
 (Option.bind (F125 a0.2.1) fun y1 =>
 (cond (!y1.1)
 (some (false, ()))
 (Option.bind (F163 a0.2.2.1) fun y2 =>
 (cond (!y2.1)
 (some (false, ()))
 (let j11 : Unit → Option (Bool × Unit) := fun (y12 : Unit) =>
 (some (false, ()))
 (cond (a0.1 == (1 : Int))
 (cond (a0.1 == (1 : Int))
 (some (true, ()))
 (cond (a0.1 == (7 : Int))
 (some ((a0.2.2.1.1 == (4 : Int)), ()))
 (cond (a0.1 == (8 : Int))
 (some ((a0.2.2.1.1 == (1 : Int)), ()))
 (cond (a0.1 == (9 : Int))
 (cond (a0.2.2.1.1 == (2 : Int))
 (Option.bind (F26 a0.2.2.1.2.1 (0 : Int) (5 : Int)) fun y5 =>
 (some (y5.1, ())))
 (some (false, ())))
 (cond (a0.1 == (10 : Int))
 (cond (a0.2.2.1.1 == (2 : Int))
 (some ((decide (a0.2.2.1.2.1 ≥ (0 : Int))), ()))
 (some (false, ())))
 (j11 (())))))))
 (cond (a0.1 == (2 : Int))
 (cond (a0.1 == (2 : Int))
 (some (true, ()))
 (cond (a0.1 == (7 : Int))
 (some ((a0.2.2.1.1 == (4 : Int)), ()))
 (cond (a0.1 == (8 : Int))
 (some ((a0.2.2.1.1 == (1 : Int)), ()))
 (cond (a0.1 == (9 : Int))
 (cond (a0.2.2.1.1 == (2 : Int))
 (Option.bind (F26 a0.2.2.1.2.1 (0 : Int) (5 : Int)) fun y6 =>
 (some (y6.1, ())))
 (some (false, ())))
 (cond (a0.1 == (10 : Int))
 (cond (a0.2.2.1.1 == (2 : Int))
 (some ((decide (a0.2.2.1.2.1 ≥ (0 : Int))), ()))
 (some (false, ())))
 (j11 (())))))))
 (cond (a0.1 == (3 : Int))
 (cond (a0.1 == (3 : Int))
 (some (true, ()))
 (cond (a0.1 == (7 : Int))
 (some ((a0.2.2.1.1 == (4 : Int)), ()))
 (cond (a0.1 == (8 : Int))
 (some ((a0.2.2.1.1 == (1 : Int)), ()))
 (cond (a0.1 == (9 : Int))
 (cond (a0.2.2.1.1 == (2 : Int))
 (Option.bind (F26 a0.2.2.1.2.1 (0 : Int) (5 : Int)) fun y7 =>
 (some (y7.1, ())))
 (some (false, ())))
 (cond (a0.1 == (10 : Int))
 (cond (a0.2.2.1.1 == (2 : Int))
 (some ((decide (a0.2.2.1.2.1 ≥ (0 : Int))), ()))
 (some (false, ())))
 (j11 (())))))))
 (cond (a0.1 == (4 : Int))
 (cond (a0.1 == (4 : Int))
 (some (true, ()))
 (cond (a0.1 == (7 : Int))
 (some ((a0.2.2.1.1 == (4 : Int)), ()))
 (cond (a0.1 == (8 : Int))
 (some ((a0.2.2.1.1 == (1 : Int)), ()))
 (cond (a0.1 == (9 : Int))
 (cond (a0.2.2.1.1 == (2 : Int))
 (Option.bind (F26 a0.2.2.1.2.1 (0 : Int) (5 : Int)) fun y8 =>
 (some (y8.1, ())))
 (some (false, ())))
 (cond (a0.1 == (10 : Int))
 (cond (a0.2.2.1.1 == (2 : Int))
 (some ((decide (a0.2.2.1.2.1 ≥ (0 : Int))), ()))
 (some (false, ())))
 (j11 (())))))))
 (cond (a0.1 == (5 : Int))
 (cond (a0.1 == (5 : Int))
 (some (true, ()))
 (cond (a0.1 == (7 : Int))
 (some ((a0.2.2.1.1 == (4 : Int)), ()))
 (cond (a0.1 == (8 : Int))
 (some ((a0.2.2.1.1 == (1 : Int)), ()))
 (cond (a0.1 == (9 : Int))
 (cond (a0.2.2.1.1 == (2 : Int))
 (Option.bind (F26 a0.2.2.1.2.1 (0 : Int) (5 : Int)) fun y9 =>
 (some (y9.1, ())))
 (some (false, ())))
 (cond (a0.1 == (10 : Int))
 (cond (a0.2.2.1.1 == (2 : Int))
 (some ((decide (a0.2.2.1.2.1 ≥ (0 : Int))), ()))
 (some (false, ())))
 (j11 (())))))))
 (cond (a0.1 == (6 : Int))
 (some (true, ()))
 (cond (a0.1 == (7 : Int))
 (some ((a0.2.2.1.1 == (4 : Int)), ()))
 (cond (a0.1 == (8 : Int))
 (some ((a0.2.2.1.1 == (1 : Int)), ()))
 (cond (a0.1 == (9 : Int))
 (cond (a0.2.2.1.1 == (2 : Int))
 (Option.bind (F26 a0.2.2.1.2.1 (0 : Int) (5 : Int)) fun y10 =>
 (some (y10.1, ())))
 (some (false, ())))
 (cond (a0.1 == (10 : Int))
 (cond (a0.2.2.1.1 == (2 : Int))
 (some ((decide (a0.2.2.1.2.1 ≥ (0 : Int))), ()))
 (some (false, ())))
 (j11 (()))))))))))))))))))

noncomputable def C129 : Fun := ⟨[(.ro Y182)], [(.bool, .z)], fun z => F129 z.1⟩
noncomputable def E129 : Env := ⟨64, tyTab tys, oneTab ones, fnTab [(26, C26), (125, C125), (163, C163)], false, [], [(3, [1], []), (19, [], []), (100000, [], []), (99999, [2], [])], none, []⟩
noncomputable def L129 : List (LoopS (Bool × Unit)) := []
theorem C129_ok : QuietOk Tryz.prog 129 C129 :=
  told (env := E129) (fn := Tryz.f129) (c := (codeOf Tryz.f129)) (tbl := L129) (ls := []) (vars := Tryz.f129.results.toList) Tryz.func129 (tysC_ok tys_ok rfl rfl) (Told.fnOk (.cons C26_ok (.cons C125_ok (.cons C163_ok .nil))) rfl) (by kernel_rfl) (by decide) rfl (by decide) rfl rfl rfl (by kernel_rfl) .nil (by kernel_rfl)

/- 88: loop.example/g00380/spec.FilterOK -/
noncomputable def F88_R9 (e2_0 : Int × D91 × Unit → Option (Bool × Unit)) (er_1 : Bool × Unit → Option (Bool × Unit)) (rec : Int × Int × D91 × Unit → Option (Bool × Unit)) (x10 : Int × Int × D91 × Unit) : Option (Bool × Unit) :=
 (gd (decide ((0 : Int) ≤ x10.1))
 (Option.bind x10.2.2.1.1[(Int.toNat x10.1)]? fun y12 =>
 (cond (decide (x10.2.1 < (((List.length y12.1) : Nat) : Int)))
 (gd (decide ((0 : Int) ≤ x10.1))
 (Option.bind x10.2.2.1.1[(Int.toNat x10.1)]? fun y14 =>
 (gd (decide ((0 : Int) ≤ x10.2.1))
 (Option.bind y14.1[(Int.toNat x10.2.1)]? fun y15 =>
 (Option.bind (F129 y15) fun y16 =>
 (cond (!y16.1)
 (er_1 (false, ()))
 (rec (x10.1, (IntKind.wrap IntKind.i64 (x10.2.1 + (1 : Int))), x10.2.2.1, ()))))))))
 (e2_0 (x10.1, x10.2.2.1, ())))))

noncomputable def F88_R4 (e0_0 : Unit → Option (Bool × Unit)) (er_1 : Bool × Unit → Option (Bool × Unit)) (rec : Int × D91 × Unit → Option (Bool × Unit)) (x4 : Int × D91 × Unit) : Option (Bool × Unit) :=
 (cond (decide (x4.1 < (((List.length x4.2.1.1) : Nat) : Int)))
 (gd (decide ((0 : Int) ≤ x4.1))
 (Option.bind x4.2.1.1[(Int.toNat x4.1)]? fun y8 =>
 (cond (decide ((((List.length y8.1) : Nat) : Int) > (4 : Int)))
 (er_1 (false, ()))
 (iter (F88_R9
 (fun y17 =>
 (rec ((IntKind.wrap IntKind.i64 (y17.1 + (1 : Int))), y17.2.1, ())))
 (fun y18 =>
 (er_1 (y18.1, ())))) fuel (x4.1, (0 : Int), x4.2.1, ())))))
 (e0_0 (())))

noncomputable def F88 (a0 : D91) : Option (Bool × Unit) :=
 (Option.bind (F26 (((List.length a0.1) : Nat) : Int) (1 : Int) (3 : Int)) fun y1 =>
 (cond (!y1.1)
 (some (false, ()))
 (iter (F88_R4
 (fun y19 =>
 (some (true, ())))
 (fun y20 =>
 (some (y20.1, ())))) fuel ((0 : Int), a0, ()))))

noncomputable def C88 : Fun := ⟨[(.ro Y91)], [(.bool, .z)], fun z => F88 z.1⟩
noncomputable def E88 : Env := ⟨47, tyTab tys, oneTab ones, fnTab [(26, C26), (129, C129)], false, [], [(3, [1], []), (4, [1, 3], []), (5, [1, 3], []), (6, [1, 3], []), (8, [1, 3], []), (9, [1, 3, 4], []), (10, [1, 3, 4], []), (11, [1, 3, 4], []), (13, [], []), (100000, [], []), (100001, [1, 3], []), (100002, [1, 3], []), (100003, [1, 3, 4], []), (99999, [2], [])], none, []⟩
noncomputable def L88 : List (LoopS (Bool × Unit)) := [⟨9, ⟨[(1, (.ptr 8 [])), (3, (.pv (.int .i64))), (4, (.pv (.int .i64)))], [(8, (.data true Y91 .z))]⟩, fun κ => F88_R9 (fun y => κ.exit 2 (SSh.mk' ⟨[(1, (.ptr 8 [])), (3, (.pv (.int .i64)))], [(8, (.data true Y91 .z))]⟩ y)) (fun y => κ.ret (SSh.mk' ⟨[(2, (.pv .bool))], []⟩ y))⟩,
  ⟨4, ⟨[(1, (.ptr 8 [])), (3, (.pv (.int .i64)))], [(8, (.data true Y91 .z))]⟩, fun κ => F88_R4 (fun y => κ.exit 0 (SSh.mk' ⟨[], []⟩ y)) (fun y => κ.ret (SSh.mk' ⟨[(2, (.pv .bool))], []⟩ y))⟩]
theorem L88_9 : ∀ (κ : Kont (Bool × Unit)) (N : St → Option (Bool × Unit)) (x : (L88[0]).sh.den), execK E88 (lpOf L88) (nthLoop (codeOf Tryz.f88) 1) { κ with normal := fun σ => N (σ.keepAt (E88).hints 9) } ((L88[0]).sh.mk' x) = (L88[0]).R κ (fun x => N ((L88[0]).sh.mk' x)) x :=
  fun κ N x => by kernel_rfl
theorem L88_4 : ∀ (κ : Kont (Bool × Unit)) (N : St → Option (Bool × Unit)) (x : (L88[1]).sh.den), execK E88 (lpOf L88) (nthLoop (codeOf Tryz.f88) 0) { κ with normal := fun σ => N (σ.keepAt (E88).hints 4) } ((L88[1]).sh.mk' x) = (L88[1]).R κ (fun x => N ((L88[1]).sh.mk' x)) x :=
  fun κ N x => by kernel_rfl
theorem C88_ok : QuietOk Tryz.prog 88 C88 :=
  told (env := E88) (fn := Tryz.f88) (c := (codeOf Tryz.f88)) (tbl := L88) (ls := [nthLoop (codeOf Tryz.f88) 0, nthLoop (codeOf Tryz.f88) 1]) (vars := Tryz.f88.results.toList) Tryz.func88 (tysC_ok tys_ok rfl rfl) (Told.fnOk (.cons C26_ok (.cons C129_ok .nil)) rfl) (by kernel_rfl) (by decide) rfl (by decide) rfl rfl rfl (by kernel_rfl) (.cons L88[1] (by kernel_rfl) L88_4 (.cons L88[0] (by kernel_rfl) L88_9 .nil)) (by kernel_rfl)

/- 55: loop.example/g00380/spec.ReadOK -/
noncomputable def F55 (a0 : D93) : Option (Bool × Unit) :=
 (Option.bind (F84 a0.1) fun y0 =>
 (cond y0.1
 (Option.bind (F88 a0.2.1) fun y1 =>
 (some (y1.1, ())))
 (some (false, ()))))

noncomputable def C55 : Fun := ⟨[(.ro Y93)], [(.bool, .z)], fun z => F55 z.1⟩
noncomputable def E55 : Env := ⟨11, tyTab tys, oneTab ones, fnTab [(84, C84), (88, C88)], false, [], [(99999, [2], [])], none, []⟩
noncomputable def L55 : List (LoopS (Bool × Unit)) := []
theorem C55_ok : QuietOk Tryz.prog 55 C55 :=
  told (env := E55) (fn := Tryz.f55) (c := (codeOf Tryz.f55)) (tbl := L55) (ls := []) (vars := Tryz.f55.results.toList) Tryz.func55 (tysC_ok tys_ok rfl rfl) (Told.fnOk (.cons C84_ok (.cons C88_ok .nil)) rfl) (by kernel_rfl) (by decide) rfl (by decide) rfl rfl rfl (by kernel_rfl) .nil (by kernel_rfl)

/- 56: loop.example/g00380/spec.l08Write -/
noncomputable def F56 (a0 : D87) : Option (Bool × Unit) :=
 (Option.bind (F84 a0.1) fun y0 =>
 (cond y0.1
 (Option.bind (F26 a0.2.1 (0 : Int) (19 : Int)) fun y1 =>
 (cond y1.1
 (Option.bind (F86 a0.2.1 a0.2.2.1 a0.2.2.2.1) fun y2 =>
 (some (y2.1, ())))
 (some (false, ()))))
 (some (false, ()))))

noncomputable def C56 : Fun := ⟨[(.ro Y87)], [(.bool, .z)], fun z => F56 z.1⟩
noncomputable def E56 : Env := ⟨20, tyTab tys, oneTab ones, fnTab [(26, C26), (84, C84), (86, C86)], false, [], [(99999, [2], [])], none, []⟩
noncomputable def L56 : List (LoopS (Bool × Unit)) := []
theorem C56_ok : QuietOk Tryz.prog 56 C56 :=
  told (env := E56) (fn := Tryz.f56) (c := (codeOf Tryz.f56)) (tbl := L56) (ls := []) (vars := Tryz.f56.results.toList) Tryz.func56 (tysC_ok tys_ok rfl rfl) (Told.fnOk (.cons C26_ok (.cons C84_ok (.cons C86_ok .nil))) rfl) (by kernel_rfl) (by decide) rfl (by decide) rfl rfl rfl (by kernel_rfl) .nil (by kernel_rfl)

/- 128: loop.example/g00380/spec.l09Change -/
noncomputable def F128 (a0 : D95) : Option (Bool × Unit) :=
 (Option.bind (F56 a0.1) fun y0 =>
 (cond y0.1
 (Option.bind (F86 a0.1.2.1 (!a0.2.2.1) a0.2.1) fun y1 =>
 (some (y1.1, ())))
 (some (false, ()))))

noncomputable def C128 : Fun := ⟨[(.ro Y95)], [(.bool, .z)], fun z => F128 z.1⟩
noncomputable def E128 : Env := ⟨17, tyTab tys, oneTab ones, fnTab [(56, C56), (86, C86)], false, [], [(99999, [2], [])], none, []⟩
noncomputable def L128 : List (LoopS (Bool × Unit)) := []
theorem C128_ok : QuietOk Tryz.prog 128 C128 :=
  told (env := E128) (fn := Tryz.f128) (c := (codeOf Tryz.f128)) (tbl := L128) (ls := []) (vars := Tryz.f128.results.toList) Tryz.func128 (tysC_ok tys_ok rfl rfl) (Told.fnOk (.cons C56_ok (.cons C86_ok .nil)) rfl) (by kernel_rfl) (by decide) rfl (by decide) rfl rfl rfl (by kernel_rfl) .nil (by kernel_rfl)

/- 87: loop.example/g00380/spec.l09Lists -/
noncomputable def F87_R2 (e0_0 : List (D93) × List (D95) × Unit → Option (Bool × Unit)) (er_1 : Bool × Unit → Option (Bool × Unit)) (rec : List (D93) × List (D95) × Int × Unit → Option (Bool × Unit)) (x2 : List (D93) × List (D95) × Int × Unit) : Option (Bool × Unit) :=
 (cond (decide (x2.2.2.1 < (((List.length x2.1) : Nat) : Int)))
 (gd (decide ((0 : Int) ≤ x2.2.2.1))
 (Option.bind x2.1[(Int.toNat x2.2.2.1)]? fun y5 =>
 (Option.bind (F55 y5) fun y6 =>
 (cond (!y6.1)
 (er_1 (false, ()))
 (rec (x2.1, x2.2.1, (IntKind.wrap IntKind.i64 (x2.2.2.1 + (1 : Int))), ()))))))
 (e0_0 (x2.1, x2.2.1, ())))

noncomputable def F87_R12 (e4_0 : List (D93) × List (D95) × Int × Unit → Option (Bool × Unit)) (er_1 : Bool × Unit → Option (Bool × Unit)) (rec : List (D93) × List (D95) × Int × Int × Unit → Option (Bool × Unit)) (x18 : List (D93) × List (D95) × Int × Int × Unit) : Option (Bool × Unit) :=
 (cond (decide (x18.2.2.2.1 < x18.2.2.1))
 (let j25 : List (D93) × List (D95) × Int × Int × Unit → Option (Bool × Unit) := fun (y26 : List (D93) × List (D95) × Int × Int × Unit) =>
 (rec (y26.1, y26.2.1, y26.2.2.1, (IntKind.wrap IntKind.i64 (y26.2.2.2.1 + (1 : Int))), ()))
 (gd (decide ((0 : Int) ≤ x18.2.2.2.1))
 (Option.bind x18.2.1[(Int.toNat x18.2.2.2.1)]? fun y21 =>
 (gd (decide ((0 : Int) ≤ x18.2.2.1))
 (Option.bind x18.2.1[(Int.toNat x18.2.2.1)]? fun y22 =>
 (cond (y21.1.1 == y22.1.1)
 (gd (decide ((0 : Int) ≤ x18.2.2.2.1))
 (Option.bind x18.2.1[(Int.toNat x18.2.2.2.1)]? fun y23 =>
 (gd (decide ((0 : Int) ≤ x18.2.2.1))
 (Option.bind x18.2.1[(Int.toNat x18.2.2.1)]? fun y24 =>
 (cond (y23.1.2.1 == y24.1.2.1)
 (er_1 (false, ()))
 (j25 (x18.1, x18.2.1, x18.2.2.1, x18.2.2.2.1, ())))))))
 (j25 (x18.1, x18.2.1, x18.2.2.1, x18.2.2.2.1, ()))))))))
 (e4_0 (x18.1, x18.2.1, x18.2.2.1, ())))

noncomputable def F87_R7 (e2_0 : List (D93) × List (D95) × Unit → Option (Bool × Unit)) (er_1 : Bool × Unit → Option (Bool × Unit)) (rec : List (D93) × List (D95) × Int × Unit → Option (Bool × Unit)) (x11 : List (D93) × List (D95) × Int × Unit) : Option (Bool × Unit) :=
 (cond (decide (x11.2.2.1 < (((List.length x11.2.1) : Nat) : Int)))
 (gd (decide ((0 : Int) ≤ x11.2.2.1))
 (Option.bind x11.2.1[(Int.toNat x11.2.2.1)]? fun y15 =>
 (Option.bind (F128 y15) fun y16 =>
 (cond (!y16.1)
 (er_1 (false, ()))
 (iter (F87_R12
 (fun y27 =>
 (rec (y27.1, y27.2.1, (IntKind.wrap IntKind.i64 (y27.2.2.1 + (1 : Int))), ())))
 (fun y28 =>
 (er_1 (y28.1, ())))) fuel (x11.1, x11.2.1, x11.2.2.1, (0 : Int), ()))))))
 (e2_0 (x11.1, x11.2.1, ())))

noncomputable def F87 (a0 : List (D93)) (a1 : List (D95)) : Option (Bool × Unit) :=
 (iter (F87_R2
 (fun y7 =>
 (iter (F87_R7
 (fun y29 =>
 (cond (decide ((((List.length y29.1) : Nat) : Int) ≤ (20 : Int)))
 (some ((decide ((((List.length y29.2.1) : Nat) : Int) ≤ (60 : Int))), ()))
 (some (false, ()))))
 (fun y30 =>
 (some (y30.1, ())))) fuel (y7.1, y7.2.1, (0 : Int), ())))
 (fun y8 =>
 (some (y8.1, ())))) fuel (a0, a1, (0 : Int), ()))

noncomputable def C87 : Fun := ⟨[(.ro (.slice Y93)), (.ro (.slice Y95))], [(.bool, .z)], fun z => F87 z.1 z.2.1⟩
noncomputable def E87 : Env := ⟨73, tyTab tys, oneTab ones, fnTab [(55, C55), (128, C128)], false, [], [(2, [0, 1, 5], []), (3, [0, 1, 5], []), (4, [0, 1, 5], []), (6, [0, 1], []), (7, [0, 1, 6], []), (8, [0, 1, 6], []), (9, [0, 1, 6], []), (11, [0, 1, 6], []), (12, [0, 1, 6, 7], []), (13, [0, 1, 6, 7], []), (14, [0, 1, 6, 7], []), (16, [0, 1], []), (100000, [0, 1], []), (100001, [0, 1, 5], []), (100002, [0, 1], []), (100003, [0, 1, 6], []), (100004, [0, 1, 6], []), (100005, [0, 1, 6, 7], []), (99999, [4], [])], none, []⟩
noncomputable def L87 : List (LoopS (Bool × Unit)) := [⟨2, ⟨[(0, (.pv (.slice Y93))), (1, (.pv (.slice Y95))), (5, (.pv (.int .i64)))], []⟩, fun κ => F87_R2 (fun y => κ.exit 0 (SSh.mk' ⟨[(0, (.pv (.slice Y93))), (1, (.pv (.slice Y95)))], []⟩ y)) (fun y => κ.ret (SSh.mk' ⟨[(4, (.pv .bool))], []⟩ y))⟩,
  ⟨12, ⟨[(0, (.pv (.slice Y93))), (1, (.pv (.slice Y95))), (6, (.pv (.int .i64))), (7, (.pv (.int .i64)))], []⟩, fun κ => F87_R12 (fun y => κ.exit 4 (SSh.mk' ⟨[(0, (.pv (.slice Y93))), (1, (.pv (.slice Y95))), (6, (.pv (.int .i64)))], []⟩ y)) (fun y => κ.ret (SSh.mk' ⟨[(4, (.pv .bool))], []⟩ y))⟩,
  ⟨7, ⟨[(0, (.pv (.slice Y93))), (1, (.pv (.slice Y95))), (6, (.pv (.int .i64)))], []⟩, fun κ => F87_R7 (fun y => κ.exit 2 (SSh.mk' ⟨[(0, (.pv (.slice Y93))), (1, (.pv (.slice Y95)))], []⟩ y)) (fun y => κ.ret (SSh.mk' ⟨[(4, (.pv .bool))], []⟩ y))⟩]
theorem L87_12 : ∀ (κ : Kont (Bool × Unit)) (N : St → Option (Bool × Unit)) (x : (L87[1]).sh.den), execK E87 (lpOf L87) (nthLoop (codeOf Tryz.f87) 2) { κ with normal := fun σ => N (σ.keepAt (E87).hints 12) } ((L87[1]).sh.mk' x) = (L87[1]).R κ (fun x => N ((L87[1]).sh.mk' x)) x :=
  fun κ N x => by kernel_rfl
theorem L87_7 : ∀ (κ : Kont (Bool × Unit)) (N : St → Option (Bool × Unit)) (x : (L87[2]).sh.den), execK E87 (lpOf L87) (nthLoop (codeOf Tryz.f87) 1) { κ with normal := fun σ => N (σ.keepAt (E87).hints 7) } ((L87[2]).sh.mk' x) = (L87[2]).R κ (fun x => N ((L87[2]).sh.mk' x)) x :=
  fun κ N x => by kernel_rfl
theorem L87_2 : ∀ (κ : Kont (Bool × Unit)) (N : St → Option (Bool × Unit)) (x : (L87[0]).sh.den), execK E87 (lpOf L87) (nthLoop (codeOf Tryz.f87) 0) { κ with normal := fun σ => N (σ.keepAt (E87).hints 2) } ((L87[0]).sh.mk' x) = (L87[0]).R κ (fun x => N ((L87[0]).sh.mk' x)) x :=
  fun κ N x => by kernel_rfl
theorem C87_ok : QuietOk Tryz.prog 87 C87 :=
  told (env := E87) (fn := Tryz.f87) (c := (codeOf Tryz.f87)) (tbl := L87) (ls := [nthLoop (codeOf Tryz.f87) 0, nthLoop (codeOf Tryz.f87) 1, nthLoop (codeOf Tryz.f87) 2]) (vars := Tryz.f87.results.toList) Tryz.func87 (tysC_ok tys_ok rfl rfl) (Told.fnOk (.cons C55_ok (.cons C128_ok .nil)) rfl) (by kernel_rfl) (by decide) rfl (by decide) rfl rfl rfl (by kernel_rfl) (.cons L87[0] (by kernel_rfl) L87_2 (.cons L87[2] (by kernel_rfl) L87_7 (.cons L87[1] (by kernel_rfl) L87_12 .nil))) (by kernel_rfl)

/- 54: loop.example/g00380/spec.DoneOK -/
noncomputable def F54 (a0 : D44) : Option (Bool × Unit) :=
 (Option.bind (F26 a0.1 (0 : Int) (10000 : Int)) fun y0 =>
 (cond y0.1
 (Option.bind (F26 a0.2.1 (IntKind.wrap IntKind.i64 (a0.1 + (1 : Int))) (10000 : Int)) fun y1 =>
 (cond y1.1
 (Option.bind (F87 a0.2.2.1 a0.2.2.2.1) fun y2 =>
 (some (y2.1, ())))
 (some (false, ()))))
 (some (false, ()))))

noncomputable def C54 : Fun := ⟨[(.ro Y44)], [(.bool, .z)], fun z => F54 z.1⟩
noncomputable def E54 : Env := ⟨21, tyTab tys, oneTab ones, fnTab [(26, C26), (87, C87)], false, [], [(99999, [2], [])], none, []⟩
noncomputable def L54 : List (LoopS (Bool × Unit)) := []
theorem C54_ok : QuietOk Tryz.prog 54 C54 :=
  told (env := E54) (fn := Tryz.f54) (c := (codeOf Tryz.f54)) (tbl := L54) (ls := []) (vars := Tryz.f54.results.toList) Tryz.func54 (tysC_ok tys_ok rfl rfl) (Told.fnOk (.cons C26_ok (.cons C87_ok .nil)) rfl) (by kernel_rfl) (by decide) rfl (by decide) rfl rfl rfl (by kernel_rfl) .nil (by kernel_rfl)

/- 28: loop.example/g00380/spec.l09Dones -/
noncomputable def F28_R2 (e0_0 : List (D44) × Unit → Option (Bool × Unit)) (er_1 : Bool × Unit → Option (Bool × Unit)) (rec : List (D44) × Int × Unit → Option (Bool × Unit)) (x2 : List (D44) × Int × Unit) : Option (Bool × Unit) :=
 (cond (decide (x2.2.1 < (((List.length x2.1) : Nat) : Int)))
 (let j13 : List (D44) × Int × Unit → Option (Bool × Unit) := fun (y14 : List (D44) × Int × Unit) =>
 (rec (y14.1, (IntKind.wrap IntKind.i64 (y14.2.1 + (1 : Int))), ()))
 (gd (decide ((0 : Int) ≤ x2.2.1))
 (Option.bind x2.1[(Int.toNat x2.2.1)]? fun y5 =>
 (Option.bind (F54 y5) fun y6 =>
 (cond (!y6.1)
 (er_1 (false, ()))
 (cond (decide (x2.2.1 > (0 : Int)))
 (gd (decide ((0 : Int) ≤ (IntKind.wrap IntKind.i64 (x2.2.1 - (1 : Int)))))
 (Option.bind x2.1[(Int.toNat (IntKind.wrap IntKind.i64 (x2.2.1 - (1 : Int))))]? fun y7 =>
 (gd (decide ((0 : Int) ≤ x2.2.1))
 (Option.bind x2.1[(Int.toNat x2.2.1)]? fun y8 =>
 (cond (decide (y7.2.1 ≥ y8.2.1))
 (er_1 (false, ()))
 (gd (decide ((0 : Int) ≤ x2.2.1))
 (Option.bind x2.1[(Int.toNat x2.2.1)]? fun y9 =>
 (cond y9.2.2.2.2.1
 (gd (decide ((0 : Int) ≤ x2.2.1))
 (Option.bind x2.1[(Int.toNat x2.2.1)]? fun y10 =>
 (cond y10.2.2.2.2.2.1
 (er_1 (false, ()))
 (j13 (x2.1, x2.2.1, ())))))
 (j13 (x2.1, x2.2.1, ()))))))))))
 (gd (decide ((0 : Int) ≤ x2.2.1))
 (Option.bind x2.1[(Int.toNat x2.2.1)]? fun y11 =>
 (cond y11.2.2.2.2.1
 (gd (decide ((0 : Int) ≤ x2.2.1))
 (Option.bind x2.1[(Int.toNat x2.2.1)]? fun y12 =>
 (cond y12.2.2.2.2.2.1
 (er_1 (false, ()))
 (j13 (x2.1, x2.2.1, ())))))
 (j13 (x2.1, x2.2.1, ())))))))))))
 (e0_0 (x2.1, ())))

noncomputable def F28 (a0 : List (D44)) : Option (Bool × Unit) :=
 (iter (F28_R2
 (fun y15 =>
 (some ((decide ((((List.length y15.1) : Nat) : Int) ≤ (30 : Int))), ())))
 (fun y16 =>
 (some (y16.1, ())))) fuel (a0, (0 : Int), ()))

noncomputable def C28 : Fun := ⟨[(.ro (.slice Y44))], [(.bool, .z)], fun z => F28 z.1⟩
noncomputable def E28 : Env := ⟨51, tyTab tys, oneTab ones, fnTab [(54, C54)], false, [], [(2, [0, 3], []), (3, [0, 3], []), (4, [0, 3], []), (6, [0], []), (100000, [0], []), (100001, [0, 3], []), (99999, [2], [])], none, []⟩
noncomputable def L28 : List (LoopS (Bool × Unit)) := [⟨2, ⟨[(0, (.pv (.slice Y44))), (3, (.pv (.int .i64)))], []⟩, fun κ => F28_R2 (fun y => κ.exit 0 (SSh.mk' ⟨[(0, (.pv (.slice Y44)))], []⟩ y)) (fun y => κ.ret (SSh.mk' ⟨[(2, (.pv .bool))], []⟩ y))⟩]
theorem L28_2 : ∀ (κ : Kont (Bool × Unit)) (N : St → Option (Bool × Unit)) (x : (L28[0]).sh.den), execK E28 (lpOf L28) (nthLoop (codeOf Tryz.f28) 0) { κ with normal := fun σ => N (σ.keepAt (E28).hints 2) } ((L28[0]).sh.mk' x) = (L28[0]).R κ (fun x => N ((L28[0]).sh.mk' x)) x :=
  fun κ N x => by kernel_rfl
theorem C28_ok : QuietOk Tryz.prog 28 C28 :=
  told (env := E28) (fn := Tryz.f28) (c := (codeOf Tryz.f28)) (tbl := L28) (ls := [nthLoop (codeOf Tryz.f28) 0]) (vars := Tryz.f28.results.toList) Tryz.func28 (tysC_ok tys_ok rfl rfl) (Told.fnOk (.cons C54_ok .nil) rfl) (by kernel_rfl) (by decide) rfl (by decide) rfl rfl rfl (by kernel_rfl) (.cons L28[0] (by kernel_rfl) L28_2 .nil) (by kernel_rfl)

/- 57: loop.example/g00380/spec.l10Less -/
noncomputable def F57 (a0 : D87) (a1 : D87) : Option (Bool × Unit) :=
 (cond (Op.bytesLess a0.1 a1.1)
 (some (true, ()))
 (cond (a0.1 == a1.1)
 (some ((decide (a0.2.1 < a1.2.1)), ()))
 (some (false, ()))))

noncomputable def C57 : Fun := ⟨[(.ro Y87), (.ro Y87)], [(.bool, .z)], fun z => F57 z.1 z.2.1⟩
noncomputable def E57 : Env := ⟨24, tyTab tys, oneTab ones, fnTab [], false, [], [(99999, [4], [])], none, []⟩
noncomputable def L57 : List (LoopS (Bool × Unit)) := []
theorem C57_ok : QuietOk Tryz.prog 57 C57 :=
  told (env := E57) (fn := Tryz.f57) (c := (codeOf Tryz.f57)) (tbl := L57) (ls := []) (vars := Tryz.f57.results.toList) Tryz.func57 (tysC_ok tys_ok rfl rfl) (Told.fnOk .nil rfl) (by kernel_rfl) (by decide) rfl (by decide) rfl rfl rfl (by kernel_rfl) .nil (by kernel_rfl)

/- 29: loop.example/g00380/spec.TxnOK -/
noncomputable def F29_R4 (e0_0 : D62 × Unit → Option (Bool × Unit)) (er_1 : Bool × Unit → Option (Bool × Unit)) (rec : Int × D62 × Unit → Option (Bool × Unit)) (x5 : Int × D62 × Unit) : Option (Bool × Unit) :=
 (cond (decide (x5.1 < (((List.length x5.2.1.2.2.1) : Nat) : Int)))
 (gd (decide ((0 : Int) ≤ x5.1))
 (Option.bind x5.2.1.2.2.1[(Int.toNat x5.1)]? fun y8 =>
 (Option.bind (F55 y8) fun y9 =>
 (cond (!y9.1)
 (er_1 (false, ()))
 (rec ((IntKind.wrap IntKind.i64 (x5.1 + (1 : Int))), x5.2.1, ()))))))
 (e0_0 (x5.2.1, ())))

noncomputable def F29_R9 (e2_0 : Unit → Option (Bool × Unit)) (er_1 : Bool × Unit → Option (Bool × Unit)) (rec : Int × D62 × Unit → Option (Bool × Unit)) (x14 : Int × D62 × Unit) : Option (Bool × Unit) :=
 (cond (decide (x14.1 < (((List.length x14.2.1.2.2.2.1) : Nat) : Int)))
 (let j22 : Int × D62 × Unit → Option (Bool × Unit) := fun (y23 : Int × D62 × Unit) =>
 (rec ((IntKind.wrap IntKind.i64 (y23.1 + (1 : Int))), y23.2.1, ()))
 (gd (decide ((0 : Int) ≤ x14.1))
 (Option.bind x14.2.1.2.2.2.1[(Int.toNat x14.1)]? fun y17 =>
 (Option.bind (F56 y17) fun y18 =>
 (cond (!y18.1)
 (er_1 (false, ()))
 (cond (decide (x14.1 > (0 : Int)))
 (gd (decide ((0 : Int) ≤ (IntKind.wrap IntKind.i64 (x14.1 - (1 : Int)))))
 (Option.bind x14.2.1.2.2.2.1[(Int.toNat (IntKind.wrap IntKind.i64 (x14.1 - (1 : Int))))]? fun y19 =>
 (gd (decide ((0 : Int) ≤ x14.1))
 (Option.bind x14.2.1.2.2.2.1[(Int.toNat x14.1)]? fun y20 =>
 (Option.bind (F57 y19 y20) fun y21 =>
 (cond (!y21.1)
 (er_1 (false, ()))
 (j22 (x14.1, x14.2.1, ()))))))))
 (j22 (x14.1, x14.2.1, ()))))))))
 (e2_0 (())))

noncomputable def F29 (a0 : D62) : Option (Bool × Unit) :=
 (Option.bind (F26 a0.1 (0 : Int) (3 : Int)) fun y1 =>
 (cond (!y1.1)
 (some (false, ()))
 (Option.bind (F26 a0.2.1 (0 : Int) (10000 : Int)) fun y2 =>
 (cond (!y2.1)
 (some (false, ()))
 (cond (decide ((((List.length a0.2.2.1) : Nat) : Int) > (20 : Int)))
 (some (false, ()))
 (cond (decide ((((List.length a0.2.2.2.1) : Nat) : Int) > (60 : Int)))
 (some (false, ()))
 (iter (F29_R4
 (fun y10 =>
 (iter (F29_R9
 (fun y24 =>
 (some (true, ())))
 (fun y25 =>
 (some (y25.1, ())))) fuel ((0 : Int), y10.1, ())))
 (fun y11 =>
 (some (y11.1, ())))) fuel ((0 : Int), a0, ()))))))))

noncomputable def C29 : Fun := ⟨[(.ro Y62)], [(.bool, .z)], fun z => F29 z.1⟩
noncomputable def E29 : Env := ⟨74, tyTab tys, oneTab ones, fnTab [(26, C26), (55, C55), (56, C56), (57, C57)], false, [], [(3, [1], []), (4, [1, 3], []), (5, [1, 3], []), (6, [1, 3], []), (8, [1], []), (9, [1, 4], []), (10, [1, 4], []), (11, [1, 4], []), (13, [], []), (100000, [1], []), (100001, [1, 3], []), (100002, [], []), (100003, [1, 4], []), (99999, [2], [])], none, []⟩
noncomputable def L29 : List (LoopS (Bool × Unit)) := [⟨4, ⟨[(1, (.ptr 8 [])), (3, (.pv (.int .i64)))], [(8, (.data true Y62 .z))]⟩, fun κ => F29_R4 (fun y => κ.exit 0 (SSh.mk' ⟨[(1, (.ptr 8 []))], [(8, (.data true Y62 .z))]⟩ y)) (fun y => κ.ret (SSh.mk' ⟨[(2, (.pv .bool))], []⟩ y))⟩,
  ⟨9, ⟨[(1, (.ptr 8 [])), (4, (.pv (.int .i64)))], [(8, (.data true Y62 .z))]⟩, fun κ => F29_R9 (fun y => κ.exit 2 (SSh.mk' ⟨[], []⟩ y)) (fun y => κ.ret (SSh.mk' ⟨[(2, (.pv .bool))], []⟩ y))⟩]
theorem L29_9 : ∀ (κ : Kont (Bool × Unit)) (N : St → Option (Bool × Unit)) (x : (L29[1]).sh.den), execK E29 (lpOf L29) (nthLoop (codeOf Tryz.f29) 1) { κ with normal := fun σ => N (σ.keepAt (E29).hints 9) } ((L29[1]).sh.mk' x) = (L29[1]).R κ (fun x => N ((L29[1]).sh.mk' x)) x :=
  fun κ N x => by kernel_rfl
theorem L29_4 : ∀ (κ : Kont (Bool × Unit)) (N : St → Option (Bool × Unit)) (x : (L29[0]).sh.den), execK E29 (lpOf L29) (nthLoop (codeOf Tryz.f29) 0) { κ with normal := fun σ => N (σ.keepAt (E29).hints 4) } ((L29[0]).sh.mk' x) = (L29[0]).R κ (fun x => N ((L29[0]).sh.mk' x)) x :=
  fun κ N x => by kernel_rfl
theorem C29_ok : QuietOk Tryz.prog 29 C29 :=
  told (env := E29) (fn := Tryz.f29) (c := (codeOf Tryz.f29)) (tbl := L29) (ls := [nthLoop (codeOf Tryz.f29) 0, nthLoop (codeOf Tryz.f29) 1]) (vars := Tryz.f29.results.toList) Tryz.func29 (tysC_ok tys_ok rfl rfl) (Told.fnOk (.cons C26_ok (.cons C55_ok (.cons C56_ok (.cons C57_ok .nil)))) rfl) (by kernel_rfl) (by decide) rfl (by decide) rfl rfl rfl (by kernel_rfl) (.cons L29[0] (by kernel_rfl) L29_4 (.cons L29[1] (by kernel_rfl) L29_9 .nil)) (by kernel_rfl)

/- 30: loop.example/g00380/spec.l10Coll -/
noncomputable def F30_R2 (e0_0 : Unit → Option (Int × Unit)) (er_1 : Int × Unit → Option (Int × Unit)) (rec : List (D57) × List UInt8 × Int × Unit → Option (Int × Unit)) (x2 : List (D57) × List UInt8 × Int × Unit) : Option (Int × Unit) :=
 (cond (decide (x2.2.2.1 < (((List.length x2.1) : Nat) : Int)))
 (gd (decide ((0 : Int) ≤ x2.2.2.1))
 (Option.bind x2.1[(Int.toNat x2.2.2.1)]? fun y5 =>
 (cond (y5.1 == x2.2.1)
 (er_1 (x2.2.2.1, ()))
 (rec (x2.1, x2.2.1, (IntKind.wrap IntKind.i64 (x2.2.2.1 + (1 : Int))), ())))))
 (e0_0 (())))

noncomputable def F30 (a0 : List (D57)) (a1 : List UInt8) : Option (Int × Unit) :=
 (iter (F30_R2
 (fun y6 =>
 (some ((-(1 : Int)), ())))
 (fun y7 =>
 (some (y7.1, ())))) fuel (a0, a1, (0 : Int), ()))

noncomputable def C30 : Fun := ⟨[(.ro (.slice Y57)), (.ro .str)], [((.int .i64), .z)], fun z => F30 z.1 z.2.1⟩
noncomputable def E30 : Env := ⟨20, tyTab tys, oneTab ones, fnTab [], false, [], [(2, [0, 1, 5], []), (3, [0, 1, 5], []), (4, [0, 1, 5], []), (6, [], []), (100000, [], []), (100001, [0, 1, 5], []), (99999, [4], [])], none, []⟩
noncomputable def L30 : List (LoopS (Int × Unit)) := [⟨2, ⟨[(0, (.pv (.slice Y57))), (1, (.pv .str)), (5, (.pv (.int .i64)))], []⟩, fun κ => F30_R2 (fun y => κ.exit 0 (SSh.mk' ⟨[], []⟩ y)) (fun y => κ.ret (SSh.mk' ⟨[(4, (.pv (.int .i64)))], []⟩ y))⟩]
theorem L30_2 : ∀ (κ : Kont (Int × Unit)) (N : St → Option (Int × Unit)) (x : (L30[0]).sh.den), execK E30 (lpOf L30) (nthLoop (codeOf Tryz.f30) 0) { κ with normal := fun σ => N (σ.keepAt (E30).hints 2) } ((L30[0]).sh.mk' x) = (L30[0]).R κ (fun x => N ((L30[0]).sh.mk' x)) x :=
  fun κ N x => by kernel_rfl
theorem C30_ok : QuietOk Tryz.prog 30 C30 :=
  told (env := E30) (fn := Tryz.f30) (c := (codeOf Tryz.f30)) (tbl := L30) (ls := [nthLoop (codeOf Tryz.f30) 0]) (vars := Tryz.f30.results.toList) Tryz.func30 (tysC_ok tys_ok rfl rfl) (Told.fnOk .nil rfl) (by kernel_rfl) (by decide) rfl (by decide) rfl rfl rfl (by kernel_rfl) (.cons L30[0] (by kernel_rfl) L30_2 .nil) (by kernel_rfl)

/- 12: loop.example/g00380/spec.StoreOK -/
noncomputable def F12_R7 (e2_0 : Int × D25 × Unit → Option (Bool × Unit)) (er_1 : Bool × Unit → Option (Bool × Unit)) (rec : Int × Int × D25 × Unit → Option (Bool × Unit)) (x10 : Int × Int × D25 × Unit) : Option (Bool × Unit) :=
 (gd (decide ((0 : Int) ≤ x10.1))
 (Option.bind x10.2.2.1.1[(Int.toNat x10.1)]? fun y12 =>
 (cond (decide (x10.2.1 < (((List.length y12.2.1) : Nat) : Int)))
 (gd (decide ((0 : Int) ≤ x10.1))
 (Option.bind x10.2.2.1.1[(Int.toNat x10.1)]? fun y14 =>
 (gd (decide ((0 : Int) ≤ x10.2.1))
 (Option.bind y14.2.1[(Int.toNat x10.2.1)]? fun y15 =>
 (gd (decide ((0 : Int) ≤ (IntKind.wrap IntKind.i64 ((((List.length y15.2.1) : Nat) : Int) - (1 : Int)))))
 (Option.bind y15.2.1[(Int.toNat (IntKind.wrap IntKind.i64 ((((List.length y15.2.1) : Nat) : Int) - (1 : Int))))]? fun y16 =>
 (cond (decide (y16.1 > x10.2.2.1.2.2.2.1))
 (er_1 (false, ()))
 (rec (x10.1, (IntKind.wrap IntKind.i64 (x10.2.1 + (1 : Int))), x10.2.2.1, ())))))))))
 (e2_0 (x10.1, x10.2.2.1, ())))))

noncomputable def F12_R4 (e0_0 : D25 × Unit → Option (Bool × Unit)) (er_1 : Bool × Unit → Option (Bool × Unit)) (rec : Int × D25 × Unit → Option (Bool × Unit)) (x6 : Int × D25 × Unit) : Option (Bool × Unit) :=
 (cond (decide (x6.1 < (((List.length x6.2.1.1) : Nat) : Int)))
 (iter (F12_R7
 (fun y17 =>
 (rec ((IntKind.wrap IntKind.i64 (y17.1 + (1 : Int))), y17.2.1, ())))
 (fun y18 =>
 (er_1 (y18.1, ())))) fuel (x6.1, (0 : Int), x6.2.1, ()))
 (e0_0 (x6.2.1, ())))

noncomputable def F12_R18 (e6_0 : Int × D25 × Unit → Option (Bool × Unit)) (er_1 : Bool × Unit → Option (Bool × Unit)) (rec : Int × Int × D25 × Unit → Option (Bool × Unit)) (x35 : Int × Int × D25 × Unit) : Option (Bool × Unit) :=
 (gd (decide ((0 : Int) ≤ x35.1))
 (Option.bind x35.2.2.1.2.1[(Int.toNat x35.1)]? fun y37 =>
 (cond (decide (x35.2.1 < (((List.length y37.2.2.2.1) : Nat) : Int)))
 (gd (decide ((0 : Int) ≤ x35.1))
 (Option.bind x35.2.2.1.2.1[(Int.toNat x35.1)]? fun y39 =>
 (gd (decide ((0 : Int) ≤ x35.2.1))
 (Option.bind y39.2.2.2.1[(Int.toNat x35.2.1)]? fun y40 =>
 (Option.bind (F30 x35.2.2.1.1 y40.1) fun y41 =>
 (cond (decide (y41.1 < (0 : Int)))
 (er_1 (false, ()))
 (rec (x35.1, (IntKind.wrap IntKind.i64 (x35.2.1 + (1 : Int))), x35.2.2.1, ()))))))))
 (e6_0 (x35.1, x35.2.2.1, ())))))

noncomputable def F12_R13 (e4_0 : D25 × Unit → Option (Bool × Unit)) (er_1 : Bool × Unit → Option (Bool × Unit)) (rec : Int × D25 × Unit → Option (Bool × Unit)) (x23 : Int × D25 × Unit) : Option (Bool × Unit) :=
 (cond (decide (x23.1 < (((List.length x23.2.1.2.1) : Nat) : Int)))
 (let j32 : Int × D25 × Unit → Option (Bool × Unit) := fun (y33 : Int × D25 × Unit) =>
 (iter (F12_R18
 (fun y42 =>
 (rec ((IntKind.wrap IntKind.i64 (y42.1 + (1 : Int))), y42.2.1, ())))
 (fun y43 =>
 (er_1 (y43.1, ())))) fuel (y33.1, (0 : Int), y33.2.1, ()))
 (gd (decide ((0 : Int) ≤ x23.1))
 (Option.bind x23.2.1.2.1[(Int.toNat x23.1)]? fun y27 =>
 (Option.bind (F29 y27) fun y28 =>
 (cond (!y28.1)
 (er_1 (false, ()))
 (gd (decide ((0 : Int) ≤ x23.1))
 (Option.bind x23.2.1.2.1[(Int.toNat x23.1)]? fun y29 =>
 (cond (decide (y29.2.1 > x23.2.1.2.2.2.1))
 (er_1 (false, ()))
 (cond (decide (x23.1 > (0 : Int)))
 (gd (decide ((0 : Int) ≤ (IntKind.wrap IntKind.i64 (x23.1 - (1 : Int)))))
 (Option.bind x23.2.1.2.1[(Int.toNat (IntKind.wrap IntKind.i64 (x23.1 - (1 : Int))))]? fun y30 =>
 (gd (decide ((0 : Int) ≤ x23.1))
 (Option.bind x23.2.1.2.1[(Int.toNat x23.1)]? fun y31 =>
 (cond (decide (y30.1 ≥ y31.1))
 (er_1 (false, ()))
 (j32 (x23.1, x23.2.1, ())))))))
 (j32 (x23.1, x23.2.1, ())))))))))))
 (e4_0 (x23.2.1, ())))

noncomputable def F12 (a0 : D25) : Option (Bool × Unit) :=
 (Option.bind (F26 a0.2.2.2.1 (0 : Int) (10000 : Int)) fun y1 =>
 (cond (!y1.1)
 (some (false, ()))
 (cond ((((List.length a0.1) : Nat) : Int) == (0 : Int))
 (some (false, ()))
 (Option.bind (F27 a0.1) fun y2 =>
 (cond (!y2.1)
 (some (false, ()))
 (cond (decide ((((List.length a0.2.1) : Nat) : Int) > (4 : Int)))
 (some (false, ()))
 (Option.bind (F28 a0.2.2.1) fun y3 =>
 (cond (!y3.1)
 (some (false, ()))
 (iter (F12_R4
 (fun y19 =>
 (iter (F12_R13
 (fun y44 =>
 (cond ((((List.length y44.1.2.2.1) : Nat) : Int) == (0 : Int))
 (some (true, ()))
 (gd (decide ((0 : Int) ≤ (IntKind.wrap IntKind.i64 ((((List.length y44.1.2.2.1) : Nat) : Int) - (1 : Int)))))
 (Option.bind y44.1.2.2.1[(Int.toNat (IntKind.wrap IntKind.i64 ((((List.length y44.1.2.2.1) : Nat) : Int) - (1 : Int))))]? fun y46 =>
 (some ((decide (y46.2.1 ≤ y44.1.2.2.2.1)), ()))))))
 (fun y45 =>
 (some (y45.1, ())))) fuel ((0 : Int), y19.1, ())))
 (fun y20 =>
 (some (y20.1, ())))) fuel ((0 : Int), a0, ()))))))))))

noncomputable def C12 : Fun := ⟨[(.ro Y25)], [(.bool, .z)], fun z => F12 z.1⟩
noncomputable def E12 : Env := ⟨162, tyTab tys, oneTab ones, fnTab [(26, C26), (27, C27), (28, C28), (29, C29), (30, C30)], false, [], [(3, [1], []), (4, [1, 3], []), (5, [1, 3], []), (6, [1, 3], []), (7, [1, 3, 4], []), (8, [1, 3, 4], []), (9, [1, 3, 4], []), (12, [1], []), (13, [1, 6], []), (14, [1, 6], []), (15, [1, 6], []), (17, [1, 6], []), (18, [1, 6, 7], []), (19, [1, 6, 7], []), (20, [1, 6, 7], []), (22, [1], []), (100000, [1], []), (100001, [1, 3], []), (100002, [1, 3], []), (100003, [1, 3, 4], []), (100004, [1], []), (100005, [1, 6], []), (100006, [1, 6], []), (100007, [1, 6, 7], []), (99999, [2], [])], none, []⟩
noncomputable def L12 : List (LoopS (Bool × Unit)) := [⟨7, ⟨[(1, (.ptr 8 [])), (3, (.pv (.int .i64))), (4, (.pv (.int .i64)))], [(8, (.data true Y25 .z))]⟩, fun κ => F12_R7 (fun y => κ.exit 2 (SSh.mk' ⟨[(1, (.ptr 8 [])), (3, (.pv (.int .i64)))], [(8, (.data true Y25 .z))]⟩ y)) (fun y => κ.ret (SSh.mk' ⟨[(2, (.pv .bool))], []⟩ y))⟩,
  ⟨4, ⟨[(1, (.ptr 8 [])), (3, (.pv (.int .i64)))], [(8, (.data true Y25 .z))]⟩, fun κ => F12_R4 (fun y => κ.exit 0 (SSh.mk' ⟨[(1, (.ptr 8 []))], [(8, (.data true Y25 .z))]⟩ y)) (fun y => κ.ret (SSh.mk' ⟨[(2, (.pv .bool))], []⟩ y))⟩,
  ⟨18, ⟨[(1, (.ptr 8 [])), (6, (.pv (.int .i64))), (7, (.pv (.int .i64)))], [(8, (.data true Y25 .z))]⟩, fun κ => F12_R18 (fun y => κ.exit 6 (SSh.mk' ⟨[(1, (.ptr 8 [])), (6, (.pv (.int .i64)))], [(8, (.data true Y25 .z))]⟩ y)) (fun y => κ.ret (SSh.mk' ⟨[(2, (.pv .bool))], []⟩ y))⟩,
  ⟨13, ⟨[(1, (.ptr 8 [])), (6, (.pv (.int .i64)))], [(8, (.data true Y25 .z))]⟩, fun κ => F12_R13 (fun y => κ.exit 4 (SSh.mk' ⟨[(1, (.ptr 8 []))], [(8, (.data true Y25 .z))]⟩ y)) (fun y => κ.ret (SSh.mk' ⟨[(2, (.pv .bool))], []⟩ y))⟩]
theorem L12_18 : ∀ (κ : Kont (Bool × Unit)) (N : St → Option (Bool × Unit)) (x : (L12[2]).sh.den), execK E12 (lpOf L12) (nthLoop (codeOf Tryz.f12) 3) { κ with normal := fun σ => N (σ.keepAt (E12).hints 18) } ((L12[2]).sh.mk' x) = (L12[2]).R κ (fun x => N ((L12[2]).sh.mk' x)) x :=
  fun κ N x => by kernel_rfl
theorem L12_13 : ∀ (κ : Kont (Bool × Unit)) (N : St → Option (Bool × Unit)) (x : (L12[3]).sh.den), execK E12 (lpOf L12) (nthLoop (codeOf Tryz.f12) 2) { κ with normal := fun σ => N (σ.keepAt (E12).hints 13) } ((L12[3]).sh.mk' x) = (L12[3]).R κ (fun x => N ((L12[3]).sh.mk' x)) x :=
  fun κ N x => by kernel_rfl
theorem L12_7 : ∀ (κ : Kont (Bool × Unit)) (N : St → Option (Bool × Unit)) (x : (L12[0]).sh.den), execK E12 (lpOf L12) (nthLoop (codeOf Tryz.f12) 1) { κ with normal := fun σ => N (σ.keepAt (E12).hints 7) } ((L12[0]).sh.mk' x) = (L12[0]).R κ (fun x => N ((L12[0]).sh.mk' x)) x :=
  fun κ N x => by kernel_rfl
theorem L12_4 : ∀ (κ : Kont (Bool × Unit)) (N : St → Option (Bool × Unit)) (x : (L12[1]).sh.den), execK E12 (lpOf L12) (nthLoop (codeOf Tryz.f12) 0) { κ with normal := fun σ => N (σ.keepAt (E12).hints 4) } ((L12[1]).sh.mk' x) = (L12[1]).R κ (fun x => N ((L12[1]).sh.mk' x)) x :=
  fun κ N x => by kernel_rfl
theorem C12_ok : QuietOk Tryz.prog 12 C12 :=
  told (env := E12) (fn := Tryz.f12) (c := (codeOf Tryz.f12)) (tbl := L12) (ls := [nthLoop (codeOf Tryz.f12) 0, nthLoop (codeOf Tryz.f12) 1, nthLoop (codeOf Tryz.f12) 2, nthLoop (codeOf Tryz.f12) 3]) (vars := Tryz.f12.results.toList) Tryz.func12 (tysC_ok tys_ok rfl rfl) (Told.fnOk (.cons C26_ok (.cons C27_ok (.cons C28_ok (.cons C29_ok (.cons C30_ok .nil))))) rfl) (by kernel_rfl) (by decide) rfl (by decide) rfl rfl rfl (by kernel_rfl) (.cons L12[1] (by kernel_rfl) L12_4 (.cons L12[0] (by kernel_rfl) L12_7 (.cons L12[3] (by kernel_rfl) L12_13 (.cons L12[2] (by kernel_rfl) L12_18 .nil)))) (by kernel_rfl)
abbrev G193 : Type := (D78) → (List (List UInt8)) → Option (List (D78) × Unit)
noncomputable def H193 (g : G193) : Fun := ⟨[(.ro Y78), (.ro (.slice .str))], [((.slice Y78), .z)], fun z => g z.1 z.2.1⟩

/- 193: loop.example/g00380/spec.l02Get -/
noncomputable def B193_R17 (g : G193) (e1_0 : List (D78) × Unit → Option (List (D78) × Unit)) (rec : List (List UInt8) × List (D78) × Int × List (D78) × Unit → Option (List (D78) × Unit)) (x13 : List (List UInt8) × List (D78) × Int × List (D78) × Unit) : Option (List (D78) × Unit) :=
 (cond (decide (x13.2.2.1 < (((List.length x13.2.1) : Nat) : Int)))
 (let j19 : List (List UInt8) × List (D78) × Int × List (D78) × Unit → Option (List (D78) × Unit) := fun (y20 : List (List UInt8) × List (D78) × Int × List (D78) × Unit) =>
 (rec (y20.1, y20.2.1, (IntKind.wrap IntKind.i64 (y20.2.2.1 + (1 : Int))), y20.2.2.2.1, ()))
 (gd (decide ((0 : Int) ≤ x13.2.2.1))
 (Option.bind x13.2.1[(Int.toNat x13.2.2.1)]? fun y16 =>
 (cond (y16.1 == (5 : Int))
 (gd (decide ((0 : Int) ≤ x13.2.2.1))
 (Option.bind x13.2.1[(Int.toNat x13.2.2.1)]? fun y17 =>
 (Option.bind (g y17 x13.1) fun y18 =>
 (gd (decide (((List.length x13.2.2.2.1) + (List.length y18.1)) ≤ lim))
 (j19 (x13.1, x13.2.1, x13.2.2.1, (x13.2.2.2.1 ++ y18.1), ()))))))
 (j19 (x13.1, x13.2.1, x13.2.2.1, x13.2.2.2.1, ()))))))
 (e1_0 (x13.2.2.2.1, ())))

noncomputable def B193 (g : G193) (a0 : D78) (a1 : List (List UInt8)) : Option (List (D78) × Unit) :=
 (cond ((((List.length a1) : Nat) : Int) == (0 : Int))
 (let j3 : List (D78) × Unit → Option (List (D78) × Unit) := fun (y4 : List (D78) × Unit) =>
 (some (y4.1, ()))
 (cond (a0.1 == (4 : Int))
 (Option.bind (F195 a0.2.2.1) fun y2 =>
 (gd (decide (((List.length [a0]) + (List.length y2.1)) ≤ lim))
 (j3 (([a0] ++ y2.1), ()))))
 (j3 ([a0], ()))))
 (cond (a0.1 == (5 : Int))
 (Option.bind a1[(Int.toNat (0 : Int))]? fun y6 =>
 (Option.bind (F164 a0 y6) fun y7 =>
 (cond (!y7.2.1)
 (some ([], ()))
 (gd (decide ((((List.length a1) : Nat) : Int) ≤ (((List.length a1) : Nat) : Int)))
 (gd (decide ((1 : Int) ≤ (((Int.toNat (((List.length a1) : Nat) : Int)) : Nat) : Int)))
 (Option.bind (g y7.1 (List.drop (Int.toNat (1 : Int)) (List.take (Int.toNat (((List.length a1) : Nat) : Int)) a1))) fun y9 =>
 (some (y9.1, ()))))))))
 (cond (a0.1 == (4 : Int))
 (Option.bind (F195 a0.2.2.1) fun y10 =>
 (iter (B193_R17 g
 (fun y21 =>
 (some (y21.1, ())))) fuel (a1, y10.1, (0 : Int), [], ())))
 (some ([], ())))))

noncomputable def K193 (g : G193) : Fun := ⟨[(.ro Y78), (.ro (.slice .str))], [((.slice Y78), .z)], fun z => B193 g z.1 z.2.1⟩
noncomputable def E193 (g : G193) : Env := ⟨82, tyTab tys, oneTab ones, fnTab [(164, C164), (193, (H193 g)), (195, C195)], false, [], [(6, [5], []), (7, [1, 2], []), (12, [1, 8], []), (17, [1, 10, 11, 13], []), (18, [1, 10, 11, 13], []), (19, [1, 10, 11, 13], []), (21, [10], []), (22, [], []), (100000, [], []), (100001, [10], []), (100002, [1, 10, 11, 13], []), (99999, [4], [])], none, []⟩
noncomputable def L193 (g : G193) : List (LoopS (List (D78) × Unit)) := [⟨17, ⟨[(1, (.pv (.slice .str))), (10, (.ref (.slice Y78) 424 [])), (11, (.pv (.slice Y78))), (13, (.pv (.int .i64)))], [(424, (.data false (.slice Y78) (.own .z)))]⟩, fun κ => B193_R17 g (fun y => κ.exit 1 (SSh.mk' ⟨[(10, (.ref (.slice Y78) 424 []))], [(424, (.data false (.slice Y78) (.own .z)))]⟩ y))⟩]
theorem L193_17 (g : G193) : ∀ (κ : Kont (List (D78) × Unit)) (N : St → Option (List (D78) × Unit)) (x : (((L193 g)[0]'(Nat.le_of_ble_eq_true rfl))).sh.den), execK (E193 g) (lpOf (L193 g)) (nthLoop (codeOf Tryz.f193) 0) { κ with normal := fun σ => N (σ.keepAt ((E193 g)).hints 17) } ((((L193 g)[0]'(Nat.le_of_ble_eq_true rfl))).sh.mk' x) = (((L193 g)[0]'(Nat.le_of_ble_eq_true rfl))).R κ (fun x => N ((((L193 g)[0]'(Nat.le_of_ble_eq_true rfl))).sh.mk' x)) x :=
  fun κ N x => by kernel_rfl
theorem K193_ok (g : G193) (hg : QuietOk Tryz.prog 193 (H193 g)) : QuietOk Tryz.prog 193 (K193 g) :=
  told (env := (E193 g)) (fn := Tryz.f193) (c := (codeOf Tryz.f193)) (tbl := (L193 g)) (ls := [nthLoop (codeOf Tryz.f193) 0]) (vars := Tryz.f193.results.toList) Tryz.func193 (tysC_ok tys_ok rfl rfl) (Told.fnOk (.cons C164_ok (.cons hg (.cons C195_ok .nil))) rfl) (by kernel_rfl) (by decide) rfl (by decide) rfl rfl rfl (by kernel_rfl) (.cons ((L193 g)[0]'(Nat.le_of_ble_eq_true rfl)) (by kernel_rfl) (L193_17 g) .nil) (by kernel_rfl)

noncomputable def S193 : Nat → G193
  | 0 => fun _ _ => none
  | k + 1 => B193 (S193 k)
noncomputable def F193 : G193 := S193 fuel
noncomputable def C193 : Fun := H193 F193
theorem C193_all : ∀ k, QuietOk Tryz.prog 193 (H193 (S193 k))
  | 0 => QuietOk.none Tryz.func193 (by rfl) (by decide) fun _ => rfl
  | k + 1 => K193_ok (S193 k) (C193_all k)
theorem C193_ok : QuietOk Tryz.prog 193 C193 := C193_all fuel

/- 165: loop.example/g00380/spec.l02Values -/
noncomputable def F165 (a0 : D78) (a1 : List UInt8) : Option (List (D78) × Unit) :=
 (Option.bind (F162 a1 (46 : Int)) fun y0 =>
 (Option.bind (F193 a0 y0.1) fun y1 =>
 (some (y1.1, ()))))

noncomputable def C165 : Fun := ⟨[(.ro Y78), (.ro .str)], [((.slice Y78), .z)], fun z => F165 z.1 z.2.1⟩
noncomputable def E165 : Env := ⟨9, tyTab tys, oneTab ones, fnTab [(162, C162), (193, C193)], false, [], [(99999, [4], [])], none, []⟩
noncomputable def L165 : List (LoopS (List (D78) × Unit)) := []
theorem C165_ok : QuietOk Tryz.prog 165 C165 :=
  told (env := E165) (fn := Tryz.f165) (c := (codeOf Tryz.f165)) (tbl := L165) (ls := []) (vars := Tryz.f165.results.toList) Tryz.func165 (tysC_ok tys_ok rfl rfl) (Told.fnOk (.cons C162_ok (.cons C193_ok .nil)) rfl) (by kernel_rfl) (by decide) rfl (by decide) rfl rfl rfl (by kernel_rfl) .nil (by kernel_rfl)

/- 215: loop.example/g00380/spec.l01Bit -/
noncomputable def F215 (a0 : Bool) : Option (Int × Unit) :=
 (cond a0
 (some ((1 : Int), ()))
 (some ((0 : Int), ())))

noncomputable def C215 : Fun := ⟨[(.ro .bool)], [((.int .i64), .z)], fun z => F215 z.1⟩
noncomputable def E215 : Env := ⟨4, tyTab tys, oneTab ones, fnTab [], false, [], [(3, [], []), (99999, [2], [])], none, []⟩
noncomputable def L215 : List (LoopS (Int × Unit)) := []
theorem C215_ok : QuietOk Tryz.prog 215 C215 :=
  told (env := E215) (fn := Tryz.f215) (c := (codeOf Tryz.f215)) (tbl := L215) (ls := []) (vars := Tryz.f215.results.toList) Tryz.func215 (tysC_ok tys_ok rfl rfl) (Told.fnOk .nil rfl) (by kernel_rfl) (by decide) rfl (by decide) rfl rfl rfl (by kernel_rfl) .nil (by kernel_rfl)
abbrev G194 : Type := (D78) → (D78) → Option (Int × Unit)
noncomputable def H194 (g : G194) : Fun := ⟨[(.ro Y78), (.ro Y78)], [((.int .i64), .z)], fun z => g z.1 z.2.1⟩

/- 194: loop.example/g00380/spec.l01Order -/
noncomputable def B194_R13 (g : G194) (e1_0 : List (D78) × List (D78) × Unit → Option (Int × Unit)) (er_1 : Int × Unit → Option (Int × Unit)) (rec : List (D78) × List (D78) × Int × Unit → Option (Int × Unit)) (x8 : List (D78) × List (D78) × Int × Unit) : Option (Int × Unit) :=
 (cond (decide (x8.2.2.1 < (((List.length x8.1) : Nat) : Int)))
 (cond (decide (x8.2.2.1 < (((List.length x8.2.1) : Nat) : Int)))
 (gd (decide ((0 : Int) ≤ x8.2.2.1))
 (Option.bind x8.1[(Int.toNat x8.2.2.1)]? fun y11 =>
 (gd (decide ((0 : Int) ≤ x8.2.2.1))
 (Option.bind x8.2.1[(Int.toNat x8.2.2.1)]? fun y12 =>
 (Option.bind (g y11 y12) fun y13 =>
 (cond (y13.1 != (0 : Int))
 (er_1 (y13.1, ()))
 (rec (x8.1, x8.2.1, (IntKind.wrap IntKind.i64 (x8.2.2.1 + (1 : Int))), ()))))))))
 (e1_0 (x8.1, x8.2.1, ())))
 (e1_0 (x8.1, x8.2.1, ())))

noncomputable def B194_R22 (g : G194) (e3_0 : List (D253) × List (D253) × Unit → Option (Int × Unit)) (er_1 : Int × Unit → Option (Int × Unit)) (rec : List (D253) × List (D253) × Int × Unit → Option (Int × Unit)) (x21 : List (D253) × List (D253) × Int × Unit) : Option (Int × Unit) :=
 (cond (decide (x21.2.2.1 < (((List.length x21.1) : Nat) : Int)))
 (cond (decide (x21.2.2.1 < (((List.length x21.2.1) : Nat) : Int)))
 (gd (decide ((0 : Int) ≤ x21.2.2.1))
 (Option.bind x21.1[(Int.toNat x21.2.2.1)]? fun y25 =>
 (gd (decide ((0 : Int) ≤ x21.2.2.1))
 (Option.bind x21.2.1[(Int.toNat x21.2.2.1)]? fun y26 =>
 (cond (!(y25.1 == y26.1))
 (gd (decide ((0 : Int) ≤ x21.2.2.1))
 (Option.bind x21.1[(Int.toNat x21.2.2.1)]? fun y27 =>
 (gd (decide ((0 : Int) ≤ x21.2.2.1))
 (Option.bind x21.2.1[(Int.toNat x21.2.2.1)]? fun y28 =>
 (Option.bind (F215 (!((Op.bytesLess y27.1 y28.1) || (y27.1 == y28.1)))) fun y29 =>
 (er_1 ((IntKind.wrap IntKind.i64 ((IntKind.wrap IntKind.i64 ((2 : Int) * y29.1)) - (1 : Int))), ())))))))
 (gd (decide ((0 : Int) ≤ x21.2.2.1))
 (Option.bind x21.1[(Int.toNat x21.2.2.1)]? fun y30 =>
 (gd (decide ((0 : Int) ≤ x21.2.2.1))
 (Option.bind x21.2.1[(Int.toNat x21.2.2.1)]? fun y31 =>
 (Option.bind (g y30.2.1 y31.2.1) fun y32 =>
 (cond (y32.1 != (0 : Int))
 (er_1 (y32.1, ()))
 (rec (x21.1, x21.2.1, (IntKind.wrap IntKind.i64 (x21.2.2.1 + (1 : Int))), ())))))))))))))
 (e3_0 (x21.1, x21.2.1, ())))
 (e3_0 (x21.1, x21.2.1, ())))

noncomputable def B194 (g : G194) (a0 : D78) (a1 : D78) : Option (Int × Unit) :=
 (cond (a0.1 != a1.1)
 (Option.bind (F215 (decide (a0.1 > a1.1))) fun y1 =>
 (some ((IntKind.wrap IntKind.i64 ((IntKind.wrap IntKind.i64 ((2 : Int) * y1.1)) - (1 : Int))), ())))
 (cond (a0.2.1 != a1.2.1)
 (Option.bind (F215 (decide (a0.2.1 > a1.2.1))) fun y2 =>
 (some ((IntKind.wrap IntKind.i64 ((IntKind.wrap IntKind.i64 ((2 : Int) * y2.1)) - (1 : Int))), ())))
 (cond (a0.2.2.1 == a1.2.2.1)
 (some ((0 : Int), ()))
 (cond (a0.1 == (3 : Int))
 (Option.bind (F215 (!((Op.bytesLess a0.2.2.1 a1.2.2.1) || (a0.2.2.1 == a1.2.2.1)))) fun y3 =>
 (some ((IntKind.wrap IntKind.i64 ((IntKind.wrap IntKind.i64 ((2 : Int) * y3.1)) - (1 : Int))), ())))
 (cond (a0.1 == (4 : Int))
 (Option.bind (F195 a0.2.2.1) fun y4 =>
 (Option.bind (F195 a1.2.2.1) fun y5 =>
 (iter (B194_R13 g
 (fun y14 =>
 (Option.bind (F215 (decide ((((List.length y14.1) : Nat) : Int) > (((List.length y14.2.1) : Nat) : Int)))) fun y16 =>
 (some ((IntKind.wrap IntKind.i64 ((IntKind.wrap IntKind.i64 ((2 : Int) * y16.1)) - (1 : Int))), ()))))
 (fun y15 =>
 (some (y15.1, ())))) fuel (y4.1, y5.1, (0 : Int), ()))))
 (Option.bind (F192 a0.2.2.1) fun y17 =>
 (Option.bind (F192 a1.2.2.1) fun y18 =>
 (iter (B194_R22 g
 (fun y33 =>
 (Option.bind (F215 (decide ((((List.length y33.1) : Nat) : Int) > (((List.length y33.2.1) : Nat) : Int)))) fun y35 =>
 (some ((IntKind.wrap IntKind.i64 ((IntKind.wrap IntKind.i64 ((2 : Int) * y35.1)) - (1 : Int))), ()))))
 (fun y34 =>
 (some (y34.1, ())))) fuel (y17.1, y18.1, (0 : Int), ())))))))))

noncomputable def K194 (g : G194) : Fun := ⟨[(.ro Y78), (.ro Y78)], [((.int .i64), .z)], fun z => B194 g z.1 z.2.1⟩
noncomputable def E194 (g : G194) : Env := ⟨182, tyTab tys, oneTab ones, fnTab [(192, C192), (194, (H194 g)), (195, C195), (215, C215)], false, [], [(13, [5, 7, 9], []), (14, [5, 7, 9], []), (15, [5, 7, 9], []), (18, [5, 7], []), (19, [2, 3], []), (22, [11, 13, 15], []), (23, [11, 13, 15], []), (24, [11, 13, 15], []), (26, [11, 13, 15], []), (29, [11, 13], []), (100000, [2, 3], []), (100001, [5, 7], []), (100002, [5, 7, 9], []), (100003, [11, 13], []), (100004, [11, 13, 15], []), (99999, [4], [])], none, []⟩
noncomputable def L194 (g : G194) : List (LoopS (Int × Unit)) := [⟨13, ⟨[(5, (.pv (.slice Y78))), (7, (.pv (.slice Y78))), (9, (.pv (.int .i64)))], []⟩, fun κ => B194_R13 g (fun y => κ.exit 1 (SSh.mk' ⟨[(5, (.pv (.slice Y78))), (7, (.pv (.slice Y78)))], []⟩ y)) (fun y => κ.ret (SSh.mk' ⟨[(4, (.pv (.int .i64)))], []⟩ y))⟩,
  ⟨22, ⟨[(11, (.pv (.slice Y253))), (13, (.pv (.slice Y253))), (15, (.pv (.int .i64)))], []⟩, fun κ => B194_R22 g (fun y => κ.exit 3 (SSh.mk' ⟨[(11, (.pv (.slice Y253))), (13, (.pv (.slice Y253)))], []⟩ y)) (fun y => κ.ret (SSh.mk' ⟨[(4, (.pv (.int .i64)))], []⟩ y))⟩]
theorem L194_22 (g : G194) : ∀ (κ : Kont (Int × Unit)) (N : St → Option (Int × Unit)) (x : (((L194 g)[1]'(Nat.le_of_ble_eq_true rfl))).sh.den), execK (E194 g) (lpOf (L194 g)) (nthLoop (codeOf Tryz.f194) 1) { κ with normal := fun σ => N (σ.keepAt ((E194 g)).hints 22) } ((((L194 g)[1]'(Nat.le_of_ble_eq_true rfl))).sh.mk' x) = (((L194 g)[1]'(Nat.le_of_ble_eq_true rfl))).R κ (fun x => N ((((L194 g)[1]'(Nat.le_of_ble_eq_true rfl))).sh.mk' x)) x :=
  fun κ N x => by kernel_rfl
theorem L194_13 (g : G194) : ∀ (κ : Kont (Int × Unit)) (N : St → Option (Int × Unit)) (x : (((L194 g)[0]'(Nat.le_of_ble_eq_true rfl))).sh.den), execK (E194 g) (lpOf (L194 g)) (nthLoop (codeOf Tryz.f194) 0) { κ with normal := fun σ => N (σ.keepAt ((E194 g)).hints 13) } ((((L194 g)[0]'(Nat.le_of_ble_eq_true rfl))).sh.mk' x) = (((L194 g)[0]'(Nat.le_of_ble_eq_true rfl))).R κ (fun x => N ((((L194 g)[0]'(Nat.le_of_ble_eq_true rfl))).sh.mk' x)) x :=
  fun κ N x => by kernel_rfl
theorem K194_ok (g : G194) (hg : QuietOk Tryz.prog 194 (H194 g)) : QuietOk Tryz.prog 194 (K194 g) :=
  told (env := (E194 g)) (fn := Tryz.f194) (c := (codeOf Tryz.f194)) (tbl := (L194 g)) (ls := [nthLoop (codeOf Tryz.f194) 0, nthLoop (codeOf Tryz.f194) 1]) (vars := Tryz.f194.results.toList) Tryz.func194 (tysC_ok tys_ok rfl rfl) (Told.fnOk (.cons C192_ok (.cons hg (.cons C195_ok (.cons C215_ok .nil)))) rfl) (by kernel_rfl) (by decide) rfl (by decide) rfl rfl rfl (by kernel_rfl) (.cons ((L194 g)[0]'(Nat.le_of_ble_eq_true rfl)) (by kernel_rfl) (L194_13 g) (.cons ((L194 g)[1]'(Nat.le_of_ble_eq_true rfl)) (by kernel_rfl) (L194_22 g) .nil)) (by kernel_rfl)

noncomputable def S194 : Nat → G194
  | 0 => fun _ _ => none
  | k + 1 => B194 (S194 k)
noncomputable def F194 : G194 := S194 fuel
noncomputable def C194 : Fun := H194 F194
theorem C194_all : ∀ k, QuietOk Tryz.prog 194 (H194 (S194 k))
  | 0 => QuietOk.none Tryz.func194 (by rfl) (by decide) fun _ => rfl
  | k + 1 => K194_ok (S194 k) (C194_all k)
theorem C194_ok : QuietOk Tryz.prog 194 C194 := C194_all fuel

/- 166: loop.example/g00380/spec.l03One -/
noncomputable def F166_R18 (e1_0 : Unit → Option (Bool × Unit)) (er_1 : Bool × Unit → Option (Bool × Unit)) (rec : List (D78) × Int × D78 × Unit → Option (Bool × Unit)) (x6 : List (D78) × Int × D78 × Unit) : Option (Bool × Unit) :=
 (cond (decide (x6.2.1 < (((List.length x6.1) : Nat) : Int)))
 (gd (decide ((0 : Int) ≤ x6.2.1))
 (Option.bind x6.1[(Int.toNat x6.2.1)]? fun y9 =>
 (cond ((decide (y9.1 = x6.2.2.1.1)) && ((decide (y9.2.1 = x6.2.2.1.2.1)) && ((y9.2.2.1 == x6.2.2.1.2.2.1) && true)))
 (er_1 (true, ()))
 (rec (x6.1, (IntKind.wrap IntKind.i64 (x6.2.1 + (1 : Int))), x6.2.2.1, ())))))
 (e1_0 (())))

noncomputable def F166 (a0 : D182) (a1 : D78) : Option (Bool × Unit) :=
 (Option.bind (F194 a1 a0.2.2.1) fun y0 =>
 (let j18 : Unit → Option (Bool × Unit) := fun (y19 : Unit) =>
 (some (true, ()))
 (cond (a0.1 == (1 : Int))
 (cond (a0.1 == (1 : Int))
 (some (((decide (a1.1 = a0.2.2.1.1)) && ((decide (a1.2.1 = a0.2.2.1.2.1)) && ((a1.2.2.1 == a0.2.2.1.2.2.1) && true))), ()))
 (cond (a0.1 == (3 : Int))
 (cond (a1.1 == a0.2.2.1.1)
 (some ((decide (y0.1 < (0 : Int))), ()))
 (some (false, ())))
 (cond (a0.1 == (4 : Int))
 (cond (a1.1 == a0.2.2.1.1)
 (some ((decide (y0.1 ≤ (0 : Int))), ()))
 (some (false, ())))
 (cond (a0.1 == (5 : Int))
 (cond (a1.1 == a0.2.2.1.1)
 (some ((decide (y0.1 > (0 : Int))), ()))
 (some (false, ())))
 (cond (a0.1 == (6 : Int))
 (cond (a1.1 == a0.2.2.1.1)
 (some ((decide (y0.1 ≥ (0 : Int))), ()))
 (some (false, ())))
 (cond (a0.1 == (7 : Int))
 (Option.bind (F195 a0.2.2.1.2.2.1) fun y3 =>
 (iter (F166_R18
 (fun y10 =>
 (some (false, ())))
 (fun y11 =>
 (some (y11.1, ())))) fuel (y3.1, (0 : Int), a1, ())))
 (cond (a0.1 == (9 : Int))
 (some ((a1.1 == a0.2.2.1.2.1), ()))
 (cond (a0.1 == (10 : Int))
 (Option.bind (F195 a1.2.2.1) fun y12 =>
 (cond (a1.1 == (4 : Int))
 (some (((((List.length y12.1) : Nat) : Int) == a0.2.2.1.2.1), ()))
 (some (false, ()))))
 (j18 (()))))))))))
 (cond (a0.1 == (2 : Int))
 (some (((decide (a1.1 = a0.2.2.1.1)) && ((decide (a1.2.1 = a0.2.2.1.2.1)) && ((a1.2.2.1 == a0.2.2.1.2.2.1) && true))), ()))
 (cond (a0.1 == (3 : Int))
 (cond (a1.1 == a0.2.2.1.1)
 (some ((decide (y0.1 < (0 : Int))), ()))
 (some (false, ())))
 (cond (a0.1 == (4 : Int))
 (cond (a1.1 == a0.2.2.1.1)
 (some ((decide (y0.1 ≤ (0 : Int))), ()))
 (some (false, ())))
 (cond (a0.1 == (5 : Int))
 (cond (a1.1 == a0.2.2.1.1)
 (some ((decide (y0.1 > (0 : Int))), ()))
 (some (false, ())))
 (cond (a0.1 == (6 : Int))
 (cond (a1.1 == a0.2.2.1.1)
 (some ((decide (y0.1 ≥ (0 : Int))), ()))
 (some (false, ())))
 (cond (a0.1 == (7 : Int))
 (Option.bind (F195 a0.2.2.1.2.2.1) fun y13 =>
 (iter (F166_R18
 (fun y15 =>
 (some (false, ())))
 (fun y16 =>
 (some (y16.1, ())))) fuel (y13.1, (0 : Int), a1, ())))
 (cond (a0.1 == (9 : Int))
 (some ((a1.1 == a0.2.2.1.2.1), ()))
 (cond (a0.1 == (10 : Int))
 (Option.bind (F195 a1.2.2.1) fun y17 =>
 (cond (a1.1 == (4 : Int))
 (some (((((List.length y17.1) : Nat) : Int) == a0.2.2.1.2.1), ()))
 (some (false, ()))))
 (j18 (())))))))))))))

noncomputable def C166 : Fun := ⟨[(.ro Y182), (.ro Y78)], [(.bool, .z)], fun z => F166 z.1 z.2.1⟩
noncomputable def E166 : Env := ⟨107, tyTab tys, oneTab ones, fnTab [(194, C194), (195, C195)], false, [], [(18, [3, 7, 9], []), (19, [3, 7, 9], []), (20, [3, 7, 9], []), (22, [], []), (28, [], []), (100000, [], []), (100001, [], []), (100002, [3, 7, 9], []), (99999, [4], [])], none, []⟩
noncomputable def L166 : List (LoopS (Bool × Unit)) := [⟨18, ⟨[(3, (.ptr 24 [])), (7, (.pv (.slice Y78))), (9, (.pv (.int .i64)))], [(24, (.data true Y78 .z))]⟩, fun κ => F166_R18 (fun y => κ.exit 1 (SSh.mk' ⟨[], []⟩ y)) (fun y => κ.ret (SSh.mk' ⟨[(4, (.pv .bool))], []⟩ y))⟩]
theorem L166_18 : ∀ (κ : Kont (Bool × Unit)) (N : St → Option (Bool × Unit)) (x : (L166[0]).sh.den), execK E166 (lpOf L166) (nthLoop (codeOf Tryz.f166) 0) { κ with normal := fun σ => N (σ.keepAt (E166).hints 18) } ((L166[0]).sh.mk' x) = (L166[0]).R κ (fun x => N ((L166[0]).sh.mk' x)) x :=
  fun κ N x => by kernel_rfl
theorem C166_ok : QuietOk Tryz.prog 166 C166 :=
  told (env := E166) (fn := Tryz.f166) (c := (codeOf Tryz.f166)) (tbl := L166) (ls := [nthLoop (codeOf Tryz.f166) 0]) (vars := Tryz.f166.results.toList) Tryz.func166 (tysC_ok tys_ok rfl rfl) (Told.fnOk (.cons C194_ok (.cons C195_ok .nil)) rfl) (by kernel_rfl) (by decide) rfl (by decide) rfl rfl rfl (by kernel_rfl) (.cons L166[0] (by kernel_rfl) L166_18 .nil) (by kernel_rfl)

/- 130: loop.example/g00380/spec.l03Term -/
noncomputable def F130_R8 (e0_0 : Bool × D182 × Unit → Option (Bool × Unit)) (rec : List (D78) × Bool × Int × D182 × Unit → Option (Bool × Unit)) (x7 : List (D78) × Bool × Int × D182 × Unit) : Option (Bool × Unit) :=
 (cond (decide (x7.2.2.1 < (((List.length x7.1) : Nat) : Int)))
 (cond x7.2.1
 (rec (x7.1, true, (IntKind.wrap IntKind.i64 (x7.2.2.1 + (1 : Int))), x7.2.2.2.1, ()))
 (gd (decide ((0 : Int) ≤ x7.2.2.1))
 (Option.bind x7.1[(Int.toNat x7.2.2.1)]? fun y9 =>
 (Option.bind (F166 x7.2.2.2.1 y9) fun y10 =>
 (rec (x7.1, y10.1, (IntKind.wrap IntKind.i64 (x7.2.2.1 + (1 : Int))), x7.2.2.2.1, ()))))))
 (e0_0 (x7.2.1, x7.2.2.2.1, ())))

noncomputable def F130 (a0 : D182) (a1 : D78) : Option (Bool × Unit) :=
 (Option.bind (F165 a1 a0.2.1) fun y0 =>
 (cond (a0.1 == (8 : Int))
 (some (((decide ((((List.length y0.1) : Nat) : Int) > (0 : Int))) == (a0.2.2.1.2.1 == (1 : Int))), ()))
 (let j3 : List (D78) × D182 × Unit → Option (Bool × Unit) := fun (y4 : List (D78) × D182 × Unit) =>
 (iter (F130_R8
 (fun y11 =>
 (some ((!(y11.1 == (y11.2.1.1 == (2 : Int)))), ())))) fuel (y4.1, false, (0 : Int), y4.2.1, ()))
 (cond ((((List.length y0.1) : Nat) : Int) == (0 : Int))
 (cond (a0.1 != (9 : Int))
 (j3 ([((0 : Int), ((0 : Int), ([], ())))], a0, ()))
 (j3 (y0.1, a0, ())))
 (j3 (y0.1, a0, ()))))))

noncomputable def C130 : Fun := ⟨[(.ro Y182), (.ro Y78)], [(.bool, .z)], fun z => F130 z.1 z.2.1⟩
noncomputable def E130 : Env := ⟨53, tyTab tys, oneTab ones, fnTab [(165, C165), (166, C166)], false, [256], [(4, [2, 5], []), (6, [2, 5], []), (8, [2, 5, 6, 7], []), (10, [2, 5, 6, 7], []), (11, [2, 6], []), (100000, [2, 6], []), (100001, [2, 5, 6, 7], []), (99999, [4], [])], none, []⟩
noncomputable def L130 : List (LoopS (Bool × Unit)) := [⟨8, ⟨[(2, (.ptr 16 [])), (5, (.pv (.slice Y78))), (6, (.pv .bool)), (7, (.pv (.int .i64)))], [(16, (.data true Y182 .z))]⟩, fun κ => F130_R8 (fun y => κ.exit 0 (SSh.mk' ⟨[(2, (.ptr 16 [])), (6, (.pv .bool))], [(16, (.data true Y182 .z))]⟩ y))⟩]
theorem L130_8 : ∀ (κ : Kont (Bool × Unit)) (N : St → Option (Bool × Unit)) (x : (L130[0]).sh.den), execK E130 (lpOf L130) (nthLoop (codeOf Tryz.f130) 0) { κ with normal := fun σ => N (σ.keepAt (E130).hints 8) } ((L130[0]).sh.mk' x) = (L130[0]).R κ (fun x => N ((L130[0]).sh.mk' x)) x :=
  fun κ N x => by kernel_rfl
theorem C130_ok : QuietOk Tryz.prog 130 C130 :=
  told (env := E130) (fn := Tryz.f130) (c := (codeOf Tryz.f130)) (tbl := L130) (ls := [nthLoop (codeOf Tryz.f130) 0]) (vars := Tryz.f130.results.toList) Tryz.func130 (tysC_ok tys_ok rfl rfl) (Told.fnOk (.cons C165_ok (.cons C166_ok .nil)) rfl) (by kernel_rfl) (by decide) rfl (by decide) rfl rfl rfl (by kernel_rfl) (.cons L130[0] (by kernel_rfl) L130_8 .nil) (by kernel_rfl)

/- 89: loop.example/g00380/spec.l03Clause -/
noncomputable def F89_R2 (e0_0 : Unit → Option (Bool × Unit)) (er_1 : Bool × Unit → Option (Bool × Unit)) (rec : Int × D163 × D78 × Unit → Option (Bool × Unit)) (x2 : Int × D163 × D78 × Unit) : Option (Bool × Unit) :=
 (cond (decide (x2.1 < (((List.length x2.2.1.1) : Nat) : Int)))
 (gd (decide ((0 : Int) ≤ x2.1))
 (Option.bind x2.2.1.1[(Int.toNat x2.1)]? fun y5 =>
 (Option.bind (F130 y5 x2.2.2.1) fun y6 =>
 (cond (!y6.1)
 (er_1 (false, ()))
 (rec ((IntKind.wrap IntKind.i64 (x2.1 + (1 : Int))), x2.2.1, x2.2.2.1, ()))))))
 (e0_0 (())))

noncomputable def F89 (a0 : D163) (a1 : D78) : Option (Bool × Unit) :=
 (iter (F89_R2
 (fun y7 =>
 (some (true, ())))
 (fun y8 =>
 (some (y8.1, ())))) fuel ((0 : Int), a0, a1, ()))

noncomputable def C89 : Fun := ⟨[(.ro Y163), (.ro Y78)], [(.bool, .z)], fun z => F89 z.1 z.2.1⟩
noncomputable def E89 : Env := ⟨21, tyTab tys, oneTab ones, fnTab [(130, C130)], false, [], [(2, [2, 3, 5], []), (3, [2, 3, 5], []), (4, [2, 3, 5], []), (6, [], []), (100000, [], []), (100001, [2, 3, 5], []), (99999, [4], [])], none, []⟩
noncomputable def L89 : List (LoopS (Bool × Unit)) := [⟨2, ⟨[(2, (.ptr 16 [])), (3, (.ptr 24 [])), (5, (.pv (.int .i64)))], [(16, (.data true Y163 .z)), (24, (.data true Y78 .z))]⟩, fun κ => F89_R2 (fun y => κ.exit 0 (SSh.mk' ⟨[], []⟩ y)) (fun y => κ.ret (SSh.mk' ⟨[(4, (.pv .bool))], []⟩ y))⟩]
theorem L89_2 : ∀ (κ : Kont (Bool × Unit)) (N : St → Option (Bool × Unit)) (x : (L89[0]).sh.den), execK E89 (lpOf L89) (nthLoop (codeOf Tryz.f89) 0) { κ with normal := fun σ => N (σ.keepAt (E89).hints 2) } ((L89[0]).sh.mk' x) = (L89[0]).R κ (fun x => N ((L89[0]).sh.mk' x)) x :=
  fun κ N x => by kernel_rfl
theorem C89_ok : QuietOk Tryz.prog 89 C89 :=
  told (env := E89) (fn := Tryz.f89) (c := (codeOf Tryz.f89)) (tbl := L89) (ls := [nthLoop (codeOf Tryz.f89) 0]) (vars := Tryz.f89.results.toList) Tryz.func89 (tysC_ok tys_ok rfl rfl) (Told.fnOk (.cons C130_ok .nil) rfl) (by kernel_rfl) (by decide) rfl (by decide) rfl rfl rfl (by kernel_rfl) (.cons L89[0] (by kernel_rfl) L89_2 .nil) (by kernel_rfl)

/- 58: loop.example/g00380/spec.l03Matches -/
noncomputable def F58_R2 (e0_0 : Unit → Option (Bool × Unit)) (er_1 : Bool × Unit → Option (Bool × Unit)) (rec : Int × D91 × D78 × Unit → Option (Bool × Unit)) (x2 : Int × D91 × D78 × Unit) : Option (Bool × Unit) :=
 (cond (decide (x2.1 < (((List.length x2.2.1.1) : Nat) : Int)))
 (gd (decide ((0 : Int) ≤ x2.1))
 (Option.bind x2.2.1.1[(Int.toNat x2.1)]? fun y5 =>
 (Option.bind (F89 y5 x2.2.2.1) fun y6 =>
 (cond y6.1
 (er_1 (true, ()))
 (rec ((IntKind.wrap IntKind.i64 (x2.1 + (1 : Int))), x2.2.1, x2.2.2.1, ()))))))
 (e0_0 (())))

noncomputable def F58 (a0 : D91) (a1 : D78) : Option (Bool × Unit) :=
 (iter (F58_R2
 (fun y7 =>
 (some (false, ())))
 (fun y8 =>
 (some (y8.1, ())))) fuel ((0 : Int), a0, a1, ()))

noncomputable def C58 : Fun := ⟨[(.ro Y91), (.ro Y78)], [(.bool, .z)], fun z => F58 z.1 z.2.1⟩
noncomputable def E58 : Env := ⟨20, tyTab tys, oneTab ones, fnTab [(89, C89)], false, [], [(2, [2, 3, 5], []), (3, [2, 3, 5], []), (4, [2, 3, 5], []), (6, [], []), (100000, [], []), (100001, [2, 3, 5], []), (99999, [4], [])], none, []⟩
noncomputable def L58 : List (LoopS (Bool × Unit)) := [⟨2, ⟨[(2, (.ptr 16 [])), (3, (.ptr 24 [])), (5, (.pv (.int .i64)))], [(16, (.data true Y91 .z)), (24, (.data true Y78 .z))]⟩, fun κ => F58_R2 (fun y => κ.exit 0 (SSh.mk' ⟨[], []⟩ y)) (fun y => κ.ret (SSh.mk' ⟨[(4, (.pv .bool))], []⟩ y))⟩]
theorem L58_2 : ∀ (κ : Kont (Bool × Unit)) (N : St → Option (Bool × Unit)) (x : (L58[0]).sh.den), execK E58 (lpOf L58) (nthLoop (codeOf Tryz.f58) 0) { κ with normal := fun σ => N (σ.keepAt (E58).hints 2) } ((L58[0]).sh.mk' x) = (L58[0]).R κ (fun x => N ((L58[0]).sh.mk' x)) x :=
  fun κ N x => by kernel_rfl
theorem C58_ok : QuietOk Tryz.prog 58 C58 :=
  told (env := E58) (fn := Tryz.f58) (c := (codeOf Tryz.f58)) (tbl := L58) (ls := [nthLoop (codeOf Tryz.f58) 0]) (vars := Tryz.f58.results.toList) Tryz.func58 (tysC_ok tys_ok rfl rfl) (Told.fnOk (.cons C89_ok .nil) rfl) (by kernel_rfl) (by decide) rfl (by decide) rfl rfl rfl (by kernel_rfl) (.cons L58[0] (by kernel_rfl) L58_2 .nil) (by kernel_rfl)

/- 31: loop.example/g00380/spec.l09Hit -/
noncomputable def F31 (a0 : D93) (a1 : D95) : Option (Bool × Unit) :=
 (cond (!(a0.1 == a1.1.1))
 (some (false, ()))
 (cond a1.2.2.1
 (Option.bind (F58 a0.2.1 a1.2.1) fun y1 =>
 (cond y1.1
 (some (true, ()))
 (cond (!a1.1.2.2.1)
 (Option.bind (F58 a0.2.1 a1.1.2.2.2.1) fun y2 =>
 (some (y2.1, ())))
 (some (false, ())))))
 (cond (!a1.1.2.2.1)
 (Option.bind (F58 a0.2.1 a1.1.2.2.2.1) fun y3 =>
 (some (y3.1, ())))
 (some (false, ())))))

noncomputable def C31 : Fun := ⟨[(.ro Y93), (.ro Y95)], [(.bool, .z)], fun z => F31 z.1 z.2.1⟩
noncomputable def E31 : Env := ⟨34, tyTab tys, oneTab ones, fnTab [(58, C58)], false, [], [(3, [2, 3], []), (99999, [4], [])], none, []⟩
noncomputable def L31 : List (LoopS (Bool × Unit)) := []
theorem C31_ok : QuietOk Tryz.prog 31 C31 :=
  told (env := E31) (fn := Tryz.f31) (c := (codeOf Tryz.f31)) (tbl := L31) (ls := []) (vars := Tryz.f31.results.toList) Tryz.func31 (tysC_ok tys_ok rfl rfl) (Told.fnOk (.cons C58_ok .nil) rfl) (by kernel_rfl) (by decide) rfl (by decide) rfl rfl rfl (by kernel_rfl) .nil (by kernel_rfl)

/- 13: loop.example/g00380/spec.l09Hits -/
noncomputable def F13_R5 (e2_0 : List (D93) × List (D95) × Int × Unit → Option (Bool × Unit)) (er_1 : Bool × Unit → Option (Bool × Unit)) (rec : List (D93) × List (D95) × Int × Int × Unit → Option (Bool × Unit)) (x6 : List (D93) × List (D95) × Int × Int × Unit) : Option (Bool × Unit) :=
 (cond (decide (x6.2.2.2.1 < (((List.length x6.2.1) : Nat) : Int)))
 (gd (decide ((0 : Int) ≤ x6.2.2.1))
 (Option.bind x6.1[(Int.toNat x6.2.2.1)]? fun y9 =>
 (gd (decide ((0 : Int) ≤ x6.2.2.2.1))
 (Option.bind x6.2.1[(Int.toNat x6.2.2.2.1)]? fun y10 =>
 (Option.bind (F31 y9 y10) fun y11 =>
 (cond y11.1
 (er_1 (true, ()))
 (rec (x6.1, x6.2.1, x6.2.2.1, (IntKind.wrap IntKind.i64 (x6.2.2.2.1 + (1 : Int))), ()))))))))
 (e2_0 (x6.1, x6.2.1, x6.2.2.1, ())))

noncomputable def F13_R2 (e0_0 : Unit → Option (Bool × Unit)) (er_1 : Bool × Unit → Option (Bool × Unit)) (rec : List (D93) × List (D95) × Int × Unit → Option (Bool × Unit)) (x2 : List (D93) × List (D95) × Int × Unit) : Option (Bool × Unit) :=
 (cond (decide (x2.2.2.1 < (((List.length x2.1) : Nat) : Int)))
 (iter (F13_R5
 (fun y12 =>
 (rec (y12.1, y12.2.1, (IntKind.wrap IntKind.i64 (y12.2.2.1 + (1 : Int))), ())))
 (fun y13 =>
 (er_1 (y13.1, ())))) fuel (x2.1, x2.2.1, x2.2.2.1, (0 : Int), ()))
 (e0_0 (())))

noncomputable def F13 (a0 : List (D93)) (a1 : List (D95)) : Option (Bool × Unit) :=
 (iter (F13_R2
 (fun y14 =>
 (some (false, ())))
 (fun y15 =>
 (some (y15.1, ())))) fuel (a0, a1, (0 : Int), ()))

noncomputable def C13 : Fun := ⟨[(.ro (.slice Y93)), (.ro (.slice Y95))], [(.bool, .z)], fun z => F13 z.1 z.2.1⟩
noncomputable def E13 : Env := ⟨28, tyTab tys, oneTab ones, fnTab [(31, C31)], false, [], [(2, [0, 1, 5], []), (3, [0, 1, 5], []), (4, [0, 1, 5], []), (5, [0, 1, 5, 6], []), (6, [0, 1, 5, 6], []), (7, [0, 1, 5, 6], []), (9, [], []), (100000, [], []), (100001, [0, 1, 5], []), (100002, [0, 1, 5], []), (100003, [0, 1, 5, 6], []), (99999, [4], [])], none, []⟩
noncomputable def L13 : List (LoopS (Bool × Unit)) := [⟨5, ⟨[(0, (.pv (.slice Y93))), (1, (.pv (.slice Y95))), (5, (.pv (.int .i64))), (6, (.pv (.int .i64)))], []⟩, fun κ => F13_R5 (fun y => κ.exit 2 (SSh.mk' ⟨[(0, (.pv (.slice Y93))), (1, (.pv (.slice Y95))), (5, (.pv (.int .i64)))], []⟩ y)) (fun y => κ.ret (SSh.mk' ⟨[(4, (.pv .bool))], []⟩ y))⟩,
  ⟨2, ⟨[(0, (.pv (.slice Y93))), (1, (.pv (.slice Y95))), (5, (.pv (.int .i64)))], []⟩, fun κ => F13_R2 (fun y => κ.exit 0 (SSh.mk' ⟨[], []⟩ y)) (fun y => κ.ret (SSh.mk' ⟨[(4, (.pv .bool))], []⟩ y))⟩]
theorem L13_5 : ∀ (κ : Kont (Bool × Unit)) (N : St → Option (Bool × Unit)) (x : (L13[0]).sh.den), execK E13 (lpOf L13) (nthLoop (codeOf Tryz.f13) 1) { κ with normal := fun σ => N (σ.keepAt (E13).hints 5) } ((L13[0]).sh.mk' x) = (L13[0]).R κ (fun x => N ((L13[0]).sh.mk' x)) x :=
  fun κ N x => by kernel_rfl
theorem L13_2 : ∀ (κ : Kont (Bool × Unit)) (N : St → Option (Bool × Unit)) (x : (L13[1]).sh.den), execK E13 (lpOf L13) (nthLoop (codeOf Tryz.f13) 0) { κ with normal := fun σ => N (σ.keepAt (E13).hints 2) } ((L13[1]).sh.mk' x) = (L13[1]).R κ (fun x => N ((L13[1]).sh.mk' x)) x :=
  fun κ N x => by kernel_rfl
theorem C13_ok : QuietOk Tryz.prog 13 C13 :=
  told (env := E13) (fn := Tryz.f13) (c := (codeOf Tryz.f13)) (tbl := L13) (ls := [nthLoop (codeOf Tryz.f13) 0, nthLoop (codeOf Tryz.f13) 1]) (vars := Tryz.f13.results.toList) Tryz.func13 (tysC_ok tys_ok rfl rfl) (Told.fnOk (.cons C31_ok .nil) rfl) (by kernel_rfl) (by decide) rfl (by decide) rfl rfl rfl (by kernel_rfl) (.cons L13[1] (by kernel_rfl) L13_2 (.cons L13[0] (by kernel_rfl) L13_5 .nil)) (by kernel_rfl)

/- 5: loop.example/g00380/spec.NoPivot -/
noncomputable def F5_R9 (e2_0 : Int × Bool × Bool × D25 × Unit → Option (Bool × Int × Unit)) (rec : Int × Bool × Bool × Int × D25 × Unit → Option (Bool × Int × Unit)) (x9 : Int × Bool × Bool × Int × D25 × Unit) : Option (Bool × Int × Unit) :=
 (cond (decide (x9.2.2.2.1 < (((List.length x9.2.2.2.2.1.2.2.1) : Nat) : Int)))
 (let j18 : Int × Bool × Bool × Int × D25 × Unit → Option (Bool × Int × Unit) := fun (y19 : Int × Bool × Bool × Int × D25 × Unit) =>
 (rec (y19.1, y19.2.1, y19.2.2.1, (IntKind.wrap IntKind.i64 (y19.2.2.2.1 + (1 : Int))), y19.2.2.2.2.1, ()))
 (gd (decide ((0 : Int) ≤ x9.1))
 (Option.bind x9.2.2.2.2.1.2.2.1[(Int.toNat x9.1)]? fun y12 =>
 (gd (decide ((0 : Int) ≤ x9.2.2.2.1))
 (Option.bind x9.2.2.2.2.1.2.2.1[(Int.toNat x9.2.2.2.1)]? fun y13 =>
 (cond (x9.1 == x9.2.2.2.1)
 (j18 (x9.1, x9.2.1, x9.2.2.1, x9.2.2.2.1, x9.2.2.2.2.1, ()))
 (cond (decide (y12.2.1 ≤ y13.1))
 (j18 (x9.1, x9.2.1, x9.2.2.1, x9.2.2.2.1, x9.2.2.2.2.1, ()))
 (cond (decide (y13.2.1 ≤ y12.1))
 (j18 (x9.1, x9.2.1, x9.2.2.1, x9.2.2.2.1, x9.2.2.2.2.1, ()))
 (cond x9.2.1
 (cond x9.2.2.1
 (j18 (x9.1, true, true, x9.2.2.2.1, x9.2.2.2.2.1, ()))
 (Option.bind (F13 y12.2.2.1 y13.2.2.2.1) fun y15 =>
 (j18 (x9.1, true, y15.1, x9.2.2.2.1, x9.2.2.2.2.1, ()))))
 (Option.bind (F13 y13.2.2.1 y12.2.2.2.1) fun y16 =>
 (cond x9.2.2.1
 (j18 (x9.1, y16.1, true, x9.2.2.2.1, x9.2.2.2.2.1, ()))
 (Option.bind (F13 y12.2.2.1 y13.2.2.2.1) fun y17 =>
 (j18 (x9.1, y16.1, y17.1, x9.2.2.2.1, x9.2.2.2.2.1, ()))))))))))))))
 (e2_0 (x9.1, x9.2.1, x9.2.2.1, x9.2.2.2.2.1, ())))

noncomputable def F5_R4 (e0_0 : Unit → Option (Bool × Int × Unit)) (er_1 : Bool × Int × Unit → Option (Bool × Int × Unit)) (rec : Int × D25 × Unit → Option (Bool × Int × Unit)) (x4 : Int × D25 × Unit) : Option (Bool × Int × Unit) :=
 (cond (decide (x4.1 < (((List.length x4.2.1.2.2.1) : Nat) : Int)))
 (let j21 : Int × D25 × Unit → Option (Bool × Int × Unit) := fun (y22 : Int × D25 × Unit) =>
 (rec ((IntKind.wrap IntKind.i64 (y22.1 + (1 : Int))), y22.2.1, ()))
 (iter (F5_R9
 (fun y20 =>
 (cond y20.2.1
 (cond y20.2.2.1
 (er_1 (false, (0 : Int), ()))
 (j21 (y20.1, y20.2.2.2.1, ())))
 (j21 (y20.1, y20.2.2.2.1, ()))))) fuel (x4.1, false, false, (0 : Int), x4.2.1, ())))
 (e0_0 (())))

noncomputable def F5 (a0 : D25) : Option (Bool × Int × Unit) :=
 (Option.bind (F12 a0) fun y1 =>
 (cond (!y1.1)
 (some (false, ((1 : Int), ())))
 (iter (F5_R4
 (fun y23 =>
 (some (true, ((0 : Int), ()))))
 (fun y24 =>
 (some (y24.1, (y24.2.1, ()))))) fuel ((0 : Int), a0, ()))))

noncomputable def C5 : Fun := ⟨[(.ro Y25)], [(.bool, .z), ((.int .i64), .z)], fun z => F5 z.1⟩
noncomputable def E5 : Env := ⟨74, tyTab tys, oneTab ones, fnTab [(12, C12), (13, C13)], false, [], [(3, [1], []), (4, [1, 4], []), (5, [1, 4], []), (6, [1, 4], []), (9, [1, 4, 5, 6, 7], []), (10, [1, 4, 5, 6, 7], []), (11, [1, 4, 5, 6, 7], []), (14, [1, 4, 5, 6, 7, 8, 9], []), (16, [1, 4, 5, 6], []), (18, [], []), (100000, [], []), (100001, [1, 4], []), (100002, [1, 4, 5, 6], []), (100003, [1, 4, 5, 6, 7], []), (99999, [2, 3], [])], none, []⟩
noncomputable def L5 : List (LoopS (Bool × Int × Unit)) := [⟨9, ⟨[(1, (.ptr 8 [])), (4, (.pv (.int .i64))), (5, (.pv .bool)), (6, (.pv .bool)), (7, (.pv (.int .i64)))], [(8, (.data true Y25 .z))]⟩, fun κ => F5_R9 (fun y => κ.exit 2 (SSh.mk' ⟨[(1, (.ptr 8 [])), (4, (.pv (.int .i64))), (5, (.pv .bool)), (6, (.pv .bool))], [(8, (.data true Y25 .z))]⟩ y))⟩,
  ⟨4, ⟨[(1, (.ptr 8 [])), (4, (.pv (.int .i64)))], [(8, (.data true Y25 .z))]⟩, fun κ => F5_R4 (fun y => κ.exit 0 (SSh.mk' ⟨[], []⟩ y)) (fun y => κ.ret (SSh.mk' ⟨[(2, (.pv .bool)), (3, (.pv (.int .i64)))], []⟩ y))⟩]
theorem L5_9 : ∀ (κ : Kont (Bool × Int × Unit)) (N : St → Option (Bool × Int × Unit)) (x : (L5[0]).sh.den), execK E5 (lpOf L5) (nthLoop (codeOf Tryz.f5) 1) { κ with normal := fun σ => N (σ.keepAt (E5).hints 9) } ((L5[0]).sh.mk' x) = (L5[0]).R κ (fun x => N ((L5[0]).sh.mk' x)) x :=
  fun κ N x => by kernel_rfl
theorem L5_4 : ∀ (κ : Kont (Bool × Int × Unit)) (N : St → Option (Bool × Int × Unit)) (x : (L5[1]).sh.den), execK E5 (lpOf L5) (nthLoop (codeOf Tryz.f5) 0) { κ with normal := fun σ => N (σ.keepAt (E5).hints 4) } ((L5[1]).sh.mk' x) = (L5[1]).R κ (fun x => N ((L5[1]).sh.mk' x)) x :=
  fun κ N x => by kernel_rfl
theorem C5_ok : QuietOk Tryz.prog 5 C5 :=
  told (env := E5) (fn := Tryz.f5) (c := (codeOf Tryz.f5)) (tbl := L5) (ls := [nthLoop (codeOf Tryz.f5) 0, nthLoop (codeOf Tryz.f5) 1]) (vars := Tryz.f5.results.toList) Tryz.func5 (tysC_ok tys_ok rfl rfl) (Told.fnOk (.cons C12_ok (.cons C13_ok .nil)) rfl) (by kernel_rfl) (by decide) rfl (by decide) rfl rfl rfl (by kernel_rfl) (.cons L5[1] (by kernel_rfl) L5_4 (.cons L5[0] (by kernel_rfl) L5_9 .nil)) (by kernel_rfl)

/- 134: loop.example/g00380/laws.toValue -/
noncomputable def F134 (a0 : D78) : Option (D78 × Unit) :=
 (some ((a0.1, (a0.2.1, (a0.2.2.1, ()))), ()))

noncomputable def C134 : Fun := ⟨[(.ro Y78)], [(Y78, .z)], fun z => F134 z.1⟩
noncomputable def E134 : Env := ⟨14, tyTab tys, oneTab ones, fnTab [], false, [], [(99999, [2], [])], none, []⟩
noncomputable def L134 : List (LoopS (D78 × Unit)) := []
theorem C134_ok : QuietOk Tryz.prog 134 C134 :=
  told (env := E134) (fn := Tryz.f134) (c := (codeOf Tryz.f134)) (tbl := L134) (ls := []) (vars := Tryz.f134.results.toList) Tryz.func134 (tysC_ok tys_ok rfl rfl) (Told.fnOk .nil rfl) (by kernel_rfl) (by decide) rfl (by decide) rfl rfl rfl (by kernel_rfl) .nil (by kernel_rfl)

/- 167: loop.example/g00380/laws.toVersion -/
noncomputable def F167 (a0 : D80) : Option (D80 × Unit) :=
 (Option.bind (F134 a0.2.2.1) fun y0 =>
 (some ((a0.1, (a0.2.1, (y0.1, ()))), ())))

noncomputable def C167 : Fun := ⟨[(.ro Y80)], [(Y80, .z)], fun z => F167 z.1⟩
noncomputable def E167 : Env := ⟨15, tyTab tys, oneTab ones, fnTab [(134, C134)], false, [], [(99999, [2], [])], none, []⟩
noncomputable def L167 : List (LoopS (D80 × Unit)) := []
theorem C167_ok : QuietOk Tryz.prog 167 C167 :=
  told (env := E167) (fn := Tryz.f167) (c := (codeOf Tryz.f167)) (tbl := L167) (ls := []) (vars := Tryz.f167.results.toList) Tryz.func167 (tysC_ok tys_ok rfl rfl) (Told.fnOk (.cons C134_ok .nil) rfl) (by kernel_rfl) (by decide) rfl (by decide) rfl rfl rfl (by kernel_rfl) .nil (by kernel_rfl)

/- 131: loop.example/g00380/laws.toVersionS -/
noncomputable def F131_R3 (e0_0 : List (D80) × Unit → Option (List (D80) × Unit)) (rec : List (D80) × Int × List (D80) × Unit → Option (List (D80) × Unit)) (x2 : List (D80) × Int × List (D80) × Unit) : Option (List (D80) × Unit) :=
 (cond (decide (x2.2.1 < (((List.length x2.1) : Nat) : Int)))
 (gd (decide ((0 : Int) ≤ x2.2.1))
 (Option.bind x2.1[(Int.toNat x2.2.1)]? fun y4 =>
 (Option.bind (F167 y4) fun y5 =>
 (gd (decide ((0 : Int) ≤ x2.2.1))
 (gd (decide (x2.2.1 < (((List.length x2.2.2.1) : Nat) : Int)))
 (Option.bind x2.2.2.1[(Int.toNat x2.2.1)]? fun y6 =>
 (rec (x2.1, (IntKind.wrap IntKind.i64 (x2.2.1 + (1 : Int))), (List.set x2.2.2.1 (Int.toNat x2.2.1) y5.1), ()))))))))
 (e0_0 (x2.2.2.1, ())))

noncomputable def F131 (a0 : List (D80)) : Option (List (D80) × Unit) :=
 (gd (decide ((((List.length a0) : Nat) : Int) ≤ ((4294967296 : Nat) : Int)))
 (gd (decide ((((List.length a0) : Nat) : Int) ≤ (((Int.toNat (((List.length a0) : Nat) : Int)) : Nat) : Int)))
 (iter (F131_R3
 (fun y7 =>
 (some (y7.1, ())))) fuel (a0, (0 : Int), (List.replicate (Int.toNat (((List.length a0) : Nat) : Int)) ((0 : Int), (false, (((0 : Int), ((0 : Int), ([], ()))), ())))), ()))))

noncomputable def C131 : Fun := ⟨[(.ro (.slice Y80))], [((.slice Y80), .z)], fun z => F131 z.1⟩
noncomputable def E131 : Env := ⟨23, tyTab tys, oneTab ones, fnTab [(167, C167)], false, [], [(3, [0, 3, 4], []), (5, [0, 3, 4], []), (6, [3], []), (100000, [3], []), (100001, [0, 3, 4], []), (99999, [2], [])], none, []⟩
noncomputable def L131 : List (LoopS (List (D80) × Unit)) := [⟨3, ⟨[(0, (.pv (.slice Y80))), (3, (.ref (.slice Y80) 56 [])), (4, (.pv (.int .i64)))], [(56, (.data false (.slice Y80) (.own .z)))]⟩, fun κ => F131_R3 (fun y => κ.exit 0 (SSh.mk' ⟨[(3, (.ref (.slice Y80) 56 []))], [(56, (.data false (.slice Y80) (.own .z)))]⟩ y))⟩]
theorem L131_3 : ∀ (κ : Kont (List (D80) × Unit)) (N : St → Option (List (D80) × Unit)) (x : (L131[0]).sh.den), execK E131 (lpOf L131) (nthLoop (codeOf Tryz.f131) 0) { κ with normal := fun σ => N (σ.keepAt (E131).hints 3) } ((L131[0]).sh.mk' x) = (L131[0]).R κ (fun x => N ((L131[0]).sh.mk' x)) x :=
  fun κ N x => by kernel_rfl
theorem C131_ok : QuietOk Tryz.prog 131 C131 :=
  told (env := E131) (fn := Tryz.f131) (c := (codeOf Tryz.f131)) (tbl := L131) (ls := [nthLoop (codeOf Tryz.f131) 0]) (vars := Tryz.f131.results.toList) Tryz.func131 (tysC_ok tys_ok rfl rfl) (Told.fnOk (.cons C167_ok .nil) rfl) (by kernel_rfl) (by decide) rfl (by decide) rfl rfl rfl (by kernel_rfl) (.cons L131[0] (by kernel_rfl) L131_3 .nil) (by kernel_rfl)

/- 90: loop.example/g00380/laws.toChain -/
noncomputable def F90 (a0 : D76) : Option (D76 × Unit) :=
 (Option.bind (F131 a0.2.1) fun y0 =>
 (some ((a0.1, (y0.1, ())), ())))

noncomputable def C90 : Fun := ⟨[(.ro Y76)], [(Y76, .z)], fun z => F90 z.1⟩
noncomputable def E90 : Env := ⟨12, tyTab tys, oneTab ones, fnTab [(131, C131)], false, [], [(99999, [2], [])], none, []⟩
noncomputable def L90 : List (LoopS (D76 × Unit)) := []
theorem C90_ok : QuietOk Tryz.prog 90 C90 :=
  told (env := E90) (fn := Tryz.f90) (c := (codeOf Tryz.f90)) (tbl := L90) (ls := []) (vars := Tryz.f90.results.toList) Tryz.func90 (tysC_ok tys_ok rfl rfl) (Told.fnOk (.cons C131_ok .nil) rfl) (by kernel_rfl) (by decide) rfl (by decide) rfl rfl rfl (by kernel_rfl) .nil (by kernel_rfl)

/- 59: loop.example/g00380/laws.toChainS -/
noncomputable def F59_R3 (e0_0 : List (D76) × Unit → Option (List (D76) × Unit)) (rec : List (D76) × Int × List (D76) × Unit → Option (List (D76) × Unit)) (x2 : List (D76) × Int × List (D76) × Unit) : Option (List (D76) × Unit) :=
 (cond (decide (x2.2.1 < (((List.length x2.1) : Nat) : Int)))
 (gd (decide ((0 : Int) ≤ x2.2.1))
 (Option.bind x2.1[(Int.toNat x2.2.1)]? fun y4 =>
 (Option.bind (F90 y4) fun y5 =>
 (gd (decide ((0 : Int) ≤ x2.2.1))
 (gd (decide (x2.2.1 < (((List.length x2.2.2.1) : Nat) : Int)))
 (Option.bind x2.2.2.1[(Int.toNat x2.2.1)]? fun y6 =>
 (rec (x2.1, (IntKind.wrap IntKind.i64 (x2.2.1 + (1 : Int))), (List.set x2.2.2.1 (Int.toNat x2.2.1) y5.1), ()))))))))
 (e0_0 (x2.2.2.1, ())))

noncomputable def F59 (a0 : List (D76)) : Option (List (D76) × Unit) :=
 (gd (decide ((((List.length a0) : Nat) : Int) ≤ ((4294967296 : Nat) : Int)))
 (gd (decide ((((List.length a0) : Nat) : Int) ≤ (((Int.toNat (((List.length a0) : Nat) : Int)) : Nat) : Int)))
 (iter (F59_R3
 (fun y7 =>
 (some (y7.1, ())))) fuel (a0, (0 : Int), (List.replicate (Int.toNat (((List.length a0) : Nat) : Int)) ((0 : Int), ([], ()))), ()))))

noncomputable def C59 : Fun := ⟨[(.ro (.slice Y76))], [((.slice Y76), .z)], fun z => F59 z.1⟩
noncomputable def E59 : Env := ⟨23, tyTab tys, oneTab ones, fnTab [(90, C90)], false, [], [(3, [0, 3, 4], []), (5, [0, 3, 4], []), (6, [3], []), (100000, [3], []), (100001, [0, 3, 4], []), (99999, [2], [])], none, []⟩
noncomputable def L59 : List (LoopS (List (D76) × Unit)) := [⟨3, ⟨[(0, (.pv (.slice Y76))), (3, (.ref (.slice Y76) 56 [])), (4, (.pv (.int .i64)))], [(56, (.data false (.slice Y76) (.own .z)))]⟩, fun κ => F59_R3 (fun y => κ.exit 0 (SSh.mk' ⟨[(3, (.ref (.slice Y76) 56 []))], [(56, (.data false (.slice Y76) (.own .z)))]⟩ y))⟩]
theorem L59_3 : ∀ (κ : Kont (List (D76) × Unit)) (N : St → Option (List (D76) × Unit)) (x : (L59[0]).sh.den), execK E59 (lpOf L59) (nthLoop (codeOf Tryz.f59) 0) { κ with normal := fun σ => N (σ.keepAt (E59).hints 3) } ((L59[0]).sh.mk' x) = (L59[0]).R κ (fun x => N ((L59[0]).sh.mk' x)) x :=
  fun κ N x => by kernel_rfl
theorem C59_ok : QuietOk Tryz.prog 59 C59 :=
  told (env := E59) (fn := Tryz.f59) (c := (codeOf Tryz.f59)) (tbl := L59) (ls := [nthLoop (codeOf Tryz.f59) 0]) (vars := Tryz.f59.results.toList) Tryz.func59 (tysC_ok tys_ok rfl rfl) (Told.fnOk (.cons C90_ok .nil) rfl) (by kernel_rfl) (by decide) rfl (by decide) rfl rfl rfl (by kernel_rfl) (.cons L59[0] (by kernel_rfl) L59_3 .nil) (by kernel_rfl)

/- 168: loop.example/g00380/laws.toPart -/
noncomputable def F168 (a0 : D193) : Option (D193 × Unit) :=
 (some ((a0.1, (a0.2.1, ())), ()))

noncomputable def C168 : Fun := ⟨[(.ro Y193)], [(Y193, .z)], fun z => F168 z.1⟩
noncomputable def E168 : Env := ⟨11, tyTab tys, oneTab ones, fnTab [], false, [], [(99999, [2], [])], none, []⟩
noncomputable def L168 : List (LoopS (D193 × Unit)) := []
theorem C168_ok : QuietOk Tryz.prog 168 C168 :=
  told (env := E168) (fn := Tryz.f168) (c := (codeOf Tryz.f168)) (tbl := L168) (ls := []) (vars := Tryz.f168.results.toList) Tryz.func168 (tysC_ok tys_ok rfl rfl) (Told.fnOk .nil rfl) (by kernel_rfl) (by decide) rfl (by decide) rfl rfl rfl (by kernel_rfl) .nil (by kernel_rfl)

/- 132: loop.example/g00380/laws.toPartS -/
noncomputable def F132_R3 (e0_0 : List (D193) × Unit → Option (List (D193) × Unit)) (rec : List (D193) × Int × List (D193) × Unit → Option (List (D193) × Unit)) (x2 : List (D193) × Int × List (D193) × Unit) : Option (List (D193) × Unit) :=
 (cond (decide (x2.2.1 < (((List.length x2.1) : Nat) : Int)))
 (gd (decide ((0 : Int) ≤ x2.2.1))
 (Option.bind x2.1[(Int.toNat x2.2.1)]? fun y4 =>
 (Option.bind (F168 y4) fun y5 =>
 (gd (decide ((0 : Int) ≤ x2.2.1))
 (gd (decide (x2.2.1 < (((List.length x2.2.2.1) : Nat) : Int)))
 (Option.bind x2.2.2.1[(Int.toNat x2.2.1)]? fun y6 =>
 (rec (x2.1, (IntKind.wrap IntKind.i64 (x2.2.1 + (1 : Int))), (List.set x2.2.2.1 (Int.toNat x2.2.1) y5.1), ()))))))))
 (e0_0 (x2.2.2.1, ())))

noncomputable def F132 (a0 : List (D193)) : Option (List (D193) × Unit) :=
 (gd (decide ((((List.length a0) : Nat) : Int) ≤ ((4294967296 : Nat) : Int)))
 (gd (decide ((((List.length a0) : Nat) : Int) ≤ (((Int.toNat (((List.length a0) : Nat) : Int)) : Nat) : Int)))
 (iter (F132_R3
 (fun y7 =>
 (some (y7.1, ())))) fuel (a0, (0 : Int), (List.replicate (Int.toNat (((List.length a0) : Nat) : Int)) ([], (false, ()))), ()))))

noncomputable def C132 : Fun := ⟨[(.ro (.slice Y193))], [((.slice Y193), .z)], fun z => F132 z.1⟩
noncomputable def E132 : Env := ⟨23, tyTab tys, oneTab ones, fnTab [(168, C168)], false, [], [(3, [0, 3, 4], []), (5, [0, 3, 4], []), (6, [3], []), (100000, [3], []), (100001, [0, 3, 4], []), (99999, [2], [])], none, []⟩
noncomputable def L132 : List (LoopS (List (D193) × Unit)) := [⟨3, ⟨[(0, (.pv (.slice Y193))), (3, (.ref (.slice Y193) 56 [])), (4, (.pv (.int .i64)))], [(56, (.data false (.slice Y193) (.own .z)))]⟩, fun κ => F132_R3 (fun y => κ.exit 0 (SSh.mk' ⟨[(3, (.ref (.slice Y193) 56 []))], [(56, (.data false (.slice Y193) (.own .z)))]⟩ y))⟩]
theorem L132_3 : ∀ (κ : Kont (List (D193) × Unit)) (N : St → Option (List (D193) × Unit)) (x : (L132[0]).sh.den), execK E132 (lpOf L132) (nthLoop (codeOf Tryz.f132) 0) { κ with normal := fun σ => N (σ.keepAt (E132).hints 3) } ((L132[0]).sh.mk' x) = (L132[0]).R κ (fun x => N ((L132[0]).sh.mk' x)) x :=
  fun κ N x => by kernel_rfl
theorem C132_ok : QuietOk Tryz.prog 132 C132 :=
  told (env := E132) (fn := Tryz.f132) (c := (codeOf Tryz.f132)) (tbl := L132) (ls := [nthLoop (codeOf Tryz.f132) 0]) (vars := Tryz.f132.results.toList) Tryz.func132 (tysC_ok tys_ok rfl rfl) (Told.fnOk (.cons C168_ok .nil) rfl) (by kernel_rfl) (by decide) rfl (by decide) rfl rfl rfl (by kernel_rfl) (.cons L132[0] (by kernel_rfl) L132_3 .nil) (by kernel_rfl)

/- 91: loop.example/g00380/laws.toDef -/
noncomputable def F91 (a0 : D139) : Option (D139 × Unit) :=
 (Option.bind (F132 a0.2.1) fun y0 =>
 (some ((a0.1, (y0.1, ())), ())))

noncomputable def C91 : Fun := ⟨[(.ro Y139)], [(Y139, .z)], fun z => F91 z.1⟩
noncomputable def E91 : Env := ⟨12, tyTab tys, oneTab ones, fnTab [(132, C132)], false, [], [(99999, [2], [])], none, []⟩
noncomputable def L91 : List (LoopS (D139 × Unit)) := []
theorem C91_ok : QuietOk Tryz.prog 91 C91 :=
  told (env := E91) (fn := Tryz.f91) (c := (codeOf Tryz.f91)) (tbl := L91) (ls := []) (vars := Tryz.f91.results.toList) Tryz.func91 (tysC_ok tys_ok rfl rfl) (Told.fnOk (.cons C132_ok .nil) rfl) (by kernel_rfl) (by decide) rfl (by decide) rfl rfl rfl (by kernel_rfl) .nil (by kernel_rfl)

/- 60: loop.example/g00380/laws.toDefS -/
noncomputable def F60_R3 (e0_0 : List (D139) × Unit → Option (List (D139) × Unit)) (rec : List (D139) × Int × List (D139) × Unit → Option (List (D139) × Unit)) (x2 : List (D139) × Int × List (D139) × Unit) : Option (List (D139) × Unit) :=
 (cond (decide (x2.2.1 < (((List.length x2.1) : Nat) : Int)))
 (gd (decide ((0 : Int) ≤ x2.2.1))
 (Option.bind x2.1[(Int.toNat x2.2.1)]? fun y4 =>
 (Option.bind (F91 y4) fun y5 =>
 (gd (decide ((0 : Int) ≤ x2.2.1))
 (gd (decide (x2.2.1 < (((List.length x2.2.2.1) : Nat) : Int)))
 (Option.bind x2.2.2.1[(Int.toNat x2.2.1)]? fun y6 =>
 (rec (x2.1, (IntKind.wrap IntKind.i64 (x2.2.1 + (1 : Int))), (List.set x2.2.2.1 (Int.toNat x2.2.1) y5.1), ()))))))))
 (e0_0 (x2.2.2.1, ())))

noncomputable def F60 (a0 : List (D139)) : Option (List (D139) × Unit) :=
 (gd (decide ((((List.length a0) : Nat) : Int) ≤ ((4294967296 : Nat) : Int)))
 (gd (decide ((((List.length a0) : Nat) : Int) ≤ (((Int.toNat (((List.length a0) : Nat) : Int)) : Nat) : Int)))
 (iter (F60_R3
 (fun y7 =>
 (some (y7.1, ())))) fuel (a0, (0 : Int), (List.replicate (Int.toNat (((List.length a0) : Nat) : Int)) ([], ([], ()))), ()))))

noncomputable def C60 : Fun := ⟨[(.ro (.slice Y139))], [((.slice Y139), .z)], fun z => F60 z.1⟩
noncomputable def E60 : Env := ⟨23, tyTab tys, oneTab ones, fnTab [(91, C91)], false, [], [(3, [0, 3, 4], []), (5, [0, 3, 4], []), (6, [3], []), (100000, [3], []), (100001, [0, 3, 4], []), (99999, [2], [])], none, []⟩
noncomputable def L60 : List (LoopS (List (D139) × Unit)) := [⟨3, ⟨[(0, (.pv (.slice Y139))), (3, (.ref (.slice Y139) 56 [])), (4, (.pv (.int .i64)))], [(56, (.data false (.slice Y139) (.own .z)))]⟩, fun κ => F60_R3 (fun y => κ.exit 0 (SSh.mk' ⟨[(3, (.ref (.slice Y139) 56 []))], [(56, (.data false (.slice Y139) (.own .z)))]⟩ y))⟩]
theorem L60_3 : ∀ (κ : Kont (List (D139) × Unit)) (N : St → Option (List (D139) × Unit)) (x : (L60[0]).sh.den), execK E60 (lpOf L60) (nthLoop (codeOf Tryz.f60) 0) { κ with normal := fun σ => N (σ.keepAt (E60).hints 3) } ((L60[0]).sh.mk' x) = (L60[0]).R κ (fun x => N ((L60[0]).sh.mk' x)) x :=
  fun κ N x => by kernel_rfl
theorem C60_ok : QuietOk Tryz.prog 60 C60 :=
  told (env := E60) (fn := Tryz.f60) (c := (codeOf Tryz.f60)) (tbl := L60) (ls := [nthLoop (codeOf Tryz.f60) 0]) (vars := Tryz.f60.results.toList) Tryz.func60 (tysC_ok tys_ok rfl rfl) (Told.fnOk (.cons C91_ok .nil) rfl) (by kernel_rfl) (by decide) rfl (by decide) rfl rfl rfl (by kernel_rfl) (.cons L60[0] (by kernel_rfl) L60_3 .nil) (by kernel_rfl)

end Go.V
