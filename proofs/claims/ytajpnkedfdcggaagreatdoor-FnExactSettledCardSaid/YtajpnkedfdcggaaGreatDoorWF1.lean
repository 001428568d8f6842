/- What functions of the program compute, printed by a program of ours. No condition. -/
import Derived.Test.YtajpnkedfdcggaaGreatDoorWF0
namespace Go.V
set_option maxRecDepth 100000
set_option linter.unusedVariables false
abbrev G168 : Type := (D59) → (Int) → Option (Bool × Unit)
noncomputable def H168 (g : G168) : Fun := ⟨[(.ro Y59), (.ro (.int .i64))], [(.bool, .z)], fun z => g z.1 z.2.1⟩

/- 168: loop.example/g00380/spec.l01OK -/
noncomputable def B168_R15 (g : G168) (e1_0 : Unit → Option (Bool × Unit)) (er_1 : Bool × Unit → Option (Bool × Unit)) (rec : Int × List (D59) × Int × Unit → Option (Bool × Unit)) (x7 : Int × List (D59) × Int × Unit) : Option (Bool × Unit) :=
 (cond (decide (x7.2.2.1 < (((List.length x7.2.1) : Nat) : Int)))
 (gd (decide ((0 : Int) ≤ x7.2.2.1))
 (Option.bind x7.2.1[(Int.toNat x7.2.2.1)]? fun y10 =>
 (Option.bind (g y10 (IntKind.wrap IntKind.i64 (x7.1 - (1 : Int)))) fun y11 =>
 (cond (!y11.1)
 (er_1 (false, ()))
 (rec (x7.1, x7.2.1, (IntKind.wrap IntKind.i64 (x7.2.2.1 + (1 : Int))), ()))))))
 (e1_0 (())))

noncomputable def B168_R25 (g : G168) (e3_0 : Unit → Option (Bool × Unit)) (er_1 : Bool × Unit → Option (Bool × Unit)) (rec : Int × List (D238) × Int × Unit → Option (Bool × Unit)) (x18 : Int × List (D238) × Int × Unit) : Option (Bool × Unit) :=
 (cond (decide (x18.2.2.1 < (((List.length x18.2.1) : Nat) : Int)))
 (let j29 : Int × List (D238) × Int × Unit → Option (Bool × Unit) := fun (y30 : Int × List (D238) × Int × Unit) =>
 (rec (y30.1, y30.2.1, (IntKind.wrap IntKind.i64 (y30.2.2.1 + (1 : Int))), ()))
 (gd (decide ((0 : Int) ≤ x18.2.2.1))
 (Option.bind x18.2.1[(Int.toNat x18.2.2.1)]? fun y21 =>
 (Option.bind (F77 y21.1) fun y22 =>
 (cond (!y22.1)
 (er_1 (false, ()))
 (cond (decide (x18.2.2.1 > (0 : Int)))
 (gd (decide ((0 : Int) ≤ (IntKind.wrap IntKind.i64 (x18.2.2.1 - (1 : Int)))))
 (Option.bind x18.2.1[(Int.toNat (IntKind.wrap IntKind.i64 (x18.2.2.1 - (1 : Int))))]? fun y23 =>
 (gd (decide ((0 : Int) ≤ x18.2.2.1))
 (Option.bind x18.2.1[(Int.toNat x18.2.2.1)]? fun y24 =>
 (cond (!(Op.bytesLess y23.1 y24.1))
 (er_1 (false, ()))
 (gd (decide ((0 : Int) ≤ x18.2.2.1))
 (Option.bind x18.2.1[(Int.toNat x18.2.2.1)]? fun y25 =>
 (Option.bind (g y25.2.1 (IntKind.wrap IntKind.i64 (x18.1 - (1 : Int)))) fun y26 =>
 (cond (!y26.1)
 (er_1 (false, ()))
 (j29 (x18.1, x18.2.1, x18.2.2.1, ())))))))))))
 (gd (decide ((0 : Int) ≤ x18.2.2.1))
 (Option.bind x18.2.1[(Int.toNat x18.2.2.1)]? fun y27 =>
 (Option.bind (g y27.2.1 (IntKind.wrap IntKind.i64 (x18.1 - (1 : Int)))) fun y28 =>
 (cond (!y28.1)
 (er_1 (false, ()))
 (j29 (x18.1, x18.2.1, x18.2.2.1, ()))))))))))))
 (e3_0 (())))

noncomputable def B168 (g : G168) (a0 : D59) (a1 : Int) : Option (Bool × Unit) :=
 (cond (a0.1 == (0 : Int))
 (cond (a0.2.1 == (0 : Int))
 (some ((a0.2.2.1 == []), ()))
 (some (false, ())))
 (cond (a0.1 == (1 : Int))
 (Option.bind (F28 a0.2.1 (0 : Int) (1 : Int)) fun y1 =>
 (cond y1.1
 (some ((a0.2.2.1 == []), ()))
 (some (false, ()))))
 (cond (a0.1 == (2 : Int))
 (Option.bind (F28 a0.2.1 (-(1000000000000 : Int)) (1000000000000 : Int)) fun y2 =>
 (cond y2.1
 (some ((a0.2.2.1 == []), ()))
 (some (false, ()))))
 (cond (a0.1 == (3 : Int))
 (cond (a0.2.1 == (0 : Int))
 (some ((decide ((((List.length a0.2.2.1) : Nat) : Int) ≤ (300 : Int))), ()))
 (some (false, ())))
 (cond (a0.1 == (4 : Int))
 (Option.bind (F184 a0.2.2.1) fun y3 =>
 (cond (a0.2.1 != (0 : Int))
 (some (false, ()))
 (cond (!y3.2.1)
 (some (false, ()))
 (cond (decide ((((List.length a0.2.2.1) : Nat) : Int) > (300 : Int)))
 (some (false, ()))
 (cond (a1 == (0 : Int))
 (some (false, ()))
 (iter (B168_R15 g
 (fun y12 =>
 (some (true, ())))
 (fun y13 =>
 (some (y13.1, ())))) fuel (a1, y3.1, (0 : Int), ())))))))
 (cond (a0.1 == (5 : Int))
 (Option.bind (F169 a0.2.2.1) fun y14 =>
 (cond (a0.2.1 != (0 : Int))
 (some (false, ()))
 (cond (!y14.2.1)
 (some (false, ()))
 (cond (decide ((((List.length a0.2.2.1) : Nat) : Int) > (300 : Int)))
 (some (false, ()))
 (cond (a1 == (0 : Int))
 (some (false, ()))
 (iter (B168_R25 g
 (fun y31 =>
 (some (true, ())))
 (fun y32 =>
 (some (y32.1, ())))) fuel (a1, y14.1, (0 : Int), ())))))))
 (some (false, ()))))))))

noncomputable def K168 (g : G168) : Fun := ⟨[(.ro Y59), (.ro (.int .i64))], [(.bool, .z)], fun z => B168 g z.1 z.2.1⟩
noncomputable def E168 (g : G168) : Env := ⟨160, tyTab tys, oneTab ones, fnTab [(28, C28), (77, C77), (168, (H168 g)), (169, C169), (184, C184)], false, [], [(14, [1, 5], []), (15, [1, 5, 7], []), (16, [1, 5, 7], []), (17, [1, 5, 7], []), (19, [], []), (24, [1, 8], []), (25, [1, 8, 10], []), (26, [1, 8, 10], []), (27, [1, 8, 10], []), (29, [], []), (30, [], []), (100000, [], []), (100001, [], []), (100002, [1, 5, 7], []), (100003, [], []), (100004, [1, 8, 10], []), (99999, [4], [])], none, []⟩
noncomputable def L168 (g : G168) : List (LoopS (Bool × Unit)) := [⟨15, ⟨[(1, (.pv (.int .i64))), (5, (.pv (.slice Y59))), (7, (.pv (.int .i64)))], []⟩, fun κ => B168_R15 g (fun y => κ.exit 1 (SSh.mk' ⟨[], []⟩ y)) (fun y => κ.ret (SSh.mk' ⟨[(4, (.pv .bool))], []⟩ y))⟩,
  ⟨25, ⟨[(1, (.pv (.int .i64))), (8, (.pv (.slice Y238))), (10, (.pv (.int .i64)))], []⟩, fun κ => B168_R25 g (fun y => κ.exit 3 (SSh.mk' ⟨[], []⟩ y)) (fun y => κ.ret (SSh.mk' ⟨[(4, (.pv .bool))], []⟩ y))⟩]
theorem L168_25 (g : G168) : ∀ (κ : Kont (Bool × Unit)) (N : St → Option (Bool × Unit)) (x : (((L168 g)[1]'(Nat.le_of_ble_eq_true rfl))).sh.den), execK (E168 g) (lpOf (L168 g)) (nthLoop (codeOf Go.Proofs.Tryz.f168) 1) { κ with normal := fun σ => N (σ.keepAt ((E168 g)).hints 25) } ((((L168 g)[1]'(Nat.le_of_ble_eq_true rfl))).sh.mk' x) = (((L168 g)[1]'(Nat.le_of_ble_eq_true rfl))).R κ (fun x => N ((((L168 g)[1]'(Nat.le_of_ble_eq_true rfl))).sh.mk' x)) x :=
  fun κ N x => by kernel_rfl
theorem L168_15 (g : G168) : ∀ (κ : Kont (Bool × Unit)) (N : St → Option (Bool × Unit)) (x : (((L168 g)[0]'(Nat.le_of_ble_eq_true rfl))).sh.den), execK (E168 g) (lpOf (L168 g)) (nthLoop (codeOf Go.Proofs.Tryz.f168) 0) { κ with normal := fun σ => N (σ.keepAt ((E168 g)).hints 15) } ((((L168 g)[0]'(Nat.le_of_ble_eq_true rfl))).sh.mk' x) = (((L168 g)[0]'(Nat.le_of_ble_eq_true rfl))).R κ (fun x => N ((((L168 g)[0]'(Nat.le_of_ble_eq_true rfl))).sh.mk' x)) x :=
  fun κ N x => by kernel_rfl
theorem K168_ok (g : G168) (hg : QuietOk Go.Proofs.Tryz.prog 168 (H168 g)) : QuietOk Go.Proofs.Tryz.prog 168 (K168 g) :=
  told (env := (E168 g)) (fn := Go.Proofs.Tryz.f168) (c := (codeOf Go.Proofs.Tryz.f168)) (tbl := (L168 g)) (ls := [nthLoop (codeOf Go.Proofs.Tryz.f168) 0, nthLoop (codeOf Go.Proofs.Tryz.f168) 1]) (vars := Go.Proofs.Tryz.f168.results.toList) Go.Proofs.Tryz.func168 (tysC_ok tys_ok rfl rfl) (Told.fnOk (.cons C28_ok (.cons C77_ok (.cons hg (.cons C169_ok (.cons C184_ok .nil))))) rfl) (by kernel_rfl) (by decide) rfl (by decide) rfl rfl rfl (by kernel_rfl) (.cons ((L168 g)[0]'(Nat.le_of_ble_eq_true rfl)) (by kernel_rfl) (L168_15 g) (.cons ((L168 g)[1]'(Nat.le_of_ble_eq_true rfl)) (by kernel_rfl) (L168_25 g) .nil)) (by kernel_rfl)

noncomputable def S168 : Nat → G168
  | 0 => fun _ _ => none
  | k + 1 => B168 (S168 k)
noncomputable def F168 : G168 := S168 fuel
noncomputable def C168 : Fun := H168 F168
theorem C168_all : ∀ k, QuietOk Go.Proofs.Tryz.prog 168 (H168 (S168 k))
  | 0 => QuietOk.none Go.Proofs.Tryz.func168 (by rfl) (by decide) fun _ => rfl
  | k + 1 => K168_ok (S168 k) (C168_all k)
theorem C168_ok : QuietOk Go.Proofs.Tryz.prog 168 C168 := C168_all fuel

/- 147: loop.example/g00380/spec.ValueOK -/
noncomputable def F147 (a0 : D59) : Option (Bool × Unit) :=
 (cond (decide ((((List.length a0.2.2.1) : Nat) : Int) ≤ (65536 : Int)))
 (Option.bind (F168 a0 (5 : Int)) fun y0 =>
 (some (y0.1, ())))
 (some (false, ())))

noncomputable def C147 : Fun := ⟨[(.ro Y59)], [(.bool, .z)], fun z => F147 z.1⟩
noncomputable def E147 : Env := ⟨11, tyTab tys, oneTab ones, fnTab [(168, C168)], false, [], [(99999, [2], [])], none, []⟩
noncomputable def L147 : List (LoopS (Bool × Unit)) := []
theorem C147_ok : QuietOk Go.Proofs.Tryz.prog 147 C147 :=
  told (env := E147) (fn := Go.Proofs.Tryz.f147) (c := (codeOf Go.Proofs.Tryz.f147)) (tbl := L147) (ls := []) (vars := Go.Proofs.Tryz.f147.results.toList) Go.Proofs.Tryz.func147 (tysC_ok tys_ok rfl rfl) (Told.fnOk (.cons C168_ok .nil) rfl) (by kernel_rfl) (by decide) rfl (by decide) rfl rfl rfl (by kernel_rfl) .nil (by kernel_rfl)

/- 114: loop.example/g00380/spec.l03Doc -/
noncomputable def F114 (a0 : D59) : Option (Bool × Unit) :=
 (Option.bind (F147 a0) fun y0 =>
 (cond y0.1
 (some ((a0.1 == (5 : Int)), ()))
 (some (false, ()))))

noncomputable def C114 : Fun := ⟨[(.ro Y59)], [(.bool, .z)], fun z => F114 z.1⟩
noncomputable def E114 : Env := ⟨10, tyTab tys, oneTab ones, fnTab [(147, C147)], false, [], [(99999, [2], [])], none, []⟩
noncomputable def L114 : List (LoopS (Bool × Unit)) := []
theorem C114_ok : QuietOk Go.Proofs.Tryz.prog 114 C114 :=
  told (env := E114) (fn := Go.Proofs.Tryz.f114) (c := (codeOf Go.Proofs.Tryz.f114)) (tbl := L114) (ls := []) (vars := Go.Proofs.Tryz.f114.results.toList) Go.Proofs.Tryz.func114 (tysC_ok tys_ok rfl rfl) (Told.fnOk (.cons C147_ok .nil) rfl) (by kernel_rfl) (by decide) rfl (by decide) rfl rfl rfl (by kernel_rfl) .nil (by kernel_rfl)

/- 148: loop.example/g00380/spec.l02Field -/
noncomputable def F148_R3 (e0_0 : D59 × Unit → Option (D59 × Bool × Unit)) (er_1 : Bool × D59 × Unit → Option (D59 × Bool × Unit)) (rec : List UInt8 × List (D238) × Int × D59 × Unit → Option (D59 × Bool × Unit)) (x3 : List UInt8 × List (D238) × Int × D59 × Unit) : Option (D59 × Bool × Unit) :=
 (cond (decide (x3.2.2.1 < (((List.length x3.2.1) : Nat) : Int)))
 (gd (decide ((0 : Int) ≤ x3.2.2.1))
 (Option.bind x3.2.1[(Int.toNat x3.2.2.1)]? fun y6 =>
 (cond (y6.1 == x3.1)
 (gd (decide ((0 : Int) ≤ x3.2.2.1))
 (Option.bind x3.2.1[(Int.toNat x3.2.2.1)]? fun y7 =>
 (er_1 (true, y7.2.1, ()))))
 (rec (x3.1, x3.2.1, (IntKind.wrap IntKind.i64 (x3.2.2.1 + (1 : Int))), x3.2.2.2.1, ())))))
 (e0_0 (x3.2.2.2.1, ())))

noncomputable def F148 (a0 : D59) (a1 : List UInt8) : Option (D59 × Bool × Unit) :=
 (Option.bind (F169 a0.2.2.1) fun y0 =>
 (iter (F148_R3
 (fun y8 =>
 (some (((0 : Int), ((0 : Int), ([], ()))), (false, ()))))
 (fun y9 =>
 (some (y9.2.1, (y9.1, ()))))) fuel (a1, y0.1, (0 : Int), ((0 : Int), ((0 : Int), ([], ()))), ())))

noncomputable def C148 : Fun := ⟨[(.ro Y59), (.ro .str)], [(Y59, .z), (.bool, .z)], fun z => F148 z.1 z.2.1⟩
noncomputable def E148 : Env := ⟨34, tyTab tys, oneTab ones, fnTab [(169, C169)], false, [], [(3, [1, 4, 6, 8], []), (4, [1, 4, 6, 8], []), (5, [1, 4, 6, 8], []), (7, [4], []), (100000, [4], []), (100001, [1, 4, 6, 8], []), (99999, [4, 5], [])], none, []⟩
noncomputable def L148 : List (LoopS (D59 × Bool × Unit)) := [⟨3, ⟨[(1, (.pv .str)), (4, (.ptr 32 [])), (6, (.pv (.slice Y238))), (8, (.pv (.int .i64)))], [(32, (.data true Y59 .z))]⟩, fun κ => F148_R3 (fun y => κ.exit 0 (SSh.mk' ⟨[(4, (.ptr 32 []))], [(32, (.data true Y59 .z))]⟩ y)) (fun y => κ.ret (SSh.mk' ⟨[(4, (.ptr 32 [])), (5, (.pv .bool))], [(32, (.data true Y59 .z))]⟩ y))⟩]
theorem L148_3 : ∀ (κ : Kont (D59 × Bool × Unit)) (N : St → Option (D59 × Bool × Unit)) (x : (L148[0]).sh.den), execK E148 (lpOf L148) (nthLoop (codeOf Go.Proofs.Tryz.f148) 0) { κ with normal := fun σ => N (σ.keepAt (E148).hints 3) } ((L148[0]).sh.mk' x) = (L148[0]).R κ (fun x => N ((L148[0]).sh.mk' x)) x :=
  fun κ N x => by kernel_rfl
theorem C148_ok : QuietOk Go.Proofs.Tryz.prog 148 C148 :=
  told (env := E148) (fn := Go.Proofs.Tryz.f148) (c := (codeOf Go.Proofs.Tryz.f148)) (tbl := L148) (ls := [nthLoop (codeOf Go.Proofs.Tryz.f148) 0]) (vars := Go.Proofs.Tryz.f148.results.toList) Go.Proofs.Tryz.func148 (tysC_ok tys_ok rfl rfl) (Told.fnOk (.cons C169_ok .nil) rfl) (by kernel_rfl) (by decide) rfl (by decide) rfl rfl rfl (by kernel_rfl) (.cons L148[0] (by kernel_rfl) L148_3 .nil) (by kernel_rfl)

/- 115: loop.example/g00380/spec.l06Id -/
noncomputable def F115 (a0 : D59) : Option (Int × Unit) :=
 (Option.bind (F148 a0 [(105 : UInt8), (100 : UInt8)]) fun y0 =>
 (cond (!y0.2.1)
 (some ((-(1 : Int)), ()))
 (cond (y0.1.1 != (2 : Int))
 (some ((-(1 : Int)), ()))
 (Option.bind (F28 y0.1.2.1 (0 : Int) (99 : Int)) fun y2 =>
 (cond (!y2.1)
 (some ((-(1 : Int)), ()))
 (some (y0.1.2.1, ())))))))

noncomputable def C115 : Fun := ⟨[(.ro Y59)], [((.int .i64), .z)], fun z => F115 z.1⟩
noncomputable def E115 : Env := ⟨25, tyTab tys, oneTab ones, fnTab [(28, C28), (148, C148)], false, [], [(4, [3], []), (99999, [2], [])], none, []⟩
noncomputable def L115 : List (LoopS (Int × Unit)) := []
theorem C115_ok : QuietOk Go.Proofs.Tryz.prog 115 C115 :=
  told (env := E115) (fn := Go.Proofs.Tryz.f115) (c := (codeOf Go.Proofs.Tryz.f115)) (tbl := L115) (ls := []) (vars := Go.Proofs.Tryz.f115.results.toList) Go.Proofs.Tryz.func115 (tysC_ok tys_ok rfl rfl) (Told.fnOk (.cons C28_ok (.cons C148_ok .nil)) rfl) (by kernel_rfl) (by decide) rfl (by decide) rfl rfl rfl (by kernel_rfl) .nil (by kernel_rfl)

/- 79: loop.example/g00380/spec.l08Doc -/
noncomputable def F79 (a0 : Int) (a1 : Bool) (a2 : D59) : Option (Bool × Unit) :=
 (cond a1
 (some (((decide (a2.1 = (0 : Int))) && ((decide (a2.2.1 = (0 : Int))) && ((a2.2.2.1 == []) && true))), ()))
 (Option.bind (F114 a2) fun y1 =>
 (cond y1.1
 (Option.bind (F115 a2) fun y2 =>
 (some ((y2.1 == a0), ())))
 (some (false, ())))))

noncomputable def C79 : Fun := ⟨[(.ro (.int .i64)), (.ro .bool), (.ro Y59)], [(.bool, .z)], fun z => F79 z.1 z.2.1 z.2.2.1⟩
noncomputable def E79 : Env := ⟨19, tyTab tys, oneTab ones, fnTab [(114, C114), (115, C115)], false, [], [(3, [0, 5], []), (99999, [6], [])], none, []⟩
noncomputable def L79 : List (LoopS (Bool × Unit)) := []
theorem C79_ok : QuietOk Go.Proofs.Tryz.prog 79 C79 :=
  told (env := E79) (fn := Go.Proofs.Tryz.f79) (c := (codeOf Go.Proofs.Tryz.f79)) (tbl := L79) (ls := []) (vars := Go.Proofs.Tryz.f79.results.toList) Go.Proofs.Tryz.func79 (tysC_ok tys_ok rfl rfl) (Told.fnOk (.cons C114_ok (.cons C115_ok .nil)) rfl) (by kernel_rfl) (by decide) rfl (by decide) rfl rfl rfl (by kernel_rfl) .nil (by kernel_rfl)

/- 50: loop.example/g00380/spec.CollOK -/
noncomputable def F50_R9 (e2_0 : Int × D54 × Unit → Option (Bool × Unit)) (er_1 : Bool × Unit → Option (Bool × Unit)) (rec : Int × Int × D54 × Unit → Option (Bool × Unit)) (x11 : Int × Int × D54 × Unit) : Option (Bool × Unit) :=
 (cond (decide (x11.2.1 < x11.1))
 (gd (decide ((0 : Int) ≤ x11.2.1))
 (Option.bind x11.2.2.1.2.2.1[(Int.toNat x11.2.1)]? fun y14 =>
 (gd (decide ((0 : Int) ≤ x11.1))
 (Option.bind x11.2.2.1.2.2.1[(Int.toNat x11.1)]? fun y15 =>
 (cond (y14.1 == y15.1)
 (er_1 (false, ()))
 (rec (x11.1, (IntKind.wrap IntKind.i64 (x11.2.1 + (1 : Int))), x11.2.2.1, ())))))))
 (e2_0 (x11.1, x11.2.2.1, ())))

noncomputable def F50_R4 (e0_0 : D54 × Unit → Option (Bool × Unit)) (er_1 : Bool × Unit → Option (Bool × Unit)) (rec : Int × D54 × Unit → Option (Bool × Unit)) (x4 : Int × D54 × Unit) : Option (Bool × Unit) :=
 (cond (decide (x4.1 < (((List.length x4.2.1.2.2.1) : Nat) : Int)))
 (gd (decide ((0 : Int) ≤ x4.1))
 (Option.bind x4.2.1.2.2.1[(Int.toNat x4.1)]? fun y8 =>
 (Option.bind (F78 y8) fun y9 =>
 (cond (!y9.1)
 (er_1 (false, ()))
 (iter (F50_R9
 (fun y16 =>
 (rec ((IntKind.wrap IntKind.i64 (y16.1 + (1 : Int))), y16.2.1, ())))
 (fun y17 =>
 (er_1 (y17.1, ())))) fuel (x4.1, (0 : Int), x4.2.1, ()))))))
 (e0_0 (x4.2.1, ())))

noncomputable def F50_R20 (e6_0 : Int × D54 × Unit → Option (Bool × Unit)) (er_1 : Bool × Unit → Option (Bool × Unit)) (rec : Int × Int × D54 × D57 × Unit → Option (Bool × Unit)) (x34 : Int × Int × D54 × D57 × Unit) : Option (Bool × Unit) :=
 (cond (decide (x34.2.1 < (((List.length x34.2.2.2.1.2.1) : Nat) : Int)))
 (let j42 : Int × Int × D54 × D57 × Unit → Option (Bool × Unit) := fun (y43 : Int × Int × D54 × D57 × Unit) =>
 (rec (y43.1, (IntKind.wrap IntKind.i64 (y43.2.1 + (1 : Int))), y43.2.2.1, y43.2.2.2.1, ()))
 (gd (decide ((0 : Int) ≤ x34.2.1))
 (Option.bind x34.2.2.2.1.2.1[(Int.toNat x34.2.1)]? fun y37 =>
 (Option.bind (F28 y37.1 (1 : Int) (10000 : Int)) fun y38 =>
 (cond (!y38.1)
 (er_1 (false, ()))
 (cond (decide (x34.2.1 > (0 : Int)))
 (gd (decide ((0 : Int) ≤ (IntKind.wrap IntKind.i64 (x34.2.1 - (1 : Int)))))
 (Option.bind x34.2.2.2.1.2.1[(Int.toNat (IntKind.wrap IntKind.i64 (x34.2.1 - (1 : Int))))]? fun y39 =>
 (cond (decide (y39.1 ≥ y37.1))
 (er_1 (false, ()))
 (Option.bind (F79 x34.2.2.2.1.1 y37.2.1 y37.2.2.1) fun y40 =>
 (cond (!y40.1)
 (er_1 (false, ()))
 (j42 (x34.1, x34.2.1, x34.2.2.1, x34.2.2.2.1, ())))))))
 (Option.bind (F79 x34.2.2.2.1.1 y37.2.1 y37.2.2.1) fun y41 =>
 (cond (!y41.1)
 (er_1 (false, ()))
 (j42 (x34.1, x34.2.1, x34.2.2.1, x34.2.2.2.1, ()))))))))))
 (e6_0 (x34.1, x34.2.2.1, ())))

noncomputable def F50_R14 (e4_0 : Unit → Option (Bool × Unit)) (er_1 : Bool × Unit → Option (Bool × Unit)) (rec : Int × D54 × Unit → Option (Bool × Unit)) (x22 : Int × D54 × Unit) : Option (Bool × Unit) :=
 (cond (decide (x22.1 < (((List.length x22.2.1.2.1) : Nat) : Int)))
 (gd (decide ((0 : Int) ≤ x22.1))
 (Option.bind x22.2.1.2.1[(Int.toNat x22.1)]? fun y25 =>
 (let j31 : Int × D54 × D57 × Unit → Option (Bool × Unit) := fun (y32 : Int × D54 × D57 × Unit) =>
 (iter (F50_R20
 (fun y44 =>
 (rec ((IntKind.wrap IntKind.i64 (y44.1 + (1 : Int))), y44.2.1, ())))
 (fun y45 =>
 (er_1 (y45.1, ())))) fuel (y32.1, (0 : Int), y32.2.1, y32.2.2.1, ()))
 (Option.bind (F28 y25.1 (0 : Int) (19 : Int)) fun y27 =>
 (cond (!y27.1)
 (er_1 (false, ()))
 (cond (decide (x22.1 > (0 : Int)))
 (gd (decide ((0 : Int) ≤ (IntKind.wrap IntKind.i64 (x22.1 - (1 : Int)))))
 (Option.bind x22.2.1.2.1[(Int.toNat (IntKind.wrap IntKind.i64 (x22.1 - (1 : Int))))]? fun y28 =>
 (cond (decide (y28.1 ≥ y25.1))
 (er_1 (false, ()))
 (Option.bind (F28 (((List.length y25.2.1) : Nat) : Int) (1 : Int) (12 : Int)) fun y29 =>
 (cond (!y29.1)
 (er_1 (false, ()))
 (j31 (x22.1, x22.2.1, y25, ())))))))
 (Option.bind (F28 (((List.length y25.2.1) : Nat) : Int) (1 : Int) (12 : Int)) fun y30 =>
 (cond (!y30.1)
 (er_1 (false, ()))
 (j31 (x22.1, x22.2.1, y25, ()))))))))))
 (e4_0 (())))

noncomputable def F50 (a0 : D54) : Option (Bool × Unit) :=
 (Option.bind (F77 a0.1) fun y1 =>
 (cond (!y1.1)
 (some (false, ()))
 (cond (decide ((((List.length a0.2.1) : Nat) : Int) > (20 : Int)))
 (some (false, ()))
 (cond (decide ((((List.length a0.2.2.1) : Nat) : Int) > (3 : Int)))
 (some (false, ()))
 (iter (F50_R4
 (fun y18 =>
 (iter (F50_R14
 (fun y46 =>
 (some (true, ())))
 (fun y47 =>
 (some (y47.1, ())))) fuel ((0 : Int), y18.1, ())))
 (fun y19 =>
 (some (y19.1, ())))) fuel ((0 : Int), a0, ()))))))

noncomputable def C50 : Fun := ⟨[(.ro Y54)], [(.bool, .z)], fun z => F50 z.1⟩
noncomputable def E50 : Env := ⟨138, tyTab tys, oneTab ones, fnTab [(28, C28), (77, C77), (78, C78), (79, C79)], false, [], [(3, [1], []), (4, [1, 3], []), (5, [1, 3], []), (6, [1, 3], []), (8, [1, 3], []), (9, [1, 3, 4], []), (10, [1, 3, 4], []), (11, [1, 3, 4], []), (13, [1], []), (14, [1, 5], []), (15, [1, 5], []), (16, [1, 5], []), (19, [1, 5, 6], []), (20, [1, 5, 6, 7], []), (21, [1, 5, 6, 7], []), (22, [1, 5, 6, 7], []), (25, [], []), (100000, [1], []), (100001, [1, 3], []), (100002, [1, 3], []), (100003, [1, 3, 4], []), (100004, [], []), (100005, [1, 5], []), (100006, [1, 5], []), (100007, [1, 5, 6, 7], []), (99999, [2], [])], none, []⟩
noncomputable def L50 : List (LoopS (Bool × Unit)) := [⟨9, ⟨[(1, (.ptr 8 [])), (3, (.pv (.int .i64))), (4, (.pv (.int .i64)))], [(8, (.data true Y54 .z))]⟩, fun κ => F50_R9 (fun y => κ.exit 2 (SSh.mk' ⟨[(1, (.ptr 8 [])), (3, (.pv (.int .i64)))], [(8, (.data true Y54 .z))]⟩ y)) (fun y => κ.ret (SSh.mk' ⟨[(2, (.pv .bool))], []⟩ y))⟩,
  ⟨4, ⟨[(1, (.ptr 8 [])), (3, (.pv (.int .i64)))], [(8, (.data true Y54 .z))]⟩, fun κ => F50_R4 (fun y => κ.exit 0 (SSh.mk' ⟨[(1, (.ptr 8 []))], [(8, (.data true Y54 .z))]⟩ y)) (fun y => κ.ret (SSh.mk' ⟨[(2, (.pv .bool))], []⟩ y))⟩,
  ⟨20, ⟨[(1, (.ptr 8 [])), (5, (.pv (.int .i64))), (6, (.ptr 48 [])), (7, (.pv (.int .i64)))], [(8, (.data true Y54 .z)), (48, (.data true Y57 .z))]⟩, fun κ => F50_R20 (fun y => κ.exit 6 (SSh.mk' ⟨[(1, (.ptr 8 [])), (5, (.pv (.int .i64)))], [(8, (.data true Y54 .z))]⟩ y)) (fun y => κ.ret (SSh.mk' ⟨[(2, (.pv .bool))], []⟩ y))⟩,
  ⟨14, ⟨[(1, (.ptr 8 [])), (5, (.pv (.int .i64)))], [(8, (.data true Y54 .z))]⟩, fun κ => F50_R14 (fun y => κ.exit 4 (SSh.mk' ⟨[], []⟩ y)) (fun y => κ.ret (SSh.mk' ⟨[(2, (.pv .bool))], []⟩ y))⟩]
theorem L50_20 : ∀ (κ : Kont (Bool × Unit)) (N : St → Option (Bool × Unit)) (x : (L50[2]).sh.den), execK E50 (lpOf L50) (nthLoop (codeOf Go.Proofs.Tryz.f50) 3) { κ with normal := fun σ => N (σ.keepAt (E50).hints 20) } ((L50[2]).sh.mk' x) = (L50[2]).R κ (fun x => N ((L50[2]).sh.mk' x)) x :=
  fun κ N x => by kernel_rfl
theorem L50_14 : ∀ (κ : Kont (Bool × Unit)) (N : St → Option (Bool × Unit)) (x : (L50[3]).sh.den), execK E50 (lpOf L50) (nthLoop (codeOf Go.Proofs.Tryz.f50) 2) { κ with normal := fun σ => N (σ.keepAt (E50).hints 14) } ((L50[3]).sh.mk' x) = (L50[3]).R κ (fun x => N ((L50[3]).sh.mk' x)) x :=
  fun κ N x => by kernel_rfl
theorem L50_9 : ∀ (κ : Kont (Bool × Unit)) (N : St → Option (Bool × Unit)) (x : (L50[0]).sh.den), execK E50 (lpOf L50) (nthLoop (codeOf Go.Proofs.Tryz.f50) 1) { κ with normal := fun σ => N (σ.keepAt (E50).hints 9) } ((L50[0]).sh.mk' x) = (L50[0]).R κ (fun x => N ((L50[0]).sh.mk' x)) x :=
  fun κ N x => by kernel_rfl
theorem L50_4 : ∀ (κ : Kont (Bool × Unit)) (N : St → Option (Bool × Unit)) (x : (L50[1]).sh.den), execK E50 (lpOf L50) (nthLoop (codeOf Go.Proofs.Tryz.f50) 0) { κ with normal := fun σ => N (σ.keepAt (E50).hints 4) } ((L50[1]).sh.mk' x) = (L50[1]).R κ (fun x => N ((L50[1]).sh.mk' x)) x :=
  fun κ N x => by kernel_rfl
theorem C50_ok : QuietOk Go.Proofs.Tryz.prog 50 C50 :=
  told (env := E50) (fn := Go.Proofs.Tryz.f50) (c := (codeOf Go.Proofs.Tryz.f50)) (tbl := L50) (ls := [nthLoop (codeOf Go.Proofs.Tryz.f50) 0, nthLoop (codeOf Go.Proofs.Tryz.f50) 1, nthLoop (codeOf Go.Proofs.Tryz.f50) 2, nthLoop (codeOf Go.Proofs.Tryz.f50) 3]) (vars := Go.Proofs.Tryz.f50.results.toList) Go.Proofs.Tryz.func50 (tysC_ok tys_ok rfl rfl) (Told.fnOk (.cons C28_ok (.cons C77_ok (.cons C78_ok (.cons C79_ok .nil)))) rfl) (by kernel_rfl) (by decide) rfl (by decide) rfl rfl rfl (by kernel_rfl) (.cons L50[1] (by kernel_rfl) L50_4 (.cons L50[0] (by kernel_rfl) L50_9 (.cons L50[3] (by kernel_rfl) L50_14 (.cons L50[2] (by kernel_rfl) L50_20 .nil)))) (by kernel_rfl)

/- 29: loop.example/g00380/spec.l10Colls -/
noncomputable def F29_R2 (e0_0 : List (D54) × Unit → Option (Bool × Unit)) (er_1 : Bool × Unit → Option (Bool × Unit)) (rec : List (D54) × Int × Unit → Option (Bool × Unit)) (x2 : List (D54) × Int × Unit) : Option (Bool × Unit) :=
 (cond (decide (x2.2.1 < (((List.length x2.1) : Nat) : Int)))
 (let j9 : List (D54) × Int × Unit → Option (Bool × Unit) := fun (y10 : List (D54) × Int × Unit) =>
 (rec (y10.1, (IntKind.wrap IntKind.i64 (y10.2.1 + (1 : Int))), ()))
 (gd (decide ((0 : Int) ≤ x2.2.1))
 (Option.bind x2.1[(Int.toNat x2.2.1)]? fun y5 =>
 (Option.bind (F50 y5) fun y6 =>
 (cond (!y6.1)
 (er_1 (false, ()))
 (cond (decide (x2.2.1 > (0 : Int)))
 (gd (decide ((0 : Int) ≤ (IntKind.wrap IntKind.i64 (x2.2.1 - (1 : Int)))))
 (Option.bind x2.1[(Int.toNat (IntKind.wrap IntKind.i64 (x2.2.1 - (1 : Int))))]? fun y7 =>
 (gd (decide ((0 : Int) ≤ x2.2.1))
 (Option.bind x2.1[(Int.toNat x2.2.1)]? fun y8 =>
 (cond (!(Op.bytesLess y7.1 y8.1))
 (er_1 (false, ()))
 (j9 (x2.1, x2.2.1, ())))))))
 (j9 (x2.1, x2.2.1, ()))))))))
 (e0_0 (x2.1, ())))

noncomputable def F29 (a0 : List (D54)) : Option (Bool × Unit) :=
 (iter (F29_R2
 (fun y11 =>
 (some ((decide ((((List.length y11.1) : Nat) : Int) ≤ (3 : Int))), ())))
 (fun y12 =>
 (some (y12.1, ())))) fuel (a0, (0 : Int), ()))

noncomputable def C29 : Fun := ⟨[(.ro (.slice Y54))], [(.bool, .z)], fun z => F29 z.1⟩
noncomputable def E29 : Env := ⟨37, tyTab tys, oneTab ones, fnTab [(50, C50)], false, [], [(2, [0, 3], []), (3, [0, 3], []), (4, [0, 3], []), (6, [0], []), (100000, [0], []), (100001, [0, 3], []), (99999, [2], [])], none, []⟩
noncomputable def L29 : List (LoopS (Bool × Unit)) := [⟨2, ⟨[(0, (.pv (.slice Y54))), (3, (.pv (.int .i64)))], []⟩, fun κ => F29_R2 (fun y => κ.exit 0 (SSh.mk' ⟨[(0, (.pv (.slice Y54)))], []⟩ y)) (fun y => κ.ret (SSh.mk' ⟨[(2, (.pv .bool))], []⟩ y))⟩]
theorem L29_2 : ∀ (κ : Kont (Bool × Unit)) (N : St → Option (Bool × Unit)) (x : (L29[0]).sh.den), execK E29 (lpOf L29) (nthLoop (codeOf Go.Proofs.Tryz.f29) 0) { κ with normal := fun σ => N (σ.keepAt (E29).hints 2) } ((L29[0]).sh.mk' x) = (L29[0]).R κ (fun x => N ((L29[0]).sh.mk' x)) x :=
  fun κ N x => by kernel_rfl
theorem C29_ok : QuietOk Go.Proofs.Tryz.prog 29 C29 :=
  told (env := E29) (fn := Go.Proofs.Tryz.f29) (c := (codeOf Go.Proofs.Tryz.f29)) (tbl := L29) (ls := [nthLoop (codeOf Go.Proofs.Tryz.f29) 0]) (vars := Go.Proofs.Tryz.f29.results.toList) Go.Proofs.Tryz.func29 (tysC_ok tys_ok rfl rfl) (Told.fnOk (.cons C50_ok .nil) rfl) (by kernel_rfl) (by decide) rfl (by decide) rfl rfl rfl (by kernel_rfl) (.cons L29[0] (by kernel_rfl) L29_2 .nil) (by kernel_rfl)

/- 117: loop.example/g00380/spec.TermOK -/
noncomputable def F117 (a0 : D189) : Option (Bool × Unit) :=
 (cond (decide ((((List.length a0.2.1) : Nat) : Int) > (65536 : Int)))
 (some (false, ()))
 (Option.bind (F113 a0.2.1) fun y1 =>
 (cond (!y1.1)
 (some (false, ()))
 (Option.bind (F147 a0.2.2.1) fun y2 =>
 (cond (!y2.1)
 (some (false, ()))
 (let j11 : Unit → Option (Bool × Unit) := fun (y12 : Unit) =>
 (some (false, ()))
 (cond (a0.1 == (1 : Int))
 (cond (a0.1 == (1 : Int))
 (some (true, ()))
 (cond (a0.1 == (7 : Int))
 (some ((a0.2.2.1.1 == (4 : Int)), ()))
 (cond (a0.1 == (8 : Int))
 (some ((a0.2.2.1.1 == (1 : Int)), ()))
 (cond (a0.1 == (9 : Int))
 (cond (a0.2.2.1.1 == (2 : Int))
 (Option.bind (F28 a0.2.2.1.2.1 (0 : Int) (5 : Int)) fun y5 =>
 (some (y5.1, ())))
 (some (false, ())))
 (cond (a0.1 == (10 : Int))
 (cond (a0.2.2.1.1 == (2 : Int))
 (some ((decide (a0.2.2.1.2.1 ≥ (0 : Int))), ()))
 (some (false, ())))
 (j11 (())))))))
 (cond (a0.1 == (2 : Int))
 (cond (a0.1 == (2 : Int))
 (some (true, ()))
 (cond (a0.1 == (7 : Int))
 (some ((a0.2.2.1.1 == (4 : Int)), ()))
 (cond (a0.1 == (8 : Int))
 (some ((a0.2.2.1.1 == (1 : Int)), ()))
 (cond (a0.1 == (9 : Int))
 (cond (a0.2.2.1.1 == (2 : Int))
 (Option.bind (F28 a0.2.2.1.2.1 (0 : Int) (5 : Int)) fun y6 =>
 (some (y6.1, ())))
 (some (false, ())))
 (cond (a0.1 == (10 : Int))
 (cond (a0.2.2.1.1 == (2 : Int))
 (some ((decide (a0.2.2.1.2.1 ≥ (0 : Int))), ()))
 (some (false, ())))
 (j11 (())))))))
 (cond (a0.1 == (3 : Int))
 (cond (a0.1 == (3 : Int))
 (some (true, ()))
 (cond (a0.1 == (7 : Int))
 (some ((a0.2.2.1.1 == (4 : Int)), ()))
 (cond (a0.1 == (8 : Int))
 (some ((a0.2.2.1.1 == (1 : Int)), ()))
 (cond (a0.1 == (9 : Int))
 (cond (a0.2.2.1.1 == (2 : Int))
 (Option.bind (F28 a0.2.2.1.2.1 (0 : Int) (5 : Int)) fun y7 =>
 (some (y7.1, ())))
 (some (false, ())))
 (cond (a0.1 == (10 : Int))
 (cond (a0.2.2.1.1 == (2 : Int))
 (some ((decide (a0.2.2.1.2.1 ≥ (0 : Int))), ()))
 (some (false, ())))
 (j11 (())))))))
 (cond (a0.1 == (4 : Int))
 (cond (a0.1 == (4 : Int))
 (some (true, ()))
 (cond (a0.1 == (7 : Int))
 (some ((a0.2.2.1.1 == (4 : Int)), ()))
 (cond (a0.1 == (8 : Int))
 (some ((a0.2.2.1.1 == (1 : Int)), ()))
 (cond (a0.1 == (9 : Int))
 (cond (a0.2.2.1.1 == (2 : Int))
 (Option.bind (F28 a0.2.2.1.2.1 (0 : Int) (5 : Int)) fun y8 =>
 (some (y8.1, ())))
 (some (false, ())))
 (cond (a0.1 == (10 : Int))
 (cond (a0.2.2.1.1 == (2 : Int))
 (some ((decide (a0.2.2.1.2.1 ≥ (0 : Int))), ()))
 (some (false, ())))
 (j11 (())))))))
 (cond (a0.1 == (5 : Int))
 (cond (a0.1 == (5 : Int))
 (some (true, ()))
 (cond (a0.1 == (7 : Int))
 (some ((a0.2.2.1.1 == (4 : Int)), ()))
 (cond (a0.1 == (8 : Int))
 (some ((a0.2.2.1.1 == (1 : Int)), ()))
 (cond (a0.1 == (9 : Int))
 (cond (a0.2.2.1.1 == (2 : Int))
 (Option.bind (F28 a0.2.2.1.2.1 (0 : Int) (5 : Int)) fun y9 =>
 (some (y9.1, ())))
 (some (false, ())))
 (cond (a0.1 == (10 : Int))
 (cond (a0.2.2.1.1 == (2 : Int))
 (some ((decide (a0.2.2.1.2.1 ≥ (0 : Int))), ()))
 (some (false, ())))
 (j11 (())))))))
 (cond (a0.1 == (6 : Int))
 (some (true, ()))
 (cond (a0.1 == (7 : Int))
 (some ((a0.2.2.1.1 == (4 : Int)), ()))
 (cond (a0.1 == (8 : Int))
 (some ((a0.2.2.1.1 == (1 : Int)), ()))
 (cond (a0.1 == (9 : Int))
 (cond (a0.2.2.1.1 == (2 : Int))
 (Option.bind (F28 a0.2.2.1.2.1 (0 : Int) (5 : Int)) fun y10 =>
 (some (y10.1, ())))
 (some (false, ())))
 (cond (a0.1 == (10 : Int))
 (cond (a0.2.2.1.1 == (2 : Int))
 (some ((decide (a0.2.2.1.2.1 ≥ (0 : Int))), ()))
 (some (false, ())))
 (j11 (()))))))))))))))))))

noncomputable def C117 : Fun := ⟨[(.ro Y189)], [(.bool, .z)], fun z => F117 z.1⟩
noncomputable def E117 : Env := ⟨64, tyTab tys, oneTab ones, fnTab [(28, C28), (113, C113), (147, C147)], false, [], [(3, [1], []), (19, [], []), (100000, [], []), (99999, [2], [])], none, []⟩
noncomputable def L117 : List (LoopS (Bool × Unit)) := []
theorem C117_ok : QuietOk Go.Proofs.Tryz.prog 117 C117 :=
  told (env := E117) (fn := Go.Proofs.Tryz.f117) (c := (codeOf Go.Proofs.Tryz.f117)) (tbl := L117) (ls := []) (vars := Go.Proofs.Tryz.f117.results.toList) Go.Proofs.Tryz.func117 (tysC_ok tys_ok rfl rfl) (Told.fnOk (.cons C28_ok (.cons C113_ok (.cons C147_ok .nil))) rfl) (by kernel_rfl) (by decide) rfl (by decide) rfl rfl rfl (by kernel_rfl) .nil (by kernel_rfl)

/- 81: loop.example/g00380/spec.FilterOK -/
noncomputable def F81_R9 (e2_0 : Int × D108 × Unit → Option (Bool × Unit)) (er_1 : Bool × Unit → Option (Bool × Unit)) (rec : Int × Int × D108 × Unit → Option (Bool × Unit)) (x10 : Int × Int × D108 × Unit) : Option (Bool × Unit) :=
 (gd (decide ((0 : Int) ≤ x10.1))
 (Option.bind x10.2.2.1.1[(Int.toNat x10.1)]? fun y12 =>
 (cond (decide (x10.2.1 < (((List.length y12.1) : Nat) : Int)))
 (gd (decide ((0 : Int) ≤ x10.1))
 (Option.bind x10.2.2.1.1[(Int.toNat x10.1)]? fun y14 =>
 (gd (decide ((0 : Int) ≤ x10.2.1))
 (Option.bind y14.1[(Int.toNat x10.2.1)]? fun y15 =>
 (Option.bind (F117 y15) fun y16 =>
 (cond (!y16.1)
 (er_1 (false, ()))
 (rec (x10.1, (IntKind.wrap IntKind.i64 (x10.2.1 + (1 : Int))), x10.2.2.1, ()))))))))
 (e2_0 (x10.1, x10.2.2.1, ())))))

noncomputable def F81_R4 (e0_0 : Unit → Option (Bool × Unit)) (er_1 : Bool × Unit → Option (Bool × Unit)) (rec : Int × D108 × Unit → Option (Bool × Unit)) (x4 : Int × D108 × Unit) : Option (Bool × Unit) :=
 (cond (decide (x4.1 < (((List.length x4.2.1.1) : Nat) : Int)))
 (gd (decide ((0 : Int) ≤ x4.1))
 (Option.bind x4.2.1.1[(Int.toNat x4.1)]? fun y8 =>
 (cond (decide ((((List.length y8.1) : Nat) : Int) > (4 : Int)))
 (er_1 (false, ()))
 (iter (F81_R9
 (fun y17 =>
 (rec ((IntKind.wrap IntKind.i64 (y17.1 + (1 : Int))), y17.2.1, ())))
 (fun y18 =>
 (er_1 (y18.1, ())))) fuel (x4.1, (0 : Int), x4.2.1, ())))))
 (e0_0 (())))

noncomputable def F81 (a0 : D108) : Option (Bool × Unit) :=
 (Option.bind (F28 (((List.length a0.1) : Nat) : Int) (1 : Int) (3 : Int)) fun y1 =>
 (cond (!y1.1)
 (some (false, ()))
 (iter (F81_R4
 (fun y19 =>
 (some (true, ())))
 (fun y20 =>
 (some (y20.1, ())))) fuel ((0 : Int), a0, ()))))

noncomputable def C81 : Fun := ⟨[(.ro Y108)], [(.bool, .z)], fun z => F81 z.1⟩
noncomputable def E81 : Env := ⟨47, tyTab tys, oneTab ones, fnTab [(28, C28), (117, C117)], false, [], [(3, [1], []), (4, [1, 3], []), (5, [1, 3], []), (6, [1, 3], []), (8, [1, 3], []), (9, [1, 3, 4], []), (10, [1, 3, 4], []), (11, [1, 3, 4], []), (13, [], []), (100000, [], []), (100001, [1, 3], []), (100002, [1, 3], []), (100003, [1, 3, 4], []), (99999, [2], [])], none, []⟩
noncomputable def L81 : List (LoopS (Bool × Unit)) := [⟨9, ⟨[(1, (.ptr 8 [])), (3, (.pv (.int .i64))), (4, (.pv (.int .i64)))], [(8, (.data true Y108 .z))]⟩, fun κ => F81_R9 (fun y => κ.exit 2 (SSh.mk' ⟨[(1, (.ptr 8 [])), (3, (.pv (.int .i64)))], [(8, (.data true Y108 .z))]⟩ y)) (fun y => κ.ret (SSh.mk' ⟨[(2, (.pv .bool))], []⟩ y))⟩,
  ⟨4, ⟨[(1, (.ptr 8 [])), (3, (.pv (.int .i64)))], [(8, (.data true Y108 .z))]⟩, fun κ => F81_R4 (fun y => κ.exit 0 (SSh.mk' ⟨[], []⟩ y)) (fun y => κ.ret (SSh.mk' ⟨[(2, (.pv .bool))], []⟩ y))⟩]
theorem L81_9 : ∀ (κ : Kont (Bool × Unit)) (N : St → Option (Bool × Unit)) (x : (L81[0]).sh.den), execK E81 (lpOf L81) (nthLoop (codeOf Go.Proofs.Tryz.f81) 1) { κ with normal := fun σ => N (σ.keepAt (E81).hints 9) } ((L81[0]).sh.mk' x) = (L81[0]).R κ (fun x => N ((L81[0]).sh.mk' x)) x :=
  fun κ N x => by kernel_rfl
theorem L81_4 : ∀ (κ : Kont (Bool × Unit)) (N : St → Option (Bool × Unit)) (x : (L81[1]).sh.den), execK E81 (lpOf L81) (nthLoop (codeOf Go.Proofs.Tryz.f81) 0) { κ with normal := fun σ => N (σ.keepAt (E81).hints 4) } ((L81[1]).sh.mk' x) = (L81[1]).R κ (fun x => N ((L81[1]).sh.mk' x)) x :=
  fun κ N x => by kernel_rfl
theorem C81_ok : QuietOk Go.Proofs.Tryz.prog 81 C81 :=
  told (env := E81) (fn := Go.Proofs.Tryz.f81) (c := (codeOf Go.Proofs.Tryz.f81)) (tbl := L81) (ls := [nthLoop (codeOf Go.Proofs.Tryz.f81) 0, nthLoop (codeOf Go.Proofs.Tryz.f81) 1]) (vars := Go.Proofs.Tryz.f81.results.toList) Go.Proofs.Tryz.func81 (tysC_ok tys_ok rfl rfl) (Told.fnOk (.cons C28_ok (.cons C117_ok .nil)) rfl) (by kernel_rfl) (by decide) rfl (by decide) rfl rfl rfl (by kernel_rfl) (.cons L81[1] (by kernel_rfl) L81_4 (.cons L81[0] (by kernel_rfl) L81_9 .nil)) (by kernel_rfl)

/- 52: loop.example/g00380/spec.ReadOK -/
noncomputable def F52 (a0 : D110) : Option (Bool × Unit) :=
 (Option.bind (F77 a0.1) fun y0 =>
 (cond y0.1
 (Option.bind (F81 a0.2.1) fun y1 =>
 (some (y1.1, ())))
 (some (false, ()))))

noncomputable def C52 : Fun := ⟨[(.ro Y110)], [(.bool, .z)], fun z => F52 z.1⟩
noncomputable def E52 : Env := ⟨11, tyTab tys, oneTab ones, fnTab [(77, C77), (81, C81)], false, [], [(99999, [2], [])], none, []⟩
noncomputable def L52 : List (LoopS (Bool × Unit)) := []
theorem C52_ok : QuietOk Go.Proofs.Tryz.prog 52 C52 :=
  told (env := E52) (fn := Go.Proofs.Tryz.f52) (c := (codeOf Go.Proofs.Tryz.f52)) (tbl := L52) (ls := []) (vars := Go.Proofs.Tryz.f52.results.toList) Go.Proofs.Tryz.func52 (tysC_ok tys_ok rfl rfl) (Told.fnOk (.cons C77_ok (.cons C81_ok .nil)) rfl) (by kernel_rfl) (by decide) rfl (by decide) rfl rfl rfl (by kernel_rfl) .nil (by kernel_rfl)

/- 53: loop.example/g00380/spec.l08Write -/
noncomputable def F53 (a0 : D86) : Option (Bool × Unit) :=
 (Option.bind (F77 a0.1) fun y0 =>
 (cond y0.1
 (Option.bind (F28 a0.2.1 (0 : Int) (19 : Int)) fun y1 =>
 (cond y1.1
 (Option.bind (F79 a0.2.1 a0.2.2.1 a0.2.2.2.1) fun y2 =>
 (some (y2.1, ())))
 (some (false, ()))))
 (some (false, ()))))

noncomputable def C53 : Fun := ⟨[(.ro Y86)], [(.bool, .z)], fun z => F53 z.1⟩
noncomputable def E53 : Env := ⟨20, tyTab tys, oneTab ones, fnTab [(28, C28), (77, C77), (79, C79)], false, [], [(99999, [2], [])], none, []⟩
noncomputable def L53 : List (LoopS (Bool × Unit)) := []
theorem C53_ok : QuietOk Go.Proofs.Tryz.prog 53 C53 :=
  told (env := E53) (fn := Go.Proofs.Tryz.f53) (c := (codeOf Go.Proofs.Tryz.f53)) (tbl := L53) (ls := []) (vars := Go.Proofs.Tryz.f53.results.toList) Go.Proofs.Tryz.func53 (tysC_ok tys_ok rfl rfl) (Told.fnOk (.cons C28_ok (.cons C77_ok (.cons C79_ok .nil))) rfl) (by kernel_rfl) (by decide) rfl (by decide) rfl rfl rfl (by kernel_rfl) .nil (by kernel_rfl)

/- 116: loop.example/g00380/spec.l09Change -/
noncomputable def F116 (a0 : D145) : Option (Bool × Unit) :=
 (Option.bind (F53 a0.1) fun y0 =>
 (cond y0.1
 (Option.bind (F79 a0.1.2.1 (!a0.2.2.1) a0.2.1) fun y1 =>
 (some (y1.1, ())))
 (some (false, ()))))

noncomputable def C116 : Fun := ⟨[(.ro Y145)], [(.bool, .z)], fun z => F116 z.1⟩
noncomputable def E116 : Env := ⟨17, tyTab tys, oneTab ones, fnTab [(53, C53), (79, C79)], false, [], [(99999, [2], [])], none, []⟩
noncomputable def L116 : List (LoopS (Bool × Unit)) := []
theorem C116_ok : QuietOk Go.Proofs.Tryz.prog 116 C116 :=
  told (env := E116) (fn := Go.Proofs.Tryz.f116) (c := (codeOf Go.Proofs.Tryz.f116)) (tbl := L116) (ls := []) (vars := Go.Proofs.Tryz.f116.results.toList) Go.Proofs.Tryz.func116 (tysC_ok tys_ok rfl rfl) (Told.fnOk (.cons C53_ok (.cons C79_ok .nil)) rfl) (by kernel_rfl) (by decide) rfl (by decide) rfl rfl rfl (by kernel_rfl) .nil (by kernel_rfl)

/- 80: loop.example/g00380/spec.l09Lists -/
noncomputable def F80_R2 (e0_0 : List (D110) × List (D145) × Unit → Option (Bool × Unit)) (er_1 : Bool × Unit → Option (Bool × Unit)) (rec : List (D110) × List (D145) × Int × Unit → Option (Bool × Unit)) (x2 : List (D110) × List (D145) × Int × Unit) : Option (Bool × Unit) :=
 (cond (decide (x2.2.2.1 < (((List.length x2.1) : Nat) : Int)))
 (gd (decide ((0 : Int) ≤ x2.2.2.1))
 (Option.bind x2.1[(Int.toNat x2.2.2.1)]? fun y5 =>
 (Option.bind (F52 y5) fun y6 =>
 (cond (!y6.1)
 (er_1 (false, ()))
 (rec (x2.1, x2.2.1, (IntKind.wrap IntKind.i64 (x2.2.2.1 + (1 : Int))), ()))))))
 (e0_0 (x2.1, x2.2.1, ())))

noncomputable def F80_R12 (e4_0 : List (D110) × List (D145) × Int × Unit → Option (Bool × Unit)) (er_1 : Bool × Unit → Option (Bool × Unit)) (rec : List (D110) × List (D145) × Int × Int × Unit → Option (Bool × Unit)) (x18 : List (D110) × List (D145) × Int × Int × Unit) : Option (Bool × Unit) :=
 (cond (decide (x18.2.2.2.1 < x18.2.2.1))
 (let j25 : List (D110) × List (D145) × Int × Int × Unit → Option (Bool × Unit) := fun (y26 : List (D110) × List (D145) × Int × Int × Unit) =>
 (rec (y26.1, y26.2.1, y26.2.2.1, (IntKind.wrap IntKind.i64 (y26.2.2.2.1 + (1 : Int))), ()))
 (gd (decide ((0 : Int) ≤ x18.2.2.2.1))
 (Option.bind x18.2.1[(Int.toNat x18.2.2.2.1)]? fun y21 =>
 (gd (decide ((0 : Int) ≤ x18.2.2.1))
 (Option.bind x18.2.1[(Int.toNat x18.2.2.1)]? fun y22 =>
 (cond (y21.1.1 == y22.1.1)
 (gd (decide ((0 : Int) ≤ x18.2.2.2.1))
 (Option.bind x18.2.1[(Int.toNat x18.2.2.2.1)]? fun y23 =>
 (gd (decide ((0 : Int) ≤ x18.2.2.1))
 (Option.bind x18.2.1[(Int.toNat x18.2.2.1)]? fun y24 =>
 (cond (y23.1.2.1 == y24.1.2.1)
 (er_1 (false, ()))
 (j25 (x18.1, x18.2.1, x18.2.2.1, x18.2.2.2.1, ())))))))
 (j25 (x18.1, x18.2.1, x18.2.2.1, x18.2.2.2.1, ()))))))))
 (e4_0 (x18.1, x18.2.1, x18.2.2.1, ())))

noncomputable def F80_R7 (e2_0 : List (D110) × List (D145) × Unit → Option (Bool × Unit)) (er_1 : Bool × Unit → Option (Bool × Unit)) (rec : List (D110) × List (D145) × Int × Unit → Option (Bool × Unit)) (x11 : List (D110) × List (D145) × Int × Unit) : Option (Bool × Unit) :=
 (cond (decide (x11.2.2.1 < (((List.length x11.2.1) : Nat) : Int)))
 (gd (decide ((0 : Int) ≤ x11.2.2.1))
 (Option.bind x11.2.1[(Int.toNat x11.2.2.1)]? fun y15 =>
 (Option.bind (F116 y15) fun y16 =>
 (cond (!y16.1)
 (er_1 (false, ()))
 (iter (F80_R12
 (fun y27 =>
 (rec (y27.1, y27.2.1, (IntKind.wrap IntKind.i64 (y27.2.2.1 + (1 : Int))), ())))
 (fun y28 =>
 (er_1 (y28.1, ())))) fuel (x11.1, x11.2.1, x11.2.2.1, (0 : Int), ()))))))
 (e2_0 (x11.1, x11.2.1, ())))

noncomputable def F80 (a0 : List (D110)) (a1 : List (D145)) : Option (Bool × Unit) :=
 (iter (F80_R2
 (fun y7 =>
 (iter (F80_R7
 (fun y29 =>
 (cond (decide ((((List.length y29.1) : Nat) : Int) ≤ (20 : Int)))
 (some ((decide ((((List.length y29.2.1) : Nat) : Int) ≤ (60 : Int))), ()))
 (some (false, ()))))
 (fun y30 =>
 (some (y30.1, ())))) fuel (y7.1, y7.2.1, (0 : Int), ())))
 (fun y8 =>
 (some (y8.1, ())))) fuel (a0, a1, (0 : Int), ()))

noncomputable def C80 : Fun := ⟨[(.ro (.slice Y110)), (.ro (.slice Y145))], [(.bool, .z)], fun z => F80 z.1 z.2.1⟩
noncomputable def E80 : Env := ⟨73, tyTab tys, oneTab ones, fnTab [(52, C52), (116, C116)], false, [], [(2, [0, 1, 5], []), (3, [0, 1, 5], []), (4, [0, 1, 5], []), (6, [0, 1], []), (7, [0, 1, 6], []), (8, [0, 1, 6], []), (9, [0, 1, 6], []), (11, [0, 1, 6], []), (12, [0, 1, 6, 7], []), (13, [0, 1, 6, 7], []), (14, [0, 1, 6, 7], []), (16, [0, 1], []), (100000, [0, 1], []), (100001, [0, 1, 5], []), (100002, [0, 1], []), (100003, [0, 1, 6], []), (100004, [0, 1, 6], []), (100005, [0, 1, 6, 7], []), (99999, [4], [])], none, []⟩
noncomputable def L80 : List (LoopS (Bool × Unit)) := [⟨2, ⟨[(0, (.pv (.slice Y110))), (1, (.pv (.slice Y145))), (5, (.pv (.int .i64)))], []⟩, fun κ => F80_R2 (fun y => κ.exit 0 (SSh.mk' ⟨[(0, (.pv (.slice Y110))), (1, (.pv (.slice Y145)))], []⟩ y)) (fun y => κ.ret (SSh.mk' ⟨[(4, (.pv .bool))], []⟩ y))⟩,
  ⟨12, ⟨[(0, (.pv (.slice Y110))), (1, (.pv (.slice Y145))), (6, (.pv (.int .i64))), (7, (.pv (.int .i64)))], []⟩, fun κ => F80_R12 (fun y => κ.exit 4 (SSh.mk' ⟨[(0, (.pv (.slice Y110))), (1, (.pv (.slice Y145))), (6, (.pv (.int .i64)))], []⟩ y)) (fun y => κ.ret (SSh.mk' ⟨[(4, (.pv .bool))], []⟩ y))⟩,
  ⟨7, ⟨[(0, (.pv (.slice Y110))), (1, (.pv (.slice Y145))), (6, (.pv (.int .i64)))], []⟩, fun κ => F80_R7 (fun y => κ.exit 2 (SSh.mk' ⟨[(0, (.pv (.slice Y110))), (1, (.pv (.slice Y145)))], []⟩ y)) (fun y => κ.ret (SSh.mk' ⟨[(4, (.pv .bool))], []⟩ y))⟩]
theorem L80_12 : ∀ (κ : Kont (Bool × Unit)) (N : St → Option (Bool × Unit)) (x : (L80[1]).sh.den), execK E80 (lpOf L80) (nthLoop (codeOf Go.Proofs.Tryz.f80) 2) { κ with normal := fun σ => N (σ.keepAt (E80).hints 12) } ((L80[1]).sh.mk' x) = (L80[1]).R κ (fun x => N ((L80[1]).sh.mk' x)) x :=
  fun κ N x => by kernel_rfl
theorem L80_7 : ∀ (κ : Kont (Bool × Unit)) (N : St → Option (Bool × Unit)) (x : (L80[2]).sh.den), execK E80 (lpOf L80) (nthLoop (codeOf Go.Proofs.Tryz.f80) 1) { κ with normal := fun σ => N (σ.keepAt (E80).hints 7) } ((L80[2]).sh.mk' x) = (L80[2]).R κ (fun x => N ((L80[2]).sh.mk' x)) x :=
  fun κ N x => by kernel_rfl
theorem L80_2 : ∀ (κ : Kont (Bool × Unit)) (N : St → Option (Bool × Unit)) (x : (L80[0]).sh.den), execK E80 (lpOf L80) (nthLoop (codeOf Go.Proofs.Tryz.f80) 0) { κ with normal := fun σ => N (σ.keepAt (E80).hints 2) } ((L80[0]).sh.mk' x) = (L80[0]).R κ (fun x => N ((L80[0]).sh.mk' x)) x :=
  fun κ N x => by kernel_rfl
theorem C80_ok : QuietOk Go.Proofs.Tryz.prog 80 C80 :=
  told (env := E80) (fn := Go.Proofs.Tryz.f80) (c := (codeOf Go.Proofs.Tryz.f80)) (tbl := L80) (ls := [nthLoop (codeOf Go.Proofs.Tryz.f80) 0, nthLoop (codeOf Go.Proofs.Tryz.f80) 1, nthLoop (codeOf Go.Proofs.Tryz.f80) 2]) (vars := Go.Proofs.Tryz.f80.results.toList) Go.Proofs.Tryz.func80 (tysC_ok tys_ok rfl rfl) (Told.fnOk (.cons C52_ok (.cons C116_ok .nil)) rfl) (by kernel_rfl) (by decide) rfl (by decide) rfl rfl rfl (by kernel_rfl) (.cons L80[0] (by kernel_rfl) L80_2 (.cons L80[2] (by kernel_rfl) L80_7 (.cons L80[1] (by kernel_rfl) L80_12 .nil))) (by kernel_rfl)

/- 51: loop.example/g00380/spec.DoneOK -/
noncomputable def F51 (a0 : D75) : Option (Bool × Unit) :=
 (Option.bind (F28 a0.1 (0 : Int) (10000 : Int)) fun y0 =>
 (cond y0.1
 (Option.bind (F28 a0.2.1 (IntKind.wrap IntKind.i64 (a0.1 + (1 : Int))) (10000 : Int)) fun y1 =>
 (cond y1.1
 (Option.bind (F80 a0.2.2.1 a0.2.2.2.1) fun y2 =>
 (some (y2.1, ())))
 (some (false, ()))))
 (some (false, ()))))

noncomputable def C51 : Fun := ⟨[(.ro Y75)], [(.bool, .z)], fun z => F51 z.1⟩
noncomputable def E51 : Env := ⟨21, tyTab tys, oneTab ones, fnTab [(28, C28), (80, C80)], false, [], [(99999, [2], [])], none, []⟩
noncomputable def L51 : List (LoopS (Bool × Unit)) := []
theorem C51_ok : QuietOk Go.Proofs.Tryz.prog 51 C51 :=
  told (env := E51) (fn := Go.Proofs.Tryz.f51) (c := (codeOf Go.Proofs.Tryz.f51)) (tbl := L51) (ls := []) (vars := Go.Proofs.Tryz.f51.results.toList) Go.Proofs.Tryz.func51 (tysC_ok tys_ok rfl rfl) (Told.fnOk (.cons C28_ok (.cons C80_ok .nil)) rfl) (by kernel_rfl) (by decide) rfl (by decide) rfl rfl rfl (by kernel_rfl) .nil (by kernel_rfl)

/- 30: loop.example/g00380/spec.l09Dones -/
noncomputable def F30_R2 (e0_0 : List (D75) × Unit → Option (Bool × Unit)) (er_1 : Bool × Unit → Option (Bool × Unit)) (rec : List (D75) × Int × Unit → Option (Bool × Unit)) (x2 : List (D75) × Int × Unit) : Option (Bool × Unit) :=
 (cond (decide (x2.2.1 < (((List.length x2.1) : Nat) : Int)))
 (let j13 : List (D75) × Int × Unit → Option (Bool × Unit) := fun (y14 : List (D75) × Int × Unit) =>
 (rec (y14.1, (IntKind.wrap IntKind.i64 (y14.2.1 + (1 : Int))), ()))
 (gd (decide ((0 : Int) ≤ x2.2.1))
 (Option.bind x2.1[(Int.toNat x2.2.1)]? fun y5 =>
 (Option.bind (F51 y5) fun y6 =>
 (cond (!y6.1)
 (er_1 (false, ()))
 (cond (decide (x2.2.1 > (0 : Int)))
 (gd (decide ((0 : Int) ≤ (IntKind.wrap IntKind.i64 (x2.2.1 - (1 : Int)))))
 (Option.bind x2.1[(Int.toNat (IntKind.wrap IntKind.i64 (x2.2.1 - (1 : Int))))]? fun y7 =>
 (gd (decide ((0 : Int) ≤ x2.2.1))
 (Option.bind x2.1[(Int.toNat x2.2.1)]? fun y8 =>
 (cond (decide (y7.2.1 ≥ y8.2.1))
 (er_1 (false, ()))
 (gd (decide ((0 : Int) ≤ x2.2.1))
 (Option.bind x2.1[(Int.toNat x2.2.1)]? fun y9 =>
 (cond y9.2.2.2.2.1
 (gd (decide ((0 : Int) ≤ x2.2.1))
 (Option.bind x2.1[(Int.toNat x2.2.1)]? fun y10 =>
 (cond y10.2.2.2.2.2.1
 (er_1 (false, ()))
 (j13 (x2.1, x2.2.1, ())))))
 (j13 (x2.1, x2.2.1, ()))))))))))
 (gd (decide ((0 : Int) ≤ x2.2.1))
 (Option.bind x2.1[(Int.toNat x2.2.1)]? fun y11 =>
 (cond y11.2.2.2.2.1
 (gd (decide ((0 : Int) ≤ x2.2.1))
 (Option.bind x2.1[(Int.toNat x2.2.1)]? fun y12 =>
 (cond y12.2.2.2.2.2.1
 (er_1 (false, ()))
 (j13 (x2.1, x2.2.1, ())))))
 (j13 (x2.1, x2.2.1, ())))))))))))
 (e0_0 (x2.1, ())))

noncomputable def F30 (a0 : List (D75)) : Option (Bool × Unit) :=
 (iter (F30_R2
 (fun y15 =>
 (some ((decide ((((List.length y15.1) : Nat) : Int) ≤ (30 : Int))), ())))
 (fun y16 =>
 (some (y16.1, ())))) fuel (a0, (0 : Int), ()))

noncomputable def C30 : Fun := ⟨[(.ro (.slice Y75))], [(.bool, .z)], fun z => F30 z.1⟩
noncomputable def E30 : Env := ⟨51, tyTab tys, oneTab ones, fnTab [(51, C51)], false, [], [(2, [0, 3], []), (3, [0, 3], []), (4, [0, 3], []), (6, [0], []), (100000, [0], []), (100001, [0, 3], []), (99999, [2], [])], none, []⟩
noncomputable def L30 : List (LoopS (Bool × Unit)) := [⟨2, ⟨[(0, (.pv (.slice Y75))), (3, (.pv (.int .i64)))], []⟩, fun κ => F30_R2 (fun y => κ.exit 0 (SSh.mk' ⟨[(0, (.pv (.slice Y75)))], []⟩ y)) (fun y => κ.ret (SSh.mk' ⟨[(2, (.pv .bool))], []⟩ y))⟩]
theorem L30_2 : ∀ (κ : Kont (Bool × Unit)) (N : St → Option (Bool × Unit)) (x : (L30[0]).sh.den), execK E30 (lpOf L30) (nthLoop (codeOf Go.Proofs.Tryz.f30) 0) { κ with normal := fun σ => N (σ.keepAt (E30).hints 2) } ((L30[0]).sh.mk' x) = (L30[0]).R κ (fun x => N ((L30[0]).sh.mk' x)) x :=
  fun κ N x => by kernel_rfl
theorem C30_ok : QuietOk Go.Proofs.Tryz.prog 30 C30 :=
  told (env := E30) (fn := Go.Proofs.Tryz.f30) (c := (codeOf Go.Proofs.Tryz.f30)) (tbl := L30) (ls := [nthLoop (codeOf Go.Proofs.Tryz.f30) 0]) (vars := Go.Proofs.Tryz.f30.results.toList) Go.Proofs.Tryz.func30 (tysC_ok tys_ok rfl rfl) (Told.fnOk (.cons C51_ok .nil) rfl) (by kernel_rfl) (by decide) rfl (by decide) rfl rfl rfl (by kernel_rfl) (.cons L30[0] (by kernel_rfl) L30_2 .nil) (by kernel_rfl)

/- 54: loop.example/g00380/spec.l10Less -/
noncomputable def F54 (a0 : D86) (a1 : D86) : Option (Bool × Unit) :=
 (cond (Op.bytesLess a0.1 a1.1)
 (some (true, ()))
 (cond (a0.1 == a1.1)
 (some ((decide (a0.2.1 < a1.2.1)), ()))
 (some (false, ()))))

noncomputable def C54 : Fun := ⟨[(.ro Y86), (.ro Y86)], [(.bool, .z)], fun z => F54 z.1 z.2.1⟩
noncomputable def E54 : Env := ⟨24, tyTab tys, oneTab ones, fnTab [], false, [], [(99999, [4], [])], none, []⟩
noncomputable def L54 : List (LoopS (Bool × Unit)) := []
theorem C54_ok : QuietOk Go.Proofs.Tryz.prog 54 C54 :=
  told (env := E54) (fn := Go.Proofs.Tryz.f54) (c := (codeOf Go.Proofs.Tryz.f54)) (tbl := L54) (ls := []) (vars := Go.Proofs.Tryz.f54.results.toList) Go.Proofs.Tryz.func54 (tysC_ok tys_ok rfl rfl) (Told.fnOk .nil rfl) (by kernel_rfl) (by decide) rfl (by decide) rfl rfl rfl (by kernel_rfl) .nil (by kernel_rfl)

/- 31: loop.example/g00380/spec.TxnOK -/
noncomputable def F31_R4 (e0_0 : D71 × Unit → Option (Bool × Unit)) (er_1 : Bool × Unit → Option (Bool × Unit)) (rec : Int × D71 × Unit → Option (Bool × Unit)) (x5 : Int × D71 × Unit) : Option (Bool × Unit) :=
 (cond (decide (x5.1 < (((List.length x5.2.1.2.2.1) : Nat) : Int)))
 (gd (decide ((0 : Int) ≤ x5.1))
 (Option.bind x5.2.1.2.2.1[(Int.toNat x5.1)]? fun y8 =>
 (Option.bind (F52 y8) fun y9 =>
 (cond (!y9.1)
 (er_1 (false, ()))
 (rec ((IntKind.wrap IntKind.i64 (x5.1 + (1 : Int))), x5.2.1, ()))))))
 (e0_0 (x5.2.1, ())))

noncomputable def F31_R9 (e2_0 : Unit → Option (Bool × Unit)) (er_1 : Bool × Unit → Option (Bool × Unit)) (rec : Int × D71 × Unit → Option (Bool × Unit)) (x14 : Int × D71 × Unit) : Option (Bool × Unit) :=
 (cond (decide (x14.1 < (((List.length x14.2.1.2.2.2.1) : Nat) : Int)))
 (let j22 : Int × D71 × Unit → Option (Bool × Unit) := fun (y23 : Int × D71 × Unit) =>
 (rec ((IntKind.wrap IntKind.i64 (y23.1 + (1 : Int))), y23.2.1, ()))
 (gd (decide ((0 : Int) ≤ x14.1))
 (Option.bind x14.2.1.2.2.2.1[(Int.toNat x14.1)]? fun y17 =>
 (Option.bind (F53 y17) fun y18 =>
 (cond (!y18.1)
 (er_1 (false, ()))
 (cond (decide (x14.1 > (0 : Int)))
 (gd (decide ((0 : Int) ≤ (IntKind.wrap IntKind.i64 (x14.1 - (1 : Int)))))
 (Option.bind x14.2.1.2.2.2.1[(Int.toNat (IntKind.wrap IntKind.i64 (x14.1 - (1 : Int))))]? fun y19 =>
 (gd (decide ((0 : Int) ≤ x14.1))
 (Option.bind x14.2.1.2.2.2.1[(Int.toNat x14.1)]? fun y20 =>
 (Option.bind (F54 y19 y20) fun y21 =>
 (cond (!y21.1)
 (er_1 (false, ()))
 (j22 (x14.1, x14.2.1, ()))))))))
 (j22 (x14.1, x14.2.1, ()))))))))
 (e2_0 (())))

noncomputable def F31 (a0 : D71) : Option (Bool × Unit) :=
 (Option.bind (F28 a0.1 (0 : Int) (3 : Int)) fun y1 =>
 (cond (!y1.1)
 (some (false, ()))
 (Option.bind (F28 a0.2.1 (0 : Int) (10000 : Int)) fun y2 =>
 (cond (!y2.1)
 (some (false, ()))
 (cond (decide ((((List.length a0.2.2.1) : Nat) : Int) > (20 : Int)))
 (some (false, ()))
 (cond (decide ((((List.length a0.2.2.2.1) : Nat) : Int) > (60 : Int)))
 (some (false, ()))
 (iter (F31_R4
 (fun y10 =>
 (iter (F31_R9
 (fun y24 =>
 (some (true, ())))
 (fun y25 =>
 (some (y25.1, ())))) fuel ((0 : Int), y10.1, ())))
 (fun y11 =>
 (some (y11.1, ())))) fuel ((0 : Int), a0, ()))))))))

noncomputable def C31 : Fun := ⟨[(.ro Y71)], [(.bool, .z)], fun z => F31 z.1⟩
noncomputable def E31 : Env := ⟨74, tyTab tys, oneTab ones, fnTab [(28, C28), (52, C52), (53, C53), (54, C54)], false, [], [(3, [1], []), (4, [1, 3], []), (5, [1, 3], []), (6, [1, 3], []), (8, [1], []), (9, [1, 4], []), (10, [1, 4], []), (11, [1, 4], []), (13, [], []), (100000, [1], []), (100001, [1, 3], []), (100002, [], []), (100003, [1, 4], []), (99999, [2], [])], none, []⟩
noncomputable def L31 : List (LoopS (Bool × Unit)) := [⟨4, ⟨[(1, (.ptr 8 [])), (3, (.pv (.int .i64)))], [(8, (.data true Y71 .z))]⟩, fun κ => F31_R4 (fun y => κ.exit 0 (SSh.mk' ⟨[(1, (.ptr 8 []))], [(8, (.data true Y71 .z))]⟩ y)) (fun y => κ.ret (SSh.mk' ⟨[(2, (.pv .bool))], []⟩ y))⟩,
  ⟨9, ⟨[(1, (.ptr 8 [])), (4, (.pv (.int .i64)))], [(8, (.data true Y71 .z))]⟩, fun κ => F31_R9 (fun y => κ.exit 2 (SSh.mk' ⟨[], []⟩ y)) (fun y => κ.ret (SSh.mk' ⟨[(2, (.pv .bool))], []⟩ y))⟩]
theorem L31_9 : ∀ (κ : Kont (Bool × Unit)) (N : St → Option (Bool × Unit)) (x : (L31[1]).sh.den), execK E31 (lpOf L31) (nthLoop (codeOf Go.Proofs.Tryz.f31) 1) { κ with normal := fun σ => N (σ.keepAt (E31).hints 9) } ((L31[1]).sh.mk' x) = (L31[1]).R κ (fun x => N ((L31[1]).sh.mk' x)) x :=
  fun κ N x => by kernel_rfl
theorem L31_4 : ∀ (κ : Kont (Bool × Unit)) (N : St → Option (Bool × Unit)) (x : (L31[0]).sh.den), execK E31 (lpOf L31) (nthLoop (codeOf Go.Proofs.Tryz.f31) 0) { κ with normal := fun σ => N (σ.keepAt (E31).hints 4) } ((L31[0]).sh.mk' x) = (L31[0]).R κ (fun x => N ((L31[0]).sh.mk' x)) x :=
  fun κ N x => by kernel_rfl
theorem C31_ok : QuietOk Go.Proofs.Tryz.prog 31 C31 :=
  told (env := E31) (fn := Go.Proofs.Tryz.f31) (c := (codeOf Go.Proofs.Tryz.f31)) (tbl := L31) (ls := [nthLoop (codeOf Go.Proofs.Tryz.f31) 0, nthLoop (codeOf Go.Proofs.Tryz.f31) 1]) (vars := Go.Proofs.Tryz.f31.results.toList) Go.Proofs.Tryz.func31 (tysC_ok tys_ok rfl rfl) (Told.fnOk (.cons C28_ok (.cons C52_ok (.cons C53_ok (.cons C54_ok .nil)))) rfl) (by kernel_rfl) (by decide) rfl (by decide) rfl rfl rfl (by kernel_rfl) (.cons L31[0] (by kernel_rfl) L31_4 (.cons L31[1] (by kernel_rfl) L31_9 .nil)) (by kernel_rfl)

/- 32: loop.example/g00380/spec.l10Coll -/
noncomputable def F32_R2 (e0_0 : Unit → Option (Int × Unit)) (er_1 : Int × Unit → Option (Int × Unit)) (rec : List (D54) × List UInt8 × Int × Unit → Option (Int × Unit)) (x2 : List (D54) × List UInt8 × Int × Unit) : Option (Int × Unit) :=
 (cond (decide (x2.2.2.1 < (((List.length x2.1) : Nat) : Int)))
 (gd (decide ((0 : Int) ≤ x2.2.2.1))
 (Option.bind x2.1[(Int.toNat x2.2.2.1)]? fun y5 =>
 (cond (y5.1 == x2.2.1)
 (er_1 (x2.2.2.1, ()))
 (rec (x2.1, x2.2.1, (IntKind.wrap IntKind.i64 (x2.2.2.1 + (1 : Int))), ())))))
 (e0_0 (())))

noncomputable def F32 (a0 : List (D54)) (a1 : List UInt8) : Option (Int × Unit) :=
 (iter (F32_R2
 (fun y6 =>
 (some ((-(1 : Int)), ())))
 (fun y7 =>
 (some (y7.1, ())))) fuel (a0, a1, (0 : Int), ()))

noncomputable def C32 : Fun := ⟨[(.ro (.slice Y54)), (.ro .str)], [((.int .i64), .z)], fun z => F32 z.1 z.2.1⟩
noncomputable def E32 : Env := ⟨20, tyTab tys, oneTab ones, fnTab [], false, [], [(2, [0, 1, 5], []), (3, [0, 1, 5], []), (4, [0, 1, 5], []), (6, [], []), (100000, [], []), (100001, [0, 1, 5], []), (99999, [4], [])], none, []⟩
noncomputable def L32 : List (LoopS (Int × Unit)) := [⟨2, ⟨[(0, (.pv (.slice Y54))), (1, (.pv .str)), (5, (.pv (.int .i64)))], []⟩, fun κ => F32_R2 (fun y => κ.exit 0 (SSh.mk' ⟨[], []⟩ y)) (fun y => κ.ret (SSh.mk' ⟨[(4, (.pv (.int .i64)))], []⟩ y))⟩]
theorem L32_2 : ∀ (κ : Kont (Int × Unit)) (N : St → Option (Int × Unit)) (x : (L32[0]).sh.den), execK E32 (lpOf L32) (nthLoop (codeOf Go.Proofs.Tryz.f32) 0) { κ with normal := fun σ => N (σ.keepAt (E32).hints 2) } ((L32[0]).sh.mk' x) = (L32[0]).R κ (fun x => N ((L32[0]).sh.mk' x)) x :=
  fun κ N x => by kernel_rfl
theorem C32_ok : QuietOk Go.Proofs.Tryz.prog 32 C32 :=
  told (env := E32) (fn := Go.Proofs.Tryz.f32) (c := (codeOf Go.Proofs.Tryz.f32)) (tbl := L32) (ls := [nthLoop (codeOf Go.Proofs.Tryz.f32) 0]) (vars := Go.Proofs.Tryz.f32.results.toList) Go.Proofs.Tryz.func32 (tysC_ok tys_ok rfl rfl) (Told.fnOk .nil rfl) (by kernel_rfl) (by decide) rfl (by decide) rfl rfl rfl (by kernel_rfl) (.cons L32[0] (by kernel_rfl) L32_2 .nil) (by kernel_rfl)

/- 15: loop.example/g00380/spec.StoreOK -/
noncomputable def F15_R7 (e2_0 : Int × D25 × Unit → Option (Bool × Unit)) (er_1 : Bool × Unit → Option (Bool × Unit)) (rec : Int × Int × D25 × Unit → Option (Bool × Unit)) (x10 : Int × Int × D25 × Unit) : Option (Bool × Unit) :=
 (gd (decide ((0 : Int) ≤ x10.1))
 (Option.bind x10.2.2.1.1[(Int.toNat x10.1)]? fun y12 =>
 (cond (decide (x10.2.1 < (((List.length y12.2.1) : Nat) : Int)))
 (gd (decide ((0 : Int) ≤ x10.1))
 (Option.bind x10.2.2.1.1[(Int.toNat x10.1)]? fun y14 =>
 (gd (decide ((0 : Int) ≤ x10.2.1))
 (Option.bind y14.2.1[(Int.toNat x10.2.1)]? fun y15 =>
 (gd (decide ((0 : Int) ≤ (IntKind.wrap IntKind.i64 ((((List.length y15.2.1) : Nat) : Int) - (1 : Int)))))
 (Option.bind y15.2.1[(Int.toNat (IntKind.wrap IntKind.i64 ((((List.length y15.2.1) : Nat) : Int) - (1 : Int))))]? fun y16 =>
 (cond (decide (y16.1 > x10.2.2.1.2.2.2.1))
 (er_1 (false, ()))
 (rec (x10.1, (IntKind.wrap IntKind.i64 (x10.2.1 + (1 : Int))), x10.2.2.1, ())))))))))
 (e2_0 (x10.1, x10.2.2.1, ())))))

noncomputable def F15_R4 (e0_0 : D25 × Unit → Option (Bool × Unit)) (er_1 : Bool × Unit → Option (Bool × Unit)) (rec : Int × D25 × Unit → Option (Bool × Unit)) (x6 : Int × D25 × Unit) : Option (Bool × Unit) :=
 (cond (decide (x6.1 < (((List.length x6.2.1.1) : Nat) : Int)))
 (iter (F15_R7
 (fun y17 =>
 (rec ((IntKind.wrap IntKind.i64 (y17.1 + (1 : Int))), y17.2.1, ())))
 (fun y18 =>
 (er_1 (y18.1, ())))) fuel (x6.1, (0 : Int), x6.2.1, ()))
 (e0_0 (x6.2.1, ())))

noncomputable def F15_R18 (e6_0 : Int × D25 × Unit → Option (Bool × Unit)) (er_1 : Bool × Unit → Option (Bool × Unit)) (rec : Int × Int × D25 × Unit → Option (Bool × Unit)) (x35 : Int × Int × D25 × Unit) : Option (Bool × Unit) :=
 (gd (decide ((0 : Int) ≤ x35.1))
 (Option.bind x35.2.2.1.2.1[(Int.toNat x35.1)]? fun y37 =>
 (cond (decide (x35.2.1 < (((List.length y37.2.2.2.1) : Nat) : Int)))
 (gd (decide ((0 : Int) ≤ x35.1))
 (Option.bind x35.2.2.1.2.1[(Int.toNat x35.1)]? fun y39 =>
 (gd (decide ((0 : Int) ≤ x35.2.1))
 (Option.bind y39.2.2.2.1[(Int.toNat x35.2.1)]? fun y40 =>
 (Option.bind (F32 x35.2.2.1.1 y40.1) fun y41 =>
 (cond (decide (y41.1 < (0 : Int)))
 (er_1 (false, ()))
 (rec (x35.1, (IntKind.wrap IntKind.i64 (x35.2.1 + (1 : Int))), x35.2.2.1, ()))))))))
 (e6_0 (x35.1, x35.2.2.1, ())))))

noncomputable def F15_R13 (e4_0 : D25 × Unit → Option (Bool × Unit)) (er_1 : Bool × Unit → Option (Bool × Unit)) (rec : Int × D25 × Unit → Option (Bool × Unit)) (x23 : Int × D25 × Unit) : Option (Bool × Unit) :=
 (cond (decide (x23.1 < (((List.length x23.2.1.2.1) : Nat) : Int)))
 (let j32 : Int × D25 × Unit → Option (Bool × Unit) := fun (y33 : Int × D25 × Unit) =>
 (iter (F15_R18
 (fun y42 =>
 (rec ((IntKind.wrap IntKind.i64 (y42.1 + (1 : Int))), y42.2.1, ())))
 (fun y43 =>
 (er_1 (y43.1, ())))) fuel (y33.1, (0 : Int), y33.2.1, ()))
 (gd (decide ((0 : Int) ≤ x23.1))
 (Option.bind x23.2.1.2.1[(Int.toNat x23.1)]? fun y27 =>
 (Option.bind (F31 y27) fun y28 =>
 (cond (!y28.1)
 (er_1 (false, ()))
 (gd (decide ((0 : Int) ≤ x23.1))
 (Option.bind x23.2.1.2.1[(Int.toNat x23.1)]? fun y29 =>
 (cond (decide (y29.2.1 > x23.2.1.2.2.2.1))
 (er_1 (false, ()))
 (cond (decide (x23.1 > (0 : Int)))
 (gd (decide ((0 : Int) ≤ (IntKind.wrap IntKind.i64 (x23.1 - (1 : Int)))))
 (Option.bind x23.2.1.2.1[(Int.toNat (IntKind.wrap IntKind.i64 (x23.1 - (1 : Int))))]? fun y30 =>
 (gd (decide ((0 : Int) ≤ x23.1))
 (Option.bind x23.2.1.2.1[(Int.toNat x23.1)]? fun y31 =>
 (cond (decide (y30.1 ≥ y31.1))
 (er_1 (false, ()))
 (j32 (x23.1, x23.2.1, ())))))))
 (j32 (x23.1, x23.2.1, ())))))))))))
 (e4_0 (x23.2.1, ())))

noncomputable def F15 (a0 : D25) : Option (Bool × Unit) :=
 (Option.bind (F28 a0.2.2.2.1 (0 : Int) (10000 : Int)) fun y1 =>
 (cond (!y1.1)
 (some (false, ()))
 (cond ((((List.length a0.1) : Nat) : Int) == (0 : Int))
 (some (false, ()))
 (Option.bind (F29 a0.1) fun y2 =>
 (cond (!y2.1)
 (some (false, ()))
 (cond (decide ((((List.length a0.2.1) : Nat) : Int) > (4 : Int)))
 (some (false, ()))
 (Option.bind (F30 a0.2.2.1) fun y3 =>
 (cond (!y3.1)
 (some (false, ()))
 (iter (F15_R4
 (fun y19 =>
 (iter (F15_R13
 (fun y44 =>
 (cond ((((List.length y44.1.2.2.1) : Nat) : Int) == (0 : Int))
 (some (true, ()))
 (gd (decide ((0 : Int) ≤ (IntKind.wrap IntKind.i64 ((((List.length y44.1.2.2.1) : Nat) : Int) - (1 : Int)))))
 (Option.bind y44.1.2.2.1[(Int.toNat (IntKind.wrap IntKind.i64 ((((List.length y44.1.2.2.1) : Nat) : Int) - (1 : Int))))]? fun y46 =>
 (some ((decide (y46.2.1 ≤ y44.1.2.2.2.1)), ()))))))
 (fun y45 =>
 (some (y45.1, ())))) fuel ((0 : Int), y19.1, ())))
 (fun y20 =>
 (some (y20.1, ())))) fuel ((0 : Int), a0, ()))))))))))

noncomputable def C15 : Fun := ⟨[(.ro Y25)], [(.bool, .z)], fun z => F15 z.1⟩
noncomputable def E15 : Env := ⟨162, tyTab tys, oneTab ones, fnTab [(28, C28), (29, C29), (30, C30), (31, C31), (32, C32)], false, [], [(3, [1], []), (4, [1, 3], []), (5, [1, 3], []), (6, [1, 3], []), (7, [1, 3, 4], []), (8, [1, 3, 4], []), (9, [1, 3, 4], []), (12, [1], []), (13, [1, 6], []), (14, [1, 6], []), (15, [1, 6], []), (17, [1, 6], []), (18, [1, 6, 7], []), (19, [1, 6, 7], []), (20, [1, 6, 7], []), (22, [1], []), (100000, [1], []), (100001, [1, 3], []), (100002, [1, 3], []), (100003, [1, 3, 4], []), (100004, [1], []), (100005, [1, 6], []), (100006, [1, 6], []), (100007, [1, 6, 7], []), (99999, [2], [])], none, []⟩
noncomputable def L15 : List (LoopS (Bool × Unit)) := [⟨7, ⟨[(1, (.ptr 8 [])), (3, (.pv (.int .i64))), (4, (.pv (.int .i64)))], [(8, (.data true Y25 .z))]⟩, fun κ => F15_R7 (fun y => κ.exit 2 (SSh.mk' ⟨[(1, (.ptr 8 [])), (3, (.pv (.int .i64)))], [(8, (.data true Y25 .z))]⟩ y)) (fun y => κ.ret (SSh.mk' ⟨[(2, (.pv .bool))], []⟩ y))⟩,
  ⟨4, ⟨[(1, (.ptr 8 [])), (3, (.pv (.int .i64)))], [(8, (.data true Y25 .z))]⟩, fun κ => F15_R4 (fun y => κ.exit 0 (SSh.mk' ⟨[(1, (.ptr 8 []))], [(8, (.data true Y25 .z))]⟩ y)) (fun y => κ.ret (SSh.mk' ⟨[(2, (.pv .bool))], []⟩ y))⟩,
  ⟨18, ⟨[(1, (.ptr 8 [])), (6, (.pv (.int .i64))), (7, (.pv (.int .i64)))], [(8, (.data true Y25 .z))]⟩, fun κ => F15_R18 (fun y => κ.exit 6 (SSh.mk' ⟨[(1, (.ptr 8 [])), (6, (.pv (.int .i64)))], [(8, (.data true Y25 .z))]⟩ y)) (fun y => κ.ret (SSh.mk' ⟨[(2, (.pv .bool))], []⟩ y))⟩,
  ⟨13, ⟨[(1, (.ptr 8 [])), (6, (.pv (.int .i64)))], [(8, (.data true Y25 .z))]⟩, fun κ => F15_R13 (fun y => κ.exit 4 (SSh.mk' ⟨[(1, (.ptr 8 []))], [(8, (.data true Y25 .z))]⟩ y)) (fun y => κ.ret (SSh.mk' ⟨[(2, (.pv .bool))], []⟩ y))⟩]
theorem L15_18 : ∀ (κ : Kont (Bool × Unit)) (N : St → Option (Bool × Unit)) (x : (L15[2]).sh.den), execK E15 (lpOf L15) (nthLoop (codeOf Go.Proofs.Tryz.f15) 3) { κ with normal := fun σ => N (σ.keepAt (E15).hints 18) } ((L15[2]).sh.mk' x) = (L15[2]).R κ (fun x => N ((L15[2]).sh.mk' x)) x :=
  fun κ N x => by kernel_rfl
theorem L15_13 : ∀ (κ : Kont (Bool × Unit)) (N : St → Option (Bool × Unit)) (x : (L15[3]).sh.den), execK E15 (lpOf L15) (nthLoop (codeOf Go.Proofs.Tryz.f15) 2) { κ with normal := fun σ => N (σ.keepAt (E15).hints 13) } ((L15[3]).sh.mk' x) = (L15[3]).R κ (fun x => N ((L15[3]).sh.mk' x)) x :=
  fun κ N x => by kernel_rfl
theorem L15_7 : ∀ (κ : Kont (Bool × Unit)) (N : St → Option (Bool × Unit)) (x : (L15[0]).sh.den), execK E15 (lpOf L15) (nthLoop (codeOf Go.Proofs.Tryz.f15) 1) { κ with normal := fun σ => N (σ.keepAt (E15).hints 7) } ((L15[0]).sh.mk' x) = (L15[0]).R κ (fun x => N ((L15[0]).sh.mk' x)) x :=
  fun κ N x => by kernel_rfl
theorem L15_4 : ∀ (κ : Kont (Bool × Unit)) (N : St → Option (Bool × Unit)) (x : (L15[1]).sh.den), execK E15 (lpOf L15) (nthLoop (codeOf Go.Proofs.Tryz.f15) 0) { κ with normal := fun σ => N (σ.keepAt (E15).hints 4) } ((L15[1]).sh.mk' x) = (L15[1]).R κ (fun x => N ((L15[1]).sh.mk' x)) x :=
  fun κ N x => by kernel_rfl
theorem C15_ok : QuietOk Go.Proofs.Tryz.prog 15 C15 :=
  told (env := E15) (fn := Go.Proofs.Tryz.f15) (c := (codeOf Go.Proofs.Tryz.f15)) (tbl := L15) (ls := [nthLoop (codeOf Go.Proofs.Tryz.f15) 0, nthLoop (codeOf Go.Proofs.Tryz.f15) 1, nthLoop (codeOf Go.Proofs.Tryz.f15) 2, nthLoop (codeOf Go.Proofs.Tryz.f15) 3]) (vars := Go.Proofs.Tryz.f15.results.toList) Go.Proofs.Tryz.func15 (tysC_ok tys_ok rfl rfl) (Told.fnOk (.cons C28_ok (.cons C29_ok (.cons C30_ok (.cons C31_ok (.cons C32_ok .nil))))) rfl) (by kernel_rfl) (by decide) rfl (by decide) rfl rfl rfl (by kernel_rfl) (.cons L15[1] (by kernel_rfl) L15_4 (.cons L15[0] (by kernel_rfl) L15_7 (.cons L15[3] (by kernel_rfl) L15_13 (.cons L15[2] (by kernel_rfl) L15_18 .nil)))) (by kernel_rfl)

/- 16: loop.example/g00380/spec.l11Oldest -/
noncomputable def F16_R3 (e0_0 : Int × Unit → Option (Int × Unit)) (rec : Int × Int × D25 × Unit → Option (Int × Unit)) (x2 : Int × Int × D25 × Unit) : Option (Int × Unit) :=
 (cond (decide (x2.2.1 < (((List.length x2.2.2.1.2.1) : Nat) : Int)))
 (gd (decide ((0 : Int) ≤ x2.2.1))
 (Option.bind x2.2.2.1.2.1[(Int.toNat x2.2.1)]? fun y4 =>
 (rec ((cond (decide (y4.2.1 < x2.1)) y4.2.1 x2.1), (IntKind.wrap IntKind.i64 (x2.2.1 + (1 : Int))), x2.2.2.1, ()))))
 (e0_0 (x2.1, ())))

noncomputable def F16 (a0 : D25) : Option (Int × Unit) :=
 (iter (F16_R3
 (fun y5 =>
 (some (y5.1, ())))) fuel (a0.2.2.2.1, (0 : Int), a0, ()))

noncomputable def C16 : Fun := ⟨[(.ro Y25)], [((.int .i64), .z)], fun z => F16 z.1⟩
noncomputable def E16 : Env := ⟨23, tyTab tys, oneTab ones, fnTab [], false, [], [(3, [1, 3, 4], []), (5, [1, 3, 4], []), (6, [3], []), (100000, [3], []), (100001, [1, 3, 4], []), (99999, [2], [])], none, []⟩
noncomputable def L16 : List (LoopS (Int × Unit)) := [⟨3, ⟨[(1, (.ptr 8 [])), (3, (.pv (.int .i64))), (4, (.pv (.int .i64)))], [(8, (.data true Y25 .z))]⟩, fun κ => F16_R3 (fun y => κ.exit 0 (SSh.mk' ⟨[(3, (.pv (.int .i64)))], []⟩ y))⟩]
theorem L16_3 : ∀ (κ : Kont (Int × Unit)) (N : St → Option (Int × Unit)) (x : (L16[0]).sh.den), execK E16 (lpOf L16) (nthLoop (codeOf Go.Proofs.Tryz.f16) 0) { κ with normal := fun σ => N (σ.keepAt (E16).hints 3) } ((L16[0]).sh.mk' x) = (L16[0]).R κ (fun x => N ((L16[0]).sh.mk' x)) x :=
  fun κ N x => by kernel_rfl
theorem C16_ok : QuietOk Go.Proofs.Tryz.prog 16 C16 :=
  told (env := E16) (fn := Go.Proofs.Tryz.f16) (c := (codeOf Go.Proofs.Tryz.f16)) (tbl := L16) (ls := [nthLoop (codeOf Go.Proofs.Tryz.f16) 0]) (vars := Go.Proofs.Tryz.f16.results.toList) Go.Proofs.Tryz.func16 (tysC_ok tys_ok rfl rfl) (Told.fnOk .nil rfl) (by kernel_rfl) (by decide) rfl (by decide) rfl rfl rfl (by kernel_rfl) (.cons L16[0] (by kernel_rfl) L16_3 .nil) (by kernel_rfl)

/- 6: loop.example/g00380/spec.OldestSnap -/
noncomputable def F6 (a0 : D25) : Option (Int × Int × Unit) :=
 (Option.bind (F15 a0) fun y1 =>
 (cond (!y1.1)
 (some ((0 : Int), ((1 : Int), ())))
 (Option.bind (F16 a0) fun y2 =>
 (some (y2.1, ((0 : Int), ()))))))

noncomputable def C6 : Fun := ⟨[(.ro Y25)], [((.int .i64), .z), ((.int .i64), .z)], fun z => F6 z.1⟩
noncomputable def E6 : Env := ⟨9, tyTab tys, oneTab ones, fnTab [(15, C15), (16, C16)], false, [], [(3, [1], []), (99999, [2, 3], [])], none, []⟩
noncomputable def L6 : List (LoopS (Int × Int × Unit)) := []
theorem C6_ok : QuietOk Go.Proofs.Tryz.prog 6 C6 :=
  told (env := E6) (fn := Go.Proofs.Tryz.f6) (c := (codeOf Go.Proofs.Tryz.f6)) (tbl := L6) (ls := []) (vars := Go.Proofs.Tryz.f6.results.toList) Go.Proofs.Tryz.func6 (tysC_ok tys_ok rfl rfl) (Told.fnOk (.cons C15_ok (.cons C16_ok .nil)) rfl) (by kernel_rfl) (by decide) rfl (by decide) rfl rfl rfl (by kernel_rfl) .nil (by kernel_rfl)

/- 121: loop.example/g00380/laws.toValue -/
noncomputable def F121 (a0 : D59) : Option (D59 × Unit) :=
 (some ((a0.1, (a0.2.1, (a0.2.2.1, ()))), ()))

noncomputable def C121 : Fun := ⟨[(.ro Y59)], [(Y59, .z)], fun z => F121 z.1⟩
noncomputable def E121 : Env := ⟨14, tyTab tys, oneTab ones, fnTab [], false, [], [(99999, [2], [])], none, []⟩
noncomputable def L121 : List (LoopS (D59 × Unit)) := []
theorem C121_ok : QuietOk Go.Proofs.Tryz.prog 121 C121 :=
  told (env := E121) (fn := Go.Proofs.Tryz.f121) (c := (codeOf Go.Proofs.Tryz.f121)) (tbl := L121) (ls := []) (vars := Go.Proofs.Tryz.f121.results.toList) Go.Proofs.Tryz.func121 (tysC_ok tys_ok rfl rfl) (Told.fnOk .nil rfl) (by kernel_rfl) (by decide) rfl (by decide) rfl rfl rfl (by kernel_rfl) .nil (by kernel_rfl)

/- 149: loop.example/g00380/laws.toVersion -/
noncomputable def F149 (a0 : D61) : Option (D61 × Unit) :=
 (Option.bind (F121 a0.2.2.1) fun y0 =>
 (some ((a0.1, (a0.2.1, (y0.1, ()))), ())))

noncomputable def C149 : Fun := ⟨[(.ro Y61)], [(Y61, .z)], fun z => F149 z.1⟩
noncomputable def E149 : Env := ⟨15, tyTab tys, oneTab ones, fnTab [(121, C121)], false, [], [(99999, [2], [])], none, []⟩
noncomputable def L149 : List (LoopS (D61 × Unit)) := []
theorem C149_ok : QuietOk Go.Proofs.Tryz.prog 149 C149 :=
  told (env := E149) (fn := Go.Proofs.Tryz.f149) (c := (codeOf Go.Proofs.Tryz.f149)) (tbl := L149) (ls := []) (vars := Go.Proofs.Tryz.f149.results.toList) Go.Proofs.Tryz.func149 (tysC_ok tys_ok rfl rfl) (Told.fnOk (.cons C121_ok .nil) rfl) (by kernel_rfl) (by decide) rfl (by decide) rfl rfl rfl (by kernel_rfl) .nil (by kernel_rfl)

/- 118: loop.example/g00380/laws.toVersionS -/
noncomputable def F118_R3 (e0_0 : List (D61) × Unit → Option (List (D61) × Unit)) (rec : List (D61) × Int × List (D61) × Unit → Option (List (D61) × Unit)) (x2 : List (D61) × Int × List (D61) × Unit) : Option (List (D61) × Unit) :=
 (cond (decide (x2.2.1 < (((List.length x2.1) : Nat) : Int)))
 (gd (decide ((0 : Int) ≤ x2.2.1))
 (Option.bind x2.1[(Int.toNat x2.2.1)]? fun y4 =>
 (Option.bind (F149 y4) fun y5 =>
 (gd (decide ((0 : Int) ≤ x2.2.1))
 (gd (decide (x2.2.1 < (((List.length x2.2.2.1) : Nat) : Int)))
 (Option.bind x2.2.2.1[(Int.toNat x2.2.1)]? fun y6 =>
 (rec (x2.1, (IntKind.wrap IntKind.i64 (x2.2.1 + (1 : Int))), (List.set x2.2.2.1 (Int.toNat x2.2.1) y5.1), ()))))))))
 (e0_0 (x2.2.2.1, ())))

noncomputable def F118 (a0 : List (D61)) : Option (List (D61) × Unit) :=
 (gd (decide ((((List.length a0) : Nat) : Int) ≤ ((4294967296 : Nat) : Int)))
 (gd (decide ((((List.length a0) : Nat) : Int) ≤ (((Int.toNat (((List.length a0) : Nat) : Int)) : Nat) : Int)))
 (iter (F118_R3
 (fun y7 =>
 (some (y7.1, ())))) fuel (a0, (0 : Int), (List.replicate (Int.toNat (((List.length a0) : Nat) : Int)) ((0 : Int), (false, (((0 : Int), ((0 : Int), ([], ()))), ())))), ()))))

noncomputable def C118 : Fun := ⟨[(.ro (.slice Y61))], [((.slice Y61), .z)], fun z => F118 z.1⟩
noncomputable def E118 : Env := ⟨23, tyTab tys, oneTab ones, fnTab [(149, C149)], false, [], [(3, [0, 3, 4], []), (5, [0, 3, 4], []), (6, [3], []), (100000, [3], []), (100001, [0, 3, 4], []), (99999, [2], [])], none, []⟩
noncomputable def L118 : List (LoopS (List (D61) × Unit)) := [⟨3, ⟨[(0, (.pv (.slice Y61))), (3, (.ref (.slice Y61) 56 [])), (4, (.pv (.int .i64)))], [(56, (.data false (.slice Y61) (.own .z)))]⟩, fun κ => F118_R3 (fun y => κ.exit 0 (SSh.mk' ⟨[(3, (.ref (.slice Y61) 56 []))], [(56, (.data false (.slice Y61) (.own .z)))]⟩ y))⟩]
theorem L118_3 : ∀ (κ : Kont (List (D61) × Unit)) (N : St → Option (List (D61) × Unit)) (x : (L118[0]).sh.den), execK E118 (lpOf L118) (nthLoop (codeOf Go.Proofs.Tryz.f118) 0) { κ with normal := fun σ => N (σ.keepAt (E118).hints 3) } ((L118[0]).sh.mk' x) = (L118[0]).R κ (fun x => N ((L118[0]).sh.mk' x)) x :=
  fun κ N x => by kernel_rfl
theorem C118_ok : QuietOk Go.Proofs.Tryz.prog 118 C118 :=
  told (env := E118) (fn := Go.Proofs.Tryz.f118) (c := (codeOf Go.Proofs.Tryz.f118)) (tbl := L118) (ls := [nthLoop (codeOf Go.Proofs.Tryz.f118) 0]) (vars := Go.Proofs.Tryz.f118.results.toList) Go.Proofs.Tryz.func118 (tysC_ok tys_ok rfl rfl) (Told.fnOk (.cons C149_ok .nil) rfl) (by kernel_rfl) (by decide) rfl (by decide) rfl rfl rfl (by kernel_rfl) (.cons L118[0] (by kernel_rfl) L118_3 .nil) (by kernel_rfl)

/- 82: loop.example/g00380/laws.toChain -/
noncomputable def F82 (a0 : D57) : Option (D57 × Unit) :=
 (Option.bind (F118 a0.2.1) fun y0 =>
 (some ((a0.1, (y0.1, ())), ())))

noncomputable def C82 : Fun := ⟨[(.ro Y57)], [(Y57, .z)], fun z => F82 z.1⟩
noncomputable def E82 : Env := ⟨12, tyTab tys, oneTab ones, fnTab [(118, C118)], false, [], [(99999, [2], [])], none, []⟩
noncomputable def L82 : List (LoopS (D57 × Unit)) := []
theorem C82_ok : QuietOk Go.Proofs.Tryz.prog 82 C82 :=
  told (env := E82) (fn := Go.Proofs.Tryz.f82) (c := (codeOf Go.Proofs.Tryz.f82)) (tbl := L82) (ls := []) (vars := Go.Proofs.Tryz.f82.results.toList) Go.Proofs.Tryz.func82 (tysC_ok tys_ok rfl rfl) (Told.fnOk (.cons C118_ok .nil) rfl) (by kernel_rfl) (by decide) rfl (by decide) rfl rfl rfl (by kernel_rfl) .nil (by kernel_rfl)

/- 55: loop.example/g00380/laws.toChainS -/
noncomputable def F55_R3 (e0_0 : List (D57) × Unit → Option (List (D57) × Unit)) (rec : List (D57) × Int × List (D57) × Unit → Option (List (D57) × Unit)) (x2 : List (D57) × Int × List (D57) × Unit) : Option (List (D57) × Unit) :=
 (cond (decide (x2.2.1 < (((List.length x2.1) : Nat) : Int)))
 (gd (decide ((0 : Int) ≤ x2.2.1))
 (Option.bind x2.1[(Int.toNat x2.2.1)]? fun y4 =>
 (Option.bind (F82 y4) fun y5 =>
 (gd (decide ((0 : Int) ≤ x2.2.1))
 (gd (decide (x2.2.1 < (((List.length x2.2.2.1) : Nat) : Int)))
 (Option.bind x2.2.2.1[(Int.toNat x2.2.1)]? fun y6 =>
 (rec (x2.1, (IntKind.wrap IntKind.i64 (x2.2.1 + (1 : Int))), (List.set x2.2.2.1 (Int.toNat x2.2.1) y5.1), ()))))))))
 (e0_0 (x2.2.2.1, ())))

noncomputable def F55 (a0 : List (D57)) : Option (List (D57) × Unit) :=
 (gd (decide ((((List.length a0) : Nat) : Int) ≤ ((4294967296 : Nat) : Int)))
 (gd (decide ((((List.length a0) : Nat) : Int) ≤ (((Int.toNat (((List.length a0) : Nat) : Int)) : Nat) : Int)))
 (iter (F55_R3
 (fun y7 =>
 (some (y7.1, ())))) fuel (a0, (0 : Int), (List.replicate (Int.toNat (((List.length a0) : Nat) : Int)) ((0 : Int), ([], ()))), ()))))

noncomputable def C55 : Fun := ⟨[(.ro (.slice Y57))], [((.slice Y57), .z)], fun z => F55 z.1⟩
noncomputable def E55 : Env := ⟨23, tyTab tys, oneTab ones, fnTab [(82, C82)], false, [], [(3, [0, 3, 4], []), (5, [0, 3, 4], []), (6, [3], []), (100000, [3], []), (100001, [0, 3, 4], []), (99999, [2], [])], none, []⟩
noncomputable def L55 : List (LoopS (List (D57) × Unit)) := [⟨3, ⟨[(0, (.pv (.slice Y57))), (3, (.ref (.slice Y57) 56 [])), (4, (.pv (.int .i64)))], [(56, (.data false (.slice Y57) (.own .z)))]⟩, fun κ => F55_R3 (fun y => κ.exit 0 (SSh.mk' ⟨[(3, (.ref (.slice Y57) 56 []))], [(56, (.data false (.slice Y57) (.own .z)))]⟩ y))⟩]
theorem L55_3 : ∀ (κ : Kont (List (D57) × Unit)) (N : St → Option (List (D57) × Unit)) (x : (L55[0]).sh.den), execK E55 (lpOf L55) (nthLoop (codeOf Go.Proofs.Tryz.f55) 0) { κ with normal := fun σ => N (σ.keepAt (E55).hints 3) } ((L55[0]).sh.mk' x) = (L55[0]).R κ (fun x => N ((L55[0]).sh.mk' x)) x :=
  fun κ N x => by kernel_rfl
theorem C55_ok : QuietOk Go.Proofs.Tryz.prog 55 C55 :=
  told (env := E55) (fn := Go.Proofs.Tryz.f55) (c := (codeOf Go.Proofs.Tryz.f55)) (tbl := L55) (ls := [nthLoop (codeOf Go.Proofs.Tryz.f55) 0]) (vars := Go.Proofs.Tryz.f55.results.toList) Go.Proofs.Tryz.func55 (tysC_ok tys_ok rfl rfl) (Told.fnOk (.cons C82_ok .nil) rfl) (by kernel_rfl) (by decide) rfl (by decide) rfl rfl rfl (by kernel_rfl) (.cons L55[0] (by kernel_rfl) L55_3 .nil) (by kernel_rfl)

/- 150: loop.example/g00380/laws.toPart -/
noncomputable def F150 (a0 : D181) : Option (D181 × Unit) :=
 (some ((a0.1, (a0.2.1, ())), ()))

noncomputable def C150 : Fun := ⟨[(.ro Y181)], [(Y181, .z)], fun z => F150 z.1⟩
noncomputable def E150 : Env := ⟨11, tyTab tys, oneTab ones, fnTab [], false, [], [(99999, [2], [])], none, []⟩
noncomputable def L150 : List (LoopS (D181 × Unit)) := []
theorem C150_ok : QuietOk Go.Proofs.Tryz.prog 150 C150 :=
  told (env := E150) (fn := Go.Proofs.Tryz.f150) (c := (codeOf Go.Proofs.Tryz.f150)) (tbl := L150) (ls := []) (vars := Go.Proofs.Tryz.f150.results.toList) Go.Proofs.Tryz.func150 (tysC_ok tys_ok rfl rfl) (Told.fnOk .nil rfl) (by kernel_rfl) (by decide) rfl (by decide) rfl rfl rfl (by kernel_rfl) .nil (by kernel_rfl)

/- 119: loop.example/g00380/laws.toPartS -/
noncomputable def F119_R3 (e0_0 : List (D181) × Unit → Option (List (D181) × Unit)) (rec : List (D181) × Int × List (D181) × Unit → Option (List (D181) × Unit)) (x2 : List (D181) × Int × List (D181) × Unit) : Option (List (D181) × Unit) :=
 (cond (decide (x2.2.1 < (((List.length x2.1) : Nat) : Int)))
 (gd (decide ((0 : Int) ≤ x2.2.1))
 (Option.bind x2.1[(Int.toNat x2.2.1)]? fun y4 =>
 (Option.bind (F150 y4) fun y5 =>
 (gd (decide ((0 : Int) ≤ x2.2.1))
 (gd (decide (x2.2.1 < (((List.length x2.2.2.1) : Nat) : Int)))
 (Option.bind x2.2.2.1[(Int.toNat x2.2.1)]? fun y6 =>
 (rec (x2.1, (IntKind.wrap IntKind.i64 (x2.2.1 + (1 : Int))), (List.set x2.2.2.1 (Int.toNat x2.2.1) y5.1), ()))))))))
 (e0_0 (x2.2.2.1, ())))

noncomputable def F119 (a0 : List (D181)) : Option (List (D181) × Unit) :=
 (gd (decide ((((List.length a0) : Nat) : Int) ≤ ((4294967296 : Nat) : Int)))
 (gd (decide ((((List.length a0) : Nat) : Int) ≤ (((Int.toNat (((List.length a0) : Nat) : Int)) : Nat) : Int)))
 (iter (F119_R3
 (fun y7 =>
 (some (y7.1, ())))) fuel (a0, (0 : Int), (List.replicate (Int.toNat (((List.length a0) : Nat) : Int)) ([], (false, ()))), ()))))

noncomputable def C119 : Fun := ⟨[(.ro (.slice Y181))], [((.slice Y181), .z)], fun z => F119 z.1⟩
noncomputable def E119 : Env := ⟨23, tyTab tys, oneTab ones, fnTab [(150, C150)], false, [], [(3, [0, 3, 4], []), (5, [0, 3, 4], []), (6, [3], []), (100000, [3], []), (100001, [0, 3, 4], []), (99999, [2], [])], none, []⟩
noncomputable def L119 : List (LoopS (List (D181) × Unit)) := [⟨3, ⟨[(0, (.pv (.slice Y181))), (3, (.ref (.slice Y181) 56 [])), (4, (.pv (.int .i64)))], [(56, (.data false (.slice Y181) (.own .z)))]⟩, fun κ => F119_R3 (fun y => κ.exit 0 (SSh.mk' ⟨[(3, (.ref (.slice Y181) 56 []))], [(56, (.data false (.slice Y181) (.own .z)))]⟩ y))⟩]
theorem L119_3 : ∀ (κ : Kont (List (D181) × Unit)) (N : St → Option (List (D181) × Unit)) (x : (L119[0]).sh.den), execK E119 (lpOf L119) (nthLoop (codeOf Go.Proofs.Tryz.f119) 0) { κ with normal := fun σ => N (σ.keepAt (E119).hints 3) } ((L119[0]).sh.mk' x) = (L119[0]).R κ (fun x => N ((L119[0]).sh.mk' x)) x :=
  fun κ N x => by kernel_rfl
theorem C119_ok : QuietOk Go.Proofs.Tryz.prog 119 C119 :=
  told (env := E119) (fn := Go.Proofs.Tryz.f119) (c := (codeOf Go.Proofs.Tryz.f119)) (tbl := L119) (ls := [nthLoop (codeOf Go.Proofs.Tryz.f119) 0]) (vars := Go.Proofs.Tryz.f119.results.toList) Go.Proofs.Tryz.func119 (tysC_ok tys_ok rfl rfl) (Told.fnOk (.cons C150_ok .nil) rfl) (by kernel_rfl) (by decide) rfl (by decide) rfl rfl rfl (by kernel_rfl) (.cons L119[0] (by kernel_rfl) L119_3 .nil) (by kernel_rfl)

/- 83: loop.example/g00380/laws.toDef -/
noncomputable def F83 (a0 : D132) : Option (D132 × Unit) :=
 (Option.bind (F119 a0.2.1) fun y0 =>
 (some ((a0.1, (y0.1, ())), ())))

noncomputable def C83 : Fun := ⟨[(.ro Y132)], [(Y132, .z)], fun z => F83 z.1⟩
noncomputable def E83 : Env := ⟨12, tyTab tys, oneTab ones, fnTab [(119, C119)], false, [], [(99999, [2], [])], none, []⟩
noncomputable def L83 : List (LoopS (D132 × Unit)) := []
theorem C83_ok : QuietOk Go.Proofs.Tryz.prog 83 C83 :=
  told (env := E83) (fn := Go.Proofs.Tryz.f83) (c := (codeOf Go.Proofs.Tryz.f83)) (tbl := L83) (ls := []) (vars := Go.Proofs.Tryz.f83.results.toList) Go.Proofs.Tryz.func83 (tysC_ok tys_ok rfl rfl) (Told.fnOk (.cons C119_ok .nil) rfl) (by kernel_rfl) (by decide) rfl (by decide) rfl rfl rfl (by kernel_rfl) .nil (by kernel_rfl)

/- 56: loop.example/g00380/laws.toDefS -/
noncomputable def F56_R3 (e0_0 : List (D132) × Unit → Option (List (D132) × Unit)) (rec : List (D132) × Int × List (D132) × Unit → Option (List (D132) × Unit)) (x2 : List (D132) × Int × List (D132) × Unit) : Option (List (D132) × Unit) :=
 (cond (decide (x2.2.1 < (((List.length x2.1) : Nat) : Int)))
 (gd (decide ((0 : Int) ≤ x2.2.1))
 (Option.bind x2.1[(Int.toNat x2.2.1)]? fun y4 =>
 (Option.bind (F83 y4) fun y5 =>
 (gd (decide ((0 : Int) ≤ x2.2.1))
 (gd (decide (x2.2.1 < (((List.length x2.2.2.1) : Nat) : Int)))
 (Option.bind x2.2.2.1[(Int.toNat x2.2.1)]? fun y6 =>
 (rec (x2.1, (IntKind.wrap IntKind.i64 (x2.2.1 + (1 : Int))), (List.set x2.2.2.1 (Int.toNat x2.2.1) y5.1), ()))))))))
 (e0_0 (x2.2.2.1, ())))

noncomputable def F56 (a0 : List (D132)) : Option (List (D132) × Unit) :=
 (gd (decide ((((List.length a0) : Nat) : Int) ≤ ((4294967296 : Nat) : Int)))
 (gd (decide ((((List.length a0) : Nat) : Int) ≤ (((Int.toNat (((List.length a0) : Nat) : Int)) : Nat) : Int)))
 (iter (F56_R3
 (fun y7 =>
 (some (y7.1, ())))) fuel (a0, (0 : Int), (List.replicate (Int.toNat (((List.length a0) : Nat) : Int)) ([], ([], ()))), ()))))

noncomputable def C56 : Fun := ⟨[(.ro (.slice Y132))], [((.slice Y132), .z)], fun z => F56 z.1⟩
noncomputable def E56 : Env := ⟨23, tyTab tys, oneTab ones, fnTab [(83, C83)], false, [], [(3, [0, 3, 4], []), (5, [0, 3, 4], []), (6, [3], []), (100000, [3], []), (100001, [0, 3, 4], []), (99999, [2], [])], none, []⟩
noncomputable def L56 : List (LoopS (List (D132) × Unit)) := [⟨3, ⟨[(0, (.pv (.slice Y132))), (3, (.ref (.slice Y132) 56 [])), (4, (.pv (.int .i64)))], [(56, (.data false (.slice Y132) (.own .z)))]⟩, fun κ => F56_R3 (fun y => κ.exit 0 (SSh.mk' ⟨[(3, (.ref (.slice Y132) 56 []))], [(56, (.data false (.slice Y132) (.own .z)))]⟩ y))⟩]
theorem L56_3 : ∀ (κ : Kont (List (D132) × Unit)) (N : St → Option (List (D132) × Unit)) (x : (L56[0]).sh.den), execK E56 (lpOf L56) (nthLoop (codeOf Go.Proofs.Tryz.f56) 0) { κ with normal := fun σ => N (σ.keepAt (E56).hints 3) } ((L56[0]).sh.mk' x) = (L56[0]).R κ (fun x => N ((L56[0]).sh.mk' x)) x :=
  fun κ N x => by kernel_rfl
theorem C56_ok : QuietOk Go.Proofs.Tryz.prog 56 C56 :=
  told (env := E56) (fn := Go.Proofs.Tryz.f56) (c := (codeOf Go.Proofs.Tryz.f56)) (tbl := L56) (ls := [nthLoop (codeOf Go.Proofs.Tryz.f56) 0]) (vars := Go.Proofs.Tryz.f56.results.toList) Go.Proofs.Tryz.func56 (tysC_ok tys_ok rfl rfl) (Told.fnOk (.cons C83_ok .nil) rfl) (by kernel_rfl) (by decide) rfl (by decide) rfl rfl rfl (by kernel_rfl) (.cons L56[0] (by kernel_rfl) L56_3 .nil) (by kernel_rfl)

/- 33: loop.example/g00380/laws.toColl -/
noncomputable def F33 (a0 : D54) : Option (D54 × Unit) :=
 (Option.bind (F55 a0.2.1) fun y0 =>
 (Option.bind (F56 a0.2.2.1) fun y1 =>
 (some ((a0.1, (y0.1, (y1.1, ()))), ()))))

noncomputable def C33 : Fun := ⟨[(.ro Y54)], [(Y54, .z)], fun z => F33 z.1⟩
noncomputable def E33 : Env := ⟨16, tyTab tys, oneTab ones, fnTab [(55, C55), (56, C56)], false, [], [(99999, [2], [])], none, []⟩
noncomputable def L33 : List (LoopS (D54 × Unit)) := []
theorem C33_ok : QuietOk Go.Proofs.Tryz.prog 33 C33 :=
  told (env := E33) (fn := Go.Proofs.Tryz.f33) (c := (codeOf Go.Proofs.Tryz.f33)) (tbl := L33) (ls := []) (vars := Go.Proofs.Tryz.f33.results.toList) Go.Proofs.Tryz.func33 (tysC_ok tys_ok rfl rfl) (Told.fnOk (.cons C55_ok (.cons C56_ok .nil)) rfl) (by kernel_rfl) (by decide) rfl (by decide) rfl rfl rfl (by kernel_rfl) .nil (by kernel_rfl)

/- 17: loop.example/g00380/laws.toCollS -/
noncomputable def F17_R3 (e0_0 : List (D54) × Unit → Option (List (D54) × Unit)) (rec : List (D54) × Int × List (D54) × Unit → Option (List (D54) × Unit)) (x2 : List (D54) × Int × List (D54) × Unit) : Option (List (D54) × Unit) :=
 (cond (decide (x2.2.1 < (((List.length x2.1) : Nat) : Int)))
 (gd (decide ((0 : Int) ≤ x2.2.1))
 (Option.bind x2.1[(Int.toNat x2.2.1)]? fun y4 =>
 (Option.bind (F33 y4) fun y5 =>
 (gd (decide ((0 : Int) ≤ x2.2.1))
 (gd (decide (x2.2.1 < (((List.length x2.2.2.1) : Nat) : Int)))
 (Option.bind x2.2.2.1[(Int.toNat x2.2.1)]? fun y6 =>
 (rec (x2.1, (IntKind.wrap IntKind.i64 (x2.2.1 + (1 : Int))), (List.set x2.2.2.1 (Int.toNat x2.2.1) y5.1), ()))))))))
 (e0_0 (x2.2.2.1, ())))

noncomputable def F17 (a0 : List (D54)) : Option (List (D54) × Unit) :=
 (gd (decide ((((List.length a0) : Nat) : Int) ≤ ((4294967296 : Nat) : Int)))
 (gd (decide ((((List.length a0) : Nat) : Int) ≤ (((Int.toNat (((List.length a0) : Nat) : Int)) : Nat) : Int)))
 (iter (F17_R3
 (fun y7 =>
 (some (y7.1, ())))) fuel (a0, (0 : Int), (List.replicate (Int.toNat (((List.length a0) : Nat) : Int)) ([], ([], ([], ())))), ()))))

noncomputable def C17 : Fun := ⟨[(.ro (.slice Y54))], [((.slice Y54), .z)], fun z => F17 z.1⟩
noncomputable def E17 : Env := ⟨23, tyTab tys, oneTab ones, fnTab [(33, C33)], false, [], [(3, [0, 3, 4], []), (5, [0, 3, 4], []), (6, [3], []), (100000, [3], []), (100001, [0, 3, 4], []), (99999, [2], [])], none, []⟩
noncomputable def L17 : List (LoopS (List (D54) × Unit)) := [⟨3, ⟨[(0, (.pv (.slice Y54))), (3, (.ref (.slice Y54) 56 [])), (4, (.pv (.int .i64)))], [(56, (.data false (.slice Y54) (.own .z)))]⟩, fun κ => F17_R3 (fun y => κ.exit 0 (SSh.mk' ⟨[(3, (.ref (.slice Y54) 56 []))], [(56, (.data false (.slice Y54) (.own .z)))]⟩ y))⟩]
theorem L17_3 : ∀ (κ : Kont (List (D54) × Unit)) (N : St → Option (List (D54) × Unit)) (x : (L17[0]).sh.den), execK E17 (lpOf L17) (nthLoop (codeOf Go.Proofs.Tryz.f17) 0) { κ with normal := fun σ => N (σ.keepAt (E17).hints 3) } ((L17[0]).sh.mk' x) = (L17[0]).R κ (fun x => N ((L17[0]).sh.mk' x)) x :=
  fun κ N x => by kernel_rfl
theorem C17_ok : QuietOk Go.Proofs.Tryz.prog 17 C17 :=
  told (env := E17) (fn := Go.Proofs.Tryz.f17) (c := (codeOf Go.Proofs.Tryz.f17)) (tbl := L17) (ls := [nthLoop (codeOf Go.Proofs.Tryz.f17) 0]) (vars := Go.Proofs.Tryz.f17.results.toList) Go.Proofs.Tryz.func17 (tysC_ok tys_ok rfl rfl) (Told.fnOk (.cons C33_ok .nil) rfl) (by kernel_rfl) (by decide) rfl (by decide) rfl rfl rfl (by kernel_rfl) (.cons L17[0] (by kernel_rfl) L17_3 .nil) (by kernel_rfl)

/- 197: loop.example/g00380/laws.toTerm -/
noncomputable def F197 (a0 : D189) : Option (D189 × Unit) :=
 (Option.bind (F121 a0.2.2.1) fun y0 =>
 (some ((a0.1, (a0.2.1, (y0.1, ()))), ())))

noncomputable def C197 : Fun := ⟨[(.ro Y189)], [(Y189, .z)], fun z => F197 z.1⟩
noncomputable def E197 : Env := ⟨15, tyTab tys, oneTab ones, fnTab [(121, C121)], false, [], [(99999, [2], [])], none, []⟩
noncomputable def L197 : List (LoopS (D189 × Unit)) := []
theorem C197_ok : QuietOk Go.Proofs.Tryz.prog 197 C197 :=
  told (env := E197) (fn := Go.Proofs.Tryz.f197) (c := (codeOf Go.Proofs.Tryz.f197)) (tbl := L197) (ls := []) (vars := Go.Proofs.Tryz.f197.results.toList) Go.Proofs.Tryz.func197 (tysC_ok tys_ok rfl rfl) (Told.fnOk (.cons C121_ok .nil) rfl) (by kernel_rfl) (by decide) rfl (by decide) rfl rfl rfl (by kernel_rfl) .nil (by kernel_rfl)

/- 186: loop.example/g00380/laws.toTermS -/
noncomputable def F186_R3 (e0_0 : List (D189) × Unit → Option D186) (rec : List (D189) × Int × List (D189) × Unit → Option D186) (x2 : List (D189) × Int × List (D189) × Unit) : Option D186 :=
 (cond (decide (x2.2.1 < (((List.length x2.1) : Nat) : Int)))
 (gd (decide ((0 : Int) ≤ x2.2.1))
 (Option.bind x2.1[(Int.toNat x2.2.1)]? fun y4 =>
 (Option.bind (F197 y4) fun y5 =>
 (gd (decide ((0 : Int) ≤ x2.2.1))
 (gd (decide (x2.2.1 < (((List.length x2.2.2.1) : Nat) : Int)))
 (Option.bind x2.2.2.1[(Int.toNat x2.2.1)]? fun y6 =>
 (rec (x2.1, (IntKind.wrap IntKind.i64 (x2.2.1 + (1 : Int))), (List.set x2.2.2.1 (Int.toNat x2.2.1) y5.1), ()))))))))
 (e0_0 (x2.2.2.1, ())))

noncomputable def F186 (a0 : List (D189)) : Option D186 :=
 (gd (decide ((((List.length a0) : Nat) : Int) ≤ ((4294967296 : Nat) : Int)))
 (gd (decide ((((List.length a0) : Nat) : Int) ≤ (((Int.toNat (((List.length a0) : Nat) : Int)) : Nat) : Int)))
 (iter (F186_R3
 (fun y7 =>
 (some (y7.1, ())))) fuel (a0, (0 : Int), (List.replicate (Int.toNat (((List.length a0) : Nat) : Int)) ((0 : Int), ([], (((0 : Int), ((0 : Int), ([], ()))), ())))), ()))))

noncomputable def C186 : Fun := ⟨[(.ro (.slice Y189))], [((.slice Y189), .z)], fun z => F186 z.1⟩
noncomputable def E186 : Env := ⟨23, tyTab tys, oneTab ones, fnTab [(197, C197)], false, [], [(3, [0, 3, 4], []), (5, [0, 3, 4], []), (6, [3], []), (100000, [3], []), (100001, [0, 3, 4], []), (99999, [2], [])], none, []⟩
noncomputable def L186 : List (LoopS D186) := [⟨3, ⟨[(0, (.pv (.slice Y189))), (3, (.ref (.slice Y189) 56 [])), (4, (.pv (.int .i64)))], [(56, (.data false (.slice Y189) (.own .z)))]⟩, fun κ => F186_R3 (fun y => κ.exit 0 (SSh.mk' ⟨[(3, (.ref (.slice Y189) 56 []))], [(56, (.data false (.slice Y189) (.own .z)))]⟩ y))⟩]
theorem L186_3 : ∀ (κ : Kont D186) (N : St → Option D186) (x : (L186[0]).sh.den), execK E186 (lpOf L186) (nthLoop (codeOf Go.Proofs.Tryz.f186) 0) { κ with normal := fun σ => N (σ.keepAt (E186).hints 3) } ((L186[0]).sh.mk' x) = (L186[0]).R κ (fun x => N ((L186[0]).sh.mk' x)) x :=
  fun κ N x => by kernel_rfl
theorem C186_ok : QuietOk Go.Proofs.Tryz.prog 186 C186 :=
  told (env := E186) (fn := Go.Proofs.Tryz.f186) (c := (codeOf Go.Proofs.Tryz.f186)) (tbl := L186) (ls := [nthLoop (codeOf Go.Proofs.Tryz.f186) 0]) (vars := Go.Proofs.Tryz.f186.results.toList) Go.Proofs.Tryz.func186 (tysC_ok tys_ok rfl rfl) (Told.fnOk (.cons C197_ok .nil) rfl) (by kernel_rfl) (by decide) rfl (by decide) rfl rfl rfl (by kernel_rfl) (.cons L186[0] (by kernel_rfl) L186_3 .nil) (by kernel_rfl)

/- 170: loop.example/g00380/laws.toClause -/
noncomputable def F170 (a0 : D186) : Option (D186 × Unit) :=
 (Option.bind (F186 a0.1) fun y0 =>
 (some ((y0.1, ()), ())))

noncomputable def C170 : Fun := ⟨[(.ro Y186)], [(Y186, .z)], fun z => F170 z.1⟩
noncomputable def E170 : Env := ⟨9, tyTab tys, oneTab ones, fnTab [(186, C186)], false, [], [(99999, [2], [])], none, []⟩
noncomputable def L170 : List (LoopS (D186 × Unit)) := []
theorem C170_ok : QuietOk Go.Proofs.Tryz.prog 170 C170 :=
  told (env := E170) (fn := Go.Proofs.Tryz.f170) (c := (codeOf Go.Proofs.Tryz.f170)) (tbl := L170) (ls := []) (vars := Go.Proofs.Tryz.f170.results.toList) Go.Proofs.Tryz.func170 (tysC_ok tys_ok rfl rfl) (Told.fnOk (.cons C186_ok .nil) rfl) (by kernel_rfl) (by decide) rfl (by decide) rfl rfl rfl (by kernel_rfl) .nil (by kernel_rfl)

/- 151: loop.example/g00380/laws.toClauseS -/
noncomputable def F151_R3 (e0_0 : List (D186) × Unit → Option D108) (rec : List (D186) × Int × List (D186) × Unit → Option D108) (x2 : List (D186) × Int × List (D186) × Unit) : Option D108 :=
 (cond (decide (x2.2.1 < (((List.length x2.1) : Nat) : Int)))
 (gd (decide ((0 : Int) ≤ x2.2.1))
 (Option.bind x2.1[(Int.toNat x2.2.1)]? fun y4 =>
 (Option.bind (F170 y4) fun y5 =>
 (gd (decide ((0 : Int) ≤ x2.2.1))
 (gd (decide (x2.2.1 < (((List.length x2.2.2.1) : Nat) : Int)))
 (Option.bind x2.2.2.1[(Int.toNat x2.2.1)]? fun y6 =>
 (rec (x2.1, (IntKind.wrap IntKind.i64 (x2.2.1 + (1 : Int))), (List.set x2.2.2.1 (Int.toNat x2.2.1) y5.1), ()))))))))
 (e0_0 (x2.2.2.1, ())))

noncomputable def F151 (a0 : List (D186)) : Option D108 :=
 (gd (decide ((((List.length a0) : Nat) : Int) ≤ ((4294967296 : Nat) : Int)))
 (gd (decide ((((List.length a0) : Nat) : Int) ≤ (((Int.toNat (((List.length a0) : Nat) : Int)) : Nat) : Int)))
 (iter (F151_R3
 (fun y7 =>
 (some (y7.1, ())))) fuel (a0, (0 : Int), (List.replicate (Int.toNat (((List.length a0) : Nat) : Int)) ([], ())), ()))))

noncomputable def C151 : Fun := ⟨[(.ro (.slice Y186))], [((.slice Y186), .z)], fun z => F151 z.1⟩
noncomputable def E151 : Env := ⟨23, tyTab tys, oneTab ones, fnTab [(170, C170)], false, [], [(3, [0, 3, 4], []), (5, [0, 3, 4], []), (6, [3], []), (100000, [3], []), (100001, [0, 3, 4], []), (99999, [2], [])], none, []⟩
noncomputable def L151 : List (LoopS D108) := [⟨3, ⟨[(0, (.pv (.slice Y186))), (3, (.ref (.slice Y186) 56 [])), (4, (.pv (.int .i64)))], [(56, (.data false (.slice Y186) (.own .z)))]⟩, fun κ => F151_R3 (fun y => κ.exit 0 (SSh.mk' ⟨[(3, (.ref (.slice Y186) 56 []))], [(56, (.data false (.slice Y186) (.own .z)))]⟩ y))⟩]
theorem L151_3 : ∀ (κ : Kont D108) (N : St → Option D108) (x : (L151[0]).sh.den), execK E151 (lpOf L151) (nthLoop (codeOf Go.Proofs.Tryz.f151) 0) { κ with normal := fun σ => N (σ.keepAt (E151).hints 3) } ((L151[0]).sh.mk' x) = (L151[0]).R κ (fun x => N ((L151[0]).sh.mk' x)) x :=
  fun κ N x => by kernel_rfl
theorem C151_ok : QuietOk Go.Proofs.Tryz.prog 151 C151 :=
  told (env := E151) (fn := Go.Proofs.Tryz.f151) (c := (codeOf Go.Proofs.Tryz.f151)) (tbl := L151) (ls := [nthLoop (codeOf Go.Proofs.Tryz.f151) 0]) (vars := Go.Proofs.Tryz.f151.results.toList) Go.Proofs.Tryz.func151 (tysC_ok tys_ok rfl rfl) (Told.fnOk (.cons C170_ok .nil) rfl) (by kernel_rfl) (by decide) rfl (by decide) rfl rfl rfl (by kernel_rfl) (.cons L151[0] (by kernel_rfl) L151_3 .nil) (by kernel_rfl)

/- 120: loop.example/g00380/laws.toFilter -/
noncomputable def F120 (a0 : D108) : Option (D108 × Unit) :=
 (Option.bind (F151 a0.1) fun y0 =>
 (some ((y0.1, ()), ())))

noncomputable def C120 : Fun := ⟨[(.ro Y108)], [(Y108, .z)], fun z => F120 z.1⟩
noncomputable def E120 : Env := ⟨9, tyTab tys, oneTab ones, fnTab [(151, C151)], false, [], [(99999, [2], [])], none, []⟩
noncomputable def L120 : List (LoopS (D108 × Unit)) := []
theorem C120_ok : QuietOk Go.Proofs.Tryz.prog 120 C120 :=
  told (env := E120) (fn := Go.Proofs.Tryz.f120) (c := (codeOf Go.Proofs.Tryz.f120)) (tbl := L120) (ls := []) (vars := Go.Proofs.Tryz.f120.results.toList) Go.Proofs.Tryz.func120 (tysC_ok tys_ok rfl rfl) (Told.fnOk (.cons C151_ok .nil) rfl) (by kernel_rfl) (by decide) rfl (by decide) rfl rfl rfl (by kernel_rfl) .nil (by kernel_rfl)

/- 84: loop.example/g00380/laws.toRead -/
noncomputable def F84 (a0 : D110) : Option (D110 × Unit) :=
 (Option.bind (F120 a0.2.1) fun y0 =>
 (some ((a0.1, (y0.1, ())), ())))

noncomputable def C84 : Fun := ⟨[(.ro Y110)], [(Y110, .z)], fun z => F84 z.1⟩
noncomputable def E84 : Env := ⟨12, tyTab tys, oneTab ones, fnTab [(120, C120)], false, [], [(99999, [2], [])], none, []⟩
noncomputable def L84 : List (LoopS (D110 × Unit)) := []
theorem C84_ok : QuietOk Go.Proofs.Tryz.prog 84 C84 :=
  told (env := E84) (fn := Go.Proofs.Tryz.f84) (c := (codeOf Go.Proofs.Tryz.f84)) (tbl := L84) (ls := []) (vars := Go.Proofs.Tryz.f84.results.toList) Go.Proofs.Tryz.func84 (tysC_ok tys_ok rfl rfl) (Told.fnOk (.cons C120_ok .nil) rfl) (by kernel_rfl) (by decide) rfl (by decide) rfl rfl rfl (by kernel_rfl) .nil (by kernel_rfl)

/- 57: loop.example/g00380/laws.toReadS -/
noncomputable def F57_R3 (e0_0 : List (D110) × Unit → Option (List (D110) × Unit)) (rec : List (D110) × Int × List (D110) × Unit → Option (List (D110) × Unit)) (x2 : List (D110) × Int × List (D110) × Unit) : Option (List (D110) × Unit) :=
 (cond (decide (x2.2.1 < (((List.length x2.1) : Nat) : Int)))
 (gd (decide ((0 : Int) ≤ x2.2.1))
 (Option.bind x2.1[(Int.toNat x2.2.1)]? fun y4 =>
 (Option.bind (F84 y4) fun y5 =>
 (gd (decide ((0 : Int) ≤ x2.2.1))
 (gd (decide (x2.2.1 < (((List.length x2.2.2.1) : Nat) : Int)))
 (Option.bind x2.2.2.1[(Int.toNat x2.2.1)]? fun y6 =>
 (rec (x2.1, (IntKind.wrap IntKind.i64 (x2.2.1 + (1 : Int))), (List.set x2.2.2.1 (Int.toNat x2.2.1) y5.1), ()))))))))
 (e0_0 (x2.2.2.1, ())))

noncomputable def F57 (a0 : List (D110)) : Option (List (D110) × Unit) :=
 (gd (decide ((((List.length a0) : Nat) : Int) ≤ ((4294967296 : Nat) : Int)))
 (gd (decide ((((List.length a0) : Nat) : Int) ≤ (((Int.toNat (((List.length a0) : Nat) : Int)) : Nat) : Int)))
 (iter (F57_R3
 (fun y7 =>
 (some (y7.1, ())))) fuel (a0, (0 : Int), (List.replicate (Int.toNat (((List.length a0) : Nat) : Int)) ([], (([], ()), ()))), ()))))

noncomputable def C57 : Fun := ⟨[(.ro (.slice Y110))], [((.slice Y110), .z)], fun z => F57 z.1⟩
noncomputable def E57 : Env := ⟨23, tyTab tys, oneTab ones, fnTab [(84, C84)], false, [], [(3, [0, 3, 4], []), (5, [0, 3, 4], []), (6, [3], []), (100000, [3], []), (100001, [0, 3, 4], []), (99999, [2], [])], none, []⟩
noncomputable def L57 : List (LoopS (List (D110) × Unit)) := [⟨3, ⟨[(0, (.pv (.slice Y110))), (3, (.ref (.slice Y110) 56 [])), (4, (.pv (.int .i64)))], [(56, (.data false (.slice Y110) (.own .z)))]⟩, fun κ => F57_R3 (fun y => κ.exit 0 (SSh.mk' ⟨[(3, (.ref (.slice Y110) 56 []))], [(56, (.data false (.slice Y110) (.own .z)))]⟩ y))⟩]
theorem L57_3 : ∀ (κ : Kont (List (D110) × Unit)) (N : St → Option (List (D110) × Unit)) (x : (L57[0]).sh.den), execK E57 (lpOf L57) (nthLoop (codeOf Go.Proofs.Tryz.f57) 0) { κ with normal := fun σ => N (σ.keepAt (E57).hints 3) } ((L57[0]).sh.mk' x) = (L57[0]).R κ (fun x => N ((L57[0]).sh.mk' x)) x :=
  fun κ N x => by kernel_rfl
theorem C57_ok : QuietOk Go.Proofs.Tryz.prog 57 C57 :=
  told (env := E57) (fn := Go.Proofs.Tryz.f57) (c := (codeOf Go.Proofs.Tryz.f57)) (tbl := L57) (ls := [nthLoop (codeOf Go.Proofs.Tryz.f57) 0]) (vars := Go.Proofs.Tryz.f57.results.toList) Go.Proofs.Tryz.func57 (tysC_ok tys_ok rfl rfl) (Told.fnOk (.cons C84_ok .nil) rfl) (by kernel_rfl) (by decide) rfl (by decide) rfl rfl rfl (by kernel_rfl) (.cons L57[0] (by kernel_rfl) L57_3 .nil) (by kernel_rfl)

end Go.V
