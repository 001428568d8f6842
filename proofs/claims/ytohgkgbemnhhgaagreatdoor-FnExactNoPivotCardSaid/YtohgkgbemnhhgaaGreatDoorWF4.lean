/- What functions of the program compute, printed by a program of ours. No condition. -/
import Derived.Test.YtohgkgbemnhhgaaGreatDoorWF3
namespace Go.V
open Go.Proofs
set_option maxRecDepth 100000
set_option linter.unusedVariables false

/- 176: loop.example/g00380/impl.FilterOK -/
noncomputable def F176 (a0 : D91) : Option (Bool × Unit) :=
 (Option.bind (F37 (((List.length a0.1) : Nat) : Int) (1 : Int) (3 : Int)) fun y0 =>
 (cond y0.1
 (Option.bind (F110 a0.1 (fun (v3 : D163) => (Option.map (fun (v4 : (Bool × Unit)) => v4.1) (F201 v3)))) fun y1 =>
 (some ((!y1.1), ())))
 (some (false, ()))))

noncomputable def C176 : Fun := ⟨[(.ro Y91)], [(.bool, .z)], fun z => F176 z.1⟩
noncomputable def E176 : Env := ⟨13, tyTab tys, oneTab ones, fnTab [(37, C37), (110, C110), (201, C201)], false, [], [(99999, [2], [])], none, []⟩
noncomputable def L176 : List (LoopS (Bool × Unit)) := []
theorem C176_ok : QuietOk Tryz.prog 176 C176 :=
  told (env := E176) (fn := Tryz.f176) (c := (codeOf Tryz.f176)) (tbl := L176) (ls := []) (vars := Tryz.f176.results.toList) Tryz.func176 (tysC_ok tys_ok rfl rfl) (Told.fnOk (.cons C37_ok (.cons C110_ok (.cons C201_ok .nil))) rfl) (by kernel_rfl) (by decide) rfl (by decide) rfl rfl rfl (by kernel_rfl) .nil (by kernel_rfl)

/- 143: loop.example/g00380/impl.ReadOK -/
noncomputable def F143 (a0 : D93) : Option (Bool × Unit) :=
 (Option.bind (F98 a0.1) fun y0 =>
 (cond y0.1
 (Option.bind (F176 a0.2.1) fun y1 =>
 (some (y1.1, ())))
 (some (false, ()))))

noncomputable def C143 : Fun := ⟨[(.ro Y93)], [(.bool, .z)], fun z => F143 z.1⟩
noncomputable def E143 : Env := ⟨11, tyTab tys, oneTab ones, fnTab [(98, C98), (176, C176)], false, [], [(99999, [2], [])], none, []⟩
noncomputable def L143 : List (LoopS (Bool × Unit)) := []
theorem C143_ok : QuietOk Tryz.prog 143 C143 :=
  told (env := E143) (fn := Tryz.f143) (c := (codeOf Tryz.f143)) (tbl := L143) (ls := []) (vars := Tryz.f143.results.toList) Tryz.func143 (tysC_ok tys_ok rfl rfl) (Told.fnOk (.cons C98_ok (.cons C176_ok .nil)) rfl) (by kernel_rfl) (by decide) rfl (by decide) rfl rfl rfl (by kernel_rfl) .nil (by kernel_rfl)

/- 142: loop.example/g00380/impl.areReads$1 -/
noncomputable def F142 (a0 : D93) : Option (Bool × Unit) :=
 (Option.bind (F143 a0) fun y0 =>
 (some ((!y0.1), ())))

noncomputable def C142 : Fun := ⟨[(.ro Y93)], [(.bool, .z)], fun z => F142 z.1⟩
noncomputable def E142 : Env := ⟨6, tyTab tys, oneTab ones, fnTab [(143, C143)], false, [], [(99999, [2], [])], none, []⟩
noncomputable def L142 : List (LoopS (Bool × Unit)) := []
theorem C142_ok : QuietOk Tryz.prog 142 C142 :=
  told (env := E142) (fn := Tryz.f142) (c := (codeOf Tryz.f142)) (tbl := L142) (ls := []) (vars := Tryz.f142.results.toList) Tryz.func142 (tysC_ok tys_ok rfl rfl) (Told.fnOk (.cons C143_ok .nil) rfl) (by kernel_rfl) (by decide) rfl (by decide) rfl rfl rfl (by kernel_rfl) .nil (by kernel_rfl)

/- 102: loop.example/g00380/impl.areReads -/
noncomputable def F102 (a0 : List (D93)) : Option (Bool × Unit) :=
 (Option.bind (F41 a0 (fun (v2 : D93) => (Option.map (fun (v3 : (Bool × Unit)) => v3.1) (F142 v2)))) fun y0 =>
 (some ((!y0.1), ())))

noncomputable def C102 : Fun := ⟨[(.ro (.slice Y93))], [(.bool, .z)], fun z => F102 z.1⟩
noncomputable def E102 : Env := ⟨6, tyTab tys, oneTab ones, fnTab [(41, C41), (142, C142)], false, [], [(99999, [2], [])], none, []⟩
noncomputable def L102 : List (LoopS (Bool × Unit)) := []
theorem C102_ok : QuietOk Tryz.prog 102 C102 :=
  told (env := E102) (fn := Tryz.f102) (c := (codeOf Tryz.f102)) (tbl := L102) (ls := []) (vars := Tryz.f102.results.toList) Tryz.func102 (tysC_ok tys_ok rfl rfl) (Told.fnOk (.cons C41_ok (.cons C142_ok .nil)) rfl) (by kernel_rfl) (by decide) rfl (by decide) rfl rfl rfl (by kernel_rfl) .nil (by kernel_rfl)

/- 104: loop.example/g00380/impl.writeOK -/
noncomputable def F104 (a0 : D87) : Option (Bool × Unit) :=
 (Option.bind (F98 a0.1) fun y0 =>
 (cond y0.1
 (Option.bind (F37 a0.2.1 (0 : Int) (19 : Int)) fun y1 =>
 (cond y1.1
 (Option.bind (F140 a0.2.2.1 a0.2.2.2.1 a0.2.1) fun y2 =>
 (some (y2.1, ())))
 (some (false, ()))))
 (some (false, ()))))

noncomputable def C104 : Fun := ⟨[(.ro Y87)], [(.bool, .z)], fun z => F104 z.1⟩
noncomputable def E104 : Env := ⟨20, tyTab tys, oneTab ones, fnTab [(37, C37), (98, C98), (140, C140)], false, [], [(99999, [2], [])], none, []⟩
noncomputable def L104 : List (LoopS (Bool × Unit)) := []
theorem C104_ok : QuietOk Tryz.prog 104 C104 :=
  told (env := E104) (fn := Tryz.f104) (c := (codeOf Tryz.f104)) (tbl := L104) (ls := []) (vars := Tryz.f104.results.toList) Tryz.func104 (tysC_ok tys_ok rfl rfl) (Told.fnOk (.cons C37_ok (.cons C98_ok (.cons C140_ok .nil))) rfl) (by kernel_rfl) (by decide) rfl (by decide) rfl rfl rfl (by kernel_rfl) .nil (by kernel_rfl)

/- 145: loop.example/g00380/impl.changeOK -/
noncomputable def F145 (a0 : D95) : Option (Bool × Unit) :=
 (Option.bind (F104 a0.1) fun y0 =>
 (cond y0.1
 (Option.bind (F140 (!a0.2.2.1) a0.2.1 a0.1.2.1) fun y1 =>
 (some (y1.1, ())))
 (some (false, ()))))

noncomputable def C145 : Fun := ⟨[(.ro Y95)], [(.bool, .z)], fun z => F145 z.1⟩
noncomputable def E145 : Env := ⟨17, tyTab tys, oneTab ones, fnTab [(104, C104), (140, C140)], false, [], [(99999, [2], [])], none, []⟩
noncomputable def L145 : List (LoopS (Bool × Unit)) := []
theorem C145_ok : QuietOk Tryz.prog 145 C145 :=
  told (env := E145) (fn := Tryz.f145) (c := (codeOf Tryz.f145)) (tbl := L145) (ls := []) (vars := Tryz.f145.results.toList) Tryz.func145 (tysC_ok tys_ok rfl rfl) (Told.fnOk (.cons C104_ok (.cons C140_ok .nil)) rfl) (by kernel_rfl) (by decide) rfl (by decide) rfl rfl rfl (by kernel_rfl) .nil (by kernel_rfl)

/- 144: loop.example/g00380/impl.areChanges$1 -/
noncomputable def F144 (a0 : D95) : Option (Bool × Unit) :=
 (Option.bind (F145 a0) fun y0 =>
 (some ((!y0.1), ())))

noncomputable def C144 : Fun := ⟨[(.ro Y95)], [(.bool, .z)], fun z => F144 z.1⟩
noncomputable def E144 : Env := ⟨6, tyTab tys, oneTab ones, fnTab [(145, C145)], false, [], [(99999, [2], [])], none, []⟩
noncomputable def L144 : List (LoopS (Bool × Unit)) := []
theorem C144_ok : QuietOk Tryz.prog 144 C144 :=
  told (env := E144) (fn := Tryz.f144) (c := (codeOf Tryz.f144)) (tbl := L144) (ls := []) (vars := Tryz.f144.results.toList) Tryz.func144 (tysC_ok tys_ok rfl rfl) (Told.fnOk (.cons C145_ok .nil) rfl) (by kernel_rfl) (by decide) rfl (by decide) rfl rfl rfl (by kernel_rfl) .nil (by kernel_rfl)

/- 103: loop.example/g00380/impl.areChanges -/
noncomputable def F103 (a0 : List (D95)) : Option (Bool × Unit) :=
 (Option.bind (F43 a0 (fun (v2 : D95) => (Option.map (fun (v3 : (Bool × Unit)) => v3.1) (F144 v2)))) fun y0 =>
 (some ((!y0.1), ())))

noncomputable def C103 : Fun := ⟨[(.ro (.slice Y95))], [(.bool, .z)], fun z => F103 z.1⟩
noncomputable def E103 : Env := ⟨6, tyTab tys, oneTab ones, fnTab [(43, C43), (144, C144)], false, [], [(99999, [2], [])], none, []⟩
noncomputable def L103 : List (LoopS (Bool × Unit)) := []
theorem C103_ok : QuietOk Tryz.prog 103 C103 :=
  told (env := E103) (fn := Tryz.f103) (c := (codeOf Tryz.f103)) (tbl := L103) (ls := []) (vars := Tryz.f103.results.toList) Tryz.func103 (tysC_ok tys_ok rfl rfl) (Told.fnOk (.cons C43_ok (.cons C144_ok .nil)) rfl) (by kernel_rfl) (by decide) rfl (by decide) rfl rfl rfl (by kernel_rfl) .nil (by kernel_rfl)

/- 65: loop.example/g00380/impl.DoneOK -/
noncomputable def F65_R2 (e0_0 : D44 × Unit → Option (Bool × Unit)) (er_1 : Bool × Unit → Option (Bool × Unit)) (rec : List (D95) × Int × Int × D44 × Unit → Option (Bool × Unit)) (x2 : List (D95) × Int × Int × D44 × Unit) : Option (Bool × Unit) :=
 (cond (decide (x2.2.2.1 < x2.2.1))
 (gd (decide ((0 : Int) ≤ x2.2.2.1))
 (Option.bind x2.1[(Int.toNat x2.2.2.1)]? fun y5 =>
 (gd (decide ((0 : Int) ≤ x2.2.2.1))
 (gd (decide (x2.2.2.1 ≤ (((List.length x2.2.2.2.1.2.2.2.1) : Nat) : Int)))
 (Option.bind (F43 (List.drop (Int.toNat (0 : Int)) (List.take (Int.toNat x2.2.2.1) x2.2.2.2.1.2.2.2.1)) (fun (v9 : D95) => (Option.map (fun (v10 : (Bool × Unit)) => v10.1) (F99 v9 y5)))) fun y6 =>
 (cond y6.1
 (er_1 (false, ()))
 (rec (x2.1, x2.2.1, (IntKind.wrap IntKind.i64 (x2.2.2.1 + (1 : Int))), x2.2.2.2.1, ()))))))))
 (e0_0 (x2.2.2.2.1, ())))

noncomputable def F65 (a0 : D44) : Option (Bool × Unit) :=
 (iter (F65_R2
 (fun y7 =>
 (cond (decide (y7.1.1 ≥ (0 : Int)))
 (Option.bind (F101 y7.1.2.1) fun y9 =>
 (cond y9.1
 (cond (decide (y7.1.2.1 > y7.1.1))
 (cond (decide ((((List.length y7.1.2.2.1) : Nat) : Int) ≤ (20 : Int)))
 (cond (decide ((((List.length y7.1.2.2.2.1) : Nat) : Int) ≤ (60 : Int)))
 (Option.bind (F102 y7.1.2.2.1) fun y10 =>
 (cond y10.1
 (Option.bind (F103 y7.1.2.2.2.1) fun y11 =>
 (some (y11.1, ())))
 (some (false, ()))))
 (some (false, ())))
 (some (false, ())))
 (some (false, ())))
 (some (false, ()))))
 (some (false, ()))))
 (fun y8 =>
 (some (y8.1, ())))) fuel (a0.2.2.2.1, (((List.length a0.2.2.2.1) : Nat) : Int), (0 : Int), a0, ()))

noncomputable def C65 : Fun := ⟨[(.ro Y44)], [(.bool, .z)], fun z => F65 z.1⟩
noncomputable def E65 : Env := ⟨57, tyTab tys, oneTab ones, fnTab [(43, C43), (99, C99), (101, C101), (102, C102), (103, C103)], false, [], [(2, [1, 6, 7, 8], []), (3, [1, 6, 7, 8], []), (6, [1, 6, 7, 8], []), (7, [1], []), (100000, [1], []), (100001, [1, 6, 7, 8], []), (99999, [2], [])], none, []⟩
noncomputable def L65 : List (LoopS (Bool × Unit)) := [⟨2, ⟨[(1, (.ptr 8 [])), (6, (.pv (.slice Y95))), (7, (.pv (.int .i64))), (8, (.pv (.int .i64)))], [(8, (.data true Y44 .z))]⟩, fun κ => F65_R2 (fun y => κ.exit 0 (SSh.mk' ⟨[(1, (.ptr 8 []))], [(8, (.data true Y44 .z))]⟩ y)) (fun y => κ.ret (SSh.mk' ⟨[(2, (.pv .bool))], []⟩ y))⟩]
theorem L65_2 : ∀ (κ : Kont (Bool × Unit)) (N : St → Option (Bool × Unit)) (x : (L65[0]).sh.den), execK E65 (lpOf L65) (nthLoop (codeOf Tryz.f65) 0) { κ with normal := fun σ => N (σ.keepAt (E65).hints 2) } ((L65[0]).sh.mk' x) = (L65[0]).R κ (fun x => N ((L65[0]).sh.mk' x)) x :=
  fun κ N x => by kernel_rfl
theorem C65_ok : QuietOk Tryz.prog 65 C65 :=
  told (env := E65) (fn := Tryz.f65) (c := (codeOf Tryz.f65)) (tbl := L65) (ls := [nthLoop (codeOf Tryz.f65) 0]) (vars := Tryz.f65.results.toList) Tryz.func65 (tysC_ok tys_ok rfl rfl) (Told.fnOk (.cons C43_ok (.cons C99_ok (.cons C101_ok (.cons C102_ok (.cons C103_ok .nil))))) rfl) (by kernel_rfl) (by decide) rfl (by decide) rfl rfl rfl (by kernel_rfl) (.cons L65[0] (by kernel_rfl) L65_2 .nil) (by kernel_rfl)

/- 36: loop.example/g00380/impl.areDone -/
noncomputable def F36_R2 (e0_0 : List (D44) × Unit → Option (Bool × Unit)) (er_1 : Bool × Unit → Option (Bool × Unit)) (rec : List (D44) × List (D44) × Int × Int × Unit → Option (Bool × Unit)) (x2 : List (D44) × List (D44) × Int × Int × Unit) : Option (Bool × Unit) :=
 (cond (decide (x2.2.2.2.1 < x2.2.2.1))
 (let j9 : List (D44) × List (D44) × Int × Int × Unit → Option (Bool × Unit) := fun (y10 : List (D44) × List (D44) × Int × Int × Unit) =>
 (rec (y10.1, y10.2.1, y10.2.2.1, (IntKind.wrap IntKind.i64 (y10.2.2.2.1 + (1 : Int))), ()))
 (gd (decide ((0 : Int) ≤ x2.2.2.2.1))
 (Option.bind x2.2.1[(Int.toNat x2.2.2.2.1)]? fun y5 =>
 (Option.bind (F65 y5) fun y6 =>
 (cond (!y6.1)
 (er_1 (false, ()))
 (cond y5.2.2.2.2.1
 (cond y5.2.2.2.2.2.1
 (er_1 (false, ()))
 (cond (decide (x2.2.2.2.1 > (0 : Int)))
 (gd (decide ((0 : Int) ≤ (IntKind.wrap IntKind.i64 (x2.2.2.2.1 - (1 : Int)))))
 (Option.bind x2.1[(Int.toNat (IntKind.wrap IntKind.i64 (x2.2.2.2.1 - (1 : Int))))]? fun y7 =>
 (cond (decide (y7.2.1 ≥ y5.2.1))
 (er_1 (false, ()))
 (j9 (x2.1, x2.2.1, x2.2.2.1, x2.2.2.2.1, ())))))
 (j9 (x2.1, x2.2.1, x2.2.2.1, x2.2.2.2.1, ()))))
 (cond (decide (x2.2.2.2.1 > (0 : Int)))
 (gd (decide ((0 : Int) ≤ (IntKind.wrap IntKind.i64 (x2.2.2.2.1 - (1 : Int)))))
 (Option.bind x2.1[(Int.toNat (IntKind.wrap IntKind.i64 (x2.2.2.2.1 - (1 : Int))))]? fun y8 =>
 (cond (decide (y8.2.1 ≥ y5.2.1))
 (er_1 (false, ()))
 (j9 (x2.1, x2.2.1, x2.2.2.1, x2.2.2.2.1, ())))))
 (j9 (x2.1, x2.2.1, x2.2.2.1, x2.2.2.2.1, ())))))))))
 (e0_0 (x2.1, ())))

noncomputable def F36 (a0 : List (D44)) : Option (Bool × Unit) :=
 (iter (F36_R2
 (fun y11 =>
 (some ((decide ((((List.length y11.1) : Nat) : Int) ≤ (30 : Int))), ())))
 (fun y12 =>
 (some (y12.1, ())))) fuel (a0, a0, (((List.length a0) : Nat) : Int), (0 : Int), ()))

noncomputable def C36 : Fun := ⟨[(.ro (.slice Y44))], [(.bool, .z)], fun z => F36 z.1⟩
noncomputable def E36 : Env := ⟨42, tyTab tys, oneTab ones, fnTab [(65, C65)], false, [], [(2, [0, 5, 6, 7], []), (3, [0, 5, 6, 7], []), (6, [0, 5, 6, 7], []), (7, [0], []), (100000, [0], []), (100001, [0, 5, 6, 7], []), (99999, [2], [])], none, []⟩
noncomputable def L36 : List (LoopS (Bool × Unit)) := [⟨2, ⟨[(0, (.pv (.slice Y44))), (5, (.pv (.slice Y44))), (6, (.pv (.int .i64))), (7, (.pv (.int .i64)))], []⟩, fun κ => F36_R2 (fun y => κ.exit 0 (SSh.mk' ⟨[(0, (.pv (.slice Y44)))], []⟩ y)) (fun y => κ.ret (SSh.mk' ⟨[(2, (.pv .bool))], []⟩ y))⟩]
theorem L36_2 : ∀ (κ : Kont (Bool × Unit)) (N : St → Option (Bool × Unit)) (x : (L36[0]).sh.den), execK E36 (lpOf L36) (nthLoop (codeOf Tryz.f36) 0) { κ with normal := fun σ => N (σ.keepAt (E36).hints 2) } ((L36[0]).sh.mk' x) = (L36[0]).R κ (fun x => N ((L36[0]).sh.mk' x)) x :=
  fun κ N x => by kernel_rfl
theorem C36_ok : QuietOk Tryz.prog 36 C36 :=
  told (env := E36) (fn := Tryz.f36) (c := (codeOf Tryz.f36)) (tbl := L36) (ls := [nthLoop (codeOf Tryz.f36) 0]) (vars := Tryz.f36.results.toList) Tryz.func36 (tysC_ok tys_ok rfl rfl) (Told.fnOk (.cons C65_ok .nil) rfl) (by kernel_rfl) (by decide) rfl (by decide) rfl rfl rfl (by kernel_rfl) (.cons L36[0] (by kernel_rfl) L36_2 .nil) (by kernel_rfl)

/- 146: cmp.Or[int] -/
noncomputable def F146_R3 (e0_0 : Int × Unit → Option (Int × Unit)) (er_1 : Int × Unit → Option (Int × Unit)) (rec : Int × List (Int) × Int × Int × Unit → Option (Int × Unit)) (x2 : Int × List (Int) × Int × Int × Unit) : Option (Int × Unit) :=
 (cond (decide (x2.2.2.2.1 < x2.2.2.1))
 (gd (decide ((0 : Int) ≤ x2.2.2.2.1))
 (Option.bind x2.2.1[(Int.toNat x2.2.2.2.1)]? fun y5 =>
 (cond (y5 != x2.1)
 (er_1 (y5, ()))
 (rec (x2.1, x2.2.1, x2.2.2.1, (IntKind.wrap IntKind.i64 (x2.2.2.2.1 + (1 : Int))), ())))))
 (e0_0 (x2.1, ())))

noncomputable def F146 (a0 : List (Int)) : Option (Int × Unit) :=
 (iter (F146_R3
 (fun y6 =>
 (some (y6.1, ())))
 (fun y7 =>
 (some (y7.1, ())))) fuel ((0 : Int), a0, (((List.length a0) : Nat) : Int), (0 : Int), ()))

noncomputable def C146 : Fun := ⟨[(.ro (.slice (.int .i64)))], [((.int .i64), .z)], fun z => F146 z.1⟩
noncomputable def E146 : Env := ⟨18, tyTab tys, oneTab ones, fnTab [], false, [], [(3, [3, 6, 7, 8], []), (4, [3, 6, 7, 8], []), (7, [3, 6, 7, 8], []), (8, [3], []), (100000, [3], []), (100001, [3, 6, 7, 8], []), (99999, [2], [])], none, []⟩
noncomputable def L146 : List (LoopS (Int × Unit)) := [⟨3, ⟨[(3, (.pv (.int .i64))), (6, (.pv (.slice (.int .i64)))), (7, (.pv (.int .i64))), (8, (.pv (.int .i64)))], []⟩, fun κ => F146_R3 (fun y => κ.exit 0 (SSh.mk' ⟨[(3, (.pv (.int .i64)))], []⟩ y)) (fun y => κ.ret (SSh.mk' ⟨[(2, (.pv (.int .i64)))], []⟩ y))⟩]
theorem L146_3 : ∀ (κ : Kont (Int × Unit)) (N : St → Option (Int × Unit)) (x : (L146[0]).sh.den), execK E146 (lpOf L146) (nthLoop (codeOf Tryz.f146) 0) { κ with normal := fun σ => N (σ.keepAt (E146).hints 3) } ((L146[0]).sh.mk' x) = (L146[0]).R κ (fun x => N ((L146[0]).sh.mk' x)) x :=
  fun κ N x => by kernel_rfl
theorem C146_ok : QuietOk Tryz.prog 146 C146 :=
  told (env := E146) (fn := Tryz.f146) (c := (codeOf Tryz.f146)) (tbl := L146) (ls := [nthLoop (codeOf Tryz.f146) 0]) (vars := Tryz.f146.results.toList) Tryz.func146 (tysC_ok tys_ok rfl rfl) (Told.fnOk .nil rfl) (by kernel_rfl) (by decide) rfl (by decide) rfl rfl rfl (by kernel_rfl) (.cons L146[0] (by kernel_rfl) L146_3 .nil) (by kernel_rfl)

/- 178: cmp.isNaN[int] -/
noncomputable def F178 (a0 : Int) : Option (Bool × Unit) :=
 (some ((a0 != a0), ()))

noncomputable def C178 : Fun := ⟨[(.ro (.int .i64))], [(.bool, .z)], fun z => F178 z.1⟩
noncomputable def E178 : Env := ⟨6, tyTab tys, oneTab ones, fnTab [], false, [], [(99999, [2], [])], none, []⟩
noncomputable def L178 : List (LoopS (Bool × Unit)) := []
theorem C178_ok : QuietOk Tryz.prog 178 C178 :=
  told (env := E178) (fn := Tryz.f178) (c := (codeOf Tryz.f178)) (tbl := L178) (ls := []) (vars := Tryz.f178.results.toList) Tryz.func178 (tysC_ok tys_ok rfl rfl) (Told.fnOk .nil rfl) (by kernel_rfl) (by decide) rfl (by decide) rfl rfl rfl (by kernel_rfl) .nil (by kernel_rfl)

/- 148: cmp.Compare[int] -/
noncomputable def F148 (a0 : Int) (a1 : Int) : Option (Int × Unit) :=
 (Option.bind (F178 a0) fun y0 =>
 (Option.bind (F178 a1) fun y1 =>
 (cond y0.1
 (cond y1.1
 (some ((0 : Int), ()))
 (some ((-(1 : Int)), ())))
 (cond y1.1
 (some ((1 : Int), ()))
 (cond (decide (a0 < a1))
 (some ((-(1 : Int)), ()))
 (cond (decide (a0 > a1))
 (some ((1 : Int), ()))
 (some ((0 : Int), ()))))))))

noncomputable def C148 : Fun := ⟨[(.ro (.int .i64)), (.ro (.int .i64))], [((.int .i64), .z)], fun z => F148 z.1 z.2.1⟩
noncomputable def E148 : Env := ⟨20, tyTab tys, oneTab ones, fnTab [(178, C178)], false, [], [(6, [], []), (7, [0, 1, 6], []), (9, [0, 1], []), (11, [0, 1], []), (13, [], []), (99999, [4], [])], none, []⟩
noncomputable def L148 : List (LoopS (Int × Unit)) := []
theorem C148_ok : QuietOk Tryz.prog 148 C148 :=
  told (env := E148) (fn := Tryz.f148) (c := (codeOf Tryz.f148)) (tbl := L148) (ls := []) (vars := Tryz.f148.results.toList) Tryz.func148 (tysC_ok tys_ok rfl rfl) (Told.fnOk (.cons C178_ok .nil) rfl) (by kernel_rfl) (by decide) rfl (by decide) rfl rfl rfl (by kernel_rfl) .nil (by kernel_rfl)

/- 105: loop.example/g00380/impl.compareWrites -/
noncomputable def F105 (a0 : D87) (a1 : D87) : Option (Int × Unit) :=
 (Option.bind (F147 a0.1 a1.1) fun y0 =>
 (Option.bind (F148 a0.2.1 a1.2.1) fun y1 =>
 (Option.bind (F146 [y0.1, y1.1]) fun y2 =>
 (some (y2.1, ())))))

noncomputable def C105 : Fun := ⟨[(.ro Y87), (.ro Y87)], [((.int .i64), .z)], fun z => F105 z.1 z.2.1⟩
noncomputable def E105 : Env := ⟨17, tyTab tys, oneTab ones, fnTab [(146, C146), (147, C147), (148, C148)], false, [120], [(99999, [4], [])], none, []⟩
noncomputable def L105 : List (LoopS (Int × Unit)) := []
theorem C105_ok : QuietOk Tryz.prog 105 C105 :=
  told (env := E105) (fn := Tryz.f105) (c := (codeOf Tryz.f105)) (tbl := L105) (ls := []) (vars := Tryz.f105.results.toList) Tryz.func105 (tysC_ok tys_ok rfl rfl) (Told.fnOk (.cons C146_ok (.cons C147_ok (.cons C148_ok .nil))) rfl) (by kernel_rfl) (by decide) rfl (by decide) rfl rfl rfl (by kernel_rfl) .nil (by kernel_rfl)

/- 106: loop.example/g00380/impl.isPlace -/
noncomputable def F106 (a0 : Int) (a1 : Int) : Option (Bool × Unit) :=
 (Option.bind (F37 a0 (0 : Int) (IntKind.wrap IntKind.i64 (a1 - (1 : Int)))) fun y0 =>
 (some (y0.1, ())))

noncomputable def C106 : Fun := ⟨[(.ro (.int .i64)), (.ro (.int .i64))], [(.bool, .z)], fun z => F106 z.1 z.2.1⟩
noncomputable def E106 : Env := ⟨9, tyTab tys, oneTab ones, fnTab [(37, C37)], false, [], [(99999, [4], [])], none, []⟩
noncomputable def L106 : List (LoopS (Bool × Unit)) := []
theorem C106_ok : QuietOk Tryz.prog 106 C106 :=
  told (env := E106) (fn := Tryz.f106) (c := (codeOf Tryz.f106)) (tbl := L106) (ls := []) (vars := Tryz.f106.results.toList) Tryz.func106 (tysC_ok tys_ok rfl rfl) (Told.fnOk (.cons C37_ok .nil) rfl) (by kernel_rfl) (by decide) rfl (by decide) rfl rfl rfl (by kernel_rfl) .nil (by kernel_rfl)

/- 66: loop.example/g00380/impl.TxnOK -/
noncomputable def F66_R2 (e0_0 : D62 × Unit → Option (Bool × Unit)) (er_1 : Bool × Unit → Option (Bool × Unit)) (rec : List (D87) × Int × Int × D62 × Unit → Option (Bool × Unit)) (x2 : List (D87) × Int × Int × D62 × Unit) : Option (Bool × Unit) :=
 (cond (decide (x2.2.2.1 < x2.2.1))
 (let j9 : List (D87) × Int × Int × D62 × Unit → Option (Bool × Unit) := fun (y10 : List (D87) × Int × Int × D62 × Unit) =>
 (rec (y10.1, y10.2.1, (IntKind.wrap IntKind.i64 (y10.2.2.1 + (1 : Int))), y10.2.2.2.1, ()))
 (gd (decide ((0 : Int) ≤ x2.2.2.1))
 (Option.bind x2.1[(Int.toNat x2.2.2.1)]? fun y5 =>
 (Option.bind (F104 y5) fun y6 =>
 (cond (!y6.1)
 (er_1 (false, ()))
 (cond (decide (x2.2.2.1 > (0 : Int)))
 (gd (decide ((0 : Int) ≤ (IntKind.wrap IntKind.i64 (x2.2.2.1 - (1 : Int)))))
 (Option.bind x2.2.2.2.1.2.2.2.1[(Int.toNat (IntKind.wrap IntKind.i64 (x2.2.2.1 - (1 : Int))))]? fun y7 =>
 (Option.bind (F105 y7 y5) fun y8 =>
 (cond (decide (y8.1 ≥ (0 : Int)))
 (er_1 (false, ()))
 (j9 (x2.1, x2.2.1, x2.2.2.1, x2.2.2.2.1, ()))))))
 (j9 (x2.1, x2.2.1, x2.2.2.1, x2.2.2.2.1, ()))))))))
 (e0_0 (x2.2.2.2.1, ())))

noncomputable def F66 (a0 : D62) : Option (Bool × Unit) :=
 (iter (F66_R2
 (fun y11 =>
 (Option.bind (F106 y11.1.1 (4 : Int)) fun y13 =>
 (cond y13.1
 (Option.bind (F37 y11.1.2.1 (0 : Int) (10000 : Int)) fun y14 =>
 (cond y14.1
 (cond (decide ((((List.length y11.1.2.2.1) : Nat) : Int) ≤ (20 : Int)))
 (Option.bind (F102 y11.1.2.2.1) fun y15 =>
 (some (y15.1, ())))
 (some (false, ())))
 (some (false, ()))))
 (some (false, ())))))
 (fun y12 =>
 (some (y12.1, ())))) fuel (a0.2.2.2.1, (((List.length a0.2.2.2.1) : Nat) : Int), (0 : Int), a0, ()))

noncomputable def C66 : Fun := ⟨[(.ro Y62)], [(.bool, .z)], fun z => F66 z.1⟩
noncomputable def E66 : Env := ⟨51, tyTab tys, oneTab ones, fnTab [(37, C37), (102, C102), (104, C104), (105, C105), (106, C106)], false, [], [(2, [1, 6, 7, 8], []), (3, [1, 6, 7, 8], []), (6, [1, 6, 7, 8], []), (7, [1], []), (100000, [1], []), (100001, [1, 6, 7, 8], []), (99999, [2], [])], none, []⟩
noncomputable def L66 : List (LoopS (Bool × Unit)) := [⟨2, ⟨[(1, (.ptr 8 [])), (6, (.pv (.slice Y87))), (7, (.pv (.int .i64))), (8, (.pv (.int .i64)))], [(8, (.data true Y62 .z))]⟩, fun κ => F66_R2 (fun y => κ.exit 0 (SSh.mk' ⟨[(1, (.ptr 8 []))], [(8, (.data true Y62 .z))]⟩ y)) (fun y => κ.ret (SSh.mk' ⟨[(2, (.pv .bool))], []⟩ y))⟩]
theorem L66_2 : ∀ (κ : Kont (Bool × Unit)) (N : St → Option (Bool × Unit)) (x : (L66[0]).sh.den), execK E66 (lpOf L66) (nthLoop (codeOf Tryz.f66) 0) { κ with normal := fun σ => N (σ.keepAt (E66).hints 2) } ((L66[0]).sh.mk' x) = (L66[0]).R κ (fun x => N ((L66[0]).sh.mk' x)) x :=
  fun κ N x => by kernel_rfl
theorem C66_ok : QuietOk Tryz.prog 66 C66 :=
  told (env := E66) (fn := Tryz.f66) (c := (codeOf Tryz.f66)) (tbl := L66) (ls := [nthLoop (codeOf Tryz.f66) 0]) (vars := Tryz.f66.results.toList) Tryz.func66 (tysC_ok tys_ok rfl rfl) (Told.fnOk (.cons C37_ok (.cons C102_ok (.cons C104_ok (.cons C105_ok (.cons C106_ok .nil))))) rfl) (by kernel_rfl) (by decide) rfl (by decide) rfl rfl rfl (by kernel_rfl) (.cons L66[0] (by kernel_rfl) L66_2 .nil) (by kernel_rfl)

/- 107: slices.IndexFunc[[]loop.example/g00380/impl.Write,loop.example/g00380/impl.Write] -/
noncomputable def F107_R2 (e0_0 : Unit → Option (Int × Unit)) (er_1 : Int × Unit → Option (Int × Unit)) (rec : List (D87) × (D87 → Option (Bool)) × Int × Int × Unit → Option (Int × Unit)) (x2 : List (D87) × (D87 → Option (Bool)) × Int × Int × Unit) : Option (Int × Unit) :=
 (cond (decide (x2.2.2.2.1 < x2.2.2.1))
 (gd (decide ((0 : Int) ≤ x2.2.2.2.1))
 (Option.bind x2.1[(Int.toNat x2.2.2.2.1)]? fun y5 =>
 (Option.bind (x2.2.1 y5) fun y6 =>
 (cond y6
 (er_1 (x2.2.2.2.1, ()))
 (rec (x2.1, x2.2.1, x2.2.2.1, (IntKind.wrap IntKind.i64 (x2.2.2.2.1 + (1 : Int))), ()))))))
 (e0_0 (())))

noncomputable def F107 (a0 : List (D87)) (a1 : (D87 → Option (Bool))) : Option (Int × Unit) :=
 (iter (F107_R2
 (fun y7 =>
 (some ((-(1 : Int)), ())))
 (fun y8 =>
 (some (y8.1, ())))) fuel (a0, a1, (((List.length a0) : Nat) : Int), (0 : Int), ()))

noncomputable def C107 : Fun := ⟨[(.ro (.slice Y87)), (.fn Y87 .bool)], [((.int .i64), .z)], fun z => F107 z.1 z.2.1⟩
noncomputable def E107 : Env := ⟨19, tyTab tys, oneTab ones, fnTab [], false, [], [(2, [0, 1, 7, 8], []), (3, [0, 1, 7, 8], []), (6, [0, 1, 7, 8], []), (7, [], []), (100000, [], []), (100001, [0, 1, 7, 8], []), (99999, [4], [])], none, []⟩
noncomputable def L107 : List (LoopS (Int × Unit)) := [⟨2, ⟨[(0, (.pv (.slice Y87))), (1, (.fnA Y87 .bool)), (7, (.pv (.int .i64))), (8, (.pv (.int .i64)))], []⟩, fun κ => F107_R2 (fun y => κ.exit 0 (SSh.mk' ⟨[], []⟩ y)) (fun y => κ.ret (SSh.mk' ⟨[(4, (.pv (.int .i64)))], []⟩ y))⟩]
theorem L107_2 : ∀ (κ : Kont (Int × Unit)) (N : St → Option (Int × Unit)) (x : (L107[0]).sh.den), execK E107 (lpOf L107) (nthLoop (codeOf Tryz.f107) 0) { κ with normal := fun σ => N (σ.keepAt (E107).hints 2) } ((L107[0]).sh.mk' x) = (L107[0]).R κ (fun x => N ((L107[0]).sh.mk' x)) x :=
  fun κ N x => by kernel_rfl
theorem C107_ok : QuietOk Tryz.prog 107 C107 :=
  told (env := E107) (fn := Tryz.f107) (c := (codeOf Tryz.f107)) (tbl := L107) (ls := [nthLoop (codeOf Tryz.f107) 0]) (vars := Tryz.f107.results.toList) Tryz.func107 (tysC_ok tys_ok rfl rfl) (Told.fnOk .nil rfl) (by kernel_rfl) (by decide) rfl (by decide) rfl rfl rfl (by kernel_rfl) (.cons L107[0] (by kernel_rfl) L107_2 .nil) (by kernel_rfl)

/- 67: slices.ContainsFunc[[]loop.example/g00380/impl.Write,loop.example/g00380/impl.Write] -/
noncomputable def F67 (a0 : List (D87)) (a1 : (D87 → Option (Bool))) : Option (Bool × Unit) :=
 (Option.bind (F107 a0 a1) fun y0 =>
 (some ((decide (y0.1 ≥ (0 : Int))), ())))

noncomputable def C67 : Fun := ⟨[(.ro (.slice Y87)), (.fn Y87 .bool)], [(.bool, .z)], fun z => F67 z.1 z.2.1⟩
noncomputable def E67 : Env := ⟨9, tyTab tys, oneTab ones, fnTab [(107, C107)], false, [], [(99999, [4], [])], none, []⟩
noncomputable def L67 : List (LoopS (Bool × Unit)) := []
theorem C67_ok : QuietOk Tryz.prog 67 C67 :=
  told (env := E67) (fn := Tryz.f67) (c := (codeOf Tryz.f67)) (tbl := L67) (ls := []) (vars := Tryz.f67.results.toList) Tryz.func67 (tysC_ok tys_ok rfl rfl) (Told.fnOk (.cons C107_ok .nil) rfl) (by kernel_rfl) (by decide) rfl (by decide) rfl rfl rfl (by kernel_rfl) .nil (by kernel_rfl)

/- 108: slices.IndexFunc[[]loop.example/g00380/impl.Coll,loop.example/g00380/impl.Coll] -/
noncomputable def F108_R2 (e0_0 : Unit → Option (Int × Unit)) (er_1 : Int × Unit → Option (Int × Unit)) (rec : List (D57) × (D57 → Option (Bool)) × Int × Int × Unit → Option (Int × Unit)) (x2 : List (D57) × (D57 → Option (Bool)) × Int × Int × Unit) : Option (Int × Unit) :=
 (cond (decide (x2.2.2.2.1 < x2.2.2.1))
 (gd (decide ((0 : Int) ≤ x2.2.2.2.1))
 (Option.bind x2.1[(Int.toNat x2.2.2.2.1)]? fun y5 =>
 (Option.bind (x2.2.1 y5) fun y6 =>
 (cond y6
 (er_1 (x2.2.2.2.1, ()))
 (rec (x2.1, x2.2.1, x2.2.2.1, (IntKind.wrap IntKind.i64 (x2.2.2.2.1 + (1 : Int))), ()))))))
 (e0_0 (())))

noncomputable def F108 (a0 : List (D57)) (a1 : (D57 → Option (Bool))) : Option (Int × Unit) :=
 (iter (F108_R2
 (fun y7 =>
 (some ((-(1 : Int)), ())))
 (fun y8 =>
 (some (y8.1, ())))) fuel (a0, a1, (((List.length a0) : Nat) : Int), (0 : Int), ()))

noncomputable def C108 : Fun := ⟨[(.ro (.slice Y57)), (.fn Y57 .bool)], [((.int .i64), .z)], fun z => F108 z.1 z.2.1⟩
noncomputable def E108 : Env := ⟨19, tyTab tys, oneTab ones, fnTab [], false, [], [(2, [0, 1, 7, 8], []), (3, [0, 1, 7, 8], []), (6, [0, 1, 7, 8], []), (7, [], []), (100000, [], []), (100001, [0, 1, 7, 8], []), (99999, [4], [])], none, []⟩
noncomputable def L108 : List (LoopS (Int × Unit)) := [⟨2, ⟨[(0, (.pv (.slice Y57))), (1, (.fnA Y57 .bool)), (7, (.pv (.int .i64))), (8, (.pv (.int .i64)))], []⟩, fun κ => F108_R2 (fun y => κ.exit 0 (SSh.mk' ⟨[], []⟩ y)) (fun y => κ.ret (SSh.mk' ⟨[(4, (.pv (.int .i64)))], []⟩ y))⟩]
theorem L108_2 : ∀ (κ : Kont (Int × Unit)) (N : St → Option (Int × Unit)) (x : (L108[0]).sh.den), execK E108 (lpOf L108) (nthLoop (codeOf Tryz.f108) 0) { κ with normal := fun σ => N (σ.keepAt (E108).hints 2) } ((L108[0]).sh.mk' x) = (L108[0]).R κ (fun x => N ((L108[0]).sh.mk' x)) x :=
  fun κ N x => by kernel_rfl
theorem C108_ok : QuietOk Tryz.prog 108 C108 :=
  told (env := E108) (fn := Tryz.f108) (c := (codeOf Tryz.f108)) (tbl := L108) (ls := [nthLoop (codeOf Tryz.f108) 0]) (vars := Tryz.f108.results.toList) Tryz.func108 (tysC_ok tys_ok rfl rfl) (Told.fnOk .nil rfl) (by kernel_rfl) (by decide) rfl (by decide) rfl rfl rfl (by kernel_rfl) (.cons L108[0] (by kernel_rfl) L108_2 .nil) (by kernel_rfl)

/- 109: loop.example/g00380/impl.collAt$1 -/
noncomputable def F109 (a0 : D57) (a1 : List UInt8) : Option (Bool × Unit) :=
 (some ((a0.1 == a1), ()))

noncomputable def C109 : Fun := ⟨[(.ro Y57), (.rp .str)], [(.bool, .z)], fun z => F109 z.1 z.2.1⟩
noncomputable def E109 : Env := ⟨8, tyTab tys, oneTab ones, fnTab [], false, [], [(99999, [3], [])], none, []⟩
noncomputable def L109 : List (LoopS (Bool × Unit)) := []
theorem C109_ok : QuietOk Tryz.prog 109 C109 :=
  told (env := E109) (fn := Tryz.f109) (c := (codeOf Tryz.f109)) (tbl := L109) (ls := []) (vars := Tryz.f109.results.toList) Tryz.func109 (tysC_ok tys_ok rfl rfl) (Told.fnOk .nil rfl) (by kernel_rfl) (by decide) rfl (by decide) rfl rfl rfl (by kernel_rfl) .nil (by kernel_rfl)

/- 69: loop.example/g00380/impl.collAt -/
noncomputable def F69 (a0 : List (D57)) (a1 : List UInt8) : Option (Int × Unit) :=
 (Option.bind (F108 a0 (fun (v3 : D57) => (Option.map (fun (v4 : (Bool × Unit)) => v4.1) (F109 v3 a1)))) fun y0 =>
 (some (y0.1, ())))

noncomputable def C69 : Fun := ⟨[(.ro (.slice Y57)), (.ro .str)], [((.int .i64), .z)], fun z => F69 z.1 z.2.1⟩
noncomputable def E69 : Env := ⟨8, tyTab tys, oneTab ones, fnTab [(108, C108), (109, C109)], false, [], [(99999, [4], [])], none, []⟩
noncomputable def L69 : List (LoopS (Int × Unit)) := []
theorem C69_ok : QuietOk Tryz.prog 69 C69 :=
  told (env := E69) (fn := Tryz.f69) (c := (codeOf Tryz.f69)) (tbl := L69) (ls := []) (vars := Tryz.f69.results.toList) Tryz.func69 (tysC_ok tys_ok rfl rfl) (Told.fnOk (.cons C108_ok (.cons C109_ok .nil)) rfl) (by kernel_rfl) (by decide) rfl (by decide) rfl rfl rfl (by kernel_rfl) .nil (by kernel_rfl)

/- 68: (loop.example/g00380/impl.Store).txnsOK$1 -/
noncomputable def F68 (a0 : D87) (a1 : D25) : Option (Bool × Unit) :=
 (Option.bind (F69 a1.1 a0.1) fun y0 =>
 (some ((decide (y0.1 < (0 : Int))), ())))

noncomputable def C68 : Fun := ⟨[(.ro Y87), (.rp Y25)], [(.bool, .z)], fun z => F68 z.1 z.2.1⟩
noncomputable def E68 : Env := ⟨10, tyTab tys, oneTab ones, fnTab [(69, C69)], false, [], [(99999, [3], [])], none, []⟩
noncomputable def L68 : List (LoopS (Bool × Unit)) := []
theorem C68_ok : QuietOk Tryz.prog 68 C68 :=
  told (env := E68) (fn := Tryz.f68) (c := (codeOf Tryz.f68)) (tbl := L68) (ls := []) (vars := Tryz.f68.results.toList) Tryz.func68 (tysC_ok tys_ok rfl rfl) (Told.fnOk (.cons C69_ok .nil) rfl) (by kernel_rfl) (by decide) rfl (by decide) rfl rfl rfl (by kernel_rfl) .nil (by kernel_rfl)

/- 38: (loop.example/g00380/impl.Store).txnsOK -/
noncomputable def F38_R2 (e0_0 : Unit → Option (Bool × Unit)) (er_1 : Bool × Unit → Option (Bool × Unit)) (rec : List (D62) × Int × Int × D25 × Unit → Option (Bool × Unit)) (x2 : List (D62) × Int × Int × D25 × Unit) : Option (Bool × Unit) :=
 (cond (decide (x2.2.2.1 < x2.2.1))
 (gd (decide ((0 : Int) ≤ x2.2.2.1))
 (Option.bind x2.1[(Int.toNat x2.2.2.1)]? fun y5 =>
 (let j9 : List (D62) × Int × Int × D25 × D62 × Unit → Option (Bool × Unit) := fun (y10 : List (D62) × Int × Int × D25 × D62 × Unit) =>
 (Option.bind (F67 y10.2.2.2.2.1.2.2.2.1 (fun (v11 : D87) => (Option.map (fun (v12 : (Bool × Unit)) => v12.1) (F68 v11 y10.2.2.2.1)))) fun y11 =>
 (cond y11.1
 (er_1 (false, ()))
 (rec (y10.1, y10.2.1, (IntKind.wrap IntKind.i64 (y10.2.2.1 + (1 : Int))), y10.2.2.2.1, ()))))
 (Option.bind (F66 y5) fun y7 =>
 (cond (!y7.1)
 (er_1 (false, ()))
 (cond (decide (x2.2.2.1 > (0 : Int)))
 (gd (decide ((0 : Int) ≤ (IntKind.wrap IntKind.i64 (x2.2.2.1 - (1 : Int)))))
 (Option.bind x2.2.2.2.1.2.1[(Int.toNat (IntKind.wrap IntKind.i64 (x2.2.2.1 - (1 : Int))))]? fun y8 =>
 (cond (decide (y8.1 ≥ y5.1))
 (er_1 (false, ()))
 (cond (decide (y5.2.1 > x2.2.2.2.1.2.2.2.1))
 (er_1 (false, ()))
 (j9 (x2.1, x2.2.1, x2.2.2.1, x2.2.2.2.1, y5, ()))))))
 (cond (decide (y5.2.1 > x2.2.2.2.1.2.2.2.1))
 (er_1 (false, ()))
 (j9 (x2.1, x2.2.1, x2.2.2.1, x2.2.2.2.1, y5, ())))))))))
 (e0_0 (())))

noncomputable def F38 (a0 : D25) : Option (Bool × Unit) :=
 (iter (F38_R2
 (fun y12 =>
 (some (true, ())))
 (fun y13 =>
 (some (y13.1, ())))) fuel (a0.2.1, (((List.length a0.2.1) : Nat) : Int), (0 : Int), a0, ()))

noncomputable def C38 : Fun := ⟨[(.ro Y25)], [(.bool, .z)], fun z => F38 z.1⟩
noncomputable def E38 : Env := ⟨44, tyTab tys, oneTab ones, fnTab [(66, C66), (67, C67), (68, C68)], false, [], [(2, [1, 6, 7, 8], []), (3, [1, 6, 7, 8], []), (6, [1, 4, 6, 7, 8], []), (8, [1, 6, 7, 8], []), (9, [], []), (100000, [], []), (100001, [1, 6, 7, 8], []), (99999, [2], [])], none, []⟩
noncomputable def L38 : List (LoopS (Bool × Unit)) := [⟨2, ⟨[(1, (.ptr 8 [])), (6, (.pv (.slice Y62))), (7, (.pv (.int .i64))), (8, (.pv (.int .i64)))], [(8, (.data true Y25 .z))]⟩, fun κ => F38_R2 (fun y => κ.exit 0 (SSh.mk' ⟨[], []⟩ y)) (fun y => κ.ret (SSh.mk' ⟨[(2, (.pv .bool))], []⟩ y))⟩]
theorem L38_2 : ∀ (κ : Kont (Bool × Unit)) (N : St → Option (Bool × Unit)) (x : (L38[0]).sh.den), execK E38 (lpOf L38) (nthLoop (codeOf Tryz.f38) 0) { κ with normal := fun σ => N (σ.keepAt (E38).hints 2) } ((L38[0]).sh.mk' x) = (L38[0]).R κ (fun x => N ((L38[0]).sh.mk' x)) x :=
  fun κ N x => by kernel_rfl
theorem C38_ok : QuietOk Tryz.prog 38 C38 :=
  told (env := E38) (fn := Tryz.f38) (c := (codeOf Tryz.f38)) (tbl := L38) (ls := [nthLoop (codeOf Tryz.f38) 0]) (vars := Tryz.f38.results.toList) Tryz.func38 (tysC_ok tys_ok rfl rfl) (Told.fnOk (.cons C66_ok (.cons C67_ok (.cons C68_ok .nil))) rfl) (by kernel_rfl) (by decide) rfl (by decide) rfl rfl rfl (by kernel_rfl) (.cons L38[0] (by kernel_rfl) L38_2 .nil) (by kernel_rfl)

/- 70: slices.IndexFunc[[]loop.example/g00380/impl.Done,loop.example/g00380/impl.Done] -/
noncomputable def F70_R2 (e0_0 : Unit → Option (Int × Unit)) (er_1 : Int × Unit → Option (Int × Unit)) (rec : List (D44) × (D44 → Option (Bool)) × Int × Int × Unit → Option (Int × Unit)) (x2 : List (D44) × (D44 → Option (Bool)) × Int × Int × Unit) : Option (Int × Unit) :=
 (cond (decide (x2.2.2.2.1 < x2.2.2.1))
 (gd (decide ((0 : Int) ≤ x2.2.2.2.1))
 (Option.bind x2.1[(Int.toNat x2.2.2.2.1)]? fun y5 =>
 (Option.bind (x2.2.1 y5) fun y6 =>
 (cond y6
 (er_1 (x2.2.2.2.1, ()))
 (rec (x2.1, x2.2.1, x2.2.2.1, (IntKind.wrap IntKind.i64 (x2.2.2.2.1 + (1 : Int))), ()))))))
 (e0_0 (())))

noncomputable def F70 (a0 : List (D44)) (a1 : (D44 → Option (Bool))) : Option (Int × Unit) :=
 (iter (F70_R2
 (fun y7 =>
 (some ((-(1 : Int)), ())))
 (fun y8 =>
 (some (y8.1, ())))) fuel (a0, a1, (((List.length a0) : Nat) : Int), (0 : Int), ()))

noncomputable def C70 : Fun := ⟨[(.ro (.slice Y44)), (.fn Y44 .bool)], [((.int .i64), .z)], fun z => F70 z.1 z.2.1⟩
noncomputable def E70 : Env := ⟨19, tyTab tys, oneTab ones, fnTab [], false, [], [(2, [0, 1, 7, 8], []), (3, [0, 1, 7, 8], []), (6, [0, 1, 7, 8], []), (7, [], []), (100000, [], []), (100001, [0, 1, 7, 8], []), (99999, [4], [])], none, []⟩
noncomputable def L70 : List (LoopS (Int × Unit)) := [⟨2, ⟨[(0, (.pv (.slice Y44))), (1, (.fnA Y44 .bool)), (7, (.pv (.int .i64))), (8, (.pv (.int .i64)))], []⟩, fun κ => F70_R2 (fun y => κ.exit 0 (SSh.mk' ⟨[], []⟩ y)) (fun y => κ.ret (SSh.mk' ⟨[(4, (.pv (.int .i64)))], []⟩ y))⟩]
theorem L70_2 : ∀ (κ : Kont (Int × Unit)) (N : St → Option (Int × Unit)) (x : (L70[0]).sh.den), execK E70 (lpOf L70) (nthLoop (codeOf Tryz.f70) 0) { κ with normal := fun σ => N (σ.keepAt (E70).hints 2) } ((L70[0]).sh.mk' x) = (L70[0]).R κ (fun x => N ((L70[0]).sh.mk' x)) x :=
  fun κ N x => by kernel_rfl
theorem C70_ok : QuietOk Tryz.prog 70 C70 :=
  told (env := E70) (fn := Tryz.f70) (c := (codeOf Tryz.f70)) (tbl := L70) (ls := [nthLoop (codeOf Tryz.f70) 0]) (vars := Tryz.f70.results.toList) Tryz.func70 (tysC_ok tys_ok rfl rfl) (Told.fnOk .nil rfl) (by kernel_rfl) (by decide) rfl (by decide) rfl rfl rfl (by kernel_rfl) (.cons L70[0] (by kernel_rfl) L70_2 .nil) (by kernel_rfl)

/- 39: slices.ContainsFunc[[]loop.example/g00380/impl.Done,loop.example/g00380/impl.Done] -/
noncomputable def F39 (a0 : List (D44)) (a1 : (D44 → Option (Bool))) : Option (Bool × Unit) :=
 (Option.bind (F70 a0 a1) fun y0 =>
 (some ((decide (y0.1 ≥ (0 : Int))), ())))

noncomputable def C39 : Fun := ⟨[(.ro (.slice Y44)), (.fn Y44 .bool)], [(.bool, .z)], fun z => F39 z.1 z.2.1⟩
noncomputable def E39 : Env := ⟨9, tyTab tys, oneTab ones, fnTab [(70, C70)], false, [], [(99999, [4], [])], none, []⟩
noncomputable def L39 : List (LoopS (Bool × Unit)) := []
theorem C39_ok : QuietOk Tryz.prog 39 C39 :=
  told (env := E39) (fn := Tryz.f39) (c := (codeOf Tryz.f39)) (tbl := L39) (ls := []) (vars := Tryz.f39.results.toList) Tryz.func39 (tysC_ok tys_ok rfl rfl) (Told.fnOk (.cons C70_ok .nil) rfl) (by kernel_rfl) (by decide) rfl (by decide) rfl rfl rfl (by kernel_rfl) .nil (by kernel_rfl)

/- 40: loop.example/g00380/impl.StoreOK$1 -/
noncomputable def F40 (a0 : D44) (a1 : D25) : Option (Bool × Unit) :=
 (some ((decide (a0.2.1 > a1.2.2.2.1)), ()))

noncomputable def C40 : Fun := ⟨[(.ro Y44), (.rp Y25)], [(.bool, .z)], fun z => F40 z.1 z.2.1⟩
noncomputable def E40 : Env := ⟨9, tyTab tys, oneTab ones, fnTab [], false, [], [(99999, [3], [])], none, []⟩
noncomputable def L40 : List (LoopS (Bool × Unit)) := []
theorem C40_ok : QuietOk Tryz.prog 40 C40 :=
  told (env := E40) (fn := Tryz.f40) (c := (codeOf Tryz.f40)) (tbl := L40) (ls := []) (vars := Tryz.f40.results.toList) Tryz.func40 (tysC_ok tys_ok rfl rfl) (Told.fnOk .nil rfl) (by kernel_rfl) (by decide) rfl (by decide) rfl rfl rfl (by kernel_rfl) .nil (by kernel_rfl)

/- 17: loop.example/g00380/impl.StoreOK -/
noncomputable def F17_R7 (e2_0 : List (D57) × Int × Int × D25 × Unit → Option (Bool × Unit)) (er_1 : Bool × Unit → Option (Bool × Unit)) (rec : List (D57) × Int × Int × List (D76) × Int × Int × D25 × Unit → Option (Bool × Unit)) (x12 : List (D57) × Int × Int × List (D76) × Int × Int × D25 × Unit) : Option (Bool × Unit) :=
 (cond (decide (x12.2.2.2.2.2.1 < x12.2.2.2.2.1))
 (gd (decide ((0 : Int) ≤ x12.2.2.2.2.2.1))
 (Option.bind x12.2.2.2.1[(Int.toNat x12.2.2.2.2.2.1)]? fun y15 =>
 (gd (decide ((0 : Int) ≤ (IntKind.wrap IntKind.i64 ((((List.length y15.2.1) : Nat) : Int) - (1 : Int)))))
 (Option.bind y15.2.1[(Int.toNat (IntKind.wrap IntKind.i64 ((((List.length y15.2.1) : Nat) : Int) - (1 : Int))))]? fun y16 =>
 (cond (decide (y16.1 > x12.2.2.2.2.2.2.1.2.2.2.1))
 (er_1 (false, ()))
 (rec (x12.1, x12.2.1, x12.2.2.1, x12.2.2.2.1, x12.2.2.2.2.1, (IntKind.wrap IntKind.i64 (x12.2.2.2.2.2.1 + (1 : Int))), x12.2.2.2.2.2.2.1, ())))))))
 (e2_0 (x12.1, x12.2.1, x12.2.2.1, x12.2.2.2.2.2.2.1, ())))

noncomputable def F17_R4 (e0_0 : D25 × Unit → Option (Bool × Unit)) (er_1 : Bool × Unit → Option (Bool × Unit)) (rec : List (D57) × Int × Int × D25 × Unit → Option (Bool × Unit)) (x7 : List (D57) × Int × Int × D25 × Unit) : Option (Bool × Unit) :=
 (cond (decide (x7.2.2.1 < x7.2.1))
 (gd (decide ((0 : Int) ≤ x7.2.2.1))
 (Option.bind x7.1[(Int.toNat x7.2.2.1)]? fun y10 =>
 (iter (F17_R7
 (fun y17 =>
 (rec (y17.1, y17.2.1, (IntKind.wrap IntKind.i64 (y17.2.2.1 + (1 : Int))), y17.2.2.2.1, ())))
 (fun y18 =>
 (er_1 (y18.1, ())))) fuel (x7.1, x7.2.1, x7.2.2.1, y10.2.1, (((List.length y10.2.1) : Nat) : Int), (0 : Int), x7.2.2.2.1, ()))))
 (e0_0 (x7.2.2.2.1, ())))

noncomputable def F17 (a0 : D25) : Option (Bool × Unit) :=
 (cond ((((List.length a0.1) : Nat) : Int) == (0 : Int))
 (some (false, ()))
 (Option.bind (F35 a0.1) fun y1 =>
 (cond (!y1.1)
 (some (false, ()))
 (Option.bind (F36 a0.2.2.1) fun y2 =>
 (cond (!y2.1)
 (some (false, ()))
 (Option.bind (F37 a0.2.2.2.1 (0 : Int) (10000 : Int)) fun y3 =>
 (cond (!y3.1)
 (some (false, ()))
 (Option.bind (F38 a0) fun y4 =>
 (cond (!y4.1)
 (some (false, ()))
 (iter (F17_R4
 (fun y19 =>
 (Option.bind (F39 y19.1.2.2.1 (fun (v9 : D44) => (Option.map (fun (v10 : (Bool × Unit)) => v10.1) (F40 v9 y19.1)))) fun y21 =>
 (some ((!y21.1), ()))))
 (fun y20 =>
 (some (y20.1, ())))) fuel (a0.1, (((List.length a0.1) : Nat) : Int), (0 : Int), a0, ())))))))))))

noncomputable def C17 : Fun := ⟨[(.ro Y25)], [(.bool, .z)], fun z => F17 z.1⟩
noncomputable def E17 : Env := ⟨67, tyTab tys, oneTab ones, fnTab [(35, C35), (36, C36), (37, C37), (38, C38), (39, C39), (40, C40)], false, [], [(3, [1], []), (4, [1, 35, 36, 37], []), (5, [1, 35, 36, 37], []), (7, [1, 35, 36, 37, 42, 43, 44], []), (8, [1, 35, 36, 37, 42, 43, 44], []), (11, [1, 35, 36, 37, 42, 43, 44], []), (12, [1, 35, 36, 37], []), (13, [1], []), (100000, [1], []), (100001, [1, 35, 36, 37], []), (100002, [1, 35, 36, 37], []), (100003, [1, 35, 36, 37, 42, 43, 44], []), (99999, [2], [])], none, []⟩
noncomputable def L17 : List (LoopS (Bool × Unit)) := [⟨7, ⟨[(1, (.ptr 8 [])), (35, (.pv (.slice Y57))), (36, (.pv (.int .i64))), (37, (.pv (.int .i64))), (42, (.pv (.slice Y76))), (43, (.pv (.int .i64))), (44, (.pv (.int .i64)))], [(8, (.data true Y25 .z))]⟩, fun κ => F17_R7 (fun y => κ.exit 2 (SSh.mk' ⟨[(1, (.ptr 8 [])), (35, (.pv (.slice Y57))), (36, (.pv (.int .i64))), (37, (.pv (.int .i64)))], [(8, (.data true Y25 .z))]⟩ y)) (fun y => κ.ret (SSh.mk' ⟨[(2, (.pv .bool))], []⟩ y))⟩,
  ⟨4, ⟨[(1, (.ptr 8 [])), (35, (.pv (.slice Y57))), (36, (.pv (.int .i64))), (37, (.pv (.int .i64)))], [(8, (.data true Y25 .z))]⟩, fun κ => F17_R4 (fun y => κ.exit 0 (SSh.mk' ⟨[(1, (.ptr 8 []))], [(8, (.data true Y25 .z))]⟩ y)) (fun y => κ.ret (SSh.mk' ⟨[(2, (.pv .bool))], []⟩ y))⟩]
theorem L17_7 : ∀ (κ : Kont (Bool × Unit)) (N : St → Option (Bool × Unit)) (x : (L17[0]).sh.den), execK E17 (lpOf L17) (nthLoop (codeOf Tryz.f17) 1) { κ with normal := fun σ => N (σ.keepAt (E17).hints 7) } ((L17[0]).sh.mk' x) = (L17[0]).R κ (fun x => N ((L17[0]).sh.mk' x)) x :=
  fun κ N x => by kernel_rfl
theorem L17_4 : ∀ (κ : Kont (Bool × Unit)) (N : St → Option (Bool × Unit)) (x : (L17[1]).sh.den), execK E17 (lpOf L17) (nthLoop (codeOf Tryz.f17) 0) { κ with normal := fun σ => N (σ.keepAt (E17).hints 4) } ((L17[1]).sh.mk' x) = (L17[1]).R κ (fun x => N ((L17[1]).sh.mk' x)) x :=
  fun κ N x => by kernel_rfl
theorem C17_ok : QuietOk Tryz.prog 17 C17 :=
  told (env := E17) (fn := Tryz.f17) (c := (codeOf Tryz.f17)) (tbl := L17) (ls := [nthLoop (codeOf Tryz.f17) 0, nthLoop (codeOf Tryz.f17) 1]) (vars := Tryz.f17.results.toList) Tryz.func17 (tysC_ok tys_ok rfl rfl) (Told.fnOk (.cons C35_ok (.cons C36_ok (.cons C37_ok (.cons C38_ok (.cons C39_ok (.cons C40_ok .nil)))))) rfl) (by kernel_rfl) (by decide) rfl (by decide) rfl rfl rfl (by kernel_rfl) (.cons L17[1] (by kernel_rfl) L17_4 (.cons L17[0] (by kernel_rfl) L17_7 .nil)) (by kernel_rfl)

/- 18: (loop.example/g00380/impl.Done).isBeside -/
noncomputable def F18 (a0 : D44) (a1 : D44) : Option (Bool × Unit) :=
 (cond (decide (a1.2.1 > a0.1))
 (some ((decide (a0.2.1 > a1.1)), ()))
 (some (false, ())))

noncomputable def C18 : Fun := ⟨[(.ro Y44), (.ro Y44)], [(.bool, .z)], fun z => F18 z.1 z.2.1⟩
noncomputable def E18 : Env := ⟨17, tyTab tys, oneTab ones, fnTab [], false, [], [(99999, [4], [])], none, []⟩
noncomputable def L18 : List (LoopS (Bool × Unit)) := []
theorem C18_ok : QuietOk Tryz.prog 18 C18 :=
  told (env := E18) (fn := Tryz.f18) (c := (codeOf Tryz.f18)) (tbl := L18) (ls := []) (vars := Tryz.f18.results.toList) Tryz.func18 (tysC_ok tys_ok rfl rfl) (Told.fnOk .nil rfl) (by kernel_rfl) (by decide) rfl (by decide) rfl rfl rfl (by kernel_rfl) .nil (by kernel_rfl)
abbrev G179 : Type := (D78) → (List (List UInt8)) → Option (List (D78) × Unit)
noncomputable def H179 (g : G179) : Fun := ⟨[(.ro Y78), (.ro (.slice .str))], [((.slice Y78), (.own .z))], fun z => g z.1 z.2.1⟩

/- 179: loop.example/g00380/impl.comesTo -/
noncomputable def B179_R16 (g : G179) (e1_0 : List (D78) × Unit → Option (List (D78) × Unit)) (rec : List (List UInt8) × List (D78) × Int × Int × List (D78) × Unit → Option (List (D78) × Unit)) (x11 : List (List UInt8) × List (D78) × Int × Int × List (D78) × Unit) : Option (List (D78) × Unit) :=
 (cond (decide (x11.2.2.2.1 < x11.2.2.1))
 (let j16 : List (List UInt8) × List (D78) × Int × Int × List (D78) × Unit → Option (List (D78) × Unit) := fun (y17 : List (List UInt8) × List (D78) × Int × Int × List (D78) × Unit) =>
 (rec (y17.1, y17.2.1, y17.2.2.1, (IntKind.wrap IntKind.i64 (y17.2.2.2.1 + (1 : Int))), y17.2.2.2.2.1, ()))
 (gd (decide ((0 : Int) ≤ x11.2.2.2.1))
 (Option.bind x11.2.1[(Int.toNat x11.2.2.2.1)]? fun y14 =>
 (cond (y14.1 == (5 : Int))
 (Option.bind (g y14 x11.1) fun y15 =>
 (gd (decide (((List.length x11.2.2.2.2.1) + (List.length y15.1)) ≤ lim))
 (j16 (x11.1, x11.2.1, x11.2.2.1, x11.2.2.2.1, (x11.2.2.2.2.1 ++ y15.1), ()))))
 (j16 (x11.1, x11.2.1, x11.2.2.1, x11.2.2.2.1, x11.2.2.2.2.1, ()))))))
 (e1_0 (x11.2.2.2.2.1, ())))

noncomputable def B179 (g : G179) (a0 : D78) (a1 : List (List UInt8)) : Option (List (D78) × Unit) :=
 (cond ((((List.length a1) : Nat) : Int) == (0 : Int))
 (let j3 : List (D78) × Unit → Option (List (D78) × Unit) := fun (y4 : List (D78) × Unit) =>
 (some (y4.1, ()))
 (cond (a0.1 == (4 : Int))
 (Option.bind (F183 a0) fun y2 =>
 (gd (decide (((List.length ([] ++ [a0])) + (List.length y2.1)) ≤ lim))
 (j3 ((([] ++ [a0]) ++ y2.1), ()))))
 (j3 (([] ++ [a0]), ()))))
 (let j19 : List (D78) × Unit → Option (List (D78) × Unit) := fun (y20 : List (D78) × Unit) =>
 (some (y20.1, ()))
 (cond (a0.1 == (5 : Int))
 (Option.bind a1[(Int.toNat (0 : Int))]? fun y6 =>
 (Option.bind (F199 a0 y6) fun y7 =>
 (cond y7.2.1
 (gd (decide ((((List.length a1) : Nat) : Int) ≤ (((List.length a1) : Nat) : Int)))
 (gd (decide ((1 : Int) ≤ (((Int.toNat (((List.length a1) : Nat) : Int)) : Nat) : Int)))
 (Option.bind (g y7.1 (List.drop (Int.toNat (1 : Int)) (List.take (Int.toNat (((List.length a1) : Nat) : Int)) a1))) fun y8 =>
 (some (y8.1, ())))))
 (j19 ([], ())))))
 (cond (a0.1 == (4 : Int))
 (Option.bind (F183 a0) fun y9 =>
 (iter (B179_R16 g
 (fun y18 =>
 (j19 (y18.1, ())))) fuel (a1, y9.1, (((List.length y9.1) : Nat) : Int), (0 : Int), [], ())))
 (j19 ([], ()))))))

noncomputable def K179 (g : G179) : Fun := ⟨[(.ro Y78), (.ro (.slice .str))], [((.slice Y78), (.own .z))], fun z => B179 g z.1 z.2.1⟩
noncomputable def E179 (g : G179) : Env := ⟨74, tyTab tys, oneTab ones, fnTab [(179, (H179 g)), (183, C183), (199, C199)], false, [], [(7, [5], []), (8, [1, 2, 5], []), (16, [1, 5, 58, 59, 60], []), (17, [1, 5, 58, 59, 60], []), (20, [1, 5, 58, 59, 60], []), (21, [5], []), (100000, [5], []), (100001, [5], []), (100002, [1, 5, 58, 59, 60], []), (99999, [4], [])], none, []⟩
noncomputable def L179 (g : G179) : List (LoopS (List (D78) × Unit)) := [⟨16, ⟨[(1, (.pv (.slice .str))), (5, (.ref (.slice Y78) 112 [])), (58, (.pv (.slice Y78))), (59, (.pv (.int .i64))), (60, (.pv (.int .i64)))], [(112, (.data false (.slice Y78) (.own .z)))]⟩, fun κ => B179_R16 g (fun y => κ.exit 1 (SSh.mk' ⟨[(5, (.ref (.slice Y78) 112 []))], [(112, (.data false (.slice Y78) (.own .z)))]⟩ y))⟩]
theorem L179_16 (g : G179) : ∀ (κ : Kont (List (D78) × Unit)) (N : St → Option (List (D78) × Unit)) (x : (((L179 g)[0]'(Nat.le_of_ble_eq_true rfl))).sh.den), execK (E179 g) (lpOf (L179 g)) (nthLoop (codeOf Tryz.f179) 0) { κ with normal := fun σ => N (σ.keepAt ((E179 g)).hints 16) } ((((L179 g)[0]'(Nat.le_of_ble_eq_true rfl))).sh.mk' x) = (((L179 g)[0]'(Nat.le_of_ble_eq_true rfl))).R κ (fun x => N ((((L179 g)[0]'(Nat.le_of_ble_eq_true rfl))).sh.mk' x)) x :=
  fun κ N x => by kernel_rfl
theorem K179_ok (g : G179) (hg : FreshOk Tryz.prog 179 (H179 g)) : FreshOk Tryz.prog 179 (K179 g) :=
  toldFr (env := (E179 g)) (fn := Tryz.f179) (c := (codeOf Tryz.f179)) (tbl := (L179 g)) (ls := [nthLoop (codeOf Tryz.f179) 0]) (vars := Tryz.f179.results.toList) Tryz.func179 (tysC_ok tys_ok rfl rfl) (Told.fnOk (.consFr hg (.cons C183_ok (.cons C199_ok .nil))) rfl) (by kernel_rfl) (by decide) rfl (by decide) rfl (by decide) rfl rfl (by kernel_rfl) (.cons ((L179 g)[0]'(Nat.le_of_ble_eq_true rfl)) (by kernel_rfl) (L179_16 g) .nil) (by kernel_rfl)

noncomputable def S179 : Nat → G179
  | 0 => fun _ _ => none
  | k + 1 => B179 (S179 k)
noncomputable def F179 : G179 := S179 fuel
noncomputable def C179 : Fun := H179 F179
theorem C179_all : ∀ k, FreshOk Tryz.prog 179 (H179 (S179 k))
  | 0 => FreshOk.none Tryz.func179 (by rfl) (by decide) fun _ => rfl
  | k + 1 => K179_ok (S179 k) (C179_all k)
theorem C179_ok : FreshOk Tryz.prog 179 C179 := C179_all fuel

/- 151: loop.example/g00380/impl.getPath -/
noncomputable def F151 (a0 : D78) (a1 : List UInt8) : Option (List (D78) × Unit) :=
 (Option.bind (F180 a1 [(46 : UInt8)]) fun y0 =>
 (Option.bind (F179 a0 y0.1) fun y1 =>
 (some (y1.1, ()))))

noncomputable def C151 : Fun := ⟨[(.ro Y78), (.ro .str)], [((.slice Y78), (.own .z))], fun z => F151 z.1 z.2.1⟩
noncomputable def E151 : Env := ⟨9, tyTab tys, oneTab ones, fnTab [(179, C179), (180, C180)], false, [], [(99999, [4], [])], none, []⟩
noncomputable def L151 : List (LoopS (List (D78) × Unit)) := []
theorem C151_ok : FreshOk Tryz.prog 151 C151 :=
  toldFr (env := E151) (fn := Tryz.f151) (c := (codeOf Tryz.f151)) (tbl := L151) (ls := []) (vars := Tryz.f151.results.toList) Tryz.func151 (tysC_ok tys_ok rfl rfl) (Told.fnOk (.consFr C179_ok (.cons C180_ok .nil)) rfl) (by kernel_rfl) (by decide) rfl (by decide) rfl (by decide) rfl rfl (by kernel_rfl) .nil (by kernel_rfl)
abbrev G182 : Type := (D78) → (D78) → Option (Int × Unit)
noncomputable def H182 (g : G182) : Fun := ⟨[(.ro Y78), (.ro Y78)], [((.int .i64), .z)], fun z => g z.1 z.2.1⟩

/- 206: slices.CompareFunc[[]loop.example/g00380/impl.Value,[]loop.example/g00380/impl.Value,loop.example/g00380/impl.Value,loop.example/g00380/impl.Value] -/
noncomputable def B206_R2 (g : G182) (e0_0 : List (D78) × List (D78) × Unit → Option (Int × Unit)) (er_1 : Int × Unit → Option (Int × Unit)) (rec : List (D78) × List (D78) × List (D78) × Int × Int × Unit → Option (Int × Unit)) (x2 : List (D78) × List (D78) × List (D78) × Int × Int × Unit) : Option (Int × Unit) :=
 (cond (decide (x2.2.2.2.2.1 < x2.2.2.2.1))
 (gd (decide ((0 : Int) ≤ x2.2.2.2.2.1))
 (Option.bind x2.2.2.1[(Int.toNat x2.2.2.2.2.1)]? fun y5 =>
 (cond (decide (x2.2.2.2.2.1 ≥ (((List.length x2.2.1) : Nat) : Int)))
 (er_1 ((1 : Int), ()))
 (gd (decide ((0 : Int) ≤ x2.2.2.2.2.1))
 (Option.bind x2.2.1[(Int.toNat x2.2.2.2.2.1)]? fun y7 =>
 (Option.bind (g y5 y7) fun y8 =>
 (cond (y8.1 != (0 : Int))
 (er_1 (y8.1, ()))
 (rec (x2.1, x2.2.1, x2.2.2.1, x2.2.2.2.1, (IntKind.wrap IntKind.i64 (x2.2.2.2.2.1 + (1 : Int))), ())))))))))
 (e0_0 (x2.1, x2.2.1, ())))

noncomputable def B206 (g : G182) (a0 : List (D78)) (a1 : List (D78)) (a2 : Unit) : Option (Int × Unit) :=
 (iter (B206_R2 g
 (fun y9 =>
 (cond (decide ((((List.length y9.1) : Nat) : Int) < (((List.length y9.2.1) : Nat) : Int)))
 (some ((-(1 : Int)), ()))
 (some ((0 : Int), ()))))
 (fun y10 =>
 (some (y10.1, ())))) fuel (a0, a1, a0, (((List.length a0) : Nat) : Int), (0 : Int), ()))

noncomputable def K206 (g : G182) : Fun := ⟨[(.ro (.slice Y78)), (.ro (.slice Y78)), (.st 182)], [((.int .i64), .z)], fun z => B206 g z.1 z.2.1 z.2.2.1⟩
noncomputable def E206 (g : G182) : Env := ⟨39, tyTab tys, oneTab ones, fnTab [(182, (H182 g))], false, [], [(2, [0, 1, 2, 11, 12, 13], []), (3, [0, 1, 2, 11, 12, 13], []), (6, [0, 1, 2, 7, 8, 11, 12, 13], []), (10, [0, 1, 2, 11, 12, 13], []), (11, [0, 1], []), (13, [], []), (100000, [0, 1], []), (100001, [0, 1, 2, 11, 12, 13], []), (99999, [6], [])], none, []⟩
noncomputable def L206 (g : G182) : List (LoopS (Int × Unit)) := [⟨2, ⟨[(0, (.pv (.slice Y78))), (1, (.pv (.slice Y78))), (2, (.clo 182 [])), (11, (.pv (.slice Y78))), (12, (.pv (.int .i64))), (13, (.pv (.int .i64)))], []⟩, fun κ => B206_R2 g (fun y => κ.exit 0 (SSh.mk' ⟨[(0, (.pv (.slice Y78))), (1, (.pv (.slice Y78)))], []⟩ y)) (fun y => κ.ret (SSh.mk' ⟨[(6, (.pv (.int .i64)))], []⟩ y))⟩]
theorem L206_2 (g : G182) : ∀ (κ : Kont (Int × Unit)) (N : St → Option (Int × Unit)) (x : (((L206 g)[0]'(Nat.le_of_ble_eq_true rfl))).sh.den), execK (E206 g) (lpOf (L206 g)) (nthLoop (codeOf Tryz.f206) 0) { κ with normal := fun σ => N (σ.keepAt ((E206 g)).hints 2) } ((((L206 g)[0]'(Nat.le_of_ble_eq_true rfl))).sh.mk' x) = (((L206 g)[0]'(Nat.le_of_ble_eq_true rfl))).R κ (fun x => N ((((L206 g)[0]'(Nat.le_of_ble_eq_true rfl))).sh.mk' x)) x :=
  fun κ N x => by kernel_rfl
theorem K206_ok (g : G182) (hg : QuietOk Tryz.prog 182 (H182 g)) : QuietOk Tryz.prog 206 (K206 g) :=
  told (env := (E206 g)) (fn := Tryz.f206) (c := (codeOf Tryz.f206)) (tbl := (L206 g)) (ls := [nthLoop (codeOf Tryz.f206) 0]) (vars := Tryz.f206.results.toList) Tryz.func206 (tysC_ok tys_ok rfl rfl) (Told.fnOk (.cons hg .nil) rfl) (by kernel_rfl) (by decide) rfl (by decide) rfl rfl rfl (by kernel_rfl) (.cons ((L206 g)[0]'(Nat.le_of_ble_eq_true rfl)) (by kernel_rfl) (L206_2 g) .nil) (by kernel_rfl)

/- 209: loop.example/g00380/impl.orderFields -/
noncomputable def B209 (g : G182) (a0 : D253) (a1 : D253) : Option (Int × Unit) :=
 (Option.bind (F147 a0.1 a1.1) fun y0 =>
 (Option.bind (g a0.2.1 a1.2.1) fun y1 =>
 (Option.bind (F146 [y0.1, y1.1]) fun y2 =>
 (some (y2.1, ())))))

noncomputable def K209 (g : G182) : Fun := ⟨[(.ro Y253), (.ro Y253)], [((.int .i64), .z)], fun z => B209 g z.1 z.2.1⟩
noncomputable def E209 (g : G182) : Env := ⟨17, tyTab tys, oneTab ones, fnTab [(146, C146), (147, C147), (182, (H182 g))], false, [120], [(99999, [4], [])], none, []⟩
noncomputable def L209 (g : G182) : List (LoopS (Int × Unit)) := []
theorem K209_ok (g : G182) (hg : QuietOk Tryz.prog 182 (H182 g)) : QuietOk Tryz.prog 209 (K209 g) :=
  told (env := (E209 g)) (fn := Tryz.f209) (c := (codeOf Tryz.f209)) (tbl := (L209 g)) (ls := []) (vars := Tryz.f209.results.toList) Tryz.func209 (tysC_ok tys_ok rfl rfl) (Told.fnOk (.cons C146_ok (.cons C147_ok (.cons hg .nil))) rfl) (by kernel_rfl) (by decide) rfl (by decide) rfl rfl rfl (by kernel_rfl) .nil (by kernel_rfl)

/- 208: slices.CompareFunc[[]loop.example/g00380/impl.Field,[]loop.example/g00380/impl.Field,loop.example/g00380/impl.Field,loop.example/g00380/impl.Field] -/
noncomputable def B208_R2 (g : G182) (e0_0 : List (D253) × List (D253) × Unit → Option (Int × Unit)) (er_1 : Int × Unit → Option (Int × Unit)) (rec : List (D253) × List (D253) × List (D253) × Int × Int × Unit → Option (Int × Unit)) (x2 : List (D253) × List (D253) × List (D253) × Int × Int × Unit) : Option (Int × Unit) :=
 (cond (decide (x2.2.2.2.2.1 < x2.2.2.2.1))
 (gd (decide ((0 : Int) ≤ x2.2.2.2.2.1))
 (Option.bind x2.2.2.1[(Int.toNat x2.2.2.2.2.1)]? fun y5 =>
 (cond (decide (x2.2.2.2.2.1 ≥ (((List.length x2.2.1) : Nat) : Int)))
 (er_1 ((1 : Int), ()))
 (gd (decide ((0 : Int) ≤ x2.2.2.2.2.1))
 (Option.bind x2.2.1[(Int.toNat x2.2.2.2.2.1)]? fun y7 =>
 (Option.bind (B209 g y5 y7) fun y8 =>
 (cond (y8.1 != (0 : Int))
 (er_1 (y8.1, ()))
 (rec (x2.1, x2.2.1, x2.2.2.1, x2.2.2.2.1, (IntKind.wrap IntKind.i64 (x2.2.2.2.2.1 + (1 : Int))), ())))))))))
 (e0_0 (x2.1, x2.2.1, ())))

noncomputable def B208 (g : G182) (a0 : List (D253)) (a1 : List (D253)) (a2 : Unit) : Option (Int × Unit) :=
 (iter (B208_R2 g
 (fun y9 =>
 (cond (decide ((((List.length y9.1) : Nat) : Int) < (((List.length y9.2.1) : Nat) : Int)))
 (some ((-(1 : Int)), ()))
 (some ((0 : Int), ()))))
 (fun y10 =>
 (some (y10.1, ())))) fuel (a0, a1, a0, (((List.length a0) : Nat) : Int), (0 : Int), ()))

noncomputable def K208 (g : G182) : Fun := ⟨[(.ro (.slice Y253)), (.ro (.slice Y253)), (.st 209)], [((.int .i64), .z)], fun z => B208 g z.1 z.2.1 z.2.2.1⟩
noncomputable def E208 (g : G182) : Env := ⟨39, tyTab tys, oneTab ones, fnTab [(209, (K209 g))], false, [], [(2, [0, 1, 2, 11, 12, 13], []), (3, [0, 1, 2, 11, 12, 13], []), (6, [0, 1, 2, 7, 8, 11, 12, 13], []), (10, [0, 1, 2, 11, 12, 13], []), (11, [0, 1], []), (13, [], []), (100000, [0, 1], []), (100001, [0, 1, 2, 11, 12, 13], []), (99999, [6], [])], none, []⟩
noncomputable def L208 (g : G182) : List (LoopS (Int × Unit)) := [⟨2, ⟨[(0, (.pv (.slice Y253))), (1, (.pv (.slice Y253))), (2, (.clo 209 [])), (11, (.pv (.slice Y253))), (12, (.pv (.int .i64))), (13, (.pv (.int .i64)))], []⟩, fun κ => B208_R2 g (fun y => κ.exit 0 (SSh.mk' ⟨[(0, (.pv (.slice Y253))), (1, (.pv (.slice Y253)))], []⟩ y)) (fun y => κ.ret (SSh.mk' ⟨[(6, (.pv (.int .i64)))], []⟩ y))⟩]
theorem L208_2 (g : G182) : ∀ (κ : Kont (Int × Unit)) (N : St → Option (Int × Unit)) (x : (((L208 g)[0]'(Nat.le_of_ble_eq_true rfl))).sh.den), execK (E208 g) (lpOf (L208 g)) (nthLoop (codeOf Tryz.f208) 0) { κ with normal := fun σ => N (σ.keepAt ((E208 g)).hints 2) } ((((L208 g)[0]'(Nat.le_of_ble_eq_true rfl))).sh.mk' x) = (((L208 g)[0]'(Nat.le_of_ble_eq_true rfl))).R κ (fun x => N ((((L208 g)[0]'(Nat.le_of_ble_eq_true rfl))).sh.mk' x)) x :=
  fun κ N x => by kernel_rfl
theorem K208_ok (g : G182) (hg : QuietOk Tryz.prog 182 (H182 g)) : QuietOk Tryz.prog 208 (K208 g) :=
  told (env := (E208 g)) (fn := Tryz.f208) (c := (codeOf Tryz.f208)) (tbl := (L208 g)) (ls := [nthLoop (codeOf Tryz.f208) 0]) (vars := Tryz.f208.results.toList) Tryz.func208 (tysC_ok tys_ok rfl rfl) (Told.fnOk (.cons (K209_ok g hg) .nil) rfl) (by kernel_rfl) (by decide) rfl (by decide) rfl rfl rfl (by kernel_rfl) (.cons ((L208 g)[0]'(Nat.le_of_ble_eq_true rfl)) (by kernel_rfl) (L208_2 g) .nil) (by kernel_rfl)

/- 182: loop.example/g00380/impl.order -/
noncomputable def B182 (g : G182) (a0 : D78) (a1 : D78) : Option (Int × Unit) :=
 (Option.bind (F148 a0.1 a1.1) fun y1 =>
 (Option.bind (F148 a0.2.1 a1.2.1) fun y2 =>
 (Option.bind (F146 [y1.1, y2.1]) fun y3 =>
 (cond (y3.1 != (0 : Int))
 (some (y3.1, ()))
 (cond (a0.1 == (4 : Int))
 (Option.bind (F183 a0) fun y5 =>
 (Option.bind (F183 a1) fun y6 =>
 (Option.bind (B206 g y5.1 y6.1 ()) fun y7 =>
 (some (y7.1, ())))))
 (cond (a0.1 == (5 : Int))
 (Option.bind (F207 a0) fun y8 =>
 (Option.bind (F207 a1) fun y9 =>
 (Option.bind (B208 g y8.1 y9.1 ()) fun y10 =>
 (some (y10.1, ())))))
 (Option.bind (F147 a0.2.2.1 a1.2.2.1) fun y11 =>
 (some (y11.1, ())))))))))

noncomputable def K182 (g : G182) : Fun := ⟨[(.ro Y78), (.ro Y78)], [((.int .i64), .z)], fun z => B182 g z.1 z.2.1⟩
noncomputable def E182 (g : G182) : Env := ⟨66, tyTab tys, oneTab ones, fnTab [(146, C146), (147, C147), (148, C148), (182, (H182 g)), (183, C183), (206, (K206 g)), (207, C207), (208, (K208 g)), (209, (K209 g))], false, [192], [(4, [2, 3], []), (13, [2, 3], []), (100000, [2, 3], []), (99999, [4], [])], none, []⟩
noncomputable def L182 (g : G182) : List (LoopS (Int × Unit)) := []
theorem K182_ok (g : G182) (hg : QuietOk Tryz.prog 182 (H182 g)) : QuietOk Tryz.prog 182 (K182 g) :=
  told (env := (E182 g)) (fn := Tryz.f182) (c := (codeOf Tryz.f182)) (tbl := (L182 g)) (ls := []) (vars := Tryz.f182.results.toList) Tryz.func182 (tysC_ok tys_ok rfl rfl) (Told.fnOk (.cons C146_ok (.cons C147_ok (.cons C148_ok (.cons hg (.cons C183_ok (.cons (K206_ok g hg) (.cons C207_ok (.cons (K208_ok g hg) (.cons (K209_ok g hg) .nil))))))))) rfl) (by kernel_rfl) (by decide) rfl (by decide) rfl rfl rfl (by kernel_rfl) .nil (by kernel_rfl)

noncomputable def S182 : Nat → G182
  | 0 => fun _ _ => none
  | k + 1 => B182 (S182 k)
noncomputable def F182 : G182 := S182 fuel
noncomputable def C182 : Fun := H182 F182
theorem C182_all : ∀ k, QuietOk Tryz.prog 182 (H182 (S182 k))
  | 0 => QuietOk.none Tryz.func182 (by rfl) (by decide) fun _ => rfl
  | k + 1 => K182_ok (S182 k) (C182_all k)
theorem C182_ok : QuietOk Tryz.prog 182 C182 := C182_all fuel

/- 211: slices.Index[[]loop.example/g00380/impl.Value,loop.example/g00380/impl.Value] -/
noncomputable def F211_R2 (e0_0 : Unit → Option (Int × Unit)) (er_1 : Int × Unit → Option (Int × Unit)) (rec : List (D78) × Int × Int × D78 × Unit → Option (Int × Unit)) (x2 : List (D78) × Int × Int × D78 × Unit) : Option (Int × Unit) :=
 (cond (decide (x2.2.2.1 < x2.2.1))
 (gd (decide ((0 : Int) ≤ x2.2.2.1))
 (Option.bind x2.1[(Int.toNat x2.2.2.1)]? fun y5 =>
 (cond ((decide (x2.2.2.2.1.1 = y5.1)) && ((decide (x2.2.2.2.1.2.1 = y5.2.1)) && ((x2.2.2.2.1.2.2.1 == y5.2.2.1) && true)))
 (er_1 (x2.2.2.1, ()))
 (rec (x2.1, x2.2.1, (IntKind.wrap IntKind.i64 (x2.2.2.1 + (1 : Int))), x2.2.2.2.1, ())))))
 (e0_0 (())))

noncomputable def F211 (a0 : List (D78)) (a1 : D78) : Option (Int × Unit) :=
 (iter (F211_R2
 (fun y6 =>
 (some ((-(1 : Int)), ())))
 (fun y7 =>
 (some (y7.1, ())))) fuel (a0, (((List.length a0) : Nat) : Int), (0 : Int), a1, ()))

noncomputable def C211 : Fun := ⟨[(.ro (.slice Y78)), (.ro Y78)], [((.int .i64), .z)], fun z => F211 z.1 z.2.1⟩
noncomputable def E211 : Env := ⟨19, tyTab tys, oneTab ones, fnTab [], false, [], [(2, [0, 3, 7, 8], []), (3, [0, 3, 7, 8], []), (6, [0, 3, 7, 8], []), (7, [], []), (100000, [], []), (100001, [0, 3, 7, 8], []), (99999, [4], [])], none, []⟩
noncomputable def L211 : List (LoopS (Int × Unit)) := [⟨2, ⟨[(0, (.pv (.slice Y78))), (3, (.ptr 24 [])), (7, (.pv (.int .i64))), (8, (.pv (.int .i64)))], [(24, (.data true Y78 .z))]⟩, fun κ => F211_R2 (fun y => κ.exit 0 (SSh.mk' ⟨[], []⟩ y)) (fun y => κ.ret (SSh.mk' ⟨[(4, (.pv (.int .i64)))], []⟩ y))⟩]
theorem L211_2 : ∀ (κ : Kont (Int × Unit)) (N : St → Option (Int × Unit)) (x : (L211[0]).sh.den), execK E211 (lpOf L211) (nthLoop (codeOf Tryz.f211) 0) { κ with normal := fun σ => N (σ.keepAt (E211).hints 2) } ((L211[0]).sh.mk' x) = (L211[0]).R κ (fun x => N ((L211[0]).sh.mk' x)) x :=
  fun κ N x => by kernel_rfl
theorem C211_ok : QuietOk Tryz.prog 211 C211 :=
  told (env := E211) (fn := Tryz.f211) (c := (codeOf Tryz.f211)) (tbl := L211) (ls := [nthLoop (codeOf Tryz.f211) 0]) (vars := Tryz.f211.results.toList) Tryz.func211 (tysC_ok tys_ok rfl rfl) (Told.fnOk .nil rfl) (by kernel_rfl) (by decide) rfl (by decide) rfl rfl rfl (by kernel_rfl) (.cons L211[0] (by kernel_rfl) L211_2 .nil) (by kernel_rfl)

/- 184: slices.Contains[[]loop.example/g00380/impl.Value,loop.example/g00380/impl.Value] -/
noncomputable def F184 (a0 : List (D78)) (a1 : D78) : Option (Bool × Unit) :=
 (Option.bind (F211 a0 a1) fun y0 =>
 (some ((decide (y0.1 ≥ (0 : Int))), ())))

noncomputable def C184 : Fun := ⟨[(.ro (.slice Y78)), (.ro Y78)], [(.bool, .z)], fun z => F184 z.1 z.2.1⟩
noncomputable def E184 : Env := ⟨9, tyTab tys, oneTab ones, fnTab [(211, C211)], false, [], [(99999, [4], [])], none, []⟩
noncomputable def L184 : List (LoopS (Bool × Unit)) := []
theorem C184_ok : QuietOk Tryz.prog 184 C184 :=
  told (env := E184) (fn := Tryz.f184) (c := (codeOf Tryz.f184)) (tbl := L184) (ls := []) (vars := Tryz.f184.results.toList) Tryz.func184 (tysC_ok tys_ok rfl rfl) (Told.fnOk (.cons C211_ok .nil) rfl) (by kernel_rfl) (by decide) rfl (by decide) rfl rfl rfl (by kernel_rfl) .nil (by kernel_rfl)

/- 153: (loop.example/g00380/impl.Term).holds -/
noncomputable def F153 (a0 : D182) (a1 : D78) : Option (Bool × Unit) :=
 (Option.bind (F182 a1 a0.2.2.1) fun y0 =>
 (let j7 : D182 × D78 × Unit → Option (Bool × Unit) := fun (y8 : D182 × D78 × Unit) =>
 (Option.bind (F183 y8.2.1) fun y9 =>
 (cond (y8.2.1.1 == (4 : Int))
 (some (((((List.length y9.1) : Nat) : Int) == y8.1.2.2.1.2.1), ()))
 (some (false, ()))))
 (cond (a0.1 == (1 : Int))
 (cond (a0.1 == (1 : Int))
 (some ((y0.1 == (0 : Int)), ()))
 (cond (a0.1 == (3 : Int))
 (cond (a1.1 == a0.2.2.1.1)
 (some ((decide (y0.1 < (0 : Int))), ()))
 (some (false, ())))
 (cond (a0.1 == (4 : Int))
 (cond (a1.1 == a0.2.2.1.1)
 (some ((decide (y0.1 ≤ (0 : Int))), ()))
 (some (false, ())))
 (cond (a0.1 == (5 : Int))
 (cond (a1.1 == a0.2.2.1.1)
 (some ((decide (y0.1 > (0 : Int))), ()))
 (some (false, ())))
 (cond (a0.1 == (6 : Int))
 (cond (a1.1 == a0.2.2.1.1)
 (some ((decide (y0.1 ≥ (0 : Int))), ()))
 (some (false, ())))
 (cond (a0.1 == (7 : Int))
 (Option.bind (F183 a0.2.2.1) fun y3 =>
 (Option.bind (F184 y3.1 a1) fun y4 =>
 (some (y4.1, ()))))
 (cond (a0.1 == (9 : Int))
 (some ((a1.1 == a0.2.2.1.2.1), ()))
 (j7 (a0, a1, ())))))))))
 (cond (a0.1 == (2 : Int))
 (some ((y0.1 == (0 : Int)), ()))
 (cond (a0.1 == (3 : Int))
 (cond (a1.1 == a0.2.2.1.1)
 (some ((decide (y0.1 < (0 : Int))), ()))
 (some (false, ())))
 (cond (a0.1 == (4 : Int))
 (cond (a1.1 == a0.2.2.1.1)
 (some ((decide (y0.1 ≤ (0 : Int))), ()))
 (some (false, ())))
 (cond (a0.1 == (5 : Int))
 (cond (a1.1 == a0.2.2.1.1)
 (some ((decide (y0.1 > (0 : Int))), ()))
 (some (false, ())))
 (cond (a0.1 == (6 : Int))
 (cond (a1.1 == a0.2.2.1.1)
 (some ((decide (y0.1 ≥ (0 : Int))), ()))
 (some (false, ())))
 (cond (a0.1 == (7 : Int))
 (Option.bind (F183 a0.2.2.1) fun y5 =>
 (Option.bind (F184 y5.1 a1) fun y6 =>
 (some (y6.1, ()))))
 (cond (a0.1 == (9 : Int))
 (some ((a1.1 == a0.2.2.1.2.1), ()))
 (j7 (a0, a1, ()))))))))))))

noncomputable def C153 : Fun := ⟨[(.ro Y182), (.ro Y78)], [(.bool, .z)], fun z => F153 z.1 z.2.1⟩
noncomputable def E153 : Env := ⟨91, tyTab tys, oneTab ones, fnTab [(182, C182), (183, C183), (184, C184)], false, [], [(20, [2, 3], []), (100000, [2, 3], []), (99999, [4], [])], none, []⟩
noncomputable def L153 : List (LoopS (Bool × Unit)) := []
theorem C153_ok : QuietOk Tryz.prog 153 C153 :=
  told (env := E153) (fn := Tryz.f153) (c := (codeOf Tryz.f153)) (tbl := L153) (ls := []) (vars := Tryz.f153.results.toList) Tryz.func153 (tysC_ok tys_ok rfl rfl) (Told.fnOk (.cons C182_ok (.cons C183_ok (.cons C184_ok .nil))) rfl) (by kernel_rfl) (by decide) rfl (by decide) rfl rfl rfl (by kernel_rfl) .nil (by kernel_rfl)

/- 114: (loop.example/g00380/impl.Term).matches -/
noncomputable def F114 (a0 : D182) (a1 : D78) : Option (Bool × Unit) :=
 (Option.bind (F151 a1 a0.2.1) fun y0 =>
 (cond (a0.1 == (8 : Int))
 (some (((decide ((((List.length y0.1) : Nat) : Int) > (0 : Int))) == (a0.2.2.1.2.1 == (1 : Int))), ()))
 (let j3 : D182 × List (D78) × Unit → Option (Bool × Unit) := fun (y4 : D182 × List (D78) × Unit) =>
 (Option.bind (F152 y4.2.1 (fun (v7 : D78) => (Option.map (fun (v8 : (Bool × Unit)) => v8.1) (F153 y4.1 v7)))) fun y5 =>
 (some ((!(y5.1 == (y4.1.1 == (2 : Int)))), ())))
 (cond ((((List.length y0.1) : Nat) : Int) == (0 : Int))
 (cond (a0.1 != (9 : Int))
 (gd (decide (((List.length y0.1) + (List.length ([((0 : Int), ((0 : Int), ([], ())))] : List D78))) ≤ lim))
 (j3 (a0, (y0.1 ++ [((0 : Int), ((0 : Int), ([], ())))]), ())))
 (j3 (a0, y0.1, ())))
 (j3 (a0, y0.1, ()))))))

noncomputable def C114 : Fun := ⟨[(.ro Y182), (.ro Y78)], [(.bool, .z)], fun z => F114 z.1 z.2.1⟩
noncomputable def E114 : Env := ⟨41, tyTab tys, oneTab ones, fnTab [(151, C151), (152, C152), (153, C153)], false, [], [(4, [2, 5], []), (6, [2, 5], []), (99999, [4], [])], none, []⟩
noncomputable def L114 : List (LoopS (Bool × Unit)) := []
theorem C114_ok : QuietOk Tryz.prog 114 C114 :=
  told (env := E114) (fn := Tryz.f114) (c := (codeOf Tryz.f114)) (tbl := L114) (ls := []) (vars := Tryz.f114.results.toList) Tryz.func114 (tysC_ok tys_ok rfl rfl) (Told.fnOk (.consFr C151_ok (.cons C152_ok (.cons C153_ok .nil))) rfl) (by kernel_rfl) (by decide) rfl (by decide) rfl rfl rfl (by kernel_rfl) .nil (by kernel_rfl)

/- 113: (loop.example/g00380/impl.Filter).matches$1$1 -/
noncomputable def F113 (a0 : D182) (a1 : D78) : Option (Bool × Unit) :=
 (Option.bind (F114 a0 a1) fun y0 =>
 (some ((!y0.1), ())))

noncomputable def C113 : Fun := ⟨[(.ro Y182), (.rp Y78)], [(.bool, .z)], fun z => F113 z.1 z.2.1⟩
noncomputable def E113 : Env := ⟨8, tyTab tys, oneTab ones, fnTab [(114, C114)], false, [], [(99999, [3], [])], none, []⟩
noncomputable def L113 : List (LoopS (Bool × Unit)) := []
theorem C113_ok : QuietOk Tryz.prog 113 C113 :=
  told (env := E113) (fn := Tryz.f113) (c := (codeOf Tryz.f113)) (tbl := L113) (ls := []) (vars := Tryz.f113.results.toList) Tryz.func113 (tysC_ok tys_ok rfl rfl) (Told.fnOk (.cons C114_ok .nil) rfl) (by kernel_rfl) (by decide) rfl (by decide) rfl rfl rfl (by kernel_rfl) .nil (by kernel_rfl)

/- 111: (loop.example/g00380/impl.Filter).matches$1 -/
noncomputable def F111 (a0 : D163) (a1 : D78) : Option (Bool × Unit) :=
 (Option.bind (F112 a0.1 (fun (v3 : D182) => (Option.map (fun (v4 : (Bool × Unit)) => v4.1) (F113 v3 a1)))) fun y0 =>
 (some ((!y0.1), ())))

noncomputable def C111 : Fun := ⟨[(.ro Y163), (.rp Y78)], [(.bool, .z)], fun z => F111 z.1 z.2.1⟩
noncomputable def E111 : Env := ⟨9, tyTab tys, oneTab ones, fnTab [(112, C112), (113, C113)], false, [], [(99999, [3], [])], none, []⟩
noncomputable def L111 : List (LoopS (Bool × Unit)) := []
theorem C111_ok : QuietOk Tryz.prog 111 C111 :=
  told (env := E111) (fn := Tryz.f111) (c := (codeOf Tryz.f111)) (tbl := L111) (ls := []) (vars := Tryz.f111.results.toList) Tryz.func111 (tysC_ok tys_ok rfl rfl) (Told.fnOk (.cons C112_ok (.cons C113_ok .nil)) rfl) (by kernel_rfl) (by decide) rfl (by decide) rfl rfl rfl (by kernel_rfl) .nil (by kernel_rfl)

/- 73: (loop.example/g00380/impl.Filter).matches -/
noncomputable def F73 (a0 : D91) (a1 : D78) : Option (Bool × Unit) :=
 (Option.bind (F110 a0.1 (fun (v3 : D163) => (Option.map (fun (v4 : (Bool × Unit)) => v4.1) (F111 v3 a1)))) fun y0 =>
 (some (y0.1, ())))

noncomputable def C73 : Fun := ⟨[(.ro Y91), (.ro Y78)], [(.bool, .z)], fun z => F73 z.1 z.2.1⟩
noncomputable def E73 : Env := ⟨9, tyTab tys, oneTab ones, fnTab [(110, C110), (111, C111)], false, [], [(99999, [4], [])], none, []⟩
noncomputable def L73 : List (LoopS (Bool × Unit)) := []
theorem C73_ok : QuietOk Tryz.prog 73 C73 :=
  told (env := E73) (fn := Tryz.f73) (c := (codeOf Tryz.f73)) (tbl := L73) (ls := []) (vars := Tryz.f73.results.toList) Tryz.func73 (tysC_ok tys_ok rfl rfl) (Told.fnOk (.cons C110_ok (.cons C111_ok .nil)) rfl) (by kernel_rfl) (by decide) rfl (by decide) rfl rfl rfl (by kernel_rfl) .nil (by kernel_rfl)

/- 44: (loop.example/g00380/impl.Read).hangsOn -/
noncomputable def F44 (a0 : D93) (a1 : D95) : Option (Bool × Unit) :=
 (cond (!(a0.1 == a1.1.1))
 (some (false, ()))
 (cond a1.2.2.1
 (Option.bind (F73 a0.2.1 a1.2.1) fun y1 =>
 (cond y1.1
 (some (true, ()))
 (cond (!a1.1.2.2.1)
 (Option.bind (F73 a0.2.1 a1.1.2.2.2.1) fun y2 =>
 (some (y2.1, ())))
 (some (false, ())))))
 (cond (!a1.1.2.2.1)
 (Option.bind (F73 a0.2.1 a1.1.2.2.2.1) fun y3 =>
 (some (y3.1, ())))
 (some (false, ())))))

noncomputable def C44 : Fun := ⟨[(.ro Y93), (.ro Y95)], [(.bool, .z)], fun z => F44 z.1 z.2.1⟩
noncomputable def E44 : Env := ⟨34, tyTab tys, oneTab ones, fnTab [(73, C73)], false, [], [(3, [2, 3], []), (99999, [4], [])], none, []⟩
noncomputable def L44 : List (LoopS (Bool × Unit)) := []
theorem C44_ok : QuietOk Tryz.prog 44 C44 :=
  told (env := E44) (fn := Tryz.f44) (c := (codeOf Tryz.f44)) (tbl := L44) (ls := []) (vars := Tryz.f44.results.toList) Tryz.func44 (tysC_ok tys_ok rfl rfl) (Told.fnOk (.cons C73_ok .nil) rfl) (by kernel_rfl) (by decide) rfl (by decide) rfl rfl rfl (by kernel_rfl) .nil (by kernel_rfl)

/- 42: loop.example/g00380/impl.hits$1 -/
noncomputable def F42 (a0 : D93) (a1 : List (D95)) : Option (Bool × Unit) :=
 (Option.bind (F43 a1 (fun (v3 : D95) => (Option.map (fun (v4 : (Bool × Unit)) => v4.1) (F44 a0 v3)))) fun y0 =>
 (some (y0.1, ())))

noncomputable def C42 : Fun := ⟨[(.ro Y93), (.rp (.slice Y95))], [(.bool, .z)], fun z => F42 z.1 z.2.1⟩
noncomputable def E42 : Env := ⟨8, tyTab tys, oneTab ones, fnTab [(43, C43), (44, C44)], false, [], [(99999, [3], [])], none, []⟩
noncomputable def L42 : List (LoopS (Bool × Unit)) := []
theorem C42_ok : QuietOk Tryz.prog 42 C42 :=
  told (env := E42) (fn := Tryz.f42) (c := (codeOf Tryz.f42)) (tbl := L42) (ls := []) (vars := Tryz.f42.results.toList) Tryz.func42 (tysC_ok tys_ok rfl rfl) (Told.fnOk (.cons C43_ok (.cons C44_ok .nil)) rfl) (by kernel_rfl) (by decide) rfl (by decide) rfl rfl rfl (by kernel_rfl) .nil (by kernel_rfl)

end Go.V
