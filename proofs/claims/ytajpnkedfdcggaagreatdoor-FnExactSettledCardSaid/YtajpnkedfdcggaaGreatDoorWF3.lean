/- What functions of the program compute, printed by a program of ours. No condition. -/
import Derived.Test.YtajpnkedfdcggaaGreatDoorWF2
namespace Go.V
set_option maxRecDepth 100000
set_option linter.unusedVariables false

/- 136: strings.Compare -/
noncomputable def F136 (a0 : List UInt8) (a1 : List UInt8) : Option (Int × Unit) :=
 (Option.bind (F160 a0 a1) fun y0 =>
 (some (y0.1, ())))

noncomputable def C136 : Fun := ⟨[(.ro .str), (.ro .str)], [((.int .i64), .z)], fun z => F136 z.1 z.2.1⟩
noncomputable def E136 : Env := ⟨8, tyTab tys, oneTab ones, fnTab [(160, C160)], false, [], [(99999, [4], [])], none, []⟩
noncomputable def L136 : List (LoopS (Int × Unit)) := []
theorem C136_ok : QuietOk Go.Proofs.Tryz.prog 136 C136 :=
  told (env := E136) (fn := Go.Proofs.Tryz.f136) (c := (codeOf Go.Proofs.Tryz.f136)) (tbl := L136) (ls := []) (vars := Go.Proofs.Tryz.f136.results.toList) Go.Proofs.Tryz.func136 (tysC_ok tys_ok rfl rfl) (Told.fnOk (.cons C160_ok .nil) rfl) (by kernel_rfl) (by decide) rfl (by decide) rfl rfl rfl (by kernel_rfl) .nil (by kernel_rfl)

/- 205: loop.example/g00380/impl.findField$1 -/
noncomputable def F205 (a0 : D238) (a1 : List UInt8) : Option (Int × Unit) :=
 (Option.bind (F136 a0.1 a1) fun y0 =>
 (some (y0.1, ())))

noncomputable def C205 : Fun := ⟨[(.ro Y238), (.ro .str)], [((.int .i64), .z)], fun z => F205 z.1 z.2.1⟩
noncomputable def E205 : Env := ⟨9, tyTab tys, oneTab ones, fnTab [(136, C136)], false, [], [(99999, [4], [])], none, []⟩
noncomputable def L205 : List (LoopS (Int × Unit)) := []
theorem C205_ok : QuietOk Go.Proofs.Tryz.prog 205 C205 :=
  told (env := E205) (fn := Go.Proofs.Tryz.f205) (c := (codeOf Go.Proofs.Tryz.f205)) (tbl := L205) (ls := []) (vars := Go.Proofs.Tryz.f205.results.toList) Go.Proofs.Tryz.func205 (tysC_ok tys_ok rfl rfl) (Told.fnOk (.cons C136_ok .nil) rfl) (by kernel_rfl) (by decide) rfl (by decide) rfl rfl rfl (by kernel_rfl) .nil (by kernel_rfl)

/- 204: slices.BinarySearchFunc[[]loop.example/g00380/impl.Field,loop.example/g00380/impl.Field,string] -/
noncomputable def F204_R3 (e0_0 : List (D238) × List UInt8 × Int × Int × Unit → Option (Int × Bool × Unit)) (rec : List (D238) × List UInt8 × Int × Int × Int × Unit → Option (Int × Bool × Unit)) (x2 : List (D238) × List UInt8 × Int × Int × Int × Unit) : Option (Int × Bool × Unit) :=
 (cond (decide (x2.2.2.2.1 < x2.2.2.2.2.1))
 (gd (decide ((0 : Int) ≤ (IntKind.wrap IntKind.i64 (Int.fdiv (IntKind.wrap IntKind.u64 (IntKind.wrap IntKind.i64 (x2.2.2.2.1 + x2.2.2.2.2.1))) ((2 : Int) ^ (Min.min (Int.toNat (1 : Int)) (IntKind.bits IntKind.u64)))))))
 (Option.bind x2.1[(Int.toNat (IntKind.wrap IntKind.i64 (Int.fdiv (IntKind.wrap IntKind.u64 (IntKind.wrap IntKind.i64 (x2.2.2.2.1 + x2.2.2.2.2.1))) ((2 : Int) ^ (Min.min (Int.toNat (1 : Int)) (IntKind.bits IntKind.u64))))))]? fun y4 =>
 (Option.bind (F205 y4 x2.2.1) fun y5 =>
 (cond (decide (y5.1 < (0 : Int)))
 (rec (x2.1, x2.2.1, x2.2.2.1, (IntKind.wrap IntKind.i64 ((IntKind.wrap IntKind.i64 (Int.fdiv (IntKind.wrap IntKind.u64 (IntKind.wrap IntKind.i64 (x2.2.2.2.1 + x2.2.2.2.2.1))) ((2 : Int) ^ (Min.min (Int.toNat (1 : Int)) (IntKind.bits IntKind.u64))))) + (1 : Int))), x2.2.2.2.2.1, ()))
 (rec (x2.1, x2.2.1, x2.2.2.1, x2.2.2.2.1, (IntKind.wrap IntKind.i64 (Int.fdiv (IntKind.wrap IntKind.u64 (IntKind.wrap IntKind.i64 (x2.2.2.2.1 + x2.2.2.2.2.1))) ((2 : Int) ^ (Min.min (Int.toNat (1 : Int)) (IntKind.bits IntKind.u64))))), ()))))))
 (e0_0 (x2.1, x2.2.1, x2.2.2.1, x2.2.2.2.1, ())))

noncomputable def F204 (a0 : List (D238)) (a1 : List UInt8) (a2 : Unit) : Option (Int × Bool × Unit) :=
 (iter (F204_R3
 (fun y6 =>
 (cond (decide (y6.2.2.2.1 < y6.2.2.1))
 (gd (decide ((0 : Int) ≤ y6.2.2.2.1))
 (Option.bind y6.1[(Int.toNat y6.2.2.2.1)]? fun y7 =>
 (Option.bind (F205 y7 y6.2.1) fun y8 =>
 (some (y6.2.2.2.1, ((y8.1 == (0 : Int)), ()))))))
 (some (y6.2.2.2.1, (false, ())))))) fuel (a0, a1, (((List.length a0) : Nat) : Int), (0 : Int), (((List.length a0) : Nat) : Int), ()))

noncomputable def C204 : Fun := ⟨[(.ro (.slice Y238)), (.ro .str), (.st 205)], [((.int .i64), .z), (.bool, .z)], fun z => F204 z.1 z.2.1 z.2.2.1⟩
noncomputable def E204 : Env := ⟨49, tyTab tys, oneTab ones, fnTab [(205, C205)], false, [], [(3, [0, 1, 2, 8, 9, 10], []), (4, [0, 1, 2, 8, 9, 10], []), (8, [0, 1, 2, 8, 9], []), (100000, [0, 1, 2, 8, 9], []), (100001, [0, 1, 2, 8, 9, 10], []), (99999, [6, 7], [])], none, []⟩
noncomputable def L204 : List (LoopS (Int × Bool × Unit)) := [⟨3, ⟨[(0, (.pv (.slice Y238))), (1, (.pv .str)), (2, (.clo 205 [])), (8, (.pv (.int .i64))), (9, (.pv (.int .i64))), (10, (.pv (.int .i64)))], []⟩, fun κ => F204_R3 (fun y => κ.exit 0 (SSh.mk' ⟨[(0, (.pv (.slice Y238))), (1, (.pv .str)), (2, (.clo 205 [])), (8, (.pv (.int .i64))), (9, (.pv (.int .i64)))], []⟩ y))⟩]
theorem L204_3 : ∀ (κ : Kont (Int × Bool × Unit)) (N : St → Option (Int × Bool × Unit)) (x : (L204[0]).sh.den), execK E204 (lpOf L204) (nthLoop (codeOf Go.Proofs.Tryz.f204) 0) { κ with normal := fun σ => N (σ.keepAt (E204).hints 3) } ((L204[0]).sh.mk' x) = (L204[0]).R κ (fun x => N ((L204[0]).sh.mk' x)) x :=
  fun κ N x => by kernel_rfl
theorem C204_ok : QuietOk Go.Proofs.Tryz.prog 204 C204 :=
  told (env := E204) (fn := Go.Proofs.Tryz.f204) (c := (codeOf Go.Proofs.Tryz.f204)) (tbl := L204) (ls := [nthLoop (codeOf Go.Proofs.Tryz.f204) 0]) (vars := Go.Proofs.Tryz.f204.results.toList) Go.Proofs.Tryz.func204 (tysC_ok tys_ok rfl rfl) (Told.fnOk (.cons C205_ok .nil) rfl) (by kernel_rfl) (by decide) rfl (by decide) rfl rfl rfl (by kernel_rfl) (.cons L204[0] (by kernel_rfl) L204_3 .nil) (by kernel_rfl)

/- 190: loop.example/g00380/impl.findField -/
noncomputable def F190 (a0 : List (D238)) (a1 : List UInt8) : Option (Int × Bool × Unit) :=
 (Option.bind (F204 a0 a1 ()) fun y0 =>
 (some (y0.1, (y0.2.1, ()))))

noncomputable def C190 : Fun := ⟨[(.ro (.slice Y238)), (.ro .str)], [((.int .i64), .z), (.bool, .z)], fun z => F190 z.1 z.2.1⟩
noncomputable def E190 : Env := ⟨11, tyTab tys, oneTab ones, fnTab [(204, C204), (205, C205)], false, [], [(99999, [4, 5], [])], none, []⟩
noncomputable def L190 : List (LoopS (Int × Bool × Unit)) := []
theorem C190_ok : QuietOk Go.Proofs.Tryz.prog 190 C190 :=
  told (env := E190) (fn := Go.Proofs.Tryz.f190) (c := (codeOf Go.Proofs.Tryz.f190)) (tbl := L190) (ls := []) (vars := Go.Proofs.Tryz.f190.results.toList) Go.Proofs.Tryz.func190 (tysC_ok tys_ok rfl rfl) (Told.fnOk (.cons C204_ok (.cons C205_ok .nil)) rfl) (by kernel_rfl) (by decide) rfl (by decide) rfl rfl rfl (by kernel_rfl) .nil (by kernel_rfl)

/- 174: loop.example/g00380/impl.field -/
noncomputable def F174 (a0 : D59) (a1 : List UInt8) : Option (D59 × Bool × Unit) :=
 (Option.bind (F189 a0) fun y0 =>
 (Option.bind (F190 y0.1 a1) fun y1 =>
 (cond (!y1.2.1)
 (some (((0 : Int), ((0 : Int), ([], ()))), (false, ())))
 (gd (decide ((0 : Int) ≤ y1.1))
 (Option.bind y0.1[(Int.toNat y1.1)]? fun y3 =>
 (some (y3.2.1, (true, ()))))))))

noncomputable def C174 : Fun := ⟨[(.ro Y59), (.ro .str)], [(Y59, .z), (.bool, .z)], fun z => F174 z.1 z.2.1⟩
noncomputable def E174 : Env := ⟨29, tyTab tys, oneTab ones, fnTab [(189, C189), (190, C190)], false, [], [(5, [4, 6, 8], []), (99999, [4, 5], [])], none, []⟩
noncomputable def L174 : List (LoopS (D59 × Bool × Unit)) := []
theorem C174_ok : QuietOk Go.Proofs.Tryz.prog 174 C174 :=
  told (env := E174) (fn := Go.Proofs.Tryz.f174) (c := (codeOf Go.Proofs.Tryz.f174)) (tbl := L174) (ls := []) (vars := Go.Proofs.Tryz.f174.results.toList) Go.Proofs.Tryz.func174 (tysC_ok tys_ok rfl rfl) (Told.fnOk (.cons C189_ok (.cons C190_ok .nil)) rfl) (by kernel_rfl) (by decide) rfl (by decide) rfl rfl rfl (by kernel_rfl) .nil (by kernel_rfl)

/- 154: loop.example/g00380/impl.idOf -/
noncomputable def F154 (a0 : D59) : Option (Int × Bool × Unit) :=
 (Option.bind (F174 a0 [(105 : UInt8), (100 : UInt8)]) fun y0 =>
 (cond (y0.1.1 == (2 : Int))
 (Option.bind (F38 y0.1.2.1 (0 : Int) (99 : Int)) fun y1 =>
 (some (y0.1.2.1, (y1.1, ()))))
 (some (y0.1.2.1, (false, ())))))

noncomputable def C154 : Fun := ⟨[(.ro Y59)], [((.int .i64), .z), (.bool, .z)], fun z => F154 z.1⟩
noncomputable def E154 : Env := ⟨21, tyTab tys, oneTab ones, fnTab [(38, C38), (174, C174)], false, [], [(99999, [2, 3], [])], none, []⟩
noncomputable def L154 : List (LoopS (Int × Bool × Unit)) := []
theorem C154_ok : QuietOk Go.Proofs.Tryz.prog 154 C154 :=
  told (env := E154) (fn := Go.Proofs.Tryz.f154) (c := (codeOf Go.Proofs.Tryz.f154)) (tbl := L154) (ls := []) (vars := Go.Proofs.Tryz.f154.results.toList) Go.Proofs.Tryz.func154 (tysC_ok tys_ok rfl rfl) (Told.fnOk (.cons C38_ok (.cons C174_ok .nil)) rfl) (by kernel_rfl) (by decide) rfl (by decide) rfl rfl rfl (by kernel_rfl) .nil (by kernel_rfl)

/- 206: loop.example/g00380/impl.isNumber -/
noncomputable def F206 (a0 : Int) : Option (Bool × Unit) :=
 (Option.bind (F38 a0 (-(1000000000000 : Int)) (1000000000000 : Int)) fun y0 =>
 (some (y0.1, ())))

noncomputable def C206 : Fun := ⟨[(.ro (.int .i64))], [(.bool, .z)], fun z => F206 z.1⟩
noncomputable def E206 : Env := ⟨5, tyTab tys, oneTab ones, fnTab [(38, C38)], false, [], [(99999, [2], [])], none, []⟩
noncomputable def L206 : List (LoopS (Bool × Unit)) := []
theorem C206_ok : QuietOk Go.Proofs.Tryz.prog 206 C206 :=
  told (env := E206) (fn := Go.Proofs.Tryz.f206) (c := (codeOf Go.Proofs.Tryz.f206)) (tbl := L206) (ls := []) (vars := Go.Proofs.Tryz.f206.results.toList) Go.Proofs.Tryz.func206 (tysC_ok tys_ok rfl rfl) (Told.fnOk (.cons C38_ok .nil) rfl) (by kernel_rfl) (by decide) rfl (by decide) rfl rfl rfl (by kernel_rfl) .nil (by kernel_rfl)

/- 217: loop.example/g00380/impl.items -/
noncomputable def F217_R2 (e0_0 : D181 × List (D59) × Unit → Option (List (D59) × Bool × Unit)) (rec : D181 × List (D59) × Unit → Option (List (D59) × Bool × Unit)) (x2 : D181 × List (D59) × Unit) : Option (List (D59) × Bool × Unit) :=
 (cond (!(x2.1.1 == []))
 (cond (!x2.1.2.1)
 (Option.bind (F203 x2.1) fun y4 =>
 (gd (decide (((List.length x2.2.1) + (List.length [y4.1])) ≤ lim))
 (rec (y4.2.1, (x2.2.1 ++ [y4.1]), ()))))
 (e0_0 (x2.1, x2.2.1, ())))
 (e0_0 (x2.1, x2.2.1, ())))

noncomputable def F217 (a0 : D59) : Option (List (D59) × Bool × Unit) :=
 (iter (F217_R2
 (fun y5 =>
 (some (y5.2.1, ((!y5.1.2.1), ()))))) fuel ((a0.2.2.1, (false, ())), [], ()))

noncomputable def C217 : Fun := ⟨[(.ro Y59)], [((.slice Y59), .z), (.bool, .z)], fun z => F217 z.1⟩
noncomputable def E217 : Env := ⟨34, tyTab tys, oneTab ones, fnTab [(203, C203)], false, [], [(2, [4, 5], []), (3, [4, 5], []), (4, [4, 5], []), (100000, [4, 5], []), (100001, [4, 5], []), (99999, [2, 3], [])], none, []⟩
noncomputable def L217 : List (LoopS (List (D59) × Bool × Unit)) := [⟨2, ⟨[(4, (.ptr 72 [])), (5, (.ref (.slice Y59) 80 []))], [(72, (.data true Y181 .z)), (80, (.data false (.slice Y59) (.own .z)))]⟩, fun κ => F217_R2 (fun y => κ.exit 0 (SSh.mk' ⟨[(4, (.ptr 72 [])), (5, (.ref (.slice Y59) 80 []))], [(72, (.data true Y181 .z)), (80, (.data false (.slice Y59) (.own .z)))]⟩ y))⟩]
theorem L217_2 : ∀ (κ : Kont (List (D59) × Bool × Unit)) (N : St → Option (List (D59) × Bool × Unit)) (x : (L217[0]).sh.den), execK E217 (lpOf L217) (nthLoop (codeOf Go.Proofs.Tryz.f217) 0) { κ with normal := fun σ => N (σ.keepAt (E217).hints 2) } ((L217[0]).sh.mk' x) = (L217[0]).R κ (fun x => N ((L217[0]).sh.mk' x)) x :=
  fun κ N x => by kernel_rfl
theorem C217_ok : QuietOk Go.Proofs.Tryz.prog 217 C217 :=
  told (env := E217) (fn := Go.Proofs.Tryz.f217) (c := (codeOf Go.Proofs.Tryz.f217)) (tbl := L217) (ls := [nthLoop (codeOf Go.Proofs.Tryz.f217) 0]) (vars := Go.Proofs.Tryz.f217.results.toList) Go.Proofs.Tryz.func217 (tysC_ok tys_ok rfl rfl) (Told.fnOk (.consIo C203_ok .nil) rfl) (by kernel_rfl) (by decide) rfl (by decide) rfl rfl rfl (by kernel_rfl) (.cons L217[0] (by kernel_rfl) L217_2 .nil) (by kernel_rfl)

/- 207: loop.example/g00380/impl.inner -/
noncomputable def F207_R6 (e0_0 : Bool × List (D59) × Unit → Option (List (D59) × Bool × Unit)) (rec : List (D238) × Bool × List (D238) × Int × Int × List (D59) × Unit → Option (List (D59) × Bool × Unit)) (x5 : List (D238) × Bool × List (D238) × Int × Int × List (D59) × Unit) : Option (List (D59) × Bool × Unit) :=
 (cond (decide (x5.2.2.2.2.1 < x5.2.2.2.1))
 (gd (decide ((0 : Int) ≤ x5.2.2.2.2.1))
 (Option.bind x5.2.2.1[(Int.toNat x5.2.2.2.2.1)]? fun y7 =>
 (cond x5.2.1
 (Option.bind (F90 y7.1) fun y8 =>
 (cond y8.1
 (cond (x5.2.2.2.2.1 == (0 : Int))
 (gd (decide (((List.length x5.2.2.2.2.2.1) + (List.length [y7.2.1])) ≤ lim))
 (rec (x5.1, true, x5.2.2.1, x5.2.2.2.1, (IntKind.wrap IntKind.i64 (x5.2.2.2.2.1 + (1 : Int))), (x5.2.2.2.2.2.1 ++ [y7.2.1]), ())))
 (gd (decide ((0 : Int) ≤ (IntKind.wrap IntKind.i64 (x5.2.2.2.2.1 - (1 : Int)))))
 (Option.bind x5.1[(Int.toNat (IntKind.wrap IntKind.i64 (x5.2.2.2.2.1 - (1 : Int))))]? fun y9 =>
 (gd (decide (((List.length x5.2.2.2.2.2.1) + (List.length [y7.2.1])) ≤ lim))
 (rec (x5.1, (Op.bytesLess y9.1 y7.1), x5.2.2.1, x5.2.2.2.1, (IntKind.wrap IntKind.i64 (x5.2.2.2.2.1 + (1 : Int))), (x5.2.2.2.2.2.1 ++ [y7.2.1]), ()))))))
 (gd (decide (((List.length x5.2.2.2.2.2.1) + (List.length [y7.2.1])) ≤ lim))
 (rec (x5.1, false, x5.2.2.1, x5.2.2.2.1, (IntKind.wrap IntKind.i64 (x5.2.2.2.2.1 + (1 : Int))), (x5.2.2.2.2.2.1 ++ [y7.2.1]), ())))))
 (gd (decide (((List.length x5.2.2.2.2.2.1) + (List.length [y7.2.1])) ≤ lim))
 (rec (x5.1, false, x5.2.2.1, x5.2.2.2.1, (IntKind.wrap IntKind.i64 (x5.2.2.2.2.1 + (1 : Int))), (x5.2.2.2.2.2.1 ++ [y7.2.1]), ()))))))
 (e0_0 (x5.2.1, x5.2.2.2.2.2.1, ())))

noncomputable def F207 (a0 : D59) : Option (List (D59) × Bool × Unit) :=
 (cond (a0.1 == (4 : Int))
 (Option.bind (F217 a0) fun y1 =>
 (some (y1.1, (y1.2.1, ()))))
 (Option.bind (F189 a0) fun y2 =>
 (iter (F207_R6
 (fun y10 =>
 (some (y10.2.1, (y10.1, ()))))) fuel (y2.1, y2.2.1, y2.1, (((List.length y2.1) : Nat) : Int), (0 : Int), [], ()))))

noncomputable def C207 : Fun := ⟨[(.ro Y59)], [((.slice Y59), .z), (.bool, .z)], fun z => F207 z.1⟩
noncomputable def E207 : Env := ⟨58, tyTab tys, oneTab ones, fnTab [(90, C90), (189, C189), (217, C217)], false, [], [(3, [1], []), (6, [4, 5, 6, 22, 23, 24], []), (7, [4, 5, 6, 22, 23, 24], []), (11, [5, 6], []), (100000, [5, 6], []), (100001, [4, 5, 6, 22, 23, 24], []), (99999, [2, 3], [])], none, []⟩
noncomputable def L207 : List (LoopS (List (D59) × Bool × Unit)) := [⟨6, ⟨[(4, (.pv (.slice Y238))), (5, (.pv .bool)), (6, (.ref (.slice Y59) 168 [])), (22, (.pv (.slice Y238))), (23, (.pv (.int .i64))), (24, (.pv (.int .i64)))], [(168, (.data false (.slice Y59) (.own .z)))]⟩, fun κ => F207_R6 (fun y => κ.exit 0 (SSh.mk' ⟨[(5, (.pv .bool)), (6, (.ref (.slice Y59) 168 []))], [(168, (.data false (.slice Y59) (.own .z)))]⟩ y))⟩]
theorem L207_6 : ∀ (κ : Kont (List (D59) × Bool × Unit)) (N : St → Option (List (D59) × Bool × Unit)) (x : (L207[0]).sh.den), execK E207 (lpOf L207) (nthLoop (codeOf Go.Proofs.Tryz.f207) 0) { κ with normal := fun σ => N (σ.keepAt (E207).hints 6) } ((L207[0]).sh.mk' x) = (L207[0]).R κ (fun x => N ((L207[0]).sh.mk' x)) x :=
  fun κ N x => by kernel_rfl
theorem C207_ok : QuietOk Go.Proofs.Tryz.prog 207 C207 :=
  told (env := E207) (fn := Go.Proofs.Tryz.f207) (c := (codeOf Go.Proofs.Tryz.f207)) (tbl := L207) (ls := [nthLoop (codeOf Go.Proofs.Tryz.f207) 0]) (vars := Go.Proofs.Tryz.f207.results.toList) Go.Proofs.Tryz.func207 (tysC_ok tys_ok rfl rfl) (Told.fnOk (.cons C90_ok (.cons C189_ok (.cons C217_ok .nil))) rfl) (by kernel_rfl) (by decide) rfl (by decide) rfl rfl rfl (by kernel_rfl) (.cons L207[0] (by kernel_rfl) L207_6 .nil) (by kernel_rfl)

/- 218: slices.IndexFunc[[]loop.example/g00380/impl.Value,loop.example/g00380/impl.Value] -/
noncomputable def F218_R2 (e0_0 : Unit → Option (Int × Unit)) (er_1 : Int × Unit → Option (Int × Unit)) (rec : List (D59) × (D59 → Option (Bool)) × Int × Int × Unit → Option (Int × Unit)) (x2 : List (D59) × (D59 → Option (Bool)) × Int × Int × Unit) : Option (Int × Unit) :=
 (cond (decide (x2.2.2.2.1 < x2.2.2.1))
 (gd (decide ((0 : Int) ≤ x2.2.2.2.1))
 (Option.bind x2.1[(Int.toNat x2.2.2.2.1)]? fun y5 =>
 (Option.bind (x2.2.1 y5) fun y6 =>
 (cond y6
 (er_1 (x2.2.2.2.1, ()))
 (rec (x2.1, x2.2.1, x2.2.2.1, (IntKind.wrap IntKind.i64 (x2.2.2.2.1 + (1 : Int))), ()))))))
 (e0_0 (())))

noncomputable def F218 (a0 : List (D59)) (a1 : (D59 → Option (Bool))) : Option (Int × Unit) :=
 (iter (F218_R2
 (fun y7 =>
 (some ((-(1 : Int)), ())))
 (fun y8 =>
 (some (y8.1, ())))) fuel (a0, a1, (((List.length a0) : Nat) : Int), (0 : Int), ()))

noncomputable def C218 : Fun := ⟨[(.ro (.slice Y59)), (.fn Y59 .bool)], [((.int .i64), .z)], fun z => F218 z.1 z.2.1⟩
noncomputable def E218 : Env := ⟨19, tyTab tys, oneTab ones, fnTab [], false, [], [(2, [0, 1, 7, 8], []), (3, [0, 1, 7, 8], []), (6, [0, 1, 7, 8], []), (7, [], []), (100000, [], []), (100001, [0, 1, 7, 8], []), (99999, [4], [])], none, []⟩
noncomputable def L218 : List (LoopS (Int × Unit)) := [⟨2, ⟨[(0, (.pv (.slice Y59))), (1, (.fnA Y59 .bool)), (7, (.pv (.int .i64))), (8, (.pv (.int .i64)))], []⟩, fun κ => F218_R2 (fun y => κ.exit 0 (SSh.mk' ⟨[], []⟩ y)) (fun y => κ.ret (SSh.mk' ⟨[(4, (.pv (.int .i64)))], []⟩ y))⟩]
theorem L218_2 : ∀ (κ : Kont (Int × Unit)) (N : St → Option (Int × Unit)) (x : (L218[0]).sh.den), execK E218 (lpOf L218) (nthLoop (codeOf Go.Proofs.Tryz.f218) 0) { κ with normal := fun σ => N (σ.keepAt (E218).hints 2) } ((L218[0]).sh.mk' x) = (L218[0]).R κ (fun x => N ((L218[0]).sh.mk' x)) x :=
  fun κ N x => by kernel_rfl
theorem C218_ok : QuietOk Go.Proofs.Tryz.prog 218 C218 :=
  told (env := E218) (fn := Go.Proofs.Tryz.f218) (c := (codeOf Go.Proofs.Tryz.f218)) (tbl := L218) (ls := [nthLoop (codeOf Go.Proofs.Tryz.f218) 0]) (vars := Go.Proofs.Tryz.f218.results.toList) Go.Proofs.Tryz.func218 (tysC_ok tys_ok rfl rfl) (Told.fnOk .nil rfl) (by kernel_rfl) (by decide) rfl (by decide) rfl rfl rfl (by kernel_rfl) (.cons L218[0] (by kernel_rfl) L218_2 .nil) (by kernel_rfl)

/- 208: slices.ContainsFunc[[]loop.example/g00380/impl.Value,loop.example/g00380/impl.Value] -/
noncomputable def F208 (a0 : List (D59)) (a1 : (D59 → Option (Bool))) : Option (Bool × Unit) :=
 (Option.bind (F218 a0 a1) fun y0 =>
 (some ((decide (y0.1 ≥ (0 : Int))), ())))

noncomputable def C208 : Fun := ⟨[(.ro (.slice Y59)), (.fn Y59 .bool)], [(.bool, .z)], fun z => F208 z.1 z.2.1⟩
noncomputable def E208 : Env := ⟨9, tyTab tys, oneTab ones, fnTab [(218, C218)], false, [], [(99999, [4], [])], none, []⟩
noncomputable def L208 : List (LoopS (Bool × Unit)) := []
theorem C208_ok : QuietOk Go.Proofs.Tryz.prog 208 C208 :=
  told (env := E208) (fn := Go.Proofs.Tryz.f208) (c := (codeOf Go.Proofs.Tryz.f208)) (tbl := L208) (ls := []) (vars := Go.Proofs.Tryz.f208.results.toList) Go.Proofs.Tryz.func208 (tysC_ok tys_ok rfl rfl) (Told.fnOk (.cons C218_ok .nil) rfl) (by kernel_rfl) (by decide) rfl (by decide) rfl rfl rfl (by kernel_rfl) .nil (by kernel_rfl)
abbrev G191 : Type := (D59) → (Int) → Option (Bool × Unit)
noncomputable def H191 (g : G191) : Fun := ⟨[(.ro Y59), (.ro (.int .i64))], [(.bool, .z)], fun z => g z.1 z.2.1⟩

/- 209: loop.example/g00380/impl.isRight$1 -/
noncomputable def B209 (g : G191) (a0 : D59) (a1 : Int) : Option (Bool × Unit) :=
 (Option.bind (g a0 (IntKind.wrap IntKind.i64 (a1 - (1 : Int)))) fun y0 =>
 (some ((!y0.1), ())))

noncomputable def K209 (g : G191) : Fun := ⟨[(.ro Y59), (.rp (.int .i64))], [(.bool, .z)], fun z => B209 g z.1 z.2.1⟩
noncomputable def E209 (g : G191) : Env := ⟨9, tyTab tys, oneTab ones, fnTab [(191, (H191 g))], false, [], [(99999, [3], [])], none, []⟩
noncomputable def L209 (g : G191) : List (LoopS (Bool × Unit)) := []
theorem K209_ok (g : G191) (hg : QuietOk Go.Proofs.Tryz.prog 191 (H191 g)) : QuietOk Go.Proofs.Tryz.prog 209 (K209 g) :=
  told (env := (E209 g)) (fn := Go.Proofs.Tryz.f209) (c := (codeOf Go.Proofs.Tryz.f209)) (tbl := (L209 g)) (ls := []) (vars := Go.Proofs.Tryz.f209.results.toList) Go.Proofs.Tryz.func209 (tysC_ok tys_ok rfl rfl) (Told.fnOk (.cons hg .nil) rfl) (by kernel_rfl) (by decide) rfl (by decide) rfl rfl rfl (by kernel_rfl) .nil (by kernel_rfl)

/- 191: loop.example/g00380/impl.isRight -/
noncomputable def B191 (g : G191) (a0 : D59) (a1 : Int) : Option (Bool × Unit) :=
 (let j8 : Unit → Option (Bool × Unit) := fun (y9 : Unit) =>
 (some (false, ()))
 (cond (a0.1 == (0 : Int))
 (some (((decide (a0.1 = (0 : Int))) && ((decide (a0.2.1 = (0 : Int))) && ((a0.2.2.1 == []) && true))), ()))
 (cond (a0.1 == (1 : Int))
 (Option.bind (F38 a0.2.1 (0 : Int) (1 : Int)) fun y1 =>
 (cond y1.1
 (some ((a0.2.2.1 == []), ()))
 (some (false, ()))))
 (cond (a0.1 == (2 : Int))
 (Option.bind (F206 a0.2.1) fun y2 =>
 (cond y2.1
 (some ((a0.2.2.1 == []), ()))
 (some (false, ()))))
 (cond (a0.1 == (3 : Int))
 (cond (a0.2.1 == (0 : Int))
 (some ((decide ((((List.length a0.2.2.1) : Nat) : Int) ≤ (300 : Int))), ()))
 (some (false, ())))
 (cond (a0.1 == (4 : Int))
 (cond (a0.1 == (4 : Int))
 (Option.bind (F207 a0) fun y4 =>
 (cond (a0.2.1 == (0 : Int))
 (cond (decide ((((List.length a0.2.2.1) : Nat) : Int) ≤ (300 : Int)))
 (cond (decide (a1 > (0 : Int)))
 (cond y4.2.1
 (Option.bind (F208 y4.1 (fun (v6 : D59) => (Option.map (fun (v7 : (Bool × Unit)) => v7.1) (B209 g v6 a1)))) fun y5 =>
 (some ((!y5.1), ())))
 (some (false, ())))
 (some (false, ())))
 (some (false, ())))
 (some (false, ()))))
 (j8 (())))
 (cond (a0.1 == (5 : Int))
 (Option.bind (F207 a0) fun y6 =>
 (cond (a0.2.1 == (0 : Int))
 (cond (decide ((((List.length a0.2.2.1) : Nat) : Int) ≤ (300 : Int)))
 (cond (decide (a1 > (0 : Int)))
 (cond y6.2.1
 (Option.bind (F208 y6.1 (fun (v6 : D59) => (Option.map (fun (v7 : (Bool × Unit)) => v7.1) (B209 g v6 a1)))) fun y7 =>
 (some ((!y7.1), ())))
 (some (false, ())))
 (some (false, ())))
 (some (false, ())))
 (some (false, ()))))
 (j8 (())))))))))

noncomputable def K191 (g : G191) : Fun := ⟨[(.ro Y59), (.ro (.int .i64))], [(.bool, .z)], fun z => B191 g z.1 z.2.1⟩
noncomputable def E191 (g : G191) : Env := ⟨75, tyTab tys, oneTab ones, fnTab [(38, C38), (206, C206), (207, C207), (208, C208), (209, (K209 g))], false, [], [(14, [], []), (100000, [], []), (99999, [4], [])], none, []⟩
noncomputable def L191 (g : G191) : List (LoopS (Bool × Unit)) := []
theorem K191_ok (g : G191) (hg : QuietOk Go.Proofs.Tryz.prog 191 (H191 g)) : QuietOk Go.Proofs.Tryz.prog 191 (K191 g) :=
  told (env := (E191 g)) (fn := Go.Proofs.Tryz.f191) (c := (codeOf Go.Proofs.Tryz.f191)) (tbl := (L191 g)) (ls := []) (vars := Go.Proofs.Tryz.f191.results.toList) Go.Proofs.Tryz.func191 (tysC_ok tys_ok rfl rfl) (Told.fnOk (.cons C38_ok (.cons C206_ok (.cons C207_ok (.cons C208_ok (.cons (K209_ok g hg) .nil))))) rfl) (by kernel_rfl) (by decide) rfl (by decide) rfl rfl rfl (by kernel_rfl) .nil (by kernel_rfl)

noncomputable def S191 : Nat → G191
  | 0 => fun _ _ => none
  | k + 1 => B191 (S191 k)
noncomputable def F191 : G191 := S191 fuel
noncomputable def C191 : Fun := H191 F191
theorem C191_all : ∀ k, QuietOk Go.Proofs.Tryz.prog 191 (H191 (S191 k))
  | 0 => QuietOk.none Go.Proofs.Tryz.func191 (by rfl) (by decide) fun _ => rfl
  | k + 1 => K191_ok (S191 k) (C191_all k)
theorem C191_ok : QuietOk Go.Proofs.Tryz.prog 191 C191 := C191_all fuel

/- 175: loop.example/g00380/impl.ValueOK -/
noncomputable def F175 (a0 : D59) : Option (Bool × Unit) :=
 (Option.bind (F191 a0 (5 : Int)) fun y0 =>
 (some (y0.1, ())))

noncomputable def C175 : Fun := ⟨[(.ro Y59)], [(.bool, .z)], fun z => F175 z.1⟩
noncomputable def E175 : Env := ⟨5, tyTab tys, oneTab ones, fnTab [(191, C191)], false, [], [(99999, [2], [])], none, []⟩
noncomputable def L175 : List (LoopS (Bool × Unit)) := []
theorem C175_ok : QuietOk Go.Proofs.Tryz.prog 175 C175 :=
  told (env := E175) (fn := Go.Proofs.Tryz.f175) (c := (codeOf Go.Proofs.Tryz.f175)) (tbl := L175) (ls := []) (vars := Go.Proofs.Tryz.f175.results.toList) Go.Proofs.Tryz.func175 (tysC_ok tys_ok rfl rfl) (Told.fnOk (.cons C191_ok .nil) rfl) (by kernel_rfl) (by decide) rfl (by decide) rfl rfl rfl (by kernel_rfl) .nil (by kernel_rfl)

/- 155: loop.example/g00380/impl.isDoc -/
noncomputable def F155 (a0 : D59) : Option (Bool × Unit) :=
 (cond (a0.1 == (5 : Int))
 (Option.bind (F175 a0) fun y0 =>
 (some (y0.1, ())))
 (some (false, ())))

noncomputable def C155 : Fun := ⟨[(.ro Y59)], [(.bool, .z)], fun z => F155 z.1⟩
noncomputable def E155 : Env := ⟨10, tyTab tys, oneTab ones, fnTab [(175, C175)], false, [], [(99999, [2], [])], none, []⟩
noncomputable def L155 : List (LoopS (Bool × Unit)) := []
theorem C155_ok : QuietOk Go.Proofs.Tryz.prog 155 C155 :=
  told (env := E155) (fn := Go.Proofs.Tryz.f155) (c := (codeOf Go.Proofs.Tryz.f155)) (tbl := L155) (ls := []) (vars := Go.Proofs.Tryz.f155.results.toList) Go.Proofs.Tryz.func155 (tysC_ok tys_ok rfl rfl) (Told.fnOk (.cons C175_ok .nil) rfl) (by kernel_rfl) (by decide) rfl (by decide) rfl rfl rfl (by kernel_rfl) .nil (by kernel_rfl)

/- 127: loop.example/g00380/impl.docOK -/
noncomputable def F127 (a0 : Bool) (a1 : D59) (a2 : Int) : Option (Bool × Unit) :=
 (cond a0
 (some (((decide (a1.1 = (0 : Int))) && ((decide (a1.2.1 = (0 : Int))) && ((a1.2.2.1 == []) && true))), ()))
 (Option.bind (F154 a1) fun y1 =>
 (Option.bind (F155 a1) fun y2 =>
 (cond y2.1
 (cond y1.2.1
 (some ((y1.1 == a2), ()))
 (some (false, ())))
 (some (false, ()))))))

noncomputable def C127 : Fun := ⟨[(.ro .bool), (.ro Y59), (.ro (.int .i64))], [(.bool, .z)], fun z => F127 z.1 z.2.1 z.2.2.1⟩
noncomputable def E127 : Env := ⟨28, tyTab tys, oneTab ones, fnTab [(154, C154), (155, C155)], false, [], [(3, [2, 4], []), (99999, [6], [])], none, []⟩
noncomputable def L127 : List (LoopS (Bool × Unit)) := []
theorem C127_ok : QuietOk Go.Proofs.Tryz.prog 127 C127 :=
  told (env := E127) (fn := Go.Proofs.Tryz.f127) (c := (codeOf Go.Proofs.Tryz.f127)) (tbl := L127) (ls := []) (vars := Go.Proofs.Tryz.f127.results.toList) Go.Proofs.Tryz.func127 (tysC_ok tys_ok rfl rfl) (Told.fnOk (.cons C154_ok (.cons C155_ok .nil)) rfl) (by kernel_rfl) (by decide) rfl (by decide) rfl rfl rfl (by kernel_rfl) .nil (by kernel_rfl)

/- 89: loop.example/g00380/impl.chainOK -/
noncomputable def F89_R2 (e0_0 : D57 × Unit → Option (Bool × Unit)) (er_1 : Bool × Unit → Option (Bool × Unit)) (rec : List (D61) × Int × Int × D57 × Unit → Option (Bool × Unit)) (x2 : List (D61) × Int × Int × D57 × Unit) : Option (Bool × Unit) :=
 (cond (decide (x2.2.2.1 < x2.2.1))
 (let j10 : List (D61) × Int × Int × D57 × Unit → Option (Bool × Unit) := fun (y11 : List (D61) × Int × Int × D57 × Unit) =>
 (rec (y11.1, y11.2.1, (IntKind.wrap IntKind.i64 (y11.2.2.1 + (1 : Int))), y11.2.2.2.1, ()))
 (gd (decide ((0 : Int) ≤ x2.2.2.1))
 (Option.bind x2.1[(Int.toNat x2.2.2.1)]? fun y5 =>
 (Option.bind (F94 y5.1) fun y6 =>
 (cond (!y6.1)
 (er_1 (false, ()))
 (cond (decide (x2.2.2.1 > (0 : Int)))
 (gd (decide ((0 : Int) ≤ (IntKind.wrap IntKind.i64 (x2.2.2.1 - (1 : Int)))))
 (Option.bind x2.2.2.2.1.2.1[(Int.toNat (IntKind.wrap IntKind.i64 (x2.2.2.1 - (1 : Int))))]? fun y7 =>
 (cond (decide (y7.1 ≥ y5.1))
 (er_1 (false, ()))
 (Option.bind (F127 y5.2.1 y5.2.2.1 x2.2.2.2.1.1) fun y8 =>
 (cond (!y8.1)
 (er_1 (false, ()))
 (j10 (x2.1, x2.2.1, x2.2.2.1, x2.2.2.2.1, ())))))))
 (Option.bind (F127 y5.2.1 y5.2.2.1 x2.2.2.2.1.1) fun y9 =>
 (cond (!y9.1)
 (er_1 (false, ()))
 (j10 (x2.1, x2.2.1, x2.2.2.1, x2.2.2.2.1, ()))))))))))
 (e0_0 (x2.2.2.2.1, ())))

noncomputable def F89 (a0 : D57) : Option (Bool × Unit) :=
 (iter (F89_R2
 (fun y12 =>
 (Option.bind (F38 y12.1.1 (0 : Int) (19 : Int)) fun y14 =>
 (cond y14.1
 (Option.bind (F38 (((List.length y12.1.2.1) : Nat) : Int) (1 : Int) (12 : Int)) fun y15 =>
 (some (y15.1, ())))
 (some (false, ())))))
 (fun y13 =>
 (some (y13.1, ())))) fuel (a0.2.1, (((List.length a0.2.1) : Nat) : Int), (0 : Int), a0, ()))

noncomputable def C89 : Fun := ⟨[(.ro Y57)], [(.bool, .z)], fun z => F89 z.1⟩
noncomputable def E89 : Env := ⟨53, tyTab tys, oneTab ones, fnTab [(38, C38), (94, C94), (127, C127)], false, [], [(2, [1, 6, 7, 8], []), (3, [1, 6, 7, 8], []), (6, [1, 6, 7, 8], []), (7, [1], []), (100000, [1], []), (100001, [1, 6, 7, 8], []), (99999, [2], [])], none, []⟩
noncomputable def L89 : List (LoopS (Bool × Unit)) := [⟨2, ⟨[(1, (.ptr 8 [])), (6, (.pv (.slice Y61))), (7, (.pv (.int .i64))), (8, (.pv (.int .i64)))], [(8, (.data true Y57 .z))]⟩, fun κ => F89_R2 (fun y => κ.exit 0 (SSh.mk' ⟨[(1, (.ptr 8 []))], [(8, (.data true Y57 .z))]⟩ y)) (fun y => κ.ret (SSh.mk' ⟨[(2, (.pv .bool))], []⟩ y))⟩]
theorem L89_2 : ∀ (κ : Kont (Bool × Unit)) (N : St → Option (Bool × Unit)) (x : (L89[0]).sh.den), execK E89 (lpOf L89) (nthLoop (codeOf Go.Proofs.Tryz.f89) 0) { κ with normal := fun σ => N (σ.keepAt (E89).hints 2) } ((L89[0]).sh.mk' x) = (L89[0]).R κ (fun x => N ((L89[0]).sh.mk' x)) x :=
  fun κ N x => by kernel_rfl
theorem C89_ok : QuietOk Go.Proofs.Tryz.prog 89 C89 :=
  told (env := E89) (fn := Go.Proofs.Tryz.f89) (c := (codeOf Go.Proofs.Tryz.f89)) (tbl := L89) (ls := [nthLoop (codeOf Go.Proofs.Tryz.f89) 0]) (vars := Go.Proofs.Tryz.f89.results.toList) Go.Proofs.Tryz.func89 (tysC_ok tys_ok rfl rfl) (Told.fnOk (.cons C38_ok (.cons C94_ok (.cons C127_ok .nil))) rfl) (by kernel_rfl) (by decide) rfl (by decide) rfl rfl rfl (by kernel_rfl) (.cons L89[0] (by kernel_rfl) L89_2 .nil) (by kernel_rfl)

/- 60: loop.example/g00380/impl.CollOK -/
noncomputable def F60_R2 (e0_0 : D54 × Unit → Option (Bool × Unit)) (er_1 : Bool × Unit → Option (Bool × Unit)) (rec : List (D132) × Int × Int × D54 × Unit → Option (Bool × Unit)) (x2 : List (D132) × Int × Int × D54 × Unit) : Option (Bool × Unit) :=
 (cond (decide (x2.2.2.1 < x2.2.1))
 (gd (decide ((0 : Int) ≤ x2.2.2.1))
 (Option.bind x2.1[(Int.toNat x2.2.2.1)]? fun y5 =>
 (Option.bind (F87 y5) fun y6 =>
 (cond (!y6.1)
 (er_1 (false, ()))
 (Option.bind (F88 x2.2.2.2.1 y5.1) fun y7 =>
 (cond (decide (y7.1 < x2.2.2.1))
 (er_1 (false, ()))
 (rec (x2.1, x2.2.1, (IntKind.wrap IntKind.i64 (x2.2.2.1 + (1 : Int))), x2.2.2.2.1, ()))))))))
 (e0_0 (x2.2.2.2.1, ())))

noncomputable def F60_R8 (e2_0 : D54 × Unit → Option (Bool × Unit)) (er_1 : Bool × Unit → Option (Bool × Unit)) (rec : List (D57) × Int × Int × D54 × Unit → Option (Bool × Unit)) (x12 : List (D57) × Int × Int × D54 × Unit) : Option (Bool × Unit) :=
 (cond (decide (x12.2.2.1 < x12.2.1))
 (let j18 : List (D57) × Int × Int × D54 × Unit → Option (Bool × Unit) := fun (y19 : List (D57) × Int × Int × D54 × Unit) =>
 (rec (y19.1, y19.2.1, (IntKind.wrap IntKind.i64 (y19.2.2.1 + (1 : Int))), y19.2.2.2.1, ()))
 (gd (decide ((0 : Int) ≤ x12.2.2.1))
 (Option.bind x12.1[(Int.toNat x12.2.2.1)]? fun y15 =>
 (Option.bind (F89 y15) fun y16 =>
 (cond (!y16.1)
 (er_1 (false, ()))
 (cond (decide (x12.2.2.1 > (0 : Int)))
 (gd (decide ((0 : Int) ≤ (IntKind.wrap IntKind.i64 (x12.2.2.1 - (1 : Int)))))
 (Option.bind x12.2.2.2.1.2.1[(Int.toNat (IntKind.wrap IntKind.i64 (x12.2.2.1 - (1 : Int))))]? fun y17 =>
 (cond (decide (y17.1 ≥ y15.1))
 (er_1 (false, ()))
 (j18 (x12.1, x12.2.1, x12.2.2.1, x12.2.2.2.1, ())))))
 (j18 (x12.1, x12.2.1, x12.2.2.1, x12.2.2.2.1, ()))))))))
 (e2_0 (x12.2.2.2.1, ())))

noncomputable def F60 (a0 : D54) : Option (Bool × Unit) :=
 (iter (F60_R2
 (fun y8 =>
 (iter (F60_R8
 (fun y20 =>
 (Option.bind (F90 y20.1.1) fun y22 =>
 (cond y22.1
 (some ((decide ((((List.length y20.1.2.2.1) : Nat) : Int) ≤ (3 : Int))), ()))
 (some (false, ())))))
 (fun y21 =>
 (some (y21.1, ())))) fuel (y8.1.2.1, (((List.length y8.1.2.1) : Nat) : Int), (0 : Int), y8.1, ())))
 (fun y9 =>
 (some (y9.1, ())))) fuel (a0.2.2.1, (((List.length a0.2.2.1) : Nat) : Int), (0 : Int), a0, ()))

noncomputable def C60 : Fun := ⟨[(.ro Y54)], [(.bool, .z)], fun z => F60 z.1⟩
noncomputable def E60 : Env := ⟨64, tyTab tys, oneTab ones, fnTab [(87, C87), (88, C88), (89, C89), (90, C90)], false, [], [(2, [1, 8, 9, 10], []), (3, [1, 8, 9, 10], []), (6, [1, 8, 9, 10], []), (7, [1], []), (8, [1, 28, 29, 30], []), (9, [1, 28, 29, 30], []), (12, [1, 28, 29, 30], []), (13, [1], []), (100000, [1], []), (100001, [1, 8, 9, 10], []), (100002, [1], []), (100003, [1, 28, 29, 30], []), (99999, [2], [])], none, []⟩
noncomputable def L60 : List (LoopS (Bool × Unit)) := [⟨2, ⟨[(1, (.ptr 8 [])), (8, (.pv (.slice Y132))), (9, (.pv (.int .i64))), (10, (.pv (.int .i64)))], [(8, (.data true Y54 .z))]⟩, fun κ => F60_R2 (fun y => κ.exit 0 (SSh.mk' ⟨[(1, (.ptr 8 []))], [(8, (.data true Y54 .z))]⟩ y)) (fun y => κ.ret (SSh.mk' ⟨[(2, (.pv .bool))], []⟩ y))⟩,
  ⟨8, ⟨[(1, (.ptr 8 [])), (28, (.pv (.slice Y57))), (29, (.pv (.int .i64))), (30, (.pv (.int .i64)))], [(8, (.data true Y54 .z))]⟩, fun κ => F60_R8 (fun y => κ.exit 2 (SSh.mk' ⟨[(1, (.ptr 8 []))], [(8, (.data true Y54 .z))]⟩ y)) (fun y => κ.ret (SSh.mk' ⟨[(2, (.pv .bool))], []⟩ y))⟩]
theorem L60_8 : ∀ (κ : Kont (Bool × Unit)) (N : St → Option (Bool × Unit)) (x : (L60[1]).sh.den), execK E60 (lpOf L60) (nthLoop (codeOf Go.Proofs.Tryz.f60) 1) { κ with normal := fun σ => N (σ.keepAt (E60).hints 8) } ((L60[1]).sh.mk' x) = (L60[1]).R κ (fun x => N ((L60[1]).sh.mk' x)) x :=
  fun κ N x => by kernel_rfl
theorem L60_2 : ∀ (κ : Kont (Bool × Unit)) (N : St → Option (Bool × Unit)) (x : (L60[0]).sh.den), execK E60 (lpOf L60) (nthLoop (codeOf Go.Proofs.Tryz.f60) 0) { κ with normal := fun σ => N (σ.keepAt (E60).hints 2) } ((L60[0]).sh.mk' x) = (L60[0]).R κ (fun x => N ((L60[0]).sh.mk' x)) x :=
  fun κ N x => by kernel_rfl
theorem C60_ok : QuietOk Go.Proofs.Tryz.prog 60 C60 :=
  told (env := E60) (fn := Go.Proofs.Tryz.f60) (c := (codeOf Go.Proofs.Tryz.f60)) (tbl := L60) (ls := [nthLoop (codeOf Go.Proofs.Tryz.f60) 0, nthLoop (codeOf Go.Proofs.Tryz.f60) 1]) (vars := Go.Proofs.Tryz.f60.results.toList) Go.Proofs.Tryz.func60 (tysC_ok tys_ok rfl rfl) (Told.fnOk (.cons C87_ok (.cons C88_ok (.cons C89_ok (.cons C90_ok .nil)))) rfl) (by kernel_rfl) (by decide) rfl (by decide) rfl rfl rfl (by kernel_rfl) (.cons L60[0] (by kernel_rfl) L60_2 (.cons L60[1] (by kernel_rfl) L60_8 .nil)) (by kernel_rfl)

/- 36: loop.example/g00380/impl.areColls -/
noncomputable def F36_R2 (e0_0 : List (D54) × Unit → Option (Bool × Unit)) (er_1 : Bool × Unit → Option (Bool × Unit)) (rec : List (D54) × List (D54) × Int × Int × Unit → Option (Bool × Unit)) (x2 : List (D54) × List (D54) × Int × Int × Unit) : Option (Bool × Unit) :=
 (cond (decide (x2.2.2.2.1 < x2.2.2.1))
 (let j8 : List (D54) × List (D54) × Int × Int × Unit → Option (Bool × Unit) := fun (y9 : List (D54) × List (D54) × Int × Int × Unit) =>
 (rec (y9.1, y9.2.1, y9.2.2.1, (IntKind.wrap IntKind.i64 (y9.2.2.2.1 + (1 : Int))), ()))
 (gd (decide ((0 : Int) ≤ x2.2.2.2.1))
 (Option.bind x2.2.1[(Int.toNat x2.2.2.2.1)]? fun y5 =>
 (Option.bind (F60 y5) fun y6 =>
 (cond (!y6.1)
 (er_1 (false, ()))
 (cond (decide (x2.2.2.2.1 > (0 : Int)))
 (gd (decide ((0 : Int) ≤ (IntKind.wrap IntKind.i64 (x2.2.2.2.1 - (1 : Int)))))
 (Option.bind x2.1[(Int.toNat (IntKind.wrap IntKind.i64 (x2.2.2.2.1 - (1 : Int))))]? fun y7 =>
 (cond (!(Op.bytesLess y7.1 y5.1))
 (er_1 (false, ()))
 (j8 (x2.1, x2.2.1, x2.2.2.1, x2.2.2.2.1, ())))))
 (j8 (x2.1, x2.2.1, x2.2.2.1, x2.2.2.2.1, ()))))))))
 (e0_0 (x2.1, ())))

noncomputable def F36 (a0 : List (D54)) : Option (Bool × Unit) :=
 (iter (F36_R2
 (fun y10 =>
 (some ((decide ((((List.length y10.1) : Nat) : Int) ≤ (3 : Int))), ())))
 (fun y11 =>
 (some (y11.1, ())))) fuel (a0, a0, (((List.length a0) : Nat) : Int), (0 : Int), ()))

noncomputable def C36 : Fun := ⟨[(.ro (.slice Y54))], [(.bool, .z)], fun z => F36 z.1⟩
noncomputable def E36 : Env := ⟨34, tyTab tys, oneTab ones, fnTab [(60, C60)], false, [], [(2, [0, 5, 6, 7], []), (3, [0, 5, 6, 7], []), (6, [0, 5, 6, 7], []), (7, [0], []), (100000, [0], []), (100001, [0, 5, 6, 7], []), (99999, [2], [])], none, []⟩
noncomputable def L36 : List (LoopS (Bool × Unit)) := [⟨2, ⟨[(0, (.pv (.slice Y54))), (5, (.pv (.slice Y54))), (6, (.pv (.int .i64))), (7, (.pv (.int .i64)))], []⟩, fun κ => F36_R2 (fun y => κ.exit 0 (SSh.mk' ⟨[(0, (.pv (.slice Y54)))], []⟩ y)) (fun y => κ.ret (SSh.mk' ⟨[(2, (.pv .bool))], []⟩ y))⟩]
theorem L36_2 : ∀ (κ : Kont (Bool × Unit)) (N : St → Option (Bool × Unit)) (x : (L36[0]).sh.den), execK E36 (lpOf L36) (nthLoop (codeOf Go.Proofs.Tryz.f36) 0) { κ with normal := fun σ => N (σ.keepAt (E36).hints 2) } ((L36[0]).sh.mk' x) = (L36[0]).R κ (fun x => N ((L36[0]).sh.mk' x)) x :=
  fun κ N x => by kernel_rfl
theorem C36_ok : QuietOk Go.Proofs.Tryz.prog 36 C36 :=
  told (env := E36) (fn := Go.Proofs.Tryz.f36) (c := (codeOf Go.Proofs.Tryz.f36)) (tbl := L36) (ls := [nthLoop (codeOf Go.Proofs.Tryz.f36) 0]) (vars := Go.Proofs.Tryz.f36.results.toList) Go.Proofs.Tryz.func36 (tysC_ok tys_ok rfl rfl) (Told.fnOk (.cons C60_ok .nil) rfl) (by kernel_rfl) (by decide) rfl (by decide) rfl rfl rfl (by kernel_rfl) (.cons L36[0] (by kernel_rfl) L36_2 .nil) (by kernel_rfl)

/- 129: slices.IndexFunc[[]loop.example/g00380/impl.Change,loop.example/g00380/impl.Change] -/
noncomputable def F129_R2 (e0_0 : Unit → Option (Int × Unit)) (er_1 : Int × Unit → Option (Int × Unit)) (rec : List (D145) × (D145 → Option (Bool)) × Int × Int × Unit → Option (Int × Unit)) (x2 : List (D145) × (D145 → Option (Bool)) × Int × Int × Unit) : Option (Int × Unit) :=
 (cond (decide (x2.2.2.2.1 < x2.2.2.1))
 (gd (decide ((0 : Int) ≤ x2.2.2.2.1))
 (Option.bind x2.1[(Int.toNat x2.2.2.2.1)]? fun y5 =>
 (Option.bind (x2.2.1 y5) fun y6 =>
 (cond y6
 (er_1 (x2.2.2.2.1, ()))
 (rec (x2.1, x2.2.1, x2.2.2.1, (IntKind.wrap IntKind.i64 (x2.2.2.2.1 + (1 : Int))), ()))))))
 (e0_0 (())))

noncomputable def F129 (a0 : List (D145)) (a1 : (D145 → Option (Bool))) : Option (Int × Unit) :=
 (iter (F129_R2
 (fun y7 =>
 (some ((-(1 : Int)), ())))
 (fun y8 =>
 (some (y8.1, ())))) fuel (a0, a1, (((List.length a0) : Nat) : Int), (0 : Int), ()))

noncomputable def C129 : Fun := ⟨[(.ro (.slice Y145)), (.fn Y145 .bool)], [((.int .i64), .z)], fun z => F129 z.1 z.2.1⟩
noncomputable def E129 : Env := ⟨19, tyTab tys, oneTab ones, fnTab [], false, [], [(2, [0, 1, 7, 8], []), (3, [0, 1, 7, 8], []), (6, [0, 1, 7, 8], []), (7, [], []), (100000, [], []), (100001, [0, 1, 7, 8], []), (99999, [4], [])], none, []⟩
noncomputable def L129 : List (LoopS (Int × Unit)) := [⟨2, ⟨[(0, (.pv (.slice Y145))), (1, (.fnA Y145 .bool)), (7, (.pv (.int .i64))), (8, (.pv (.int .i64)))], []⟩, fun κ => F129_R2 (fun y => κ.exit 0 (SSh.mk' ⟨[], []⟩ y)) (fun y => κ.ret (SSh.mk' ⟨[(4, (.pv (.int .i64)))], []⟩ y))⟩]
theorem L129_2 : ∀ (κ : Kont (Int × Unit)) (N : St → Option (Int × Unit)) (x : (L129[0]).sh.den), execK E129 (lpOf L129) (nthLoop (codeOf Go.Proofs.Tryz.f129) 0) { κ with normal := fun σ => N (σ.keepAt (E129).hints 2) } ((L129[0]).sh.mk' x) = (L129[0]).R κ (fun x => N ((L129[0]).sh.mk' x)) x :=
  fun κ N x => by kernel_rfl
theorem C129_ok : QuietOk Go.Proofs.Tryz.prog 129 C129 :=
  told (env := E129) (fn := Go.Proofs.Tryz.f129) (c := (codeOf Go.Proofs.Tryz.f129)) (tbl := L129) (ls := [nthLoop (codeOf Go.Proofs.Tryz.f129) 0]) (vars := Go.Proofs.Tryz.f129.results.toList) Go.Proofs.Tryz.func129 (tysC_ok tys_ok rfl rfl) (Told.fnOk .nil rfl) (by kernel_rfl) (by decide) rfl (by decide) rfl rfl rfl (by kernel_rfl) (.cons L129[0] (by kernel_rfl) L129_2 .nil) (by kernel_rfl)

/- 91: slices.ContainsFunc[[]loop.example/g00380/impl.Change,loop.example/g00380/impl.Change] -/
noncomputable def F91 (a0 : List (D145)) (a1 : (D145 → Option (Bool))) : Option (Bool × Unit) :=
 (Option.bind (F129 a0 a1) fun y0 =>
 (some ((decide (y0.1 ≥ (0 : Int))), ())))

noncomputable def C91 : Fun := ⟨[(.ro (.slice Y145)), (.fn Y145 .bool)], [(.bool, .z)], fun z => F91 z.1 z.2.1⟩
noncomputable def E91 : Env := ⟨9, tyTab tys, oneTab ones, fnTab [(129, C129)], false, [], [(99999, [4], [])], none, []⟩
noncomputable def L91 : List (LoopS (Bool × Unit)) := []
theorem C91_ok : QuietOk Go.Proofs.Tryz.prog 91 C91 :=
  told (env := E91) (fn := Go.Proofs.Tryz.f91) (c := (codeOf Go.Proofs.Tryz.f91)) (tbl := L91) (ls := []) (vars := Go.Proofs.Tryz.f91.results.toList) Go.Proofs.Tryz.func91 (tysC_ok tys_ok rfl rfl) (Told.fnOk (.cons C129_ok .nil) rfl) (by kernel_rfl) (by decide) rfl (by decide) rfl rfl rfl (by kernel_rfl) .nil (by kernel_rfl)

/- 93: loop.example/g00380/impl.sameDoc -/
noncomputable def F93 (a0 : D145) (a1 : D145) : Option (Bool × Unit) :=
 (cond (a0.1.1 == a1.1.1)
 (some ((a0.1.2.1 == a1.1.2.1), ()))
 (some (false, ())))

noncomputable def C93 : Fun := ⟨[(.ro Y145), (.ro Y145)], [(.bool, .z)], fun z => F93 z.1 z.2.1⟩
noncomputable def E93 : Env := ⟨21, tyTab tys, oneTab ones, fnTab [], false, [], [(99999, [4], [])], none, []⟩
noncomputable def L93 : List (LoopS (Bool × Unit)) := []
theorem C93_ok : QuietOk Go.Proofs.Tryz.prog 93 C93 :=
  told (env := E93) (fn := Go.Proofs.Tryz.f93) (c := (codeOf Go.Proofs.Tryz.f93)) (tbl := L93) (ls := []) (vars := Go.Proofs.Tryz.f93.results.toList) Go.Proofs.Tryz.func93 (tysC_ok tys_ok rfl rfl) (Told.fnOk .nil rfl) (by kernel_rfl) (by decide) rfl (by decide) rfl rfl rfl (by kernel_rfl) .nil (by kernel_rfl)

/- 92: loop.example/g00380/impl.DoneOK$1 -/
noncomputable def F92 (a0 : D145) (a1 : D145) : Option (Bool × Unit) :=
 (Option.bind (F93 a1 a0) fun y0 =>
 (some (y0.1, ())))

noncomputable def C92 : Fun := ⟨[(.ro Y145), (.rp Y145)], [(.bool, .z)], fun z => F92 z.1 z.2.1⟩
noncomputable def E92 : Env := ⟨7, tyTab tys, oneTab ones, fnTab [(93, C93)], false, [], [(99999, [3], [])], none, []⟩
noncomputable def L92 : List (LoopS (Bool × Unit)) := []
theorem C92_ok : QuietOk Go.Proofs.Tryz.prog 92 C92 :=
  told (env := E92) (fn := Go.Proofs.Tryz.f92) (c := (codeOf Go.Proofs.Tryz.f92)) (tbl := L92) (ls := []) (vars := Go.Proofs.Tryz.f92.results.toList) Go.Proofs.Tryz.func92 (tysC_ok tys_ok rfl rfl) (Told.fnOk (.cons C93_ok .nil) rfl) (by kernel_rfl) (by decide) rfl (by decide) rfl rfl rfl (by kernel_rfl) .nil (by kernel_rfl)

/- 158: slices.IndexFunc[[]loop.example/g00380/impl.Read,loop.example/g00380/impl.Read] -/
noncomputable def F158_R2 (e0_0 : Unit → Option (Int × Unit)) (er_1 : Int × Unit → Option (Int × Unit)) (rec : List (D110) × (D110 → Option (Bool)) × Int × Int × Unit → Option (Int × Unit)) (x2 : List (D110) × (D110 → Option (Bool)) × Int × Int × Unit) : Option (Int × Unit) :=
 (cond (decide (x2.2.2.2.1 < x2.2.2.1))
 (gd (decide ((0 : Int) ≤ x2.2.2.2.1))
 (Option.bind x2.1[(Int.toNat x2.2.2.2.1)]? fun y5 =>
 (Option.bind (x2.2.1 y5) fun y6 =>
 (cond y6
 (er_1 (x2.2.2.2.1, ()))
 (rec (x2.1, x2.2.1, x2.2.2.1, (IntKind.wrap IntKind.i64 (x2.2.2.2.1 + (1 : Int))), ()))))))
 (e0_0 (())))

noncomputable def F158 (a0 : List (D110)) (a1 : (D110 → Option (Bool))) : Option (Int × Unit) :=
 (iter (F158_R2
 (fun y7 =>
 (some ((-(1 : Int)), ())))
 (fun y8 =>
 (some (y8.1, ())))) fuel (a0, a1, (((List.length a0) : Nat) : Int), (0 : Int), ()))

noncomputable def C158 : Fun := ⟨[(.ro (.slice Y110)), (.fn Y110 .bool)], [((.int .i64), .z)], fun z => F158 z.1 z.2.1⟩
noncomputable def E158 : Env := ⟨19, tyTab tys, oneTab ones, fnTab [], false, [], [(2, [0, 1, 7, 8], []), (3, [0, 1, 7, 8], []), (6, [0, 1, 7, 8], []), (7, [], []), (100000, [], []), (100001, [0, 1, 7, 8], []), (99999, [4], [])], none, []⟩
noncomputable def L158 : List (LoopS (Int × Unit)) := [⟨2, ⟨[(0, (.pv (.slice Y110))), (1, (.fnA Y110 .bool)), (7, (.pv (.int .i64))), (8, (.pv (.int .i64)))], []⟩, fun κ => F158_R2 (fun y => κ.exit 0 (SSh.mk' ⟨[], []⟩ y)) (fun y => κ.ret (SSh.mk' ⟨[(4, (.pv (.int .i64)))], []⟩ y))⟩]
theorem L158_2 : ∀ (κ : Kont (Int × Unit)) (N : St → Option (Int × Unit)) (x : (L158[0]).sh.den), execK E158 (lpOf L158) (nthLoop (codeOf Go.Proofs.Tryz.f158) 0) { κ with normal := fun σ => N (σ.keepAt (E158).hints 2) } ((L158[0]).sh.mk' x) = (L158[0]).R κ (fun x => N ((L158[0]).sh.mk' x)) x :=
  fun κ N x => by kernel_rfl
theorem C158_ok : QuietOk Go.Proofs.Tryz.prog 158 C158 :=
  told (env := E158) (fn := Go.Proofs.Tryz.f158) (c := (codeOf Go.Proofs.Tryz.f158)) (tbl := L158) (ls := [nthLoop (codeOf Go.Proofs.Tryz.f158) 0]) (vars := Go.Proofs.Tryz.f158.results.toList) Go.Proofs.Tryz.func158 (tysC_ok tys_ok rfl rfl) (Told.fnOk .nil rfl) (by kernel_rfl) (by decide) rfl (by decide) rfl rfl rfl (by kernel_rfl) (.cons L158[0] (by kernel_rfl) L158_2 .nil) (by kernel_rfl)

/- 130: slices.ContainsFunc[[]loop.example/g00380/impl.Read,loop.example/g00380/impl.Read] -/
noncomputable def F130 (a0 : List (D110)) (a1 : (D110 → Option (Bool))) : Option (Bool × Unit) :=
 (Option.bind (F158 a0 a1) fun y0 =>
 (some ((decide (y0.1 ≥ (0 : Int))), ())))

noncomputable def C130 : Fun := ⟨[(.ro (.slice Y110)), (.fn Y110 .bool)], [(.bool, .z)], fun z => F130 z.1 z.2.1⟩
noncomputable def E130 : Env := ⟨9, tyTab tys, oneTab ones, fnTab [(158, C158)], false, [], [(99999, [4], [])], none, []⟩
noncomputable def L130 : List (LoopS (Bool × Unit)) := []
theorem C130_ok : QuietOk Go.Proofs.Tryz.prog 130 C130 :=
  told (env := E130) (fn := Go.Proofs.Tryz.f130) (c := (codeOf Go.Proofs.Tryz.f130)) (tbl := L130) (ls := []) (vars := Go.Proofs.Tryz.f130.results.toList) Go.Proofs.Tryz.func130 (tysC_ok tys_ok rfl rfl) (Told.fnOk (.cons C158_ok .nil) rfl) (by kernel_rfl) (by decide) rfl (by decide) rfl rfl rfl (by kernel_rfl) .nil (by kernel_rfl)

/- 192: slices.IndexFunc[[]loop.example/g00380/impl.Clause,loop.example/g00380/impl.Clause] -/
noncomputable def F192_R2 (e0_0 : Unit → Option (Int × Unit)) (er_1 : Int × Unit → Option (Int × Unit)) (rec : List (D186) × (D186 → Option (Bool)) × Int × Int × Unit → Option (Int × Unit)) (x2 : List (D186) × (D186 → Option (Bool)) × Int × Int × Unit) : Option (Int × Unit) :=
 (cond (decide (x2.2.2.2.1 < x2.2.2.1))
 (gd (decide ((0 : Int) ≤ x2.2.2.2.1))
 (Option.bind x2.1[(Int.toNat x2.2.2.2.1)]? fun y5 =>
 (Option.bind (x2.2.1 y5) fun y6 =>
 (cond y6
 (er_1 (x2.2.2.2.1, ()))
 (rec (x2.1, x2.2.1, x2.2.2.1, (IntKind.wrap IntKind.i64 (x2.2.2.2.1 + (1 : Int))), ()))))))
 (e0_0 (())))

noncomputable def F192 (a0 : List (D186)) (a1 : (D186 → Option (Bool))) : Option (Int × Unit) :=
 (iter (F192_R2
 (fun y7 =>
 (some ((-(1 : Int)), ())))
 (fun y8 =>
 (some (y8.1, ())))) fuel (a0, a1, (((List.length a0) : Nat) : Int), (0 : Int), ()))

noncomputable def C192 : Fun := ⟨[(.ro (.slice Y186)), (.fn Y186 .bool)], [((.int .i64), .z)], fun z => F192 z.1 z.2.1⟩
noncomputable def E192 : Env := ⟨19, tyTab tys, oneTab ones, fnTab [], false, [], [(2, [0, 1, 7, 8], []), (3, [0, 1, 7, 8], []), (6, [0, 1, 7, 8], []), (7, [], []), (100000, [], []), (100001, [0, 1, 7, 8], []), (99999, [4], [])], none, []⟩
noncomputable def L192 : List (LoopS (Int × Unit)) := [⟨2, ⟨[(0, (.pv (.slice Y186))), (1, (.fnA Y186 .bool)), (7, (.pv (.int .i64))), (8, (.pv (.int .i64)))], []⟩, fun κ => F192_R2 (fun y => κ.exit 0 (SSh.mk' ⟨[], []⟩ y)) (fun y => κ.ret (SSh.mk' ⟨[(4, (.pv (.int .i64)))], []⟩ y))⟩]
theorem L192_2 : ∀ (κ : Kont (Int × Unit)) (N : St → Option (Int × Unit)) (x : (L192[0]).sh.den), execK E192 (lpOf L192) (nthLoop (codeOf Go.Proofs.Tryz.f192) 0) { κ with normal := fun σ => N (σ.keepAt (E192).hints 2) } ((L192[0]).sh.mk' x) = (L192[0]).R κ (fun x => N ((L192[0]).sh.mk' x)) x :=
  fun κ N x => by kernel_rfl
theorem C192_ok : QuietOk Go.Proofs.Tryz.prog 192 C192 :=
  told (env := E192) (fn := Go.Proofs.Tryz.f192) (c := (codeOf Go.Proofs.Tryz.f192)) (tbl := L192) (ls := [nthLoop (codeOf Go.Proofs.Tryz.f192) 0]) (vars := Go.Proofs.Tryz.f192.results.toList) Go.Proofs.Tryz.func192 (tysC_ok tys_ok rfl rfl) (Told.fnOk .nil rfl) (by kernel_rfl) (by decide) rfl (by decide) rfl rfl rfl (by kernel_rfl) (.cons L192[0] (by kernel_rfl) L192_2 .nil) (by kernel_rfl)

/- 176: slices.ContainsFunc[[]loop.example/g00380/impl.Clause,loop.example/g00380/impl.Clause] -/
noncomputable def F176 (a0 : List (D186)) (a1 : (D186 → Option (Bool))) : Option (Bool × Unit) :=
 (Option.bind (F192 a0 a1) fun y0 =>
 (some ((decide (y0.1 ≥ (0 : Int))), ())))

noncomputable def C176 : Fun := ⟨[(.ro (.slice Y186)), (.fn Y186 .bool)], [(.bool, .z)], fun z => F176 z.1 z.2.1⟩
noncomputable def E176 : Env := ⟨9, tyTab tys, oneTab ones, fnTab [(192, C192)], false, [], [(99999, [4], [])], none, []⟩
noncomputable def L176 : List (LoopS (Bool × Unit)) := []
theorem C176_ok : QuietOk Go.Proofs.Tryz.prog 176 C176 :=
  told (env := E176) (fn := Go.Proofs.Tryz.f176) (c := (codeOf Go.Proofs.Tryz.f176)) (tbl := L176) (ls := []) (vars := Go.Proofs.Tryz.f176.results.toList) Go.Proofs.Tryz.func176 (tysC_ok tys_ok rfl rfl) (Told.fnOk (.cons C192_ok .nil) rfl) (by kernel_rfl) (by decide) rfl (by decide) rfl rfl rfl (by kernel_rfl) .nil (by kernel_rfl)

/- 193: slices.IndexFunc[[]loop.example/g00380/impl.Term,loop.example/g00380/impl.Term] -/
noncomputable def F193_R2 (e0_0 : Unit → Option (Int × Unit)) (er_1 : Int × Unit → Option (Int × Unit)) (rec : List (D189) × (D189 → Option (Bool)) × Int × Int × Unit → Option (Int × Unit)) (x2 : List (D189) × (D189 → Option (Bool)) × Int × Int × Unit) : Option (Int × Unit) :=
 (cond (decide (x2.2.2.2.1 < x2.2.2.1))
 (gd (decide ((0 : Int) ≤ x2.2.2.2.1))
 (Option.bind x2.1[(Int.toNat x2.2.2.2.1)]? fun y5 =>
 (Option.bind (x2.2.1 y5) fun y6 =>
 (cond y6
 (er_1 (x2.2.2.2.1, ()))
 (rec (x2.1, x2.2.1, x2.2.2.1, (IntKind.wrap IntKind.i64 (x2.2.2.2.1 + (1 : Int))), ()))))))
 (e0_0 (())))

noncomputable def F193 (a0 : List (D189)) (a1 : (D189 → Option (Bool))) : Option (Int × Unit) :=
 (iter (F193_R2
 (fun y7 =>
 (some ((-(1 : Int)), ())))
 (fun y8 =>
 (some (y8.1, ())))) fuel (a0, a1, (((List.length a0) : Nat) : Int), (0 : Int), ()))

noncomputable def C193 : Fun := ⟨[(.ro (.slice Y189)), (.fn Y189 .bool)], [((.int .i64), .z)], fun z => F193 z.1 z.2.1⟩
noncomputable def E193 : Env := ⟨19, tyTab tys, oneTab ones, fnTab [], false, [], [(2, [0, 1, 7, 8], []), (3, [0, 1, 7, 8], []), (6, [0, 1, 7, 8], []), (7, [], []), (100000, [], []), (100001, [0, 1, 7, 8], []), (99999, [4], [])], none, []⟩
noncomputable def L193 : List (LoopS (Int × Unit)) := [⟨2, ⟨[(0, (.pv (.slice Y189))), (1, (.fnA Y189 .bool)), (7, (.pv (.int .i64))), (8, (.pv (.int .i64)))], []⟩, fun κ => F193_R2 (fun y => κ.exit 0 (SSh.mk' ⟨[], []⟩ y)) (fun y => κ.ret (SSh.mk' ⟨[(4, (.pv (.int .i64)))], []⟩ y))⟩]
theorem L193_2 : ∀ (κ : Kont (Int × Unit)) (N : St → Option (Int × Unit)) (x : (L193[0]).sh.den), execK E193 (lpOf L193) (nthLoop (codeOf Go.Proofs.Tryz.f193) 0) { κ with normal := fun σ => N (σ.keepAt (E193).hints 2) } ((L193[0]).sh.mk' x) = (L193[0]).R κ (fun x => N ((L193[0]).sh.mk' x)) x :=
  fun κ N x => by kernel_rfl
theorem C193_ok : QuietOk Go.Proofs.Tryz.prog 193 C193 :=
  told (env := E193) (fn := Go.Proofs.Tryz.f193) (c := (codeOf Go.Proofs.Tryz.f193)) (tbl := L193) (ls := [nthLoop (codeOf Go.Proofs.Tryz.f193) 0]) (vars := Go.Proofs.Tryz.f193.results.toList) Go.Proofs.Tryz.func193 (tysC_ok tys_ok rfl rfl) (Told.fnOk .nil rfl) (by kernel_rfl) (by decide) rfl (by decide) rfl rfl rfl (by kernel_rfl) (.cons L193[0] (by kernel_rfl) L193_2 .nil) (by kernel_rfl)

/- 178: slices.ContainsFunc[[]loop.example/g00380/impl.Term,loop.example/g00380/impl.Term] -/
noncomputable def F178 (a0 : List (D189)) (a1 : (D189 → Option (Bool))) : Option (Bool × Unit) :=
 (Option.bind (F193 a0 a1) fun y0 =>
 (some ((decide (y0.1 ≥ (0 : Int))), ())))

noncomputable def C178 : Fun := ⟨[(.ro (.slice Y189)), (.fn Y189 .bool)], [(.bool, .z)], fun z => F178 z.1 z.2.1⟩
noncomputable def E178 : Env := ⟨9, tyTab tys, oneTab ones, fnTab [(193, C193)], false, [], [(99999, [4], [])], none, []⟩
noncomputable def L178 : List (LoopS (Bool × Unit)) := []
theorem C178_ok : QuietOk Go.Proofs.Tryz.prog 178 C178 :=
  told (env := E178) (fn := Go.Proofs.Tryz.f178) (c := (codeOf Go.Proofs.Tryz.f178)) (tbl := L178) (ls := []) (vars := Go.Proofs.Tryz.f178.results.toList) Go.Proofs.Tryz.func178 (tysC_ok tys_ok rfl rfl) (Told.fnOk (.cons C193_ok .nil) rfl) (by kernel_rfl) (by decide) rfl (by decide) rfl rfl rfl (by kernel_rfl) .nil (by kernel_rfl)

/- 180: loop.example/g00380/impl.TermOK -/
noncomputable def F180 (a0 : D189) : Option (Bool × Unit) :=
 (Option.bind (F153 a0.2.1) fun y1 =>
 (cond (!y1.1)
 (some (false, ()))
 (Option.bind (F175 a0.2.2.1) fun y2 =>
 (cond (!y2.1)
 (some (false, ()))
 (cond (a0.1 == (7 : Int))
 (some ((a0.2.2.1.1 == (4 : Int)), ()))
 (cond (a0.1 == (8 : Int))
 (some ((a0.2.2.1.1 == (1 : Int)), ()))
 (cond (a0.1 == (9 : Int))
 (cond (a0.2.2.1.1 == (2 : Int))
 (Option.bind (F38 a0.2.2.1.2.1 (0 : Int) (5 : Int)) fun y4 =>
 (some (y4.1, ())))
 (some (false, ())))
 (cond (a0.1 == (10 : Int))
 (cond (a0.2.2.1.1 == (2 : Int))
 (some ((decide (a0.2.2.1.2.1 ≥ (0 : Int))), ()))
 (some (false, ())))
 (Option.bind (F38 a0.1 (1 : Int) (6 : Int)) fun y5 =>
 (some (y5.1, ())))))))))))

noncomputable def C180 : Fun := ⟨[(.ro Y189)], [(.bool, .z)], fun z => F180 z.1⟩
noncomputable def E180 : Env := ⟨54, tyTab tys, oneTab ones, fnTab [(38, C38), (153, C153), (175, C175)], false, [], [(3, [1], []), (12, [1], []), (100000, [1], []), (99999, [2], [])], none, []⟩
noncomputable def L180 : List (LoopS (Bool × Unit)) := []
theorem C180_ok : QuietOk Go.Proofs.Tryz.prog 180 C180 :=
  told (env := E180) (fn := Go.Proofs.Tryz.f180) (c := (codeOf Go.Proofs.Tryz.f180)) (tbl := L180) (ls := []) (vars := Go.Proofs.Tryz.f180.results.toList) Go.Proofs.Tryz.func180 (tysC_ok tys_ok rfl rfl) (Told.fnOk (.cons C38_ok (.cons C153_ok (.cons C175_ok .nil))) rfl) (by kernel_rfl) (by decide) rfl (by decide) rfl rfl rfl (by kernel_rfl) .nil (by kernel_rfl)

/- 179: loop.example/g00380/impl.FilterOK$1$1 -/
noncomputable def F179 (a0 : D189) : Option (Bool × Unit) :=
 (Option.bind (F180 a0) fun y0 =>
 (some ((!y0.1), ())))

noncomputable def C179 : Fun := ⟨[(.ro Y189)], [(.bool, .z)], fun z => F179 z.1⟩
noncomputable def E179 : Env := ⟨6, tyTab tys, oneTab ones, fnTab [(180, C180)], false, [], [(99999, [2], [])], none, []⟩
noncomputable def L179 : List (LoopS (Bool × Unit)) := []
theorem C179_ok : QuietOk Go.Proofs.Tryz.prog 179 C179 :=
  told (env := E179) (fn := Go.Proofs.Tryz.f179) (c := (codeOf Go.Proofs.Tryz.f179)) (tbl := L179) (ls := []) (vars := Go.Proofs.Tryz.f179.results.toList) Go.Proofs.Tryz.func179 (tysC_ok tys_ok rfl rfl) (Told.fnOk (.cons C180_ok .nil) rfl) (by kernel_rfl) (by decide) rfl (by decide) rfl rfl rfl (by kernel_rfl) .nil (by kernel_rfl)

/- 177: loop.example/g00380/impl.FilterOK$1 -/
noncomputable def F177 (a0 : D186) : Option (Bool × Unit) :=
 (cond (decide ((((List.length a0.1) : Nat) : Int) > (4 : Int)))
 (some (true, ()))
 (Option.bind (F178 a0.1 (fun (v2 : D189) => (Option.map (fun (v3 : (Bool × Unit)) => v3.1) (F179 v2)))) fun y0 =>
 (some (y0.1, ()))))

noncomputable def C177 : Fun := ⟨[(.ro Y186)], [(.bool, .z)], fun z => F177 z.1⟩
noncomputable def E177 : Env := ⟨12, tyTab tys, oneTab ones, fnTab [(178, C178), (179, C179)], false, [], [(99999, [2], [])], none, []⟩
noncomputable def L177 : List (LoopS (Bool × Unit)) := []
theorem C177_ok : QuietOk Go.Proofs.Tryz.prog 177 C177 :=
  told (env := E177) (fn := Go.Proofs.Tryz.f177) (c := (codeOf Go.Proofs.Tryz.f177)) (tbl := L177) (ls := []) (vars := Go.Proofs.Tryz.f177.results.toList) Go.Proofs.Tryz.func177 (tysC_ok tys_ok rfl rfl) (Told.fnOk (.cons C178_ok (.cons C179_ok .nil)) rfl) (by kernel_rfl) (by decide) rfl (by decide) rfl rfl rfl (by kernel_rfl) .nil (by kernel_rfl)

/- 159: loop.example/g00380/impl.FilterOK -/
noncomputable def F159 (a0 : D108) : Option (Bool × Unit) :=
 (Option.bind (F38 (((List.length a0.1) : Nat) : Int) (1 : Int) (3 : Int)) fun y0 =>
 (cond y0.1
 (Option.bind (F176 a0.1 (fun (v3 : D186) => (Option.map (fun (v4 : (Bool × Unit)) => v4.1) (F177 v3)))) fun y1 =>
 (some ((!y1.1), ())))
 (some (false, ()))))

noncomputable def C159 : Fun := ⟨[(.ro Y108)], [(.bool, .z)], fun z => F159 z.1⟩
noncomputable def E159 : Env := ⟨13, tyTab tys, oneTab ones, fnTab [(38, C38), (176, C176), (177, C177)], false, [], [(99999, [2], [])], none, []⟩
noncomputable def L159 : List (LoopS (Bool × Unit)) := []
theorem C159_ok : QuietOk Go.Proofs.Tryz.prog 159 C159 :=
  told (env := E159) (fn := Go.Proofs.Tryz.f159) (c := (codeOf Go.Proofs.Tryz.f159)) (tbl := L159) (ls := []) (vars := Go.Proofs.Tryz.f159.results.toList) Go.Proofs.Tryz.func159 (tysC_ok tys_ok rfl rfl) (Told.fnOk (.cons C38_ok (.cons C176_ok (.cons C177_ok .nil))) rfl) (by kernel_rfl) (by decide) rfl (by decide) rfl rfl rfl (by kernel_rfl) .nil (by kernel_rfl)

/- 132: loop.example/g00380/impl.ReadOK -/
noncomputable def F132 (a0 : D110) : Option (Bool × Unit) :=
 (Option.bind (F90 a0.1) fun y0 =>
 (cond y0.1
 (Option.bind (F159 a0.2.1) fun y1 =>
 (some (y1.1, ())))
 (some (false, ()))))

noncomputable def C132 : Fun := ⟨[(.ro Y110)], [(.bool, .z)], fun z => F132 z.1⟩
noncomputable def E132 : Env := ⟨11, tyTab tys, oneTab ones, fnTab [(90, C90), (159, C159)], false, [], [(99999, [2], [])], none, []⟩
noncomputable def L132 : List (LoopS (Bool × Unit)) := []
theorem C132_ok : QuietOk Go.Proofs.Tryz.prog 132 C132 :=
  told (env := E132) (fn := Go.Proofs.Tryz.f132) (c := (codeOf Go.Proofs.Tryz.f132)) (tbl := L132) (ls := []) (vars := Go.Proofs.Tryz.f132.results.toList) Go.Proofs.Tryz.func132 (tysC_ok tys_ok rfl rfl) (Told.fnOk (.cons C90_ok (.cons C159_ok .nil)) rfl) (by kernel_rfl) (by decide) rfl (by decide) rfl rfl rfl (by kernel_rfl) .nil (by kernel_rfl)

/- 131: loop.example/g00380/impl.areReads$1 -/
noncomputable def F131 (a0 : D110) : Option (Bool × Unit) :=
 (Option.bind (F132 a0) fun y0 =>
 (some ((!y0.1), ())))

noncomputable def C131 : Fun := ⟨[(.ro Y110)], [(.bool, .z)], fun z => F131 z.1⟩
noncomputable def E131 : Env := ⟨6, tyTab tys, oneTab ones, fnTab [(132, C132)], false, [], [(99999, [2], [])], none, []⟩
noncomputable def L131 : List (LoopS (Bool × Unit)) := []
theorem C131_ok : QuietOk Go.Proofs.Tryz.prog 131 C131 :=
  told (env := E131) (fn := Go.Proofs.Tryz.f131) (c := (codeOf Go.Proofs.Tryz.f131)) (tbl := L131) (ls := []) (vars := Go.Proofs.Tryz.f131.results.toList) Go.Proofs.Tryz.func131 (tysC_ok tys_ok rfl rfl) (Told.fnOk (.cons C132_ok .nil) rfl) (by kernel_rfl) (by decide) rfl (by decide) rfl rfl rfl (by kernel_rfl) .nil (by kernel_rfl)

/- 95: loop.example/g00380/impl.areReads -/
noncomputable def F95 (a0 : List (D110)) : Option (Bool × Unit) :=
 (Option.bind (F130 a0 (fun (v2 : D110) => (Option.map (fun (v3 : (Bool × Unit)) => v3.1) (F131 v2)))) fun y0 =>
 (some ((!y0.1), ())))

noncomputable def C95 : Fun := ⟨[(.ro (.slice Y110))], [(.bool, .z)], fun z => F95 z.1⟩
noncomputable def E95 : Env := ⟨6, tyTab tys, oneTab ones, fnTab [(130, C130), (131, C131)], false, [], [(99999, [2], [])], none, []⟩
noncomputable def L95 : List (LoopS (Bool × Unit)) := []
theorem C95_ok : QuietOk Go.Proofs.Tryz.prog 95 C95 :=
  told (env := E95) (fn := Go.Proofs.Tryz.f95) (c := (codeOf Go.Proofs.Tryz.f95)) (tbl := L95) (ls := []) (vars := Go.Proofs.Tryz.f95.results.toList) Go.Proofs.Tryz.func95 (tysC_ok tys_ok rfl rfl) (Told.fnOk (.cons C130_ok (.cons C131_ok .nil)) rfl) (by kernel_rfl) (by decide) rfl (by decide) rfl rfl rfl (by kernel_rfl) .nil (by kernel_rfl)

/- 97: loop.example/g00380/impl.writeOK -/
noncomputable def F97 (a0 : D86) : Option (Bool × Unit) :=
 (Option.bind (F90 a0.1) fun y0 =>
 (cond y0.1
 (Option.bind (F38 a0.2.1 (0 : Int) (19 : Int)) fun y1 =>
 (cond y1.1
 (Option.bind (F127 a0.2.2.1 a0.2.2.2.1 a0.2.1) fun y2 =>
 (some (y2.1, ())))
 (some (false, ()))))
 (some (false, ()))))

noncomputable def C97 : Fun := ⟨[(.ro Y86)], [(.bool, .z)], fun z => F97 z.1⟩
noncomputable def E97 : Env := ⟨20, tyTab tys, oneTab ones, fnTab [(38, C38), (90, C90), (127, C127)], false, [], [(99999, [2], [])], none, []⟩
noncomputable def L97 : List (LoopS (Bool × Unit)) := []
theorem C97_ok : QuietOk Go.Proofs.Tryz.prog 97 C97 :=
  told (env := E97) (fn := Go.Proofs.Tryz.f97) (c := (codeOf Go.Proofs.Tryz.f97)) (tbl := L97) (ls := []) (vars := Go.Proofs.Tryz.f97.results.toList) Go.Proofs.Tryz.func97 (tysC_ok tys_ok rfl rfl) (Told.fnOk (.cons C38_ok (.cons C90_ok (.cons C127_ok .nil))) rfl) (by kernel_rfl) (by decide) rfl (by decide) rfl rfl rfl (by kernel_rfl) .nil (by kernel_rfl)

/- 134: loop.example/g00380/impl.changeOK -/
noncomputable def F134 (a0 : D145) : Option (Bool × Unit) :=
 (Option.bind (F97 a0.1) fun y0 =>
 (cond y0.1
 (Option.bind (F127 (!a0.2.2.1) a0.2.1 a0.1.2.1) fun y1 =>
 (some (y1.1, ())))
 (some (false, ()))))

noncomputable def C134 : Fun := ⟨[(.ro Y145)], [(.bool, .z)], fun z => F134 z.1⟩
noncomputable def E134 : Env := ⟨17, tyTab tys, oneTab ones, fnTab [(97, C97), (127, C127)], false, [], [(99999, [2], [])], none, []⟩
noncomputable def L134 : List (LoopS (Bool × Unit)) := []
theorem C134_ok : QuietOk Go.Proofs.Tryz.prog 134 C134 :=
  told (env := E134) (fn := Go.Proofs.Tryz.f134) (c := (codeOf Go.Proofs.Tryz.f134)) (tbl := L134) (ls := []) (vars := Go.Proofs.Tryz.f134.results.toList) Go.Proofs.Tryz.func134 (tysC_ok tys_ok rfl rfl) (Told.fnOk (.cons C97_ok (.cons C127_ok .nil)) rfl) (by kernel_rfl) (by decide) rfl (by decide) rfl rfl rfl (by kernel_rfl) .nil (by kernel_rfl)

/- 133: loop.example/g00380/impl.areChanges$1 -/
noncomputable def F133 (a0 : D145) : Option (Bool × Unit) :=
 (Option.bind (F134 a0) fun y0 =>
 (some ((!y0.1), ())))

noncomputable def C133 : Fun := ⟨[(.ro Y145)], [(.bool, .z)], fun z => F133 z.1⟩
noncomputable def E133 : Env := ⟨6, tyTab tys, oneTab ones, fnTab [(134, C134)], false, [], [(99999, [2], [])], none, []⟩
noncomputable def L133 : List (LoopS (Bool × Unit)) := []
theorem C133_ok : QuietOk Go.Proofs.Tryz.prog 133 C133 :=
  told (env := E133) (fn := Go.Proofs.Tryz.f133) (c := (codeOf Go.Proofs.Tryz.f133)) (tbl := L133) (ls := []) (vars := Go.Proofs.Tryz.f133.results.toList) Go.Proofs.Tryz.func133 (tysC_ok tys_ok rfl rfl) (Told.fnOk (.cons C134_ok .nil) rfl) (by kernel_rfl) (by decide) rfl (by decide) rfl rfl rfl (by kernel_rfl) .nil (by kernel_rfl)

/- 96: loop.example/g00380/impl.areChanges -/
noncomputable def F96 (a0 : List (D145)) : Option (Bool × Unit) :=
 (Option.bind (F91 a0 (fun (v2 : D145) => (Option.map (fun (v3 : (Bool × Unit)) => v3.1) (F133 v2)))) fun y0 =>
 (some ((!y0.1), ())))

noncomputable def C96 : Fun := ⟨[(.ro (.slice Y145))], [(.bool, .z)], fun z => F96 z.1⟩
noncomputable def E96 : Env := ⟨6, tyTab tys, oneTab ones, fnTab [(91, C91), (133, C133)], false, [], [(99999, [2], [])], none, []⟩
noncomputable def L96 : List (LoopS (Bool × Unit)) := []
theorem C96_ok : QuietOk Go.Proofs.Tryz.prog 96 C96 :=
  told (env := E96) (fn := Go.Proofs.Tryz.f96) (c := (codeOf Go.Proofs.Tryz.f96)) (tbl := L96) (ls := []) (vars := Go.Proofs.Tryz.f96.results.toList) Go.Proofs.Tryz.func96 (tysC_ok tys_ok rfl rfl) (Told.fnOk (.cons C91_ok (.cons C133_ok .nil)) rfl) (by kernel_rfl) (by decide) rfl (by decide) rfl rfl rfl (by kernel_rfl) .nil (by kernel_rfl)

/- 61: loop.example/g00380/impl.DoneOK -/
noncomputable def F61_R2 (e0_0 : D75 × Unit → Option (Bool × Unit)) (er_1 : Bool × Unit → Option (Bool × Unit)) (rec : List (D145) × Int × Int × D75 × Unit → Option (Bool × Unit)) (x2 : List (D145) × Int × Int × D75 × Unit) : Option (Bool × Unit) :=
 (cond (decide (x2.2.2.1 < x2.2.1))
 (gd (decide ((0 : Int) ≤ x2.2.2.1))
 (Option.bind x2.1[(Int.toNat x2.2.2.1)]? fun y5 =>
 (gd (decide ((0 : Int) ≤ x2.2.2.1))
 (gd (decide (x2.2.2.1 ≤ (((List.length x2.2.2.2.1.2.2.2.1) : Nat) : Int)))
 (Option.bind (F91 (List.drop (Int.toNat (0 : Int)) (List.take (Int.toNat x2.2.2.1) x2.2.2.2.1.2.2.2.1)) (fun (v9 : D145) => (Option.map (fun (v10 : (Bool × Unit)) => v10.1) (F92 v9 y5)))) fun y6 =>
 (cond y6.1
 (er_1 (false, ()))
 (rec (x2.1, x2.2.1, (IntKind.wrap IntKind.i64 (x2.2.2.1 + (1 : Int))), x2.2.2.2.1, ()))))))))
 (e0_0 (x2.2.2.2.1, ())))

noncomputable def F61 (a0 : D75) : Option (Bool × Unit) :=
 (iter (F61_R2
 (fun y7 =>
 (cond (decide (y7.1.1 ≥ (0 : Int)))
 (Option.bind (F94 y7.1.2.1) fun y9 =>
 (cond y9.1
 (cond (decide (y7.1.2.1 > y7.1.1))
 (cond (decide ((((List.length y7.1.2.2.1) : Nat) : Int) ≤ (20 : Int)))
 (cond (decide ((((List.length y7.1.2.2.2.1) : Nat) : Int) ≤ (60 : Int)))
 (Option.bind (F95 y7.1.2.2.1) fun y10 =>
 (cond y10.1
 (Option.bind (F96 y7.1.2.2.2.1) fun y11 =>
 (some (y11.1, ())))
 (some (false, ()))))
 (some (false, ())))
 (some (false, ())))
 (some (false, ())))
 (some (false, ()))))
 (some (false, ()))))
 (fun y8 =>
 (some (y8.1, ())))) fuel (a0.2.2.2.1, (((List.length a0.2.2.2.1) : Nat) : Int), (0 : Int), a0, ()))

noncomputable def C61 : Fun := ⟨[(.ro Y75)], [(.bool, .z)], fun z => F61 z.1⟩
noncomputable def E61 : Env := ⟨57, tyTab tys, oneTab ones, fnTab [(91, C91), (92, C92), (94, C94), (95, C95), (96, C96)], false, [], [(2, [1, 6, 7, 8], []), (3, [1, 6, 7, 8], []), (6, [1, 6, 7, 8], []), (7, [1], []), (100000, [1], []), (100001, [1, 6, 7, 8], []), (99999, [2], [])], none, []⟩
noncomputable def L61 : List (LoopS (Bool × Unit)) := [⟨2, ⟨[(1, (.ptr 8 [])), (6, (.pv (.slice Y145))), (7, (.pv (.int .i64))), (8, (.pv (.int .i64)))], [(8, (.data true Y75 .z))]⟩, fun κ => F61_R2 (fun y => κ.exit 0 (SSh.mk' ⟨[(1, (.ptr 8 []))], [(8, (.data true Y75 .z))]⟩ y)) (fun y => κ.ret (SSh.mk' ⟨[(2, (.pv .bool))], []⟩ y))⟩]
theorem L61_2 : ∀ (κ : Kont (Bool × Unit)) (N : St → Option (Bool × Unit)) (x : (L61[0]).sh.den), execK E61 (lpOf L61) (nthLoop (codeOf Go.Proofs.Tryz.f61) 0) { κ with normal := fun σ => N (σ.keepAt (E61).hints 2) } ((L61[0]).sh.mk' x) = (L61[0]).R κ (fun x => N ((L61[0]).sh.mk' x)) x :=
  fun κ N x => by kernel_rfl
theorem C61_ok : QuietOk Go.Proofs.Tryz.prog 61 C61 :=
  told (env := E61) (fn := Go.Proofs.Tryz.f61) (c := (codeOf Go.Proofs.Tryz.f61)) (tbl := L61) (ls := [nthLoop (codeOf Go.Proofs.Tryz.f61) 0]) (vars := Go.Proofs.Tryz.f61.results.toList) Go.Proofs.Tryz.func61 (tysC_ok tys_ok rfl rfl) (Told.fnOk (.cons C91_ok (.cons C92_ok (.cons C94_ok (.cons C95_ok (.cons C96_ok .nil))))) rfl) (by kernel_rfl) (by decide) rfl (by decide) rfl rfl rfl (by kernel_rfl) (.cons L61[0] (by kernel_rfl) L61_2 .nil) (by kernel_rfl)

end Go.V
