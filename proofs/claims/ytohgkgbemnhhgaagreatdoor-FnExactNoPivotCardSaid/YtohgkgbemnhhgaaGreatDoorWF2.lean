/- What functions of the program compute, printed by a program of ours. No condition. -/
import Derived.Test.YtohgkgbemnhhgaaGreatDoorWF1
namespace Go.V
open Go.Proofs
set_option maxRecDepth 100000
set_option linter.unusedVariables false

/- 32: loop.example/g00380/laws.toColl -/
noncomputable def F32 (a0 : D57) : Option (D57 × Unit) :=
 (Option.bind (F59 a0.2.1) fun y0 =>
 (Option.bind (F60 a0.2.2.1) fun y1 =>
 (some ((a0.1, (y0.1, (y1.1, ()))), ()))))

noncomputable def C32 : Fun := ⟨[(.ro Y57)], [(Y57, .z)], fun z => F32 z.1⟩
noncomputable def E32 : Env := ⟨16, tyTab tys, oneTab ones, fnTab [(59, C59), (60, C60)], false, [], [(99999, [2], [])], none, []⟩
noncomputable def L32 : List (LoopS (D57 × Unit)) := []
theorem C32_ok : QuietOk Tryz.prog 32 C32 :=
  told (env := E32) (fn := Tryz.f32) (c := (codeOf Tryz.f32)) (tbl := L32) (ls := []) (vars := Tryz.f32.results.toList) Tryz.func32 (tysC_ok tys_ok rfl rfl) (Told.fnOk (.cons C59_ok (.cons C60_ok .nil)) rfl) (by kernel_rfl) (by decide) rfl (by decide) rfl rfl rfl (by kernel_rfl) .nil (by kernel_rfl)

/- 14: loop.example/g00380/laws.toCollS -/
noncomputable def F14_R3 (e0_0 : List (D57) × Unit → Option (List (D57) × Unit)) (rec : List (D57) × Int × List (D57) × Unit → Option (List (D57) × Unit)) (x2 : List (D57) × Int × List (D57) × Unit) : Option (List (D57) × Unit) :=
 (cond (decide (x2.2.1 < (((List.length x2.1) : Nat) : Int)))
 (gd (decide ((0 : Int) ≤ x2.2.1))
 (Option.bind x2.1[(Int.toNat x2.2.1)]? fun y4 =>
 (Option.bind (F32 y4) fun y5 =>
 (gd (decide ((0 : Int) ≤ x2.2.1))
 (gd (decide (x2.2.1 < (((List.length x2.2.2.1) : Nat) : Int)))
 (Option.bind x2.2.2.1[(Int.toNat x2.2.1)]? fun y6 =>
 (rec (x2.1, (IntKind.wrap IntKind.i64 (x2.2.1 + (1 : Int))), (List.set x2.2.2.1 (Int.toNat x2.2.1) y5.1), ()))))))))
 (e0_0 (x2.2.2.1, ())))

noncomputable def F14 (a0 : List (D57)) : Option (List (D57) × Unit) :=
 (gd (decide ((((List.length a0) : Nat) : Int) ≤ ((4294967296 : Nat) : Int)))
 (gd (decide ((((List.length a0) : Nat) : Int) ≤ (((Int.toNat (((List.length a0) : Nat) : Int)) : Nat) : Int)))
 (iter (F14_R3
 (fun y7 =>
 (some (y7.1, ())))) fuel (a0, (0 : Int), (List.replicate (Int.toNat (((List.length a0) : Nat) : Int)) ([], ([], ([], ())))), ()))))

noncomputable def C14 : Fun := ⟨[(.ro (.slice Y57))], [((.slice Y57), .z)], fun z => F14 z.1⟩
noncomputable def E14 : Env := ⟨23, tyTab tys, oneTab ones, fnTab [(32, C32)], false, [], [(3, [0, 3, 4], []), (5, [0, 3, 4], []), (6, [3], []), (100000, [3], []), (100001, [0, 3, 4], []), (99999, [2], [])], none, []⟩
noncomputable def L14 : List (LoopS (List (D57) × Unit)) := [⟨3, ⟨[(0, (.pv (.slice Y57))), (3, (.ref (.slice Y57) 56 [])), (4, (.pv (.int .i64)))], [(56, (.data false (.slice Y57) (.own .z)))]⟩, fun κ => F14_R3 (fun y => κ.exit 0 (SSh.mk' ⟨[(3, (.ref (.slice Y57) 56 []))], [(56, (.data false (.slice Y57) (.own .z)))]⟩ y))⟩]
theorem L14_3 : ∀ (κ : Kont (List (D57) × Unit)) (N : St → Option (List (D57) × Unit)) (x : (L14[0]).sh.den), execK E14 (lpOf L14) (nthLoop (codeOf Tryz.f14) 0) { κ with normal := fun σ => N (σ.keepAt (E14).hints 3) } ((L14[0]).sh.mk' x) = (L14[0]).R κ (fun x => N ((L14[0]).sh.mk' x)) x :=
  fun κ N x => by kernel_rfl
theorem C14_ok : QuietOk Tryz.prog 14 C14 :=
  told (env := E14) (fn := Tryz.f14) (c := (codeOf Tryz.f14)) (tbl := L14) (ls := [nthLoop (codeOf Tryz.f14) 0]) (vars := Tryz.f14.results.toList) Tryz.func14 (tysC_ok tys_ok rfl rfl) (Told.fnOk (.cons C32_ok .nil) rfl) (by kernel_rfl) (by decide) rfl (by decide) rfl rfl rfl (by kernel_rfl) (.cons L14[0] (by kernel_rfl) L14_3 .nil) (by kernel_rfl)

/- 228: loop.example/g00380/laws.toTerm -/
noncomputable def F228 (a0 : D182) : Option (D182 × Unit) :=
 (Option.bind (F134 a0.2.2.1) fun y0 =>
 (some ((a0.1, (a0.2.1, (y0.1, ()))), ())))

noncomputable def C228 : Fun := ⟨[(.ro Y182)], [(Y182, .z)], fun z => F228 z.1⟩
noncomputable def E228 : Env := ⟨15, tyTab tys, oneTab ones, fnTab [(134, C134)], false, [], [(99999, [2], [])], none, []⟩
noncomputable def L228 : List (LoopS (D182 × Unit)) := []
theorem C228_ok : QuietOk Tryz.prog 228 C228 :=
  told (env := E228) (fn := Tryz.f228) (c := (codeOf Tryz.f228)) (tbl := L228) (ls := []) (vars := Tryz.f228.results.toList) Tryz.func228 (tysC_ok tys_ok rfl rfl) (Told.fnOk (.cons C134_ok .nil) rfl) (by kernel_rfl) (by decide) rfl (by decide) rfl rfl rfl (by kernel_rfl) .nil (by kernel_rfl)

/- 216: loop.example/g00380/laws.toTermS -/
noncomputable def F216_R3 (e0_0 : List (D182) × Unit → Option D163) (rec : List (D182) × Int × List (D182) × Unit → Option D163) (x2 : List (D182) × Int × List (D182) × Unit) : Option D163 :=
 (cond (decide (x2.2.1 < (((List.length x2.1) : Nat) : Int)))
 (gd (decide ((0 : Int) ≤ x2.2.1))
 (Option.bind x2.1[(Int.toNat x2.2.1)]? fun y4 =>
 (Option.bind (F228 y4) fun y5 =>
 (gd (decide ((0 : Int) ≤ x2.2.1))
 (gd (decide (x2.2.1 < (((List.length x2.2.2.1) : Nat) : Int)))
 (Option.bind x2.2.2.1[(Int.toNat x2.2.1)]? fun y6 =>
 (rec (x2.1, (IntKind.wrap IntKind.i64 (x2.2.1 + (1 : Int))), (List.set x2.2.2.1 (Int.toNat x2.2.1) y5.1), ()))))))))
 (e0_0 (x2.2.2.1, ())))

noncomputable def F216 (a0 : List (D182)) : Option D163 :=
 (gd (decide ((((List.length a0) : Nat) : Int) ≤ ((4294967296 : Nat) : Int)))
 (gd (decide ((((List.length a0) : Nat) : Int) ≤ (((Int.toNat (((List.length a0) : Nat) : Int)) : Nat) : Int)))
 (iter (F216_R3
 (fun y7 =>
 (some (y7.1, ())))) fuel (a0, (0 : Int), (List.replicate (Int.toNat (((List.length a0) : Nat) : Int)) ((0 : Int), ([], (((0 : Int), ((0 : Int), ([], ()))), ())))), ()))))

noncomputable def C216 : Fun := ⟨[(.ro (.slice Y182))], [((.slice Y182), .z)], fun z => F216 z.1⟩
noncomputable def E216 : Env := ⟨23, tyTab tys, oneTab ones, fnTab [(228, C228)], false, [], [(3, [0, 3, 4], []), (5, [0, 3, 4], []), (6, [3], []), (100000, [3], []), (100001, [0, 3, 4], []), (99999, [2], [])], none, []⟩
noncomputable def L216 : List (LoopS D163) := [⟨3, ⟨[(0, (.pv (.slice Y182))), (3, (.ref (.slice Y182) 56 [])), (4, (.pv (.int .i64)))], [(56, (.data false (.slice Y182) (.own .z)))]⟩, fun κ => F216_R3 (fun y => κ.exit 0 (SSh.mk' ⟨[(3, (.ref (.slice Y182) 56 []))], [(56, (.data false (.slice Y182) (.own .z)))]⟩ y))⟩]
theorem L216_3 : ∀ (κ : Kont D163) (N : St → Option D163) (x : (L216[0]).sh.den), execK E216 (lpOf L216) (nthLoop (codeOf Tryz.f216) 0) { κ with normal := fun σ => N (σ.keepAt (E216).hints 3) } ((L216[0]).sh.mk' x) = (L216[0]).R κ (fun x => N ((L216[0]).sh.mk' x)) x :=
  fun κ N x => by kernel_rfl
theorem C216_ok : QuietOk Tryz.prog 216 C216 :=
  told (env := E216) (fn := Tryz.f216) (c := (codeOf Tryz.f216)) (tbl := L216) (ls := [nthLoop (codeOf Tryz.f216) 0]) (vars := Tryz.f216.results.toList) Tryz.func216 (tysC_ok tys_ok rfl rfl) (Told.fnOk (.cons C228_ok .nil) rfl) (by kernel_rfl) (by decide) rfl (by decide) rfl rfl rfl (by kernel_rfl) (.cons L216[0] (by kernel_rfl) L216_3 .nil) (by kernel_rfl)

/- 196: loop.example/g00380/laws.toClause -/
noncomputable def F196 (a0 : D163) : Option (D163 × Unit) :=
 (Option.bind (F216 a0.1) fun y0 =>
 (some ((y0.1, ()), ())))

noncomputable def C196 : Fun := ⟨[(.ro Y163)], [(Y163, .z)], fun z => F196 z.1⟩
noncomputable def E196 : Env := ⟨9, tyTab tys, oneTab ones, fnTab [(216, C216)], false, [], [(99999, [2], [])], none, []⟩
noncomputable def L196 : List (LoopS (D163 × Unit)) := []
theorem C196_ok : QuietOk Tryz.prog 196 C196 :=
  told (env := E196) (fn := Tryz.f196) (c := (codeOf Tryz.f196)) (tbl := L196) (ls := []) (vars := Tryz.f196.results.toList) Tryz.func196 (tysC_ok tys_ok rfl rfl) (Told.fnOk (.cons C216_ok .nil) rfl) (by kernel_rfl) (by decide) rfl (by decide) rfl rfl rfl (by kernel_rfl) .nil (by kernel_rfl)

/- 169: loop.example/g00380/laws.toClauseS -/
noncomputable def F169_R3 (e0_0 : List (D163) × Unit → Option D91) (rec : List (D163) × Int × List (D163) × Unit → Option D91) (x2 : List (D163) × Int × List (D163) × Unit) : Option D91 :=
 (cond (decide (x2.2.1 < (((List.length x2.1) : Nat) : Int)))
 (gd (decide ((0 : Int) ≤ x2.2.1))
 (Option.bind x2.1[(Int.toNat x2.2.1)]? fun y4 =>
 (Option.bind (F196 y4) fun y5 =>
 (gd (decide ((0 : Int) ≤ x2.2.1))
 (gd (decide (x2.2.1 < (((List.length x2.2.2.1) : Nat) : Int)))
 (Option.bind x2.2.2.1[(Int.toNat x2.2.1)]? fun y6 =>
 (rec (x2.1, (IntKind.wrap IntKind.i64 (x2.2.1 + (1 : Int))), (List.set x2.2.2.1 (Int.toNat x2.2.1) y5.1), ()))))))))
 (e0_0 (x2.2.2.1, ())))

noncomputable def F169 (a0 : List (D163)) : Option D91 :=
 (gd (decide ((((List.length a0) : Nat) : Int) ≤ ((4294967296 : Nat) : Int)))
 (gd (decide ((((List.length a0) : Nat) : Int) ≤ (((Int.toNat (((List.length a0) : Nat) : Int)) : Nat) : Int)))
 (iter (F169_R3
 (fun y7 =>
 (some (y7.1, ())))) fuel (a0, (0 : Int), (List.replicate (Int.toNat (((List.length a0) : Nat) : Int)) ([], ())), ()))))

noncomputable def C169 : Fun := ⟨[(.ro (.slice Y163))], [((.slice Y163), .z)], fun z => F169 z.1⟩
noncomputable def E169 : Env := ⟨23, tyTab tys, oneTab ones, fnTab [(196, C196)], false, [], [(3, [0, 3, 4], []), (5, [0, 3, 4], []), (6, [3], []), (100000, [3], []), (100001, [0, 3, 4], []), (99999, [2], [])], none, []⟩
noncomputable def L169 : List (LoopS D91) := [⟨3, ⟨[(0, (.pv (.slice Y163))), (3, (.ref (.slice Y163) 56 [])), (4, (.pv (.int .i64)))], [(56, (.data false (.slice Y163) (.own .z)))]⟩, fun κ => F169_R3 (fun y => κ.exit 0 (SSh.mk' ⟨[(3, (.ref (.slice Y163) 56 []))], [(56, (.data false (.slice Y163) (.own .z)))]⟩ y))⟩]
theorem L169_3 : ∀ (κ : Kont D91) (N : St → Option D91) (x : (L169[0]).sh.den), execK E169 (lpOf L169) (nthLoop (codeOf Tryz.f169) 0) { κ with normal := fun σ => N (σ.keepAt (E169).hints 3) } ((L169[0]).sh.mk' x) = (L169[0]).R κ (fun x => N ((L169[0]).sh.mk' x)) x :=
  fun κ N x => by kernel_rfl
theorem C169_ok : QuietOk Tryz.prog 169 C169 :=
  told (env := E169) (fn := Tryz.f169) (c := (codeOf Tryz.f169)) (tbl := L169) (ls := [nthLoop (codeOf Tryz.f169) 0]) (vars := Tryz.f169.results.toList) Tryz.func169 (tysC_ok tys_ok rfl rfl) (Told.fnOk (.cons C196_ok .nil) rfl) (by kernel_rfl) (by decide) rfl (by decide) rfl rfl rfl (by kernel_rfl) (.cons L169[0] (by kernel_rfl) L169_3 .nil) (by kernel_rfl)

/- 133: loop.example/g00380/laws.toFilter -/
noncomputable def F133 (a0 : D91) : Option (D91 × Unit) :=
 (Option.bind (F169 a0.1) fun y0 =>
 (some ((y0.1, ()), ())))

noncomputable def C133 : Fun := ⟨[(.ro Y91)], [(Y91, .z)], fun z => F133 z.1⟩
noncomputable def E133 : Env := ⟨9, tyTab tys, oneTab ones, fnTab [(169, C169)], false, [], [(99999, [2], [])], none, []⟩
noncomputable def L133 : List (LoopS (D91 × Unit)) := []
theorem C133_ok : QuietOk Tryz.prog 133 C133 :=
  told (env := E133) (fn := Tryz.f133) (c := (codeOf Tryz.f133)) (tbl := L133) (ls := []) (vars := Tryz.f133.results.toList) Tryz.func133 (tysC_ok tys_ok rfl rfl) (Told.fnOk (.cons C169_ok .nil) rfl) (by kernel_rfl) (by decide) rfl (by decide) rfl rfl rfl (by kernel_rfl) .nil (by kernel_rfl)

/- 92: loop.example/g00380/laws.toRead -/
noncomputable def F92 (a0 : D93) : Option (D93 × Unit) :=
 (Option.bind (F133 a0.2.1) fun y0 =>
 (some ((a0.1, (y0.1, ())), ())))

noncomputable def C92 : Fun := ⟨[(.ro Y93)], [(Y93, .z)], fun z => F92 z.1⟩
noncomputable def E92 : Env := ⟨12, tyTab tys, oneTab ones, fnTab [(133, C133)], false, [], [(99999, [2], [])], none, []⟩
noncomputable def L92 : List (LoopS (D93 × Unit)) := []
theorem C92_ok : QuietOk Tryz.prog 92 C92 :=
  told (env := E92) (fn := Tryz.f92) (c := (codeOf Tryz.f92)) (tbl := L92) (ls := []) (vars := Tryz.f92.results.toList) Tryz.func92 (tysC_ok tys_ok rfl rfl) (Told.fnOk (.cons C133_ok .nil) rfl) (by kernel_rfl) (by decide) rfl (by decide) rfl rfl rfl (by kernel_rfl) .nil (by kernel_rfl)

/- 61: loop.example/g00380/laws.toReadS -/
noncomputable def F61_R3 (e0_0 : List (D93) × Unit → Option (List (D93) × Unit)) (rec : List (D93) × Int × List (D93) × Unit → Option (List (D93) × Unit)) (x2 : List (D93) × Int × List (D93) × Unit) : Option (List (D93) × Unit) :=
 (cond (decide (x2.2.1 < (((List.length x2.1) : Nat) : Int)))
 (gd (decide ((0 : Int) ≤ x2.2.1))
 (Option.bind x2.1[(Int.toNat x2.2.1)]? fun y4 =>
 (Option.bind (F92 y4) fun y5 =>
 (gd (decide ((0 : Int) ≤ x2.2.1))
 (gd (decide (x2.2.1 < (((List.length x2.2.2.1) : Nat) : Int)))
 (Option.bind x2.2.2.1[(Int.toNat x2.2.1)]? fun y6 =>
 (rec (x2.1, (IntKind.wrap IntKind.i64 (x2.2.1 + (1 : Int))), (List.set x2.2.2.1 (Int.toNat x2.2.1) y5.1), ()))))))))
 (e0_0 (x2.2.2.1, ())))

noncomputable def F61 (a0 : List (D93)) : Option (List (D93) × Unit) :=
 (gd (decide ((((List.length a0) : Nat) : Int) ≤ ((4294967296 : Nat) : Int)))
 (gd (decide ((((List.length a0) : Nat) : Int) ≤ (((Int.toNat (((List.length a0) : Nat) : Int)) : Nat) : Int)))
 (iter (F61_R3
 (fun y7 =>
 (some (y7.1, ())))) fuel (a0, (0 : Int), (List.replicate (Int.toNat (((List.length a0) : Nat) : Int)) ([], (([], ()), ()))), ()))))

noncomputable def C61 : Fun := ⟨[(.ro (.slice Y93))], [((.slice Y93), .z)], fun z => F61 z.1⟩
noncomputable def E61 : Env := ⟨23, tyTab tys, oneTab ones, fnTab [(92, C92)], false, [], [(3, [0, 3, 4], []), (5, [0, 3, 4], []), (6, [3], []), (100000, [3], []), (100001, [0, 3, 4], []), (99999, [2], [])], none, []⟩
noncomputable def L61 : List (LoopS (List (D93) × Unit)) := [⟨3, ⟨[(0, (.pv (.slice Y93))), (3, (.ref (.slice Y93) 56 [])), (4, (.pv (.int .i64)))], [(56, (.data false (.slice Y93) (.own .z)))]⟩, fun κ => F61_R3 (fun y => κ.exit 0 (SSh.mk' ⟨[(3, (.ref (.slice Y93) 56 []))], [(56, (.data false (.slice Y93) (.own .z)))]⟩ y))⟩]
theorem L61_3 : ∀ (κ : Kont (List (D93) × Unit)) (N : St → Option (List (D93) × Unit)) (x : (L61[0]).sh.den), execK E61 (lpOf L61) (nthLoop (codeOf Tryz.f61) 0) { κ with normal := fun σ => N (σ.keepAt (E61).hints 3) } ((L61[0]).sh.mk' x) = (L61[0]).R κ (fun x => N ((L61[0]).sh.mk' x)) x :=
  fun κ N x => by kernel_rfl
theorem C61_ok : QuietOk Tryz.prog 61 C61 :=
  told (env := E61) (fn := Tryz.f61) (c := (codeOf Tryz.f61)) (tbl := L61) (ls := [nthLoop (codeOf Tryz.f61) 0]) (vars := Tryz.f61.results.toList) Tryz.func61 (tysC_ok tys_ok rfl rfl) (Told.fnOk (.cons C92_ok .nil) rfl) (by kernel_rfl) (by decide) rfl (by decide) rfl rfl rfl (by kernel_rfl) (.cons L61[0] (by kernel_rfl) L61_3 .nil) (by kernel_rfl)

/- 93: loop.example/g00380/laws.toWrite -/
noncomputable def F93 (a0 : D87) : Option (D87 × Unit) :=
 (Option.bind (F134 a0.2.2.2.1) fun y0 =>
 (some ((a0.1, (a0.2.1, (a0.2.2.1, (y0.1, ())))), ())))

noncomputable def C93 : Fun := ⟨[(.ro Y87)], [(Y87, .z)], fun z => F93 z.1⟩
noncomputable def E93 : Env := ⟨18, tyTab tys, oneTab ones, fnTab [(134, C134)], false, [], [(99999, [2], [])], none, []⟩
noncomputable def L93 : List (LoopS (D87 × Unit)) := []
theorem C93_ok : QuietOk Tryz.prog 93 C93 :=
  told (env := E93) (fn := Tryz.f93) (c := (codeOf Tryz.f93)) (tbl := L93) (ls := []) (vars := Tryz.f93.results.toList) Tryz.func93 (tysC_ok tys_ok rfl rfl) (Told.fnOk (.cons C134_ok .nil) rfl) (by kernel_rfl) (by decide) rfl (by decide) rfl rfl rfl (by kernel_rfl) .nil (by kernel_rfl)

/- 62: loop.example/g00380/laws.toWriteS -/
noncomputable def F62_R3 (e0_0 : List (D87) × Unit → Option (List (D87) × Unit)) (rec : List (D87) × Int × List (D87) × Unit → Option (List (D87) × Unit)) (x2 : List (D87) × Int × List (D87) × Unit) : Option (List (D87) × Unit) :=
 (cond (decide (x2.2.1 < (((List.length x2.1) : Nat) : Int)))
 (gd (decide ((0 : Int) ≤ x2.2.1))
 (Option.bind x2.1[(Int.toNat x2.2.1)]? fun y4 =>
 (Option.bind (F93 y4) fun y5 =>
 (gd (decide ((0 : Int) ≤ x2.2.1))
 (gd (decide (x2.2.1 < (((List.length x2.2.2.1) : Nat) : Int)))
 (Option.bind x2.2.2.1[(Int.toNat x2.2.1)]? fun y6 =>
 (rec (x2.1, (IntKind.wrap IntKind.i64 (x2.2.1 + (1 : Int))), (List.set x2.2.2.1 (Int.toNat x2.2.1) y5.1), ()))))))))
 (e0_0 (x2.2.2.1, ())))

noncomputable def F62 (a0 : List (D87)) : Option (List (D87) × Unit) :=
 (gd (decide ((((List.length a0) : Nat) : Int) ≤ ((4294967296 : Nat) : Int)))
 (gd (decide ((((List.length a0) : Nat) : Int) ≤ (((Int.toNat (((List.length a0) : Nat) : Int)) : Nat) : Int)))
 (iter (F62_R3
 (fun y7 =>
 (some (y7.1, ())))) fuel (a0, (0 : Int), (List.replicate (Int.toNat (((List.length a0) : Nat) : Int)) ([], ((0 : Int), (false, (((0 : Int), ((0 : Int), ([], ()))), ()))))), ()))))

noncomputable def C62 : Fun := ⟨[(.ro (.slice Y87))], [((.slice Y87), .z)], fun z => F62 z.1⟩
noncomputable def E62 : Env := ⟨23, tyTab tys, oneTab ones, fnTab [(93, C93)], false, [], [(3, [0, 3, 4], []), (5, [0, 3, 4], []), (6, [3], []), (100000, [3], []), (100001, [0, 3, 4], []), (99999, [2], [])], none, []⟩
noncomputable def L62 : List (LoopS (List (D87) × Unit)) := [⟨3, ⟨[(0, (.pv (.slice Y87))), (3, (.ref (.slice Y87) 56 [])), (4, (.pv (.int .i64)))], [(56, (.data false (.slice Y87) (.own .z)))]⟩, fun κ => F62_R3 (fun y => κ.exit 0 (SSh.mk' ⟨[(3, (.ref (.slice Y87) 56 []))], [(56, (.data false (.slice Y87) (.own .z)))]⟩ y))⟩]
theorem L62_3 : ∀ (κ : Kont (List (D87) × Unit)) (N : St → Option (List (D87) × Unit)) (x : (L62[0]).sh.den), execK E62 (lpOf L62) (nthLoop (codeOf Tryz.f62) 0) { κ with normal := fun σ => N (σ.keepAt (E62).hints 3) } ((L62[0]).sh.mk' x) = (L62[0]).R κ (fun x => N ((L62[0]).sh.mk' x)) x :=
  fun κ N x => by kernel_rfl
theorem C62_ok : QuietOk Tryz.prog 62 C62 :=
  told (env := E62) (fn := Tryz.f62) (c := (codeOf Tryz.f62)) (tbl := L62) (ls := [nthLoop (codeOf Tryz.f62) 0]) (vars := Tryz.f62.results.toList) Tryz.func62 (tysC_ok tys_ok rfl rfl) (Told.fnOk (.cons C93_ok .nil) rfl) (by kernel_rfl) (by decide) rfl (by decide) rfl rfl rfl (by kernel_rfl) (.cons L62[0] (by kernel_rfl) L62_3 .nil) (by kernel_rfl)

/- 33: loop.example/g00380/laws.toTxn -/
noncomputable def F33 (a0 : D62) : Option (D62 × Unit) :=
 (Option.bind (F61 a0.2.2.1) fun y0 =>
 (Option.bind (F62 a0.2.2.2.1) fun y1 =>
 (some ((a0.1, (a0.2.1, (y0.1, (y1.1, ())))), ()))))

noncomputable def C33 : Fun := ⟨[(.ro Y62)], [(Y62, .z)], fun z => F33 z.1⟩
noncomputable def E33 : Env := ⟨19, tyTab tys, oneTab ones, fnTab [(61, C61), (62, C62)], false, [], [(99999, [2], [])], none, []⟩
noncomputable def L33 : List (LoopS (D62 × Unit)) := []
theorem C33_ok : QuietOk Tryz.prog 33 C33 :=
  told (env := E33) (fn := Tryz.f33) (c := (codeOf Tryz.f33)) (tbl := L33) (ls := []) (vars := Tryz.f33.results.toList) Tryz.func33 (tysC_ok tys_ok rfl rfl) (Told.fnOk (.cons C61_ok (.cons C62_ok .nil)) rfl) (by kernel_rfl) (by decide) rfl (by decide) rfl rfl rfl (by kernel_rfl) .nil (by kernel_rfl)

/- 15: loop.example/g00380/laws.toTxnS -/
noncomputable def F15_R3 (e0_0 : List (D62) × Unit → Option (List (D62) × Unit)) (rec : List (D62) × Int × List (D62) × Unit → Option (List (D62) × Unit)) (x2 : List (D62) × Int × List (D62) × Unit) : Option (List (D62) × Unit) :=
 (cond (decide (x2.2.1 < (((List.length x2.1) : Nat) : Int)))
 (gd (decide ((0 : Int) ≤ x2.2.1))
 (Option.bind x2.1[(Int.toNat x2.2.1)]? fun y4 =>
 (Option.bind (F33 y4) fun y5 =>
 (gd (decide ((0 : Int) ≤ x2.2.1))
 (gd (decide (x2.2.1 < (((List.length x2.2.2.1) : Nat) : Int)))
 (Option.bind x2.2.2.1[(Int.toNat x2.2.1)]? fun y6 =>
 (rec (x2.1, (IntKind.wrap IntKind.i64 (x2.2.1 + (1 : Int))), (List.set x2.2.2.1 (Int.toNat x2.2.1) y5.1), ()))))))))
 (e0_0 (x2.2.2.1, ())))

noncomputable def F15 (a0 : List (D62)) : Option (List (D62) × Unit) :=
 (gd (decide ((((List.length a0) : Nat) : Int) ≤ ((4294967296 : Nat) : Int)))
 (gd (decide ((((List.length a0) : Nat) : Int) ≤ (((Int.toNat (((List.length a0) : Nat) : Int)) : Nat) : Int)))
 (iter (F15_R3
 (fun y7 =>
 (some (y7.1, ())))) fuel (a0, (0 : Int), (List.replicate (Int.toNat (((List.length a0) : Nat) : Int)) ((0 : Int), ((0 : Int), ([], ([], ()))))), ()))))

noncomputable def C15 : Fun := ⟨[(.ro (.slice Y62))], [((.slice Y62), .z)], fun z => F15 z.1⟩
noncomputable def E15 : Env := ⟨23, tyTab tys, oneTab ones, fnTab [(33, C33)], false, [], [(3, [0, 3, 4], []), (5, [0, 3, 4], []), (6, [3], []), (100000, [3], []), (100001, [0, 3, 4], []), (99999, [2], [])], none, []⟩
noncomputable def L15 : List (LoopS (List (D62) × Unit)) := [⟨3, ⟨[(0, (.pv (.slice Y62))), (3, (.ref (.slice Y62) 56 [])), (4, (.pv (.int .i64)))], [(56, (.data false (.slice Y62) (.own .z)))]⟩, fun κ => F15_R3 (fun y => κ.exit 0 (SSh.mk' ⟨[(3, (.ref (.slice Y62) 56 []))], [(56, (.data false (.slice Y62) (.own .z)))]⟩ y))⟩]
theorem L15_3 : ∀ (κ : Kont (List (D62) × Unit)) (N : St → Option (List (D62) × Unit)) (x : (L15[0]).sh.den), execK E15 (lpOf L15) (nthLoop (codeOf Tryz.f15) 0) { κ with normal := fun σ => N (σ.keepAt (E15).hints 3) } ((L15[0]).sh.mk' x) = (L15[0]).R κ (fun x => N ((L15[0]).sh.mk' x)) x :=
  fun κ N x => by kernel_rfl
theorem C15_ok : QuietOk Tryz.prog 15 C15 :=
  told (env := E15) (fn := Tryz.f15) (c := (codeOf Tryz.f15)) (tbl := L15) (ls := [nthLoop (codeOf Tryz.f15) 0]) (vars := Tryz.f15.results.toList) Tryz.func15 (tysC_ok tys_ok rfl rfl) (Told.fnOk (.cons C33_ok .nil) rfl) (by kernel_rfl) (by decide) rfl (by decide) rfl rfl rfl (by kernel_rfl) (.cons L15[0] (by kernel_rfl) L15_3 .nil) (by kernel_rfl)

/- 94: loop.example/g00380/laws.toChange -/
noncomputable def F94 (a0 : D95) : Option (D95 × Unit) :=
 (Option.bind (F93 a0.1) fun y0 =>
 (Option.bind (F134 a0.2.1) fun y1 =>
 (some ((y0.1, (y1.1, (a0.2.2.1, ()))), ()))))

noncomputable def C94 : Fun := ⟨[(.ro Y95)], [(Y95, .z)], fun z => F94 z.1⟩
noncomputable def E94 : Env := ⟨16, tyTab tys, oneTab ones, fnTab [(93, C93), (134, C134)], false, [], [(99999, [2], [])], none, []⟩
noncomputable def L94 : List (LoopS (D95 × Unit)) := []
theorem C94_ok : QuietOk Tryz.prog 94 C94 :=
  told (env := E94) (fn := Tryz.f94) (c := (codeOf Tryz.f94)) (tbl := L94) (ls := []) (vars := Tryz.f94.results.toList) Tryz.func94 (tysC_ok tys_ok rfl rfl) (Told.fnOk (.cons C93_ok (.cons C134_ok .nil)) rfl) (by kernel_rfl) (by decide) rfl (by decide) rfl rfl rfl (by kernel_rfl) .nil (by kernel_rfl)

/- 63: loop.example/g00380/laws.toChangeS -/
noncomputable def F63_R3 (e0_0 : List (D95) × Unit → Option (List (D95) × Unit)) (rec : List (D95) × Int × List (D95) × Unit → Option (List (D95) × Unit)) (x2 : List (D95) × Int × List (D95) × Unit) : Option (List (D95) × Unit) :=
 (cond (decide (x2.2.1 < (((List.length x2.1) : Nat) : Int)))
 (gd (decide ((0 : Int) ≤ x2.2.1))
 (Option.bind x2.1[(Int.toNat x2.2.1)]? fun y4 =>
 (Option.bind (F94 y4) fun y5 =>
 (gd (decide ((0 : Int) ≤ x2.2.1))
 (gd (decide (x2.2.1 < (((List.length x2.2.2.1) : Nat) : Int)))
 (Option.bind x2.2.2.1[(Int.toNat x2.2.1)]? fun y6 =>
 (rec (x2.1, (IntKind.wrap IntKind.i64 (x2.2.1 + (1 : Int))), (List.set x2.2.2.1 (Int.toNat x2.2.1) y5.1), ()))))))))
 (e0_0 (x2.2.2.1, ())))

noncomputable def F63 (a0 : List (D95)) : Option (List (D95) × Unit) :=
 (gd (decide ((((List.length a0) : Nat) : Int) ≤ ((4294967296 : Nat) : Int)))
 (gd (decide ((((List.length a0) : Nat) : Int) ≤ (((Int.toNat (((List.length a0) : Nat) : Int)) : Nat) : Int)))
 (iter (F63_R3
 (fun y7 =>
 (some (y7.1, ())))) fuel (a0, (0 : Int), (List.replicate (Int.toNat (((List.length a0) : Nat) : Int)) (([], ((0 : Int), (false, (((0 : Int), ((0 : Int), ([], ()))), ())))), (((0 : Int), ((0 : Int), ([], ()))), (false, ())))), ()))))

noncomputable def C63 : Fun := ⟨[(.ro (.slice Y95))], [((.slice Y95), .z)], fun z => F63 z.1⟩
noncomputable def E63 : Env := ⟨23, tyTab tys, oneTab ones, fnTab [(94, C94)], false, [], [(3, [0, 3, 4], []), (5, [0, 3, 4], []), (6, [3], []), (100000, [3], []), (100001, [0, 3, 4], []), (99999, [2], [])], none, []⟩
noncomputable def L63 : List (LoopS (List (D95) × Unit)) := [⟨3, ⟨[(0, (.pv (.slice Y95))), (3, (.ref (.slice Y95) 56 [])), (4, (.pv (.int .i64)))], [(56, (.data false (.slice Y95) (.own .z)))]⟩, fun κ => F63_R3 (fun y => κ.exit 0 (SSh.mk' ⟨[(3, (.ref (.slice Y95) 56 []))], [(56, (.data false (.slice Y95) (.own .z)))]⟩ y))⟩]
theorem L63_3 : ∀ (κ : Kont (List (D95) × Unit)) (N : St → Option (List (D95) × Unit)) (x : (L63[0]).sh.den), execK E63 (lpOf L63) (nthLoop (codeOf Tryz.f63) 0) { κ with normal := fun σ => N (σ.keepAt (E63).hints 3) } ((L63[0]).sh.mk' x) = (L63[0]).R κ (fun x => N ((L63[0]).sh.mk' x)) x :=
  fun κ N x => by kernel_rfl
theorem C63_ok : QuietOk Tryz.prog 63 C63 :=
  told (env := E63) (fn := Tryz.f63) (c := (codeOf Tryz.f63)) (tbl := L63) (ls := [nthLoop (codeOf Tryz.f63) 0]) (vars := Tryz.f63.results.toList) Tryz.func63 (tysC_ok tys_ok rfl rfl) (Told.fnOk (.cons C94_ok .nil) rfl) (by kernel_rfl) (by decide) rfl (by decide) rfl rfl rfl (by kernel_rfl) (.cons L63[0] (by kernel_rfl) L63_3 .nil) (by kernel_rfl)

/- 34: loop.example/g00380/laws.toDone -/
noncomputable def F34 (a0 : D44) : Option (D44 × Unit) :=
 (Option.bind (F61 a0.2.2.1) fun y0 =>
 (Option.bind (F63 a0.2.2.2.1) fun y1 =>
 (some ((a0.1, (a0.2.1, (y0.1, (y1.1, (a0.2.2.2.2.1, (a0.2.2.2.2.2.1, ())))))), ()))))

noncomputable def C34 : Fun := ⟨[(.ro Y44)], [(Y44, .z)], fun z => F34 z.1⟩
noncomputable def E34 : Env := ⟨25, tyTab tys, oneTab ones, fnTab [(61, C61), (63, C63)], false, [], [(99999, [2], [])], none, []⟩
noncomputable def L34 : List (LoopS (D44 × Unit)) := []
theorem C34_ok : QuietOk Tryz.prog 34 C34 :=
  told (env := E34) (fn := Tryz.f34) (c := (codeOf Tryz.f34)) (tbl := L34) (ls := []) (vars := Tryz.f34.results.toList) Tryz.func34 (tysC_ok tys_ok rfl rfl) (Told.fnOk (.cons C61_ok (.cons C63_ok .nil)) rfl) (by kernel_rfl) (by decide) rfl (by decide) rfl rfl rfl (by kernel_rfl) .nil (by kernel_rfl)

/- 16: loop.example/g00380/laws.toDoneS -/
noncomputable def F16_R3 (e0_0 : List (D44) × Unit → Option (List (D44) × Unit)) (rec : List (D44) × Int × List (D44) × Unit → Option (List (D44) × Unit)) (x2 : List (D44) × Int × List (D44) × Unit) : Option (List (D44) × Unit) :=
 (cond (decide (x2.2.1 < (((List.length x2.1) : Nat) : Int)))
 (gd (decide ((0 : Int) ≤ x2.2.1))
 (Option.bind x2.1[(Int.toNat x2.2.1)]? fun y4 =>
 (Option.bind (F34 y4) fun y5 =>
 (gd (decide ((0 : Int) ≤ x2.2.1))
 (gd (decide (x2.2.1 < (((List.length x2.2.2.1) : Nat) : Int)))
 (Option.bind x2.2.2.1[(Int.toNat x2.2.1)]? fun y6 =>
 (rec (x2.1, (IntKind.wrap IntKind.i64 (x2.2.1 + (1 : Int))), (List.set x2.2.2.1 (Int.toNat x2.2.1) y5.1), ()))))))))
 (e0_0 (x2.2.2.1, ())))

noncomputable def F16 (a0 : List (D44)) : Option (List (D44) × Unit) :=
 (gd (decide ((((List.length a0) : Nat) : Int) ≤ ((4294967296 : Nat) : Int)))
 (gd (decide ((((List.length a0) : Nat) : Int) ≤ (((Int.toNat (((List.length a0) : Nat) : Int)) : Nat) : Int)))
 (iter (F16_R3
 (fun y7 =>
 (some (y7.1, ())))) fuel (a0, (0 : Int), (List.replicate (Int.toNat (((List.length a0) : Nat) : Int)) ((0 : Int), ((0 : Int), ([], ([], (false, (false, ()))))))), ()))))

noncomputable def C16 : Fun := ⟨[(.ro (.slice Y44))], [((.slice Y44), .z)], fun z => F16 z.1⟩
noncomputable def E16 : Env := ⟨23, tyTab tys, oneTab ones, fnTab [(34, C34)], false, [], [(3, [0, 3, 4], []), (5, [0, 3, 4], []), (6, [3], []), (100000, [3], []), (100001, [0, 3, 4], []), (99999, [2], [])], none, []⟩
noncomputable def L16 : List (LoopS (List (D44) × Unit)) := [⟨3, ⟨[(0, (.pv (.slice Y44))), (3, (.ref (.slice Y44) 56 [])), (4, (.pv (.int .i64)))], [(56, (.data false (.slice Y44) (.own .z)))]⟩, fun κ => F16_R3 (fun y => κ.exit 0 (SSh.mk' ⟨[(3, (.ref (.slice Y44) 56 []))], [(56, (.data false (.slice Y44) (.own .z)))]⟩ y))⟩]
theorem L16_3 : ∀ (κ : Kont (List (D44) × Unit)) (N : St → Option (List (D44) × Unit)) (x : (L16[0]).sh.den), execK E16 (lpOf L16) (nthLoop (codeOf Tryz.f16) 0) { κ with normal := fun σ => N (σ.keepAt (E16).hints 3) } ((L16[0]).sh.mk' x) = (L16[0]).R κ (fun x => N ((L16[0]).sh.mk' x)) x :=
  fun κ N x => by kernel_rfl
theorem C16_ok : QuietOk Tryz.prog 16 C16 :=
  told (env := E16) (fn := Tryz.f16) (c := (codeOf Tryz.f16)) (tbl := L16) (ls := [nthLoop (codeOf Tryz.f16) 0]) (vars := Tryz.f16.results.toList) Tryz.func16 (tysC_ok tys_ok rfl rfl) (Told.fnOk (.cons C34_ok .nil) rfl) (by kernel_rfl) (by decide) rfl (by decide) rfl rfl rfl (by kernel_rfl) (.cons L16[0] (by kernel_rfl) L16_3 .nil) (by kernel_rfl)

/- 6: loop.example/g00380/laws.toStore -/
noncomputable def F6 (a0 : D25) : Option (D25 × Unit) :=
 (Option.bind (F14 a0.1) fun y0 =>
 (Option.bind (F15 a0.2.1) fun y1 =>
 (Option.bind (F16 a0.2.2.1) fun y2 =>
 (some ((y0.1, (y1.1, (y2.1, (a0.2.2.2.1, ())))), ())))))

noncomputable def C6 : Fun := ⟨[(.ro Y25)], [(Y25, .z)], fun z => F6 z.1⟩
noncomputable def E6 : Env := ⟨20, tyTab tys, oneTab ones, fnTab [(14, C14), (15, C15), (16, C16)], false, [], [(99999, [2], [])], none, []⟩
noncomputable def L6 : List (LoopS (D25 × Unit)) := []
theorem C6_ok : QuietOk Tryz.prog 6 C6 :=
  told (env := E6) (fn := Tryz.f6) (c := (codeOf Tryz.f6)) (tbl := L6) (ls := []) (vars := Tryz.f6.results.toList) Tryz.func6 (tysC_ok tys_ok rfl rfl) (Told.fnOk (.cons C14_ok (.cons C15_ok (.cons C16_ok .nil))) rfl) (by kernel_rfl) (by decide) rfl (by decide) rfl rfl rfl (by kernel_rfl) .nil (by kernel_rfl)

/- 37: loop.example/g00380/impl.inRange -/
noncomputable def F37 (a0 : Int) (a1 : Int) (a2 : Int) : Option (Bool × Unit) :=
 (cond (decide (a1 ≤ a0))
 (some ((decide (a0 ≤ a2)), ()))
 (some (false, ())))

noncomputable def C37 : Fun := ⟨[(.ro (.int .i64)), (.ro (.int .i64)), (.ro (.int .i64))], [(.bool, .z)], fun z => F37 z.1 z.2.1 z.2.2.1⟩
noncomputable def E37 : Env := ⟨15, tyTab tys, oneTab ones, fnTab [], false, [], [(99999, [6], [])], none, []⟩
noncomputable def L37 : List (LoopS (Bool × Unit)) := []
theorem C37_ok : QuietOk Tryz.prog 37 C37 :=
  told (env := E37) (fn := Tryz.f37) (c := (codeOf Tryz.f37)) (tbl := L37) (ls := []) (vars := Tryz.f37.results.toList) Tryz.func37 (tysC_ok tys_ok rfl rfl) (Told.fnOk .nil rfl) (by kernel_rfl) (by decide) rfl (by decide) rfl rfl rfl (by kernel_rfl) .nil (by kernel_rfl)

/- 174: loop.example/g00380/impl.isLetter -/
noncomputable def F174 (a0 : Int) : Option (Bool × Unit) :=
 (cond (decide (a0 ≥ (97 : Int)))
 (cond (decide (a0 ≤ (122 : Int)))
 (some (true, ()))
 (cond (decide (a0 ≥ (65 : Int)))
 (cond (decide (a0 ≤ (90 : Int)))
 (some (true, ()))
 (some ((a0 == (95 : Int)), ())))
 (some ((a0 == (95 : Int)), ()))))
 (cond (decide (a0 ≥ (65 : Int)))
 (cond (decide (a0 ≤ (90 : Int)))
 (some (true, ()))
 (some ((a0 == (95 : Int)), ())))
 (some ((a0 == (95 : Int)), ()))))

noncomputable def C174 : Fun := ⟨[(.ro (.int .u8))], [(.bool, .z)], fun z => F174 z.1⟩
noncomputable def E174 : Env := ⟨21, tyTab tys, oneTab ones, fnTab [], false, [], [(99999, [2], [])], none, []⟩
noncomputable def L174 : List (LoopS (Bool × Unit)) := []
theorem C174_ok : QuietOk Tryz.prog 174 C174 :=
  told (env := E174) (fn := Tryz.f174) (c := (codeOf Tryz.f174)) (tbl := L174) (ls := []) (vars := Tryz.f174.results.toList) Tryz.func174 (tysC_ok tys_ok rfl rfl) (Told.fnOk .nil rfl) (by kernel_rfl) (by decide) rfl (by decide) rfl rfl rfl (by kernel_rfl) .nil (by kernel_rfl)

/- 175: loop.example/g00380/impl.isDigit -/
noncomputable def F175 (a0 : Int) : Option (Bool × Unit) :=
 (cond (decide (a0 ≥ (48 : Int)))
 (some ((decide (a0 ≤ (57 : Int))), ()))
 (some (false, ())))

noncomputable def C175 : Fun := ⟨[(.ro (.int .u8))], [(.bool, .z)], fun z => F175 z.1⟩
noncomputable def E175 : Env := ⟨9, tyTab tys, oneTab ones, fnTab [], false, [], [(99999, [2], [])], none, []⟩
noncomputable def L175 : List (LoopS (Bool × Unit)) := []
theorem C175_ok : QuietOk Tryz.prog 175 C175 :=
  told (env := E175) (fn := Tryz.f175) (c := (codeOf Tryz.f175)) (tbl := L175) (ls := []) (vars := Tryz.f175.results.toList) Tryz.func175 (tysC_ok tys_ok rfl rfl) (Told.fnOk .nil rfl) (by kernel_rfl) (by decide) rfl (by decide) rfl rfl rfl (by kernel_rfl) .nil (by kernel_rfl)

/- 141: loop.example/g00380/impl.NameOK -/
noncomputable def F141_R2 (e0_0 : List UInt8 × Unit → Option (Bool × Unit)) (er_1 : Bool × Unit → Option (Bool × Unit)) (rec : List UInt8 × Int × Int × Unit → Option (Bool × Unit)) (x2 : List UInt8 × Int × Int × Unit) : Option (Bool × Unit) :=
 (cond (decide (x2.2.2.1 < x2.2.1))
 (let j9 : List UInt8 × Int × Int × Unit → Option (Bool × Unit) := fun (y10 : List UInt8 × Int × Int × Unit) =>
 (rec (y10.1, y10.2.1, (IntKind.wrap IntKind.i64 (y10.2.2.1 + (1 : Int))), ()))
 (gd (decide ((0 : Int) ≤ x2.2.2.1))
 (Option.bind x2.1[(Int.toNat x2.2.2.1)]? fun y5 =>
 (Option.bind (F174 (((UInt8.toNat y5) : Nat) : Int)) fun y6 =>
 (cond (!y6.1)
 (gd (decide ((0 : Int) ≤ x2.2.2.1))
 (Option.bind x2.1[(Int.toNat x2.2.2.1)]? fun y7 =>
 (Option.bind (F175 (((UInt8.toNat y7) : Nat) : Int)) fun y8 =>
 (cond (!y8.1)
 (er_1 (false, ()))
 (cond (x2.2.2.1 == (0 : Int))
 (er_1 (false, ()))
 (j9 (x2.1, x2.2.1, x2.2.2.1, ())))))))
 (j9 (x2.1, x2.2.1, x2.2.2.1, ())))))))
 (e0_0 (x2.1, ())))

noncomputable def F141 (a0 : List UInt8) : Option (Bool × Unit) :=
 (iter (F141_R2
 (fun y11 =>
 (Option.bind (F37 (((List.length y11.1) : Nat) : Int) (1 : Int) (40 : Int)) fun y13 =>
 (some (y13.1, ()))))
 (fun y12 =>
 (some (y12.1, ())))) fuel (a0, (((List.length a0) : Nat) : Int), (0 : Int), ()))

noncomputable def C141 : Fun := ⟨[(.ro .str)], [(.bool, .z)], fun z => F141 z.1⟩
noncomputable def E141 : Env := ⟨29, tyTab tys, oneTab ones, fnTab [(37, C37), (174, C174), (175, C175)], false, [], [(2, [0, 5, 6], []), (3, [0, 5, 6], []), (6, [0, 5, 6], []), (7, [0], []), (100000, [0], []), (100001, [0, 5, 6], []), (99999, [2], [])], none, []⟩
noncomputable def L141 : List (LoopS (Bool × Unit)) := [⟨2, ⟨[(0, (.pv .str)), (5, (.pv (.int .i64))), (6, (.pv (.int .i64)))], []⟩, fun κ => F141_R2 (fun y => κ.exit 0 (SSh.mk' ⟨[(0, (.pv .str))], []⟩ y)) (fun y => κ.ret (SSh.mk' ⟨[(2, (.pv .bool))], []⟩ y))⟩]
theorem L141_2 : ∀ (κ : Kont (Bool × Unit)) (N : St → Option (Bool × Unit)) (x : (L141[0]).sh.den), execK E141 (lpOf L141) (nthLoop (codeOf Tryz.f141) 0) { κ with normal := fun σ => N (σ.keepAt (E141).hints 2) } ((L141[0]).sh.mk' x) = (L141[0]).R κ (fun x => N ((L141[0]).sh.mk' x)) x :=
  fun κ N x => by kernel_rfl
theorem C141_ok : QuietOk Tryz.prog 141 C141 :=
  told (env := E141) (fn := Tryz.f141) (c := (codeOf Tryz.f141)) (tbl := L141) (ls := [nthLoop (codeOf Tryz.f141) 0]) (vars := Tryz.f141.results.toList) Tryz.func141 (tysC_ok tys_ok rfl rfl) (Told.fnOk (.cons C37_ok (.cons C174_ok (.cons C175_ok .nil))) rfl) (by kernel_rfl) (by decide) rfl (by decide) rfl rfl rfl (by kernel_rfl) (.cons L141[0] (by kernel_rfl) L141_2 .nil) (by kernel_rfl)

/- 98: loop.example/g00380/impl.isShort -/
noncomputable def F98 (a0 : List UInt8) : Option (Bool × Unit) :=
 (cond (decide ((((List.length a0) : Nat) : Int) ≤ (12 : Int)))
 (Option.bind (F141 a0) fun y0 =>
 (some (y0.1, ())))
 (some (false, ())))

noncomputable def C98 : Fun := ⟨[(.ro .str)], [(.bool, .z)], fun z => F98 z.1⟩
noncomputable def E98 : Env := ⟨10, tyTab tys, oneTab ones, fnTab [(141, C141)], false, [], [(99999, [2], [])], none, []⟩
noncomputable def L98 : List (LoopS (Bool × Unit)) := []
theorem C98_ok : QuietOk Tryz.prog 98 C98 :=
  told (env := E98) (fn := Tryz.f98) (c := (codeOf Tryz.f98)) (tbl := L98) (ls := []) (vars := Tryz.f98.results.toList) Tryz.func98 (tysC_ok tys_ok rfl rfl) (Told.fnOk (.cons C141_ok .nil) rfl) (by kernel_rfl) (by decide) rfl (by decide) rfl rfl rfl (by kernel_rfl) .nil (by kernel_rfl)

/- 170: slices.IndexFunc[[]loop.example/g00380/impl.Part,loop.example/g00380/impl.Part] -/
noncomputable def F170_R2 (e0_0 : Unit → Option (Int × Unit)) (er_1 : Int × Unit → Option (Int × Unit)) (rec : List (D193) × (D193 → Option (Bool)) × Int × Int × Unit → Option (Int × Unit)) (x2 : List (D193) × (D193 → Option (Bool)) × Int × Int × Unit) : Option (Int × Unit) :=
 (cond (decide (x2.2.2.2.1 < x2.2.2.1))
 (gd (decide ((0 : Int) ≤ x2.2.2.2.1))
 (Option.bind x2.1[(Int.toNat x2.2.2.2.1)]? fun y5 =>
 (Option.bind (x2.2.1 y5) fun y6 =>
 (cond y6
 (er_1 (x2.2.2.2.1, ()))
 (rec (x2.1, x2.2.1, x2.2.2.1, (IntKind.wrap IntKind.i64 (x2.2.2.2.1 + (1 : Int))), ()))))))
 (e0_0 (())))

noncomputable def F170 (a0 : List (D193)) (a1 : (D193 → Option (Bool))) : Option (Int × Unit) :=
 (iter (F170_R2
 (fun y7 =>
 (some ((-(1 : Int)), ())))
 (fun y8 =>
 (some (y8.1, ())))) fuel (a0, a1, (((List.length a0) : Nat) : Int), (0 : Int), ()))

noncomputable def C170 : Fun := ⟨[(.ro (.slice Y193)), (.fn Y193 .bool)], [((.int .i64), .z)], fun z => F170 z.1 z.2.1⟩
noncomputable def E170 : Env := ⟨19, tyTab tys, oneTab ones, fnTab [], false, [], [(2, [0, 1, 7, 8], []), (3, [0, 1, 7, 8], []), (6, [0, 1, 7, 8], []), (7, [], []), (100000, [], []), (100001, [0, 1, 7, 8], []), (99999, [4], [])], none, []⟩
noncomputable def L170 : List (LoopS (Int × Unit)) := [⟨2, ⟨[(0, (.pv (.slice Y193))), (1, (.fnA Y193 .bool)), (7, (.pv (.int .i64))), (8, (.pv (.int .i64)))], []⟩, fun κ => F170_R2 (fun y => κ.exit 0 (SSh.mk' ⟨[], []⟩ y)) (fun y => κ.ret (SSh.mk' ⟨[(4, (.pv (.int .i64)))], []⟩ y))⟩]
theorem L170_2 : ∀ (κ : Kont (Int × Unit)) (N : St → Option (Int × Unit)) (x : (L170[0]).sh.den), execK E170 (lpOf L170) (nthLoop (codeOf Tryz.f170) 0) { κ with normal := fun σ => N (σ.keepAt (E170).hints 2) } ((L170[0]).sh.mk' x) = (L170[0]).R κ (fun x => N ((L170[0]).sh.mk' x)) x :=
  fun κ N x => by kernel_rfl
theorem C170_ok : QuietOk Tryz.prog 170 C170 :=
  told (env := E170) (fn := Tryz.f170) (c := (codeOf Tryz.f170)) (tbl := L170) (ls := [nthLoop (codeOf Tryz.f170) 0]) (vars := Tryz.f170.results.toList) Tryz.func170 (tysC_ok tys_ok rfl rfl) (Told.fnOk .nil rfl) (by kernel_rfl) (by decide) rfl (by decide) rfl rfl rfl (by kernel_rfl) (.cons L170[0] (by kernel_rfl) L170_2 .nil) (by kernel_rfl)

/- 135: slices.ContainsFunc[[]loop.example/g00380/impl.Part,loop.example/g00380/impl.Part] -/
noncomputable def F135 (a0 : List (D193)) (a1 : (D193 → Option (Bool))) : Option (Bool × Unit) :=
 (Option.bind (F170 a0 a1) fun y0 =>
 (some ((decide (y0.1 ≥ (0 : Int))), ())))

noncomputable def C135 : Fun := ⟨[(.ro (.slice Y193)), (.fn Y193 .bool)], [(.bool, .z)], fun z => F135 z.1 z.2.1⟩
noncomputable def E135 : Env := ⟨9, tyTab tys, oneTab ones, fnTab [(170, C170)], false, [], [(99999, [4], [])], none, []⟩
noncomputable def L135 : List (LoopS (Bool × Unit)) := []
theorem C135_ok : QuietOk Tryz.prog 135 C135 :=
  told (env := E135) (fn := Tryz.f135) (c := (codeOf Tryz.f135)) (tbl := L135) (ls := []) (vars := Tryz.f135.results.toList) Tryz.func135 (tysC_ok tys_ok rfl rfl) (Told.fnOk (.cons C170_ok .nil) rfl) (by kernel_rfl) (by decide) rfl (by decide) rfl rfl rfl (by kernel_rfl) .nil (by kernel_rfl)

/- 242: internal/stringslite.IndexByte -/
noncomputable def F242 (a0 : List UInt8) (a1 : Int) : Option (Int × Unit) :=
 (Option.bind (F252 a0 a1) fun y0 =>
 (some (y0.1, ())))

noncomputable def C242 : Fun := ⟨[(.ro .str), (.ro (.int .u8))], [((.int .i64), .z)], fun z => F242 z.1 z.2.1⟩
noncomputable def E242 : Env := ⟨8, tyTab tys, oneTab ones, fnTab [], false, [], [(99999, [4], [])], none, [(252, C252)]⟩
noncomputable def L242 : List (LoopS (Int × Unit)) := []
theorem C242_ok : QuietOk Tryz.prog 242 C242 :=
  told (env := E242) (fn := Tryz.f242) (c := (codeOf Tryz.f242)) (tbl := L242) (ls := []) (vars := Tryz.f242.results.toList) Tryz.func242 (tysC_ok tys_ok rfl rfl) (Told.fnOk .nil rfl (.cons C252_ok .nil)) (by kernel_rfl) (by decide) rfl (by decide) rfl rfl rfl (by kernel_rfl) .nil (by kernel_rfl)

/- 244: internal/bytealg.Cutover -/
noncomputable def F244 (a0 : Int) : Option (Int × Unit) :=
 (some ((IntKind.wrap IntKind.i64 (Int.tdiv (IntKind.wrap IntKind.i64 (a0 + (16 : Int))) (8 : Int))), ()))

noncomputable def C244 : Fun := ⟨[(.ro (.int .i64))], [((.int .i64), .z)], fun z => F244 z.1⟩
noncomputable def E244 : Env := ⟨6, tyTab tys, oneTab ones, fnTab [], false, [], [(99999, [2], [])], none, []⟩
noncomputable def L244 : List (LoopS (Int × Unit)) := []
theorem C244_ok : QuietOk Tryz.prog 244 C244 :=
  told (env := E244) (fn := Tryz.f244) (c := (codeOf Tryz.f244)) (tbl := L244) (ls := []) (vars := Tryz.f244.results.toList) Tryz.func244 (tysC_ok tys_ok rfl rfl) (Told.fnOk .nil rfl) (by kernel_rfl) (by decide) rfl (by decide) rfl rfl rfl (by kernel_rfl) .nil (by kernel_rfl)

/- 237: internal/stringslite.Index -/
noncomputable def F237 (a0 : List UInt8) (a1 : List UInt8) : Option (Int × Unit) :=
 (cond ((((List.length a1) : Nat) : Int) == (0 : Int))
 (some ((0 : Int), ()))
 (cond (a1 == a0)
 (some ((0 : Int), ()))
 (cond ((((List.length a1) : Nat) : Int) == (1 : Int))
 (Option.bind a1[(Int.toNat (0 : Int))]? fun y1 =>
 (Option.bind (F242 a0 (((UInt8.toNat y1) : Nat) : Int)) fun y2 =>
 (some (y2.1, ()))))
 (gd (decide ((((List.length a1) : Nat) : Int) ≥ (((List.length a0) : Nat) : Int)))
 (some ((-(1 : Int)), ()))))))

noncomputable def C237 : Fun := ⟨[(.ro .str), (.ro .str)], [((.int .i64), .z)], fun z => F237 z.1 z.2.1⟩
noncomputable def E237 : Env := ⟨143, tyTab tys, oneTab ones, fnTab [(242, C242), (244, C244)], false, [], [(10, [0, 1, 5], []), (15, [0, 1, 5, 6, 7, 8, 9, 10], []), (16, [0, 1, 5, 6, 7, 8, 9, 10], []), (20, [0, 1, 5, 6, 7, 8, 9, 10, 11], []), (21, [0, 1, 5, 6, 7, 8, 9, 10], []), (23, [0, 1, 5, 6, 7, 8, 9, 10], []), (29, [], []), (34, [8, 13], []), (35, [], []), (100000, [0, 1, 5], []), (100001, [], []), (100002, [0, 1, 5, 6, 7, 8, 9, 10], []), (99999, [4], [])], none, []⟩
noncomputable def L237 : List (LoopS (Int × Unit)) := []
theorem C237_ok : QuietOk Tryz.prog 237 C237 :=
  told (env := E237) (fn := Tryz.f237) (c := (codeOf Tryz.f237)) (tbl := L237) (ls := [nthLoop (codeOf Tryz.f237) 0]) (vars := Tryz.f237.results.toList) Tryz.func237 (tysC_ok tys_ok rfl rfl) (Told.fnOk (.cons C242_ok (.cons C244_ok .nil)) rfl) (by kernel_rfl) (by decide) rfl (by decide) rfl rfl rfl (by kernel_rfl) (.skip (by kernel_rfl) .nil) (by kernel_rfl)

/- 222: strings.Index -/
noncomputable def F222 (a0 : List UInt8) (a1 : List UInt8) : Option (Int × Unit) :=
 (Option.bind (F237 a0 a1) fun y0 =>
 (some (y0.1, ())))

noncomputable def C222 : Fun := ⟨[(.ro .str), (.ro .str)], [((.int .i64), .z)], fun z => F222 z.1 z.2.1⟩
noncomputable def E222 : Env := ⟨8, tyTab tys, oneTab ones, fnTab [(237, C237)], false, [], [(99999, [4], [])], none, []⟩
noncomputable def L222 : List (LoopS (Int × Unit)) := []
theorem C222_ok : QuietOk Tryz.prog 222 C222 :=
  told (env := E222) (fn := Tryz.f222) (c := (codeOf Tryz.f222)) (tbl := L222) (ls := []) (vars := Tryz.f222.results.toList) Tryz.func222 (tysC_ok tys_ok rfl rfl) (Told.fnOk (.cons C237_ok .nil) rfl) (by kernel_rfl) (by decide) rfl (by decide) rfl rfl rfl (by kernel_rfl) .nil (by kernel_rfl)

/- 221: strings.Count -/
noncomputable def F221_R6 (er_0 : Int × Unit → Option (Int × Unit)) (rec : List UInt8 × List UInt8 × Int × Unit → Option (Int × Unit)) (x5 : List UInt8 × List UInt8 × Int × Unit) : Option (Int × Unit) :=
 (Option.bind (F222 x5.1 x5.2.1) fun y6 =>
 (cond (y6.1 == (-(1 : Int)))
 (er_0 (x5.2.2.1, ()))
 (gd (decide ((((List.length x5.1) : Nat) : Int) ≤ (((List.length x5.1) : Nat) : Int)))
 (gd (decide ((0 : Int) ≤ (IntKind.wrap IntKind.i64 (y6.1 + (((List.length x5.2.1) : Nat) : Int)))))
 (gd (decide ((IntKind.wrap IntKind.i64 (y6.1 + (((List.length x5.2.1) : Nat) : Int))) ≤ (((Int.toNat (((List.length x5.1) : Nat) : Int)) : Nat) : Int)))
 (rec ((List.drop (Int.toNat (IntKind.wrap IntKind.i64 (y6.1 + (((List.length x5.2.1) : Nat) : Int)))) (List.take (Int.toNat (((List.length x5.1) : Nat) : Int)) x5.1)), x5.2.1, (IntKind.wrap IntKind.i64 (x5.2.2.1 + (1 : Int))), ())))))))

noncomputable def F221 (a0 : List UInt8) (a1 : List UInt8) : Option (Int × Unit) :=
 (cond ((((List.length a1) : Nat) : Int) == (0 : Int))
 none
 (cond ((((List.length a1) : Nat) : Int) == (1 : Int))
 (Option.bind a1[(Int.toNat (0 : Int))]? fun y2 =>
 (Option.bind (F236 a0 (((UInt8.toNat y2) : Nat) : Int)) fun y3 =>
 (some (y3.1, ()))))
 (iter (F221_R6
 (fun y8 =>
 (some (y8.1, ())))) fuel (a0, a1, (0 : Int), ()))))

noncomputable def C221 : Fun := ⟨[(.ro .str), (.ro .str)], [((.int .i64), .z)], fun z => F221 z.1 z.2.1⟩
noncomputable def E221 : Env := ⟨34, tyTab tys, oneTab ones, fnTab [(222, C222)], false, [], [(3, [0, 1], []), (5, [0, 1], []), (6, [0, 1, 5], []), (9, [0, 1, 5, 6], []), (100000, [], []), (100001, [0, 1, 5], []), (99999, [4], [])], none, [(236, C236)]⟩
noncomputable def L221 : List (LoopS (Int × Unit)) := [⟨6, ⟨[(0, (.pv .str)), (1, (.pv .str)), (5, (.pv (.int .i64)))], []⟩, fun κ => F221_R6 (fun y => κ.ret (SSh.mk' ⟨[(4, (.pv (.int .i64)))], []⟩ y))⟩]
theorem L221_6 : ∀ (κ : Kont (Int × Unit)) (N : St → Option (Int × Unit)) (x : (L221[0]).sh.den), execK E221 (lpOf L221) (nthLoop (codeOf Tryz.f221) 0) { κ with normal := fun σ => N (σ.keepAt (E221).hints 6) } ((L221[0]).sh.mk' x) = (L221[0]).R κ (fun x => N ((L221[0]).sh.mk' x)) x :=
  fun κ N x => by kernel_rfl
theorem C221_ok : QuietOk Tryz.prog 221 C221 :=
  told (env := E221) (fn := Tryz.f221) (c := (codeOf Tryz.f221)) (tbl := L221) (ls := [nthLoop (codeOf Tryz.f221) 0]) (vars := Tryz.f221.results.toList) Tryz.func221 (tysC_ok tys_ok rfl rfl) (Told.fnOk (.cons C222_ok .nil) rfl (.cons C236_ok .nil)) (by kernel_rfl) (by decide) rfl (by decide) rfl rfl rfl (by kernel_rfl) (.cons L221[0] (by kernel_rfl) L221_6 .nil) (by kernel_rfl)

/- 205: strings.genSplit -/
noncomputable def F205_R11 (e0_0 : List UInt8 × Int × List (List UInt8) × Unit → Option (List (List UInt8) × Unit)) (rec : List UInt8 × List UInt8 × Int × Int × Int × List (List UInt8) × Unit → Option (List (List UInt8) × Unit)) (x8 : List UInt8 × List UInt8 × Int × Int × Int × List (List UInt8) × Unit) : Option (List (List UInt8) × Unit) :=
 (cond (decide (x8.2.2.2.2.1 < x8.2.2.2.1))
 (Option.bind (F222 x8.1 x8.2.1) fun y10 =>
 (cond (decide (y10.1 < (0 : Int)))
 (e0_0 (x8.1, x8.2.2.2.2.1, x8.2.2.2.2.2.1, ()))
 (gd (decide ((0 : Int) ≤ (IntKind.wrap IntKind.i64 (y10.1 + x8.2.2.1))))
 (gd (decide ((IntKind.wrap IntKind.i64 (y10.1 + x8.2.2.1)) ≤ (((List.length x8.1) : Nat) : Int)))
 (gd (decide ((0 : Int) ≤ x8.2.2.2.2.1))
 (gd (decide (x8.2.2.2.2.1 < (((List.length x8.2.2.2.2.2.1) : Nat) : Int)))
 (Option.bind x8.2.2.2.2.2.1[(Int.toNat x8.2.2.2.2.1)]? fun y12 =>
 (gd (decide ((((List.length x8.1) : Nat) : Int) ≤ (((List.length x8.1) : Nat) : Int)))
 (gd (decide ((0 : Int) ≤ (IntKind.wrap IntKind.i64 (y10.1 + (((List.length x8.2.1) : Nat) : Int)))))
 (gd (decide ((IntKind.wrap IntKind.i64 (y10.1 + (((List.length x8.2.1) : Nat) : Int))) ≤ (((Int.toNat (((List.length x8.1) : Nat) : Int)) : Nat) : Int)))
 (rec ((List.drop (Int.toNat (IntKind.wrap IntKind.i64 (y10.1 + (((List.length x8.2.1) : Nat) : Int)))) (List.take (Int.toNat (((List.length x8.1) : Nat) : Int)) x8.1)), x8.2.1, x8.2.2.1, x8.2.2.2.1, (IntKind.wrap IntKind.i64 (x8.2.2.2.2.1 + (1 : Int))), (List.set x8.2.2.2.2.2.1 (Int.toNat x8.2.2.2.2.1) (List.drop (Int.toNat (0 : Int)) (List.take (Int.toNat (IntKind.wrap IntKind.i64 (y10.1 + x8.2.2.1))) x8.1))), ()))))))))))))
 (e0_0 (x8.1, x8.2.2.2.2.1, x8.2.2.2.2.2.1, ())))

noncomputable def F205 (a0 : List UInt8) (a1 : List UInt8) (a2 : Int) (a3 : Int) : Option (List (List UInt8) × Unit) :=
 (cond (a3 == (0 : Int))
 (some ([], ()))
 (cond (a1 == [])
 none
 (let j4 : List UInt8 × List UInt8 × Int × Int × Unit → Option (List (List UInt8) × Unit) := fun (y5 : List UInt8 × List UInt8 × Int × Int × Unit) =>
 (gd (decide ((0 : Int) ≤ (cond (decide ((IntKind.wrap IntKind.i64 ((((List.length y5.1) : Nat) : Int) + (1 : Int))) < y5.2.2.2.1)) (IntKind.wrap IntKind.i64 ((((List.length y5.1) : Nat) : Int) + (1 : Int))) y5.2.2.2.1)))
 (gd (decide ((cond (decide ((IntKind.wrap IntKind.i64 ((((List.length y5.1) : Nat) : Int) + (1 : Int))) < y5.2.2.2.1)) (IntKind.wrap IntKind.i64 ((((List.length y5.1) : Nat) : Int) + (1 : Int))) y5.2.2.2.1) ≤ ((4294967296 : Nat) : Int)))
 (gd (decide ((0 : Int) ≤ (cond (decide ((IntKind.wrap IntKind.i64 ((((List.length y5.1) : Nat) : Int) + (1 : Int))) < y5.2.2.2.1)) (IntKind.wrap IntKind.i64 ((((List.length y5.1) : Nat) : Int) + (1 : Int))) y5.2.2.2.1)))
 (gd (decide ((cond (decide ((IntKind.wrap IntKind.i64 ((((List.length y5.1) : Nat) : Int) + (1 : Int))) < y5.2.2.2.1)) (IntKind.wrap IntKind.i64 ((((List.length y5.1) : Nat) : Int) + (1 : Int))) y5.2.2.2.1) ≤ (((Int.toNat (cond (decide ((IntKind.wrap IntKind.i64 ((((List.length y5.1) : Nat) : Int) + (1 : Int))) < y5.2.2.2.1)) (IntKind.wrap IntKind.i64 ((((List.length y5.1) : Nat) : Int) + (1 : Int))) y5.2.2.2.1)) : Nat) : Int)))
 (iter (F205_R11
 (fun y13 =>
 (gd (decide ((0 : Int) ≤ y13.2.1))
 (gd (decide (y13.2.1 < (((List.length y13.2.2.1) : Nat) : Int)))
 (Option.bind y13.2.2.1[(Int.toNat y13.2.1)]? fun y14 =>
 (gd (decide ((0 : Int) ≤ (IntKind.wrap IntKind.i64 (y13.2.1 + (1 : Int)))))
 (gd (decide ((IntKind.wrap IntKind.i64 (y13.2.1 + (1 : Int))) ≤ (((List.length (List.set y13.2.2.1 (Int.toNat y13.2.1) y13.1)) : Nat) : Int)))
 (some ((List.drop (Int.toNat (0 : Int)) (List.take (Int.toNat (IntKind.wrap IntKind.i64 (y13.2.1 + (1 : Int)))) (List.set y13.2.2.1 (Int.toNat y13.2.1) y13.1))), ()))))))))) fuel (y5.1, y5.2.1, y5.2.2.1, (IntKind.wrap IntKind.i64 ((cond (decide ((IntKind.wrap IntKind.i64 ((((List.length y5.1) : Nat) : Int) + (1 : Int))) < y5.2.2.2.1)) (IntKind.wrap IntKind.i64 ((((List.length y5.1) : Nat) : Int) + (1 : Int))) y5.2.2.2.1) - (1 : Int))), (0 : Int), (List.replicate (Int.toNat (cond (decide ((IntKind.wrap IntKind.i64 ((((List.length y5.1) : Nat) : Int) + (1 : Int))) < y5.2.2.2.1)) (IntKind.wrap IntKind.i64 ((((List.length y5.1) : Nat) : Int) + (1 : Int))) y5.2.2.2.1)) []), ()))))))
 (cond (decide (a3 < (0 : Int)))
 (Option.bind (F221 a0 a1) fun y3 =>
 (j4 (a0, a1, a2, (IntKind.wrap IntKind.i64 (y3.1 + (1 : Int))), ())))
 (j4 (a0, a1, a2, a3, ()))))))

noncomputable def C205 : Fun := ⟨[(.ro .str), (.ro .str), (.ro (.int .i64)), (.ro (.int .i64))], [((.slice .str), .z)], fun z => F205 z.1 z.2.1 z.2.2.1 z.2.2.2.1⟩
noncomputable def E205 : Env := ⟨66, tyTab tys, oneTab ones, fnTab [(221, C221), (222, C222)], false, [], [(3, [0, 1, 2, 3], []), (5, [0, 1, 2, 3], []), (7, [0, 1, 2, 3], []), (11, [0, 1, 2, 3, 9, 10], []), (12, [0, 1, 2, 3, 9, 10], []), (14, [0, 1, 2, 3, 9, 10, 11], []), (17, [0, 9, 10], []), (100000, [0, 9, 10], []), (100001, [0, 1, 2, 3, 9, 10], []), (99999, [8], [])], none, []⟩
noncomputable def L205 : List (LoopS (List (List UInt8) × Unit)) := [⟨11, ⟨[(0, (.pv .str)), (1, (.pv .str)), (2, (.pv (.int .i64))), (3, (.pv (.int .i64))), (9, (.ref (.slice .str) 248 [])), (10, (.pv (.int .i64)))], [(248, (.data false (.slice .str) (.own .z)))]⟩, fun κ => F205_R11 (fun y => κ.exit 0 (SSh.mk' ⟨[(0, (.pv .str)), (9, (.ref (.slice .str) 248 [])), (10, (.pv (.int .i64)))], [(248, (.data false (.slice .str) (.own .z)))]⟩ y))⟩]
theorem L205_11 : ∀ (κ : Kont (List (List UInt8) × Unit)) (N : St → Option (List (List UInt8) × Unit)) (x : (L205[0]).sh.den), execK E205 (lpOf L205) (nthLoop (codeOf Tryz.f205) 0) { κ with normal := fun σ => N (σ.keepAt (E205).hints 11) } ((L205[0]).sh.mk' x) = (L205[0]).R κ (fun x => N ((L205[0]).sh.mk' x)) x :=
  fun κ N x => by kernel_rfl
theorem C205_ok : QuietOk Tryz.prog 205 C205 :=
  told (env := E205) (fn := Tryz.f205) (c := (codeOf Tryz.f205)) (tbl := L205) (ls := [nthLoop (codeOf Tryz.f205) 0]) (vars := Tryz.f205.results.toList) Tryz.func205 (tysC_ok tys_ok rfl rfl) (Told.fnOk (.cons C221_ok (.cons C222_ok .nil)) rfl) (by kernel_rfl) (by decide) rfl (by decide) rfl rfl rfl (by kernel_rfl) (.cons L205[0] (by kernel_rfl) L205_11 .nil) (by kernel_rfl)

/- 180: strings.Split -/
noncomputable def F180 (a0 : List UInt8) (a1 : List UInt8) : Option (List (List UInt8) × Unit) :=
 (Option.bind (F205 a0 a1 (0 : Int) (-(1 : Int))) fun y0 =>
 (some (y0.1, ())))

noncomputable def C180 : Fun := ⟨[(.ro .str), (.ro .str)], [((.slice .str), .z)], fun z => F180 z.1 z.2.1⟩
noncomputable def E180 : Env := ⟨8, tyTab tys, oneTab ones, fnTab [(205, C205)], false, [], [(99999, [4], [])], none, []⟩
noncomputable def L180 : List (LoopS (List (List UInt8) × Unit)) := []
theorem C180_ok : QuietOk Tryz.prog 180 C180 :=
  told (env := E180) (fn := Tryz.f180) (c := (codeOf Tryz.f180)) (tbl := L180) (ls := []) (vars := Tryz.f180.results.toList) Tryz.func180 (tysC_ok tys_ok rfl rfl) (Told.fnOk (.cons C205_ok .nil) rfl) (by kernel_rfl) (by decide) rfl (by decide) rfl rfl rfl (by kernel_rfl) .nil (by kernel_rfl)

/- 217: slices.IndexFunc[[]string,string] -/
noncomputable def F217_R2 (e0_0 : Unit → Option (Int × Unit)) (er_1 : Int × Unit → Option (Int × Unit)) (rec : List (List UInt8) × (List UInt8 → Option (Bool)) × Int × Int × Unit → Option (Int × Unit)) (x2 : List (List UInt8) × (List UInt8 → Option (Bool)) × Int × Int × Unit) : Option (Int × Unit) :=
 (cond (decide (x2.2.2.2.1 < x2.2.2.1))
 (gd (decide ((0 : Int) ≤ x2.2.2.2.1))
 (Option.bind x2.1[(Int.toNat x2.2.2.2.1)]? fun y5 =>
 (Option.bind (x2.2.1 y5) fun y6 =>
 (cond y6
 (er_1 (x2.2.2.2.1, ()))
 (rec (x2.1, x2.2.1, x2.2.2.1, (IntKind.wrap IntKind.i64 (x2.2.2.2.1 + (1 : Int))), ()))))))
 (e0_0 (())))

noncomputable def F217 (a0 : List (List UInt8)) (a1 : (List UInt8 → Option (Bool))) : Option (Int × Unit) :=
 (iter (F217_R2
 (fun y7 =>
 (some ((-(1 : Int)), ())))
 (fun y8 =>
 (some (y8.1, ())))) fuel (a0, a1, (((List.length a0) : Nat) : Int), (0 : Int), ()))

noncomputable def C217 : Fun := ⟨[(.ro (.slice .str)), (.fn .str .bool)], [((.int .i64), .z)], fun z => F217 z.1 z.2.1⟩
noncomputable def E217 : Env := ⟨19, tyTab tys, oneTab ones, fnTab [], false, [], [(2, [0, 1, 7, 8], []), (3, [0, 1, 7, 8], []), (6, [0, 1, 7, 8], []), (7, [], []), (100000, [], []), (100001, [0, 1, 7, 8], []), (99999, [4], [])], none, []⟩
noncomputable def L217 : List (LoopS (Int × Unit)) := [⟨2, ⟨[(0, (.pv (.slice .str))), (1, (.fnA .str .bool)), (7, (.pv (.int .i64))), (8, (.pv (.int .i64)))], []⟩, fun κ => F217_R2 (fun y => κ.exit 0 (SSh.mk' ⟨[], []⟩ y)) (fun y => κ.ret (SSh.mk' ⟨[(4, (.pv (.int .i64)))], []⟩ y))⟩]
theorem L217_2 : ∀ (κ : Kont (Int × Unit)) (N : St → Option (Int × Unit)) (x : (L217[0]).sh.den), execK E217 (lpOf L217) (nthLoop (codeOf Tryz.f217) 0) { κ with normal := fun σ => N (σ.keepAt (E217).hints 2) } ((L217[0]).sh.mk' x) = (L217[0]).R κ (fun x => N ((L217[0]).sh.mk' x)) x :=
  fun κ N x => by kernel_rfl
theorem C217_ok : QuietOk Tryz.prog 217 C217 :=
  told (env := E217) (fn := Tryz.f217) (c := (codeOf Tryz.f217)) (tbl := L217) (ls := [nthLoop (codeOf Tryz.f217) 0]) (vars := Tryz.f217.results.toList) Tryz.func217 (tysC_ok tys_ok rfl rfl) (Told.fnOk .nil rfl) (by kernel_rfl) (by decide) rfl (by decide) rfl rfl rfl (by kernel_rfl) (.cons L217[0] (by kernel_rfl) L217_2 .nil) (by kernel_rfl)

/- 197: slices.ContainsFunc[[]string,string] -/
noncomputable def F197 (a0 : List (List UInt8)) (a1 : (List UInt8 → Option (Bool))) : Option (Bool × Unit) :=
 (Option.bind (F217 a0 a1) fun y0 =>
 (some ((decide (y0.1 ≥ (0 : Int))), ())))

noncomputable def C197 : Fun := ⟨[(.ro (.slice .str)), (.fn .str .bool)], [(.bool, .z)], fun z => F197 z.1 z.2.1⟩
noncomputable def E197 : Env := ⟨9, tyTab tys, oneTab ones, fnTab [(217, C217)], false, [], [(99999, [4], [])], none, []⟩
noncomputable def L197 : List (LoopS (Bool × Unit)) := []
theorem C197_ok : QuietOk Tryz.prog 197 C197 :=
  told (env := E197) (fn := Tryz.f197) (c := (codeOf Tryz.f197)) (tbl := L197) (ls := []) (vars := Tryz.f197.results.toList) Tryz.func197 (tysC_ok tys_ok rfl rfl) (Told.fnOk (.cons C217_ok .nil) rfl) (by kernel_rfl) (by decide) rfl (by decide) rfl rfl rfl (by kernel_rfl) .nil (by kernel_rfl)

/- 198: loop.example/g00380/impl.PathOK$1 -/
noncomputable def F198 (a0 : List UInt8) : Option (Bool × Unit) :=
 (Option.bind (F98 a0) fun y0 =>
 (some ((!y0.1), ())))

noncomputable def C198 : Fun := ⟨[(.ro .str)], [(.bool, .z)], fun z => F198 z.1⟩
noncomputable def E198 : Env := ⟨6, tyTab tys, oneTab ones, fnTab [(98, C98)], false, [], [(99999, [2], [])], none, []⟩
noncomputable def L198 : List (LoopS (Bool × Unit)) := []
theorem C198_ok : QuietOk Tryz.prog 198 C198 :=
  told (env := E198) (fn := Tryz.f198) (c := (codeOf Tryz.f198)) (tbl := L198) (ls := []) (vars := Tryz.f198.results.toList) Tryz.func198 (tysC_ok tys_ok rfl rfl) (Told.fnOk (.cons C98_ok .nil) rfl) (by kernel_rfl) (by decide) rfl (by decide) rfl rfl rfl (by kernel_rfl) .nil (by kernel_rfl)

/- 171: loop.example/g00380/impl.PathOK -/
noncomputable def F171 (a0 : List UInt8) : Option (Bool × Unit) :=
 (Option.bind (F180 a0 [(46 : UInt8)]) fun y0 =>
 (cond (decide ((((List.length a0) : Nat) : Int) ≤ (50 : Int)))
 (cond (decide ((((List.length y0.1) : Nat) : Int) ≤ (4 : Int)))
 (Option.bind (F197 y0.1 (fun (v3 : List UInt8) => (Option.map (fun (v4 : (Bool × Unit)) => v4.1) (F198 v3)))) fun y1 =>
 (some ((!y1.1), ())))
 (some (false, ())))
 (some (false, ()))))

noncomputable def C171 : Fun := ⟨[(.ro .str)], [(.bool, .z)], fun z => F171 z.1⟩
noncomputable def E171 : Env := ⟨19, tyTab tys, oneTab ones, fnTab [(180, C180), (197, C197), (198, C198)], false, [], [(99999, [2], [])], none, []⟩
noncomputable def L171 : List (LoopS (Bool × Unit)) := []
theorem C171_ok : QuietOk Tryz.prog 171 C171 :=
  told (env := E171) (fn := Tryz.f171) (c := (codeOf Tryz.f171)) (tbl := L171) (ls := []) (vars := Tryz.f171.results.toList) Tryz.func171 (tysC_ok tys_ok rfl rfl) (Told.fnOk (.cons C180_ok (.cons C197_ok (.cons C198_ok .nil))) rfl) (by kernel_rfl) (by decide) rfl (by decide) rfl rfl rfl (by kernel_rfl) .nil (by kernel_rfl)

/- 137: loop.example/g00380/impl.partOK -/
noncomputable def F137 (a0 : D193) : Option (Bool × Unit) :=
 (Option.bind (F171 a0.1) fun y0 =>
 (some (y0.1, ())))

noncomputable def C137 : Fun := ⟨[(.ro Y193)], [(.bool, .z)], fun z => F137 z.1⟩
noncomputable def E137 : Env := ⟨6, tyTab tys, oneTab ones, fnTab [(171, C171)], false, [], [(99999, [2], [])], none, []⟩
noncomputable def L137 : List (LoopS (Bool × Unit)) := []
theorem C137_ok : QuietOk Tryz.prog 137 C137 :=
  told (env := E137) (fn := Tryz.f137) (c := (codeOf Tryz.f137)) (tbl := L137) (ls := []) (vars := Tryz.f137.results.toList) Tryz.func137 (tysC_ok tys_ok rfl rfl) (Told.fnOk (.cons C171_ok .nil) rfl) (by kernel_rfl) (by decide) rfl (by decide) rfl rfl rfl (by kernel_rfl) .nil (by kernel_rfl)

/- 136: loop.example/g00380/impl.DefOK$1 -/
noncomputable def F136 (a0 : D193) : Option (Bool × Unit) :=
 (Option.bind (F137 a0) fun y0 =>
 (some ((!y0.1), ())))

noncomputable def C136 : Fun := ⟨[(.ro Y193)], [(.bool, .z)], fun z => F136 z.1⟩
noncomputable def E136 : Env := ⟨6, tyTab tys, oneTab ones, fnTab [(137, C137)], false, [], [(99999, [2], [])], none, []⟩
noncomputable def L136 : List (LoopS (Bool × Unit)) := []
theorem C136_ok : QuietOk Tryz.prog 136 C136 :=
  told (env := E136) (fn := Tryz.f136) (c := (codeOf Tryz.f136)) (tbl := L136) (ls := []) (vars := Tryz.f136.results.toList) Tryz.func136 (tysC_ok tys_ok rfl rfl) (Told.fnOk (.cons C137_ok .nil) rfl) (by kernel_rfl) (by decide) rfl (by decide) rfl rfl rfl (by kernel_rfl) .nil (by kernel_rfl)

/- 95: loop.example/g00380/impl.DefOK -/
noncomputable def F95 (a0 : D139) : Option (Bool × Unit) :=
 (Option.bind (F98 a0.1) fun y1 =>
 (cond (!y1.1)
 (some (false, ()))
 (Option.bind (F37 (((List.length a0.2.1) : Nat) : Int) (1 : Int) (2 : Int)) fun y2 =>
 (cond (!y2.1)
 (some (false, ()))
 (Option.bind (F135 a0.2.1 (fun (v5 : D193) => (Option.map (fun (v6 : (Bool × Unit)) => v6.1) (F136 v5)))) fun y3 =>
 (cond y3.1
 (some (false, ()))
 (cond ((((List.length a0.2.1) : Nat) : Int) == (1 : Int))
 (some (true, ()))
 (Option.bind a0.2.1[(Int.toNat (0 : Int))]? fun y4 =>
 (Option.bind a0.2.1[(Int.toNat (1 : Int))]? fun y5 =>
 (some ((!(y4.1 == y5.1)), ())))))))))))

noncomputable def C95 : Fun := ⟨[(.ro Y139)], [(.bool, .z)], fun z => F95 z.1⟩
noncomputable def E95 : Env := ⟨36, tyTab tys, oneTab ones, fnTab [(37, C37), (98, C98), (135, C135), (136, C136)], false, [], [(3, [1], []), (99999, [2], [])], none, []⟩
noncomputable def L95 : List (LoopS (Bool × Unit)) := []
theorem C95_ok : QuietOk Tryz.prog 95 C95 :=
  told (env := E95) (fn := Tryz.f95) (c := (codeOf Tryz.f95)) (tbl := L95) (ls := []) (vars := Tryz.f95.results.toList) Tryz.func95 (tysC_ok tys_ok rfl rfl) (Told.fnOk (.cons C37_ok (.cons C98_ok (.cons C135_ok (.cons C136_ok .nil)))) rfl) (by kernel_rfl) (by decide) rfl (by decide) rfl rfl rfl (by kernel_rfl) .nil (by kernel_rfl)

/- 138: slices.IndexFunc[[]loop.example/g00380/impl.Def,loop.example/g00380/impl.Def] -/
noncomputable def F138_R2 (e0_0 : Unit → Option (Int × Unit)) (er_1 : Int × Unit → Option (Int × Unit)) (rec : List (D139) × (D139 → Option (Bool)) × Int × Int × Unit → Option (Int × Unit)) (x2 : List (D139) × (D139 → Option (Bool)) × Int × Int × Unit) : Option (Int × Unit) :=
 (cond (decide (x2.2.2.2.1 < x2.2.2.1))
 (gd (decide ((0 : Int) ≤ x2.2.2.2.1))
 (Option.bind x2.1[(Int.toNat x2.2.2.2.1)]? fun y5 =>
 (Option.bind (x2.2.1 y5) fun y6 =>
 (cond y6
 (er_1 (x2.2.2.2.1, ()))
 (rec (x2.1, x2.2.1, x2.2.2.1, (IntKind.wrap IntKind.i64 (x2.2.2.2.1 + (1 : Int))), ()))))))
 (e0_0 (())))

noncomputable def F138 (a0 : List (D139)) (a1 : (D139 → Option (Bool))) : Option (Int × Unit) :=
 (iter (F138_R2
 (fun y7 =>
 (some ((-(1 : Int)), ())))
 (fun y8 =>
 (some (y8.1, ())))) fuel (a0, a1, (((List.length a0) : Nat) : Int), (0 : Int), ()))

noncomputable def C138 : Fun := ⟨[(.ro (.slice Y139)), (.fn Y139 .bool)], [((.int .i64), .z)], fun z => F138 z.1 z.2.1⟩
noncomputable def E138 : Env := ⟨19, tyTab tys, oneTab ones, fnTab [], false, [], [(2, [0, 1, 7, 8], []), (3, [0, 1, 7, 8], []), (6, [0, 1, 7, 8], []), (7, [], []), (100000, [], []), (100001, [0, 1, 7, 8], []), (99999, [4], [])], none, []⟩
noncomputable def L138 : List (LoopS (Int × Unit)) := [⟨2, ⟨[(0, (.pv (.slice Y139))), (1, (.fnA Y139 .bool)), (7, (.pv (.int .i64))), (8, (.pv (.int .i64)))], []⟩, fun κ => F138_R2 (fun y => κ.exit 0 (SSh.mk' ⟨[], []⟩ y)) (fun y => κ.ret (SSh.mk' ⟨[(4, (.pv (.int .i64)))], []⟩ y))⟩]
theorem L138_2 : ∀ (κ : Kont (Int × Unit)) (N : St → Option (Int × Unit)) (x : (L138[0]).sh.den), execK E138 (lpOf L138) (nthLoop (codeOf Tryz.f138) 0) { κ with normal := fun σ => N (σ.keepAt (E138).hints 2) } ((L138[0]).sh.mk' x) = (L138[0]).R κ (fun x => N ((L138[0]).sh.mk' x)) x :=
  fun κ N x => by kernel_rfl
theorem C138_ok : QuietOk Tryz.prog 138 C138 :=
  told (env := E138) (fn := Tryz.f138) (c := (codeOf Tryz.f138)) (tbl := L138) (ls := [nthLoop (codeOf Tryz.f138) 0]) (vars := Tryz.f138.results.toList) Tryz.func138 (tysC_ok tys_ok rfl rfl) (Told.fnOk .nil rfl) (by kernel_rfl) (by decide) rfl (by decide) rfl rfl rfl (by kernel_rfl) (.cons L138[0] (by kernel_rfl) L138_2 .nil) (by kernel_rfl)

end Go.V
