/- What functions of the program compute, printed by a program of ours. No condition. -/
import Derived.Test.YtohgkgbemnhhgaaGreatDoorWF2
namespace Go.V
open Go.Proofs
set_option maxRecDepth 100000
set_option linter.unusedVariables false

/- 139: (loop.example/g00380/impl.Coll).defAt$1 -/
noncomputable def F139 (a0 : D139) (a1 : List UInt8) : Option (Bool × Unit) :=
 (some ((a0.1 == a1), ()))

noncomputable def C139 : Fun := ⟨[(.ro Y139), (.rp .str)], [(.bool, .z)], fun z => F139 z.1 z.2.1⟩
noncomputable def E139 : Env := ⟨8, tyTab tys, oneTab ones, fnTab [], false, [], [(99999, [3], [])], none, []⟩
noncomputable def L139 : List (LoopS (Bool × Unit)) := []
theorem C139_ok : QuietOk Tryz.prog 139 C139 :=
  told (env := E139) (fn := Tryz.f139) (c := (codeOf Tryz.f139)) (tbl := L139) (ls := []) (vars := Tryz.f139.results.toList) Tryz.func139 (tysC_ok tys_ok rfl rfl) (Told.fnOk .nil rfl) (by kernel_rfl) (by decide) rfl (by decide) rfl rfl rfl (by kernel_rfl) .nil (by kernel_rfl)

/- 96: (loop.example/g00380/impl.Coll).defAt -/
noncomputable def F96 (a0 : D57) (a1 : List UInt8) : Option (Int × Unit) :=
 (Option.bind (F138 a0.2.2.1 (fun (v3 : D139) => (Option.map (fun (v4 : (Bool × Unit)) => v4.1) (F139 v3 a1)))) fun y0 =>
 (some (y0.1, ())))

noncomputable def C96 : Fun := ⟨[(.ro Y57), (.ro .str)], [((.int .i64), .z)], fun z => F96 z.1 z.2.1⟩
noncomputable def E96 : Env := ⟨9, tyTab tys, oneTab ones, fnTab [(138, C138), (139, C139)], false, [], [(99999, [4], [])], none, []⟩
noncomputable def L96 : List (LoopS (Int × Unit)) := []
theorem C96_ok : QuietOk Tryz.prog 96 C96 :=
  told (env := E96) (fn := Tryz.f96) (c := (codeOf Tryz.f96)) (tbl := L96) (ls := []) (vars := Tryz.f96.results.toList) Tryz.func96 (tysC_ok tys_ok rfl rfl) (Told.fnOk (.cons C138_ok (.cons C139_ok .nil)) rfl) (by kernel_rfl) (by decide) rfl (by decide) rfl rfl rfl (by kernel_rfl) .nil (by kernel_rfl)

/- 101: loop.example/g00380/impl.isTime -/
noncomputable def F101 (a0 : Int) : Option (Bool × Unit) :=
 (Option.bind (F37 a0 (1 : Int) (10000 : Int)) fun y0 =>
 (some (y0.1, ())))

noncomputable def C101 : Fun := ⟨[(.ro (.int .i64))], [(.bool, .z)], fun z => F101 z.1⟩
noncomputable def E101 : Env := ⟨5, tyTab tys, oneTab ones, fnTab [(37, C37)], false, [], [(99999, [2], [])], none, []⟩
noncomputable def L101 : List (LoopS (Bool × Unit)) := []
theorem C101_ok : QuietOk Tryz.prog 101 C101 :=
  told (env := E101) (fn := Tryz.f101) (c := (codeOf Tryz.f101)) (tbl := L101) (ls := []) (vars := Tryz.f101.results.toList) Tryz.func101 (tysC_ok tys_ok rfl rfl) (Told.fnOk (.cons C37_ok .nil) rfl) (by kernel_rfl) (by decide) rfl (by decide) rfl rfl rfl (by kernel_rfl) .nil (by kernel_rfl)

/- 223: (*loop.example/g00380/impl.byteReader).take -/
noncomputable def F223 (a0 : D193) (a1 : Int) : Option (List UInt8 × D193 × Unit) :=
 (cond (decide (a1 > (((List.length a0.1) : Nat) : Int)))
 (Option.bind (F238 [(0 : UInt8)] a1) fun y1 =>
 (some (y1.1, ((a0.1, (true, a0.2.2)), ()))))
 (gd (decide ((0 : Int) ≤ a1))
 (gd (decide (a1 ≤ (((List.length a0.1) : Nat) : Int)))
 (gd (decide ((((List.length a0.1) : Nat) : Int) ≤ (((List.length a0.1) : Nat) : Int)))
 (gd (decide ((0 : Int) ≤ a1))
 (gd (decide (a1 ≤ (((Int.toNat (((List.length a0.1) : Nat) : Int)) : Nat) : Int)))
 (some ((List.drop (Int.toNat (0 : Int)) (List.take (Int.toNat a1) a0.1)), (((List.drop (Int.toNat a1) (List.take (Int.toNat (((List.length a0.1) : Nat) : Int)) a0.1)), a0.2), ())))))))))

noncomputable def C223 : Fun := ⟨[(.io Y193 .z), (.ro (.int .i64))], [(.str, .z)], fun z => F223 z.1 z.2.1⟩
noncomputable def E223 : Env := ⟨34, tyTab tys, oneTab ones, fnTab [(238, C238)], false, [], [(4, [0, 1], [4]), (99999, [4], [4])], none, []⟩
noncomputable def L223 : List (LoopS (List UInt8 × D193 × Unit)) := []
theorem C223_ok : IoOk Tryz.prog 223 C223 :=
  toldIo (env := E223) (fn := Tryz.f223) (c := (codeOf Tryz.f223)) (tbl := L223) (ls := []) (vars := Tryz.f223.results.toList) Tryz.func223 (tysC_ok tys_ok rfl rfl) (Told.fnOk (.cons C238_ok .nil) rfl) (by kernel_rfl) (by decide) rfl (by decide) rfl rfl rfl rfl (by kernel_rfl) (fun p => .nil) (fun p => by kernel_rfl)

/- 239: loop.example/g00380/impl.big -/
noncomputable def F239_R3 (e0_0 : Int × Unit → Option (Int × Unit)) (rec : Int × List (Int) × Int × Int × Unit → Option (Int × Unit)) (x2 : Int × List (Int) × Int × Int × Unit) : Option (Int × Unit) :=
 (cond (decide (x2.2.2.2.1 < x2.2.2.1))
 (gd (decide ((0 : Int) ≤ x2.2.2.2.1))
 (Option.bind x2.2.1[(Int.toNat x2.2.2.2.1)]? fun y4 =>
 (rec ((IntKind.wrap IntKind.i64 (((BitVec.toNat (HOr.hOr (BitVec.ofInt (IntKind.bits IntKind.i64) (IntKind.wrap IntKind.i64 (x2.1 * ((2 : Int) ^ (Min.min (Int.toNat (8 : Int)) (IntKind.bits IntKind.i64)))))) (BitVec.ofInt (IntKind.bits IntKind.i64) (IntKind.wrap IntKind.i64 y4)))) : Nat) : Int)), x2.2.1, x2.2.2.1, (IntKind.wrap IntKind.i64 (x2.2.2.2.1 + (1 : Int))), ()))))
 (e0_0 (x2.1, ())))

noncomputable def F239 (a0 : List (Int)) : Option (Int × Unit) :=
 (iter (F239_R3
 (fun y5 =>
 (some (y5.1, ())))) fuel ((0 : Int), a0, (((List.length a0) : Nat) : Int), (0 : Int), ()))

noncomputable def C239 : Fun := ⟨[(.ro (.slice (.int .u8)))], [((.int .i64), .z)], fun z => F239 z.1⟩
noncomputable def E239 : Env := ⟨19, tyTab tys, oneTab ones, fnTab [], false, [], [(3, [3, 6, 7, 8], []), (4, [3, 6, 7, 8], []), (7, [3], []), (100000, [3], []), (100001, [3, 6, 7, 8], []), (99999, [2], [])], none, []⟩
noncomputable def L239 : List (LoopS (Int × Unit)) := [⟨3, ⟨[(3, (.pv (.int .i64))), (6, (.pv (.slice (.int .u8)))), (7, (.pv (.int .i64))), (8, (.pv (.int .i64)))], []⟩, fun κ => F239_R3 (fun y => κ.exit 0 (SSh.mk' ⟨[(3, (.pv (.int .i64)))], []⟩ y))⟩]
theorem L239_3 : ∀ (κ : Kont (Int × Unit)) (N : St → Option (Int × Unit)) (x : (L239[0]).sh.den), execK E239 (lpOf L239) (nthLoop (codeOf Tryz.f239) 0) { κ with normal := fun σ => N (σ.keepAt (E239).hints 3) } ((L239[0]).sh.mk' x) = (L239[0]).R κ (fun x => N ((L239[0]).sh.mk' x)) x :=
  fun κ N x => by kernel_rfl
theorem C239_ok : QuietOk Tryz.prog 239 C239 :=
  told (env := E239) (fn := Tryz.f239) (c := (codeOf Tryz.f239)) (tbl := L239) (ls := [nthLoop (codeOf Tryz.f239) 0]) (vars := Tryz.f239.results.toList) Tryz.func239 (tysC_ok tys_ok rfl rfl) (Told.fnOk .nil rfl) (by kernel_rfl) (by decide) rfl (by decide) rfl rfl rfl (by kernel_rfl) (.cons L239[0] (by kernel_rfl) L239_3 .nil) (by kernel_rfl)

/- 224: (*loop.example/g00380/impl.byteReader).num -/
noncomputable def F224 (a0 : D193) (a1 : Int) : Option (Int × D193 × Unit) :=
 (Option.bind (F223 a0 a1) fun y0 =>
 (Option.bind (F239 (List.map (fun (v4 : UInt8) => (((UInt8.toNat v4) : Nat) : Int)) y0.1)) fun y1 =>
 (some (y1.1, (y0.2.1, ())))))

noncomputable def C224 : Fun := ⟨[(.io Y193 .z), (.ro (.int .i64))], [((.int .i64), .z)], fun z => F224 z.1 z.2.1⟩
noncomputable def E224 : Env := ⟨10, tyTab tys, oneTab ones, fnTab [(223, C223), (239, C239)], false, [], [(99999, [4], [4])], none, []⟩
noncomputable def L224 : List (LoopS (Int × D193 × Unit)) := []
theorem C224_ok : IoOk Tryz.prog 224 C224 :=
  toldIo (env := E224) (fn := Tryz.f224) (c := (codeOf Tryz.f224)) (tbl := L224) (ls := []) (vars := Tryz.f224.results.toList) Tryz.func224 (tysC_ok tys_ok rfl rfl) (Told.fnOk (.consIo C223_ok (.cons C239_ok .nil)) rfl) (by kernel_rfl) (by decide) rfl (by decide) rfl rfl rfl rfl (by kernel_rfl) (fun p => .nil) (fun p => by kernel_rfl)

/- 210: (*loop.example/g00380/impl.byteReader).value -/
noncomputable def F210 (a0 : D193) : Option (D78 × D193 × Unit) :=
 (Option.bind (F224 a0 (1 : Int)) fun y0 =>
 (let j11 : D193 × D78 × D78 × Unit → Option (D78 × D193 × Unit) := fun (y12 : D193 × D78 × D78 × Unit) =>
 (some (y12.2.2.1, (y12.1, ())))
 (cond (y0.1 == (1 : Int))
 (Option.bind (F224 y0.2.1 (1 : Int)) fun y2 =>
 (j11 (y2.2.1, ((0 : Int), ((0 : Int), ([], ()))), (y0.1, (y2.1, ([], ()))), ())))
 (cond (y0.1 == (2 : Int))
 (Option.bind (F224 y0.2.1 (8 : Int)) fun y3 =>
 (j11 (y3.2.1, ((0 : Int), ((0 : Int), ([], ()))), (y0.1, ((IntKind.wrap IntKind.i64 (y3.1 - (4611686018427387904 : Int))), ([], ()))), ())))
 (cond (y0.1 == (3 : Int))
 (cond (y0.1 == (3 : Int))
 (Option.bind (F224 y0.2.1 (2 : Int)) fun y5 =>
 (Option.bind (F223 y5.2.1 y5.1) fun y6 =>
 (j11 (y6.2.1, ((0 : Int), ((0 : Int), ([], ()))), (y0.1, ((0 : Int), (y6.1, ()))), ()))))
 (j11 (y0.2.1, ((0 : Int), ((0 : Int), ([], ()))), (y0.1, ((0 : Int), ([], ()))), ())))
 (cond (y0.1 == (4 : Int))
 (cond (y0.1 == (4 : Int))
 (Option.bind (F224 y0.2.1 (2 : Int)) fun y7 =>
 (Option.bind (F223 y7.2.1 y7.1) fun y8 =>
 (j11 (y8.2.1, ((0 : Int), ((0 : Int), ([], ()))), (y0.1, ((0 : Int), (y8.1, ()))), ()))))
 (j11 (y0.2.1, ((0 : Int), ((0 : Int), ([], ()))), (y0.1, ((0 : Int), ([], ()))), ())))
 (cond (y0.1 == (5 : Int))
 (Option.bind (F224 y0.2.1 (2 : Int)) fun y9 =>
 (Option.bind (F223 y9.2.1 y9.1) fun y10 =>
 (j11 (y10.2.1, ((0 : Int), ((0 : Int), ([], ()))), (y0.1, ((0 : Int), (y10.1, ()))), ()))))
 (j11 (y0.2.1, ((0 : Int), ((0 : Int), ([], ()))), (y0.1, ((0 : Int), ([], ()))), ())))))))))

noncomputable def C210 : Fun := ⟨[(.io Y193 .z)], [(Y78, .z)], fun z => F210 z.1⟩
noncomputable def E210 : Env := ⟨30, tyTab tys, oneTab ones, fnTab [(223, C223), (224, C224)], false, [], [(11, [2, 3], [4]), (100000, [2, 3], [4]), (99999, [2], [4])], none, []⟩
noncomputable def L210 : List (LoopS (D78 × D193 × Unit)) := []
theorem C210_ok : IoOk Tryz.prog 210 C210 :=
  toldIo (env := E210) (fn := Tryz.f210) (c := (codeOf Tryz.f210)) (tbl := L210) (ls := []) (vars := Tryz.f210.results.toList) Tryz.func210 (tysC_ok tys_ok rfl rfl) (Told.fnOk (.consIo C223_ok (.consIo C224_ok .nil)) rfl) (by kernel_rfl) (by decide) rfl (by decide) rfl rfl rfl rfl (by kernel_rfl) (fun p => .nil) (fun p => by kernel_rfl)

/- 207: loop.example/g00380/impl.fields -/
noncomputable def F207_R2 (e0_0 : D193 × List (D253) × Unit → Option (List (D253) × Bool × Unit)) (rec : D193 × List (D253) × Unit → Option (List (D253) × Bool × Unit)) (x2 : D193 × List (D253) × Unit) : Option (List (D253) × Bool × Unit) :=
 (cond (!(x2.1.1 == []))
 (cond (!x2.1.2.1)
 (Option.bind (F224 x2.1 (1 : Int)) fun y4 =>
 (Option.bind (F223 y4.2.1 y4.1) fun y5 =>
 (Option.bind (F210 y5.2.1) fun y6 =>
 (gd (decide (((List.length x2.2.1) + (List.length [(y5.1, (y6.1, ()))])) ≤ lim))
 (rec (y6.2.1, (x2.2.1 ++ [(y5.1, (y6.1, ()))]), ()))))))
 (e0_0 (x2.1, x2.2.1, ())))
 (e0_0 (x2.1, x2.2.1, ())))

noncomputable def F207 (a0 : D78) : Option (List (D253) × Bool × Unit) :=
 (iter (F207_R2
 (fun y7 =>
 (some (y7.2.1, ((!y7.1.2.1), ()))))) fuel ((a0.2.2.1, (false, ())), [], ()))

noncomputable def C207 : Fun := ⟨[(.ro Y78)], [((.slice Y253), .z), (.bool, .z)], fun z => F207 z.1⟩
noncomputable def E207 : Env := ⟨39, tyTab tys, oneTab ones, fnTab [(210, C210), (223, C223), (224, C224)], false, [], [(2, [4, 5], []), (3, [4, 5], []), (4, [4, 5], []), (100000, [4, 5], []), (100001, [4, 5], []), (99999, [2, 3], [])], none, []⟩
noncomputable def L207 : List (LoopS (List (D253) × Bool × Unit)) := [⟨2, ⟨[(4, (.ptr 72 [])), (5, (.ref (.slice Y253) 80 []))], [(72, (.data true Y193 .z)), (80, (.data false (.slice Y253) (.own .z)))]⟩, fun κ => F207_R2 (fun y => κ.exit 0 (SSh.mk' ⟨[(4, (.ptr 72 [])), (5, (.ref (.slice Y253) 80 []))], [(72, (.data true Y193 .z)), (80, (.data false (.slice Y253) (.own .z)))]⟩ y))⟩]
theorem L207_2 : ∀ (κ : Kont (List (D253) × Bool × Unit)) (N : St → Option (List (D253) × Bool × Unit)) (x : (L207[0]).sh.den), execK E207 (lpOf L207) (nthLoop (codeOf Tryz.f207) 0) { κ with normal := fun σ => N (σ.keepAt (E207).hints 2) } ((L207[0]).sh.mk' x) = (L207[0]).R κ (fun x => N ((L207[0]).sh.mk' x)) x :=
  fun κ N x => by kernel_rfl
theorem C207_ok : QuietOk Tryz.prog 207 C207 :=
  told (env := E207) (fn := Tryz.f207) (c := (codeOf Tryz.f207)) (tbl := L207) (ls := [nthLoop (codeOf Tryz.f207) 0]) (vars := Tryz.f207.results.toList) Tryz.func207 (tysC_ok tys_ok rfl rfl) (Told.fnOk (.consIo C210_ok (.consIo C223_ok (.consIo C224_ok .nil))) rfl) (by kernel_rfl) (by decide) rfl (by decide) rfl rfl rfl (by kernel_rfl) (.cons L207[0] (by kernel_rfl) L207_2 .nil) (by kernel_rfl)

/- 177: internal/bytealg.CompareString -/
noncomputable def F177 (a0 : List UInt8) (a1 : List UInt8) : Option (Int × Unit) :=
 (Option.bind (F204 a0 a1) fun y0 =>
 (some (y0.1, ())))

noncomputable def C177 : Fun := ⟨[(.ro .str), (.ro .str)], [((.int .i64), .z)], fun z => F177 z.1 z.2.1⟩
noncomputable def E177 : Env := ⟨8, tyTab tys, oneTab ones, fnTab [], false, [], [(99999, [4], [])], none, [(204, C204)]⟩
noncomputable def L177 : List (LoopS (Int × Unit)) := []
theorem C177_ok : QuietOk Tryz.prog 177 C177 :=
  told (env := E177) (fn := Tryz.f177) (c := (codeOf Tryz.f177)) (tbl := L177) (ls := []) (vars := Tryz.f177.results.toList) Tryz.func177 (tysC_ok tys_ok rfl rfl) (Told.fnOk .nil rfl (.cons C204_ok .nil)) (by kernel_rfl) (by decide) rfl (by decide) rfl rfl rfl (by kernel_rfl) .nil (by kernel_rfl)

/- 147: strings.Compare -/
noncomputable def F147 (a0 : List UInt8) (a1 : List UInt8) : Option (Int × Unit) :=
 (Option.bind (F177 a0 a1) fun y0 =>
 (some (y0.1, ())))

noncomputable def C147 : Fun := ⟨[(.ro .str), (.ro .str)], [((.int .i64), .z)], fun z => F147 z.1 z.2.1⟩
noncomputable def E147 : Env := ⟨8, tyTab tys, oneTab ones, fnTab [(177, C177)], false, [], [(99999, [4], [])], none, []⟩
noncomputable def L147 : List (LoopS (Int × Unit)) := []
theorem C147_ok : QuietOk Tryz.prog 147 C147 :=
  told (env := E147) (fn := Tryz.f147) (c := (codeOf Tryz.f147)) (tbl := L147) (ls := []) (vars := Tryz.f147.results.toList) Tryz.func147 (tysC_ok tys_ok rfl rfl) (Told.fnOk (.cons C177_ok .nil) rfl) (by kernel_rfl) (by decide) rfl (by decide) rfl rfl rfl (by kernel_rfl) .nil (by kernel_rfl)

/- 230: loop.example/g00380/impl.findField$1 -/
noncomputable def F230 (a0 : D253) (a1 : List UInt8) : Option (Int × Unit) :=
 (Option.bind (F147 a0.1 a1) fun y0 =>
 (some (y0.1, ())))

noncomputable def C230 : Fun := ⟨[(.ro Y253), (.ro .str)], [((.int .i64), .z)], fun z => F230 z.1 z.2.1⟩
noncomputable def E230 : Env := ⟨9, tyTab tys, oneTab ones, fnTab [(147, C147)], false, [], [(99999, [4], [])], none, []⟩
noncomputable def L230 : List (LoopS (Int × Unit)) := []
theorem C230_ok : QuietOk Tryz.prog 230 C230 :=
  told (env := E230) (fn := Tryz.f230) (c := (codeOf Tryz.f230)) (tbl := L230) (ls := []) (vars := Tryz.f230.results.toList) Tryz.func230 (tysC_ok tys_ok rfl rfl) (Told.fnOk (.cons C147_ok .nil) rfl) (by kernel_rfl) (by decide) rfl (by decide) rfl rfl rfl (by kernel_rfl) .nil (by kernel_rfl)

/- 229: slices.BinarySearchFunc[[]loop.example/g00380/impl.Field,loop.example/g00380/impl.Field,string] -/
noncomputable def F229_R3 (e0_0 : List (D253) × List UInt8 × Int × Int × Unit → Option (Int × Bool × Unit)) (rec : List (D253) × List UInt8 × Int × Int × Int × Unit → Option (Int × Bool × Unit)) (x2 : List (D253) × List UInt8 × Int × Int × Int × Unit) : Option (Int × Bool × Unit) :=
 (cond (decide (x2.2.2.2.1 < x2.2.2.2.2.1))
 (gd (decide ((0 : Int) ≤ (IntKind.wrap IntKind.i64 (Int.fdiv (IntKind.wrap IntKind.u64 (IntKind.wrap IntKind.i64 (x2.2.2.2.1 + x2.2.2.2.2.1))) ((2 : Int) ^ (Min.min (Int.toNat (1 : Int)) (IntKind.bits IntKind.u64)))))))
 (Option.bind x2.1[(Int.toNat (IntKind.wrap IntKind.i64 (Int.fdiv (IntKind.wrap IntKind.u64 (IntKind.wrap IntKind.i64 (x2.2.2.2.1 + x2.2.2.2.2.1))) ((2 : Int) ^ (Min.min (Int.toNat (1 : Int)) (IntKind.bits IntKind.u64))))))]? fun y4 =>
 (Option.bind (F230 y4 x2.2.1) fun y5 =>
 (cond (decide (y5.1 < (0 : Int)))
 (rec (x2.1, x2.2.1, x2.2.2.1, (IntKind.wrap IntKind.i64 ((IntKind.wrap IntKind.i64 (Int.fdiv (IntKind.wrap IntKind.u64 (IntKind.wrap IntKind.i64 (x2.2.2.2.1 + x2.2.2.2.2.1))) ((2 : Int) ^ (Min.min (Int.toNat (1 : Int)) (IntKind.bits IntKind.u64))))) + (1 : Int))), x2.2.2.2.2.1, ()))
 (rec (x2.1, x2.2.1, x2.2.2.1, x2.2.2.2.1, (IntKind.wrap IntKind.i64 (Int.fdiv (IntKind.wrap IntKind.u64 (IntKind.wrap IntKind.i64 (x2.2.2.2.1 + x2.2.2.2.2.1))) ((2 : Int) ^ (Min.min (Int.toNat (1 : Int)) (IntKind.bits IntKind.u64))))), ()))))))
 (e0_0 (x2.1, x2.2.1, x2.2.2.1, x2.2.2.2.1, ())))

noncomputable def F229 (a0 : List (D253)) (a1 : List UInt8) (a2 : Unit) : Option (Int × Bool × Unit) :=
 (iter (F229_R3
 (fun y6 =>
 (cond (decide (y6.2.2.2.1 < y6.2.2.1))
 (gd (decide ((0 : Int) ≤ y6.2.2.2.1))
 (Option.bind y6.1[(Int.toNat y6.2.2.2.1)]? fun y7 =>
 (Option.bind (F230 y7 y6.2.1) fun y8 =>
 (some (y6.2.2.2.1, ((y8.1 == (0 : Int)), ()))))))
 (some (y6.2.2.2.1, (false, ())))))) fuel (a0, a1, (((List.length a0) : Nat) : Int), (0 : Int), (((List.length a0) : Nat) : Int), ()))

noncomputable def C229 : Fun := ⟨[(.ro (.slice Y253)), (.ro .str), (.st 230)], [((.int .i64), .z), (.bool, .z)], fun z => F229 z.1 z.2.1 z.2.2.1⟩
noncomputable def E229 : Env := ⟨49, tyTab tys, oneTab ones, fnTab [(230, C230)], false, [], [(3, [0, 1, 2, 8, 9, 10], []), (4, [0, 1, 2, 8, 9, 10], []), (8, [0, 1, 2, 8, 9], []), (100000, [0, 1, 2, 8, 9], []), (100001, [0, 1, 2, 8, 9, 10], []), (99999, [6, 7], [])], none, []⟩
noncomputable def L229 : List (LoopS (Int × Bool × Unit)) := [⟨3, ⟨[(0, (.pv (.slice Y253))), (1, (.pv .str)), (2, (.clo 230 [])), (8, (.pv (.int .i64))), (9, (.pv (.int .i64))), (10, (.pv (.int .i64)))], []⟩, fun κ => F229_R3 (fun y => κ.exit 0 (SSh.mk' ⟨[(0, (.pv (.slice Y253))), (1, (.pv .str)), (2, (.clo 230 [])), (8, (.pv (.int .i64))), (9, (.pv (.int .i64)))], []⟩ y))⟩]
theorem L229_3 : ∀ (κ : Kont (Int × Bool × Unit)) (N : St → Option (Int × Bool × Unit)) (x : (L229[0]).sh.den), execK E229 (lpOf L229) (nthLoop (codeOf Tryz.f229) 0) { κ with normal := fun σ => N (σ.keepAt (E229).hints 3) } ((L229[0]).sh.mk' x) = (L229[0]).R κ (fun x => N ((L229[0]).sh.mk' x)) x :=
  fun κ N x => by kernel_rfl
theorem C229_ok : QuietOk Tryz.prog 229 C229 :=
  told (env := E229) (fn := Tryz.f229) (c := (codeOf Tryz.f229)) (tbl := L229) (ls := [nthLoop (codeOf Tryz.f229) 0]) (vars := Tryz.f229.results.toList) Tryz.func229 (tysC_ok tys_ok rfl rfl) (Told.fnOk (.cons C230_ok .nil) rfl) (by kernel_rfl) (by decide) rfl (by decide) rfl rfl rfl (by kernel_rfl) (.cons L229[0] (by kernel_rfl) L229_3 .nil) (by kernel_rfl)

/- 218: loop.example/g00380/impl.findField -/
noncomputable def F218 (a0 : List (D253)) (a1 : List UInt8) : Option (Int × Bool × Unit) :=
 (Option.bind (F229 a0 a1 ()) fun y0 =>
 (some (y0.1, (y0.2.1, ()))))

noncomputable def C218 : Fun := ⟨[(.ro (.slice Y253)), (.ro .str)], [((.int .i64), .z), (.bool, .z)], fun z => F218 z.1 z.2.1⟩
noncomputable def E218 : Env := ⟨11, tyTab tys, oneTab ones, fnTab [(229, C229), (230, C230)], false, [], [(99999, [4, 5], [])], none, []⟩
noncomputable def L218 : List (LoopS (Int × Bool × Unit)) := []
theorem C218_ok : QuietOk Tryz.prog 218 C218 :=
  told (env := E218) (fn := Tryz.f218) (c := (codeOf Tryz.f218)) (tbl := L218) (ls := []) (vars := Tryz.f218.results.toList) Tryz.func218 (tysC_ok tys_ok rfl rfl) (Told.fnOk (.cons C229_ok (.cons C230_ok .nil)) rfl) (by kernel_rfl) (by decide) rfl (by decide) rfl rfl rfl (by kernel_rfl) .nil (by kernel_rfl)

/- 199: loop.example/g00380/impl.field -/
noncomputable def F199 (a0 : D78) (a1 : List UInt8) : Option (D78 × Bool × Unit) :=
 (Option.bind (F207 a0) fun y0 =>
 (Option.bind (F218 y0.1 a1) fun y1 =>
 (cond (!y1.2.1)
 (some (((0 : Int), ((0 : Int), ([], ()))), (false, ())))
 (gd (decide ((0 : Int) ≤ y1.1))
 (Option.bind y0.1[(Int.toNat y1.1)]? fun y3 =>
 (some (y3.2.1, (true, ()))))))))

noncomputable def C199 : Fun := ⟨[(.ro Y78), (.ro .str)], [(Y78, .z), (.bool, .z)], fun z => F199 z.1 z.2.1⟩
noncomputable def E199 : Env := ⟨29, tyTab tys, oneTab ones, fnTab [(207, C207), (218, C218)], false, [], [(5, [4, 6, 8], []), (99999, [4, 5], [])], none, []⟩
noncomputable def L199 : List (LoopS (D78 × Bool × Unit)) := []
theorem C199_ok : QuietOk Tryz.prog 199 C199 :=
  told (env := E199) (fn := Tryz.f199) (c := (codeOf Tryz.f199)) (tbl := L199) (ls := []) (vars := Tryz.f199.results.toList) Tryz.func199 (tysC_ok tys_ok rfl rfl) (Told.fnOk (.cons C207_ok (.cons C218_ok .nil)) rfl) (by kernel_rfl) (by decide) rfl (by decide) rfl rfl rfl (by kernel_rfl) .nil (by kernel_rfl)

/- 172: loop.example/g00380/impl.idOf -/
noncomputable def F172 (a0 : D78) : Option (Int × Bool × Unit) :=
 (Option.bind (F199 a0 [(105 : UInt8), (100 : UInt8)]) fun y0 =>
 (cond (y0.1.1 == (2 : Int))
 (Option.bind (F37 y0.1.2.1 (0 : Int) (99 : Int)) fun y1 =>
 (some (y0.1.2.1, (y1.1, ()))))
 (some (y0.1.2.1, (false, ())))))

noncomputable def C172 : Fun := ⟨[(.ro Y78)], [((.int .i64), .z), (.bool, .z)], fun z => F172 z.1⟩
noncomputable def E172 : Env := ⟨21, tyTab tys, oneTab ones, fnTab [(37, C37), (199, C199)], false, [], [(99999, [2, 3], [])], none, []⟩
noncomputable def L172 : List (LoopS (Int × Bool × Unit)) := []
theorem C172_ok : QuietOk Tryz.prog 172 C172 :=
  told (env := E172) (fn := Tryz.f172) (c := (codeOf Tryz.f172)) (tbl := L172) (ls := []) (vars := Tryz.f172.results.toList) Tryz.func172 (tysC_ok tys_ok rfl rfl) (Told.fnOk (.cons C37_ok (.cons C199_ok .nil)) rfl) (by kernel_rfl) (by decide) rfl (by decide) rfl rfl rfl (by kernel_rfl) .nil (by kernel_rfl)

/- 181: slices.IndexFunc[[]loop.example/g00380/impl.Value,loop.example/g00380/impl.Value] -/
noncomputable def F181_R2 (e0_0 : Unit → Option (Int × Unit)) (er_1 : Int × Unit → Option (Int × Unit)) (rec : List (D78) × (D78 → Option (Bool)) × Int × Int × Unit → Option (Int × Unit)) (x2 : List (D78) × (D78 → Option (Bool)) × Int × Int × Unit) : Option (Int × Unit) :=
 (cond (decide (x2.2.2.2.1 < x2.2.2.1))
 (gd (decide ((0 : Int) ≤ x2.2.2.2.1))
 (Option.bind x2.1[(Int.toNat x2.2.2.2.1)]? fun y5 =>
 (Option.bind (x2.2.1 y5) fun y6 =>
 (cond y6
 (er_1 (x2.2.2.2.1, ()))
 (rec (x2.1, x2.2.1, x2.2.2.1, (IntKind.wrap IntKind.i64 (x2.2.2.2.1 + (1 : Int))), ()))))))
 (e0_0 (())))

noncomputable def F181 (a0 : List (D78)) (a1 : (D78 → Option (Bool))) : Option (Int × Unit) :=
 (iter (F181_R2
 (fun y7 =>
 (some ((-(1 : Int)), ())))
 (fun y8 =>
 (some (y8.1, ())))) fuel (a0, a1, (((List.length a0) : Nat) : Int), (0 : Int), ()))

noncomputable def C181 : Fun := ⟨[(.ro (.slice Y78)), (.fn Y78 .bool)], [((.int .i64), .z)], fun z => F181 z.1 z.2.1⟩
noncomputable def E181 : Env := ⟨19, tyTab tys, oneTab ones, fnTab [], false, [], [(2, [0, 1, 7, 8], []), (3, [0, 1, 7, 8], []), (6, [0, 1, 7, 8], []), (7, [], []), (100000, [], []), (100001, [0, 1, 7, 8], []), (99999, [4], [])], none, []⟩
noncomputable def L181 : List (LoopS (Int × Unit)) := [⟨2, ⟨[(0, (.pv (.slice Y78))), (1, (.fnA Y78 .bool)), (7, (.pv (.int .i64))), (8, (.pv (.int .i64)))], []⟩, fun κ => F181_R2 (fun y => κ.exit 0 (SSh.mk' ⟨[], []⟩ y)) (fun y => κ.ret (SSh.mk' ⟨[(4, (.pv (.int .i64)))], []⟩ y))⟩]
theorem L181_2 : ∀ (κ : Kont (Int × Unit)) (N : St → Option (Int × Unit)) (x : (L181[0]).sh.den), execK E181 (lpOf L181) (nthLoop (codeOf Tryz.f181) 0) { κ with normal := fun σ => N (σ.keepAt (E181).hints 2) } ((L181[0]).sh.mk' x) = (L181[0]).R κ (fun x => N ((L181[0]).sh.mk' x)) x :=
  fun κ N x => by kernel_rfl
theorem C181_ok : QuietOk Tryz.prog 181 C181 :=
  told (env := E181) (fn := Tryz.f181) (c := (codeOf Tryz.f181)) (tbl := L181) (ls := [nthLoop (codeOf Tryz.f181) 0]) (vars := Tryz.f181.results.toList) Tryz.func181 (tysC_ok tys_ok rfl rfl) (Told.fnOk .nil rfl) (by kernel_rfl) (by decide) rfl (by decide) rfl rfl rfl (by kernel_rfl) (.cons L181[0] (by kernel_rfl) L181_2 .nil) (by kernel_rfl)

/- 152: slices.ContainsFunc[[]loop.example/g00380/impl.Value,loop.example/g00380/impl.Value] -/
noncomputable def F152 (a0 : List (D78)) (a1 : (D78 → Option (Bool))) : Option (Bool × Unit) :=
 (Option.bind (F181 a0 a1) fun y0 =>
 (some ((decide (y0.1 ≥ (0 : Int))), ())))

noncomputable def C152 : Fun := ⟨[(.ro (.slice Y78)), (.fn Y78 .bool)], [(.bool, .z)], fun z => F152 z.1 z.2.1⟩
noncomputable def E152 : Env := ⟨9, tyTab tys, oneTab ones, fnTab [(181, C181)], false, [], [(99999, [4], [])], none, []⟩
noncomputable def L152 : List (LoopS (Bool × Unit)) := []
theorem C152_ok : QuietOk Tryz.prog 152 C152 :=
  told (env := E152) (fn := Tryz.f152) (c := (codeOf Tryz.f152)) (tbl := L152) (ls := []) (vars := Tryz.f152.results.toList) Tryz.func152 (tysC_ok tys_ok rfl rfl) (Told.fnOk (.cons C181_ok .nil) rfl) (by kernel_rfl) (by decide) rfl (by decide) rfl rfl rfl (by kernel_rfl) .nil (by kernel_rfl)

/- 231: loop.example/g00380/impl.isNumber -/
noncomputable def F231 (a0 : Int) : Option (Bool × Unit) :=
 (Option.bind (F37 a0 (-(1000000000000 : Int)) (1000000000000 : Int)) fun y0 =>
 (some (y0.1, ())))

noncomputable def C231 : Fun := ⟨[(.ro (.int .i64))], [(.bool, .z)], fun z => F231 z.1⟩
noncomputable def E231 : Env := ⟨5, tyTab tys, oneTab ones, fnTab [(37, C37)], false, [], [(99999, [2], [])], none, []⟩
noncomputable def L231 : List (LoopS (Bool × Unit)) := []
theorem C231_ok : QuietOk Tryz.prog 231 C231 :=
  told (env := E231) (fn := Tryz.f231) (c := (codeOf Tryz.f231)) (tbl := L231) (ls := []) (vars := Tryz.f231.results.toList) Tryz.func231 (tysC_ok tys_ok rfl rfl) (Told.fnOk (.cons C37_ok .nil) rfl) (by kernel_rfl) (by decide) rfl (by decide) rfl rfl rfl (by kernel_rfl) .nil (by kernel_rfl)

/- 183: loop.example/g00380/impl.items -/
noncomputable def F183_R2 (e0_0 : D193 × List (D78) × Unit → Option (List (D78) × Bool × Unit)) (rec : D193 × List (D78) × Unit → Option (List (D78) × Bool × Unit)) (x2 : D193 × List (D78) × Unit) : Option (List (D78) × Bool × Unit) :=
 (cond (!(x2.1.1 == []))
 (cond (!x2.1.2.1)
 (Option.bind (F210 x2.1) fun y4 =>
 (gd (decide (((List.length x2.2.1) + (List.length [y4.1])) ≤ lim))
 (rec (y4.2.1, (x2.2.1 ++ [y4.1]), ()))))
 (e0_0 (x2.1, x2.2.1, ())))
 (e0_0 (x2.1, x2.2.1, ())))

noncomputable def F183 (a0 : D78) : Option (List (D78) × Bool × Unit) :=
 (iter (F183_R2
 (fun y5 =>
 (some (y5.2.1, ((!y5.1.2.1), ()))))) fuel ((a0.2.2.1, (false, ())), [], ()))

noncomputable def C183 : Fun := ⟨[(.ro Y78)], [((.slice Y78), .z), (.bool, .z)], fun z => F183 z.1⟩
noncomputable def E183 : Env := ⟨34, tyTab tys, oneTab ones, fnTab [(210, C210)], false, [], [(2, [4, 5], []), (3, [4, 5], []), (4, [4, 5], []), (100000, [4, 5], []), (100001, [4, 5], []), (99999, [2, 3], [])], none, []⟩
noncomputable def L183 : List (LoopS (List (D78) × Bool × Unit)) := [⟨2, ⟨[(4, (.ptr 72 [])), (5, (.ref (.slice Y78) 80 []))], [(72, (.data true Y193 .z)), (80, (.data false (.slice Y78) (.own .z)))]⟩, fun κ => F183_R2 (fun y => κ.exit 0 (SSh.mk' ⟨[(4, (.ptr 72 [])), (5, (.ref (.slice Y78) 80 []))], [(72, (.data true Y193 .z)), (80, (.data false (.slice Y78) (.own .z)))]⟩ y))⟩]
theorem L183_2 : ∀ (κ : Kont (List (D78) × Bool × Unit)) (N : St → Option (List (D78) × Bool × Unit)) (x : (L183[0]).sh.den), execK E183 (lpOf L183) (nthLoop (codeOf Tryz.f183) 0) { κ with normal := fun σ => N (σ.keepAt (E183).hints 2) } ((L183[0]).sh.mk' x) = (L183[0]).R κ (fun x => N ((L183[0]).sh.mk' x)) x :=
  fun κ N x => by kernel_rfl
theorem C183_ok : QuietOk Tryz.prog 183 C183 :=
  told (env := E183) (fn := Tryz.f183) (c := (codeOf Tryz.f183)) (tbl := L183) (ls := [nthLoop (codeOf Tryz.f183) 0]) (vars := Tryz.f183.results.toList) Tryz.func183 (tysC_ok tys_ok rfl rfl) (Told.fnOk (.consIo C210_ok .nil) rfl) (by kernel_rfl) (by decide) rfl (by decide) rfl rfl rfl (by kernel_rfl) (.cons L183[0] (by kernel_rfl) L183_2 .nil) (by kernel_rfl)

/- 232: loop.example/g00380/impl.inner -/
noncomputable def F232_R6 (e0_0 : Bool × List (D78) × Unit → Option (List (D78) × Bool × Unit)) (rec : List (D253) × Bool × List (D253) × Int × Int × List (D78) × Unit → Option (List (D78) × Bool × Unit)) (x5 : List (D253) × Bool × List (D253) × Int × Int × List (D78) × Unit) : Option (List (D78) × Bool × Unit) :=
 (cond (decide (x5.2.2.2.2.1 < x5.2.2.2.1))
 (gd (decide ((0 : Int) ≤ x5.2.2.2.2.1))
 (Option.bind x5.2.2.1[(Int.toNat x5.2.2.2.2.1)]? fun y7 =>
 (cond x5.2.1
 (Option.bind (F98 y7.1) fun y8 =>
 (cond y8.1
 (cond (x5.2.2.2.2.1 == (0 : Int))
 (gd (decide (((List.length x5.2.2.2.2.2.1) + (List.length [y7.2.1])) ≤ lim))
 (rec (x5.1, true, x5.2.2.1, x5.2.2.2.1, (IntKind.wrap IntKind.i64 (x5.2.2.2.2.1 + (1 : Int))), (x5.2.2.2.2.2.1 ++ [y7.2.1]), ())))
 (gd (decide ((0 : Int) ≤ (IntKind.wrap IntKind.i64 (x5.2.2.2.2.1 - (1 : Int)))))
 (Option.bind x5.1[(Int.toNat (IntKind.wrap IntKind.i64 (x5.2.2.2.2.1 - (1 : Int))))]? fun y9 =>
 (gd (decide (((List.length x5.2.2.2.2.2.1) + (List.length [y7.2.1])) ≤ lim))
 (rec (x5.1, (Op.bytesLess y9.1 y7.1), x5.2.2.1, x5.2.2.2.1, (IntKind.wrap IntKind.i64 (x5.2.2.2.2.1 + (1 : Int))), (x5.2.2.2.2.2.1 ++ [y7.2.1]), ()))))))
 (gd (decide (((List.length x5.2.2.2.2.2.1) + (List.length [y7.2.1])) ≤ lim))
 (rec (x5.1, false, x5.2.2.1, x5.2.2.2.1, (IntKind.wrap IntKind.i64 (x5.2.2.2.2.1 + (1 : Int))), (x5.2.2.2.2.2.1 ++ [y7.2.1]), ())))))
 (gd (decide (((List.length x5.2.2.2.2.2.1) + (List.length [y7.2.1])) ≤ lim))
 (rec (x5.1, false, x5.2.2.1, x5.2.2.2.1, (IntKind.wrap IntKind.i64 (x5.2.2.2.2.1 + (1 : Int))), (x5.2.2.2.2.2.1 ++ [y7.2.1]), ()))))))
 (e0_0 (x5.2.1, x5.2.2.2.2.2.1, ())))

noncomputable def F232 (a0 : D78) : Option (List (D78) × Bool × Unit) :=
 (cond (a0.1 == (4 : Int))
 (Option.bind (F183 a0) fun y1 =>
 (some (y1.1, (y1.2.1, ()))))
 (Option.bind (F207 a0) fun y2 =>
 (iter (F232_R6
 (fun y10 =>
 (some (y10.2.1, (y10.1, ()))))) fuel (y2.1, y2.2.1, y2.1, (((List.length y2.1) : Nat) : Int), (0 : Int), [], ()))))

noncomputable def C232 : Fun := ⟨[(.ro Y78)], [((.slice Y78), .z), (.bool, .z)], fun z => F232 z.1⟩
noncomputable def E232 : Env := ⟨58, tyTab tys, oneTab ones, fnTab [(98, C98), (183, C183), (207, C207)], false, [], [(3, [1], []), (6, [4, 5, 6, 22, 23, 24], []), (7, [4, 5, 6, 22, 23, 24], []), (11, [5, 6], []), (100000, [5, 6], []), (100001, [4, 5, 6, 22, 23, 24], []), (99999, [2, 3], [])], none, []⟩
noncomputable def L232 : List (LoopS (List (D78) × Bool × Unit)) := [⟨6, ⟨[(4, (.pv (.slice Y253))), (5, (.pv .bool)), (6, (.ref (.slice Y78) 168 [])), (22, (.pv (.slice Y253))), (23, (.pv (.int .i64))), (24, (.pv (.int .i64)))], [(168, (.data false (.slice Y78) (.own .z)))]⟩, fun κ => F232_R6 (fun y => κ.exit 0 (SSh.mk' ⟨[(5, (.pv .bool)), (6, (.ref (.slice Y78) 168 []))], [(168, (.data false (.slice Y78) (.own .z)))]⟩ y))⟩]
theorem L232_6 : ∀ (κ : Kont (List (D78) × Bool × Unit)) (N : St → Option (List (D78) × Bool × Unit)) (x : (L232[0]).sh.den), execK E232 (lpOf L232) (nthLoop (codeOf Tryz.f232) 0) { κ with normal := fun σ => N (σ.keepAt (E232).hints 6) } ((L232[0]).sh.mk' x) = (L232[0]).R κ (fun x => N ((L232[0]).sh.mk' x)) x :=
  fun κ N x => by kernel_rfl
theorem C232_ok : QuietOk Tryz.prog 232 C232 :=
  told (env := E232) (fn := Tryz.f232) (c := (codeOf Tryz.f232)) (tbl := L232) (ls := [nthLoop (codeOf Tryz.f232) 0]) (vars := Tryz.f232.results.toList) Tryz.func232 (tysC_ok tys_ok rfl rfl) (Told.fnOk (.cons C98_ok (.cons C183_ok (.cons C207_ok .nil))) rfl) (by kernel_rfl) (by decide) rfl (by decide) rfl rfl rfl (by kernel_rfl) (.cons L232[0] (by kernel_rfl) L232_6 .nil) (by kernel_rfl)
abbrev G219 : Type := (D78) → (Int) → Option (Bool × Unit)
noncomputable def H219 (g : G219) : Fun := ⟨[(.ro Y78), (.ro (.int .i64))], [(.bool, .z)], fun z => g z.1 z.2.1⟩

/- 233: loop.example/g00380/impl.isRight$1 -/
noncomputable def B233 (g : G219) (a0 : D78) (a1 : Int) : Option (Bool × Unit) :=
 (Option.bind (g a0 (IntKind.wrap IntKind.i64 (a1 - (1 : Int)))) fun y0 =>
 (some ((!y0.1), ())))

noncomputable def K233 (g : G219) : Fun := ⟨[(.ro Y78), (.rp (.int .i64))], [(.bool, .z)], fun z => B233 g z.1 z.2.1⟩
noncomputable def E233 (g : G219) : Env := ⟨9, tyTab tys, oneTab ones, fnTab [(219, (H219 g))], false, [], [(99999, [3], [])], none, []⟩
noncomputable def L233 (g : G219) : List (LoopS (Bool × Unit)) := []
theorem K233_ok (g : G219) (hg : QuietOk Tryz.prog 219 (H219 g)) : QuietOk Tryz.prog 233 (K233 g) :=
  told (env := (E233 g)) (fn := Tryz.f233) (c := (codeOf Tryz.f233)) (tbl := (L233 g)) (ls := []) (vars := Tryz.f233.results.toList) Tryz.func233 (tysC_ok tys_ok rfl rfl) (Told.fnOk (.cons hg .nil) rfl) (by kernel_rfl) (by decide) rfl (by decide) rfl rfl rfl (by kernel_rfl) .nil (by kernel_rfl)

/- 219: loop.example/g00380/impl.isRight -/
noncomputable def B219 (g : G219) (a0 : D78) (a1 : Int) : Option (Bool × Unit) :=
 (let j8 : Unit → Option (Bool × Unit) := fun (y9 : Unit) =>
 (some (false, ()))
 (cond (a0.1 == (0 : Int))
 (some (((decide (a0.1 = (0 : Int))) && ((decide (a0.2.1 = (0 : Int))) && ((a0.2.2.1 == []) && true))), ()))
 (cond (a0.1 == (1 : Int))
 (Option.bind (F37 a0.2.1 (0 : Int) (1 : Int)) fun y1 =>
 (cond y1.1
 (some ((a0.2.2.1 == []), ()))
 (some (false, ()))))
 (cond (a0.1 == (2 : Int))
 (Option.bind (F231 a0.2.1) fun y2 =>
 (cond y2.1
 (some ((a0.2.2.1 == []), ()))
 (some (false, ()))))
 (cond (a0.1 == (3 : Int))
 (cond (a0.2.1 == (0 : Int))
 (some ((decide ((((List.length a0.2.2.1) : Nat) : Int) ≤ (300 : Int))), ()))
 (some (false, ())))
 (cond (a0.1 == (4 : Int))
 (cond (a0.1 == (4 : Int))
 (Option.bind (F232 a0) fun y4 =>
 (cond (a0.2.1 == (0 : Int))
 (cond (decide ((((List.length a0.2.2.1) : Nat) : Int) ≤ (300 : Int)))
 (cond (decide (a1 > (0 : Int)))
 (cond y4.2.1
 (Option.bind (F152 y4.1 (fun (v6 : D78) => (Option.map (fun (v7 : (Bool × Unit)) => v7.1) (B233 g v6 a1)))) fun y5 =>
 (some ((!y5.1), ())))
 (some (false, ())))
 (some (false, ())))
 (some (false, ())))
 (some (false, ()))))
 (j8 (())))
 (cond (a0.1 == (5 : Int))
 (Option.bind (F232 a0) fun y6 =>
 (cond (a0.2.1 == (0 : Int))
 (cond (decide ((((List.length a0.2.2.1) : Nat) : Int) ≤ (300 : Int)))
 (cond (decide (a1 > (0 : Int)))
 (cond y6.2.1
 (Option.bind (F152 y6.1 (fun (v6 : D78) => (Option.map (fun (v7 : (Bool × Unit)) => v7.1) (B233 g v6 a1)))) fun y7 =>
 (some ((!y7.1), ())))
 (some (false, ())))
 (some (false, ())))
 (some (false, ())))
 (some (false, ()))))
 (j8 (())))))))))

noncomputable def K219 (g : G219) : Fun := ⟨[(.ro Y78), (.ro (.int .i64))], [(.bool, .z)], fun z => B219 g z.1 z.2.1⟩
noncomputable def E219 (g : G219) : Env := ⟨75, tyTab tys, oneTab ones, fnTab [(37, C37), (152, C152), (231, C231), (232, C232), (233, (K233 g))], false, [], [(14, [], []), (100000, [], []), (99999, [4], [])], none, []⟩
noncomputable def L219 (g : G219) : List (LoopS (Bool × Unit)) := []
theorem K219_ok (g : G219) (hg : QuietOk Tryz.prog 219 (H219 g)) : QuietOk Tryz.prog 219 (K219 g) :=
  told (env := (E219 g)) (fn := Tryz.f219) (c := (codeOf Tryz.f219)) (tbl := (L219 g)) (ls := []) (vars := Tryz.f219.results.toList) Tryz.func219 (tysC_ok tys_ok rfl rfl) (Told.fnOk (.cons C37_ok (.cons C152_ok (.cons C231_ok (.cons C232_ok (.cons (K233_ok g hg) .nil))))) rfl) (by kernel_rfl) (by decide) rfl (by decide) rfl rfl rfl (by kernel_rfl) .nil (by kernel_rfl)

noncomputable def S219 : Nat → G219
  | 0 => fun _ _ => none
  | k + 1 => B219 (S219 k)
noncomputable def F219 : G219 := S219 fuel
noncomputable def C219 : Fun := H219 F219
theorem C219_all : ∀ k, QuietOk Tryz.prog 219 (H219 (S219 k))
  | 0 => QuietOk.none Tryz.func219 (by rfl) (by decide) fun _ => rfl
  | k + 1 => K219_ok (S219 k) (C219_all k)
theorem C219_ok : QuietOk Tryz.prog 219 C219 := C219_all fuel

/- 200: loop.example/g00380/impl.ValueOK -/
noncomputable def F200 (a0 : D78) : Option (Bool × Unit) :=
 (Option.bind (F219 a0 (5 : Int)) fun y0 =>
 (some (y0.1, ())))

noncomputable def C200 : Fun := ⟨[(.ro Y78)], [(.bool, .z)], fun z => F200 z.1⟩
noncomputable def E200 : Env := ⟨5, tyTab tys, oneTab ones, fnTab [(219, C219)], false, [], [(99999, [2], [])], none, []⟩
noncomputable def L200 : List (LoopS (Bool × Unit)) := []
theorem C200_ok : QuietOk Tryz.prog 200 C200 :=
  told (env := E200) (fn := Tryz.f200) (c := (codeOf Tryz.f200)) (tbl := L200) (ls := []) (vars := Tryz.f200.results.toList) Tryz.func200 (tysC_ok tys_ok rfl rfl) (Told.fnOk (.cons C219_ok .nil) rfl) (by kernel_rfl) (by decide) rfl (by decide) rfl rfl rfl (by kernel_rfl) .nil (by kernel_rfl)

/- 173: loop.example/g00380/impl.isDoc -/
noncomputable def F173 (a0 : D78) : Option (Bool × Unit) :=
 (cond (a0.1 == (5 : Int))
 (Option.bind (F200 a0) fun y0 =>
 (some (y0.1, ())))
 (some (false, ())))

noncomputable def C173 : Fun := ⟨[(.ro Y78)], [(.bool, .z)], fun z => F173 z.1⟩
noncomputable def E173 : Env := ⟨10, tyTab tys, oneTab ones, fnTab [(200, C200)], false, [], [(99999, [2], [])], none, []⟩
noncomputable def L173 : List (LoopS (Bool × Unit)) := []
theorem C173_ok : QuietOk Tryz.prog 173 C173 :=
  told (env := E173) (fn := Tryz.f173) (c := (codeOf Tryz.f173)) (tbl := L173) (ls := []) (vars := Tryz.f173.results.toList) Tryz.func173 (tysC_ok tys_ok rfl rfl) (Told.fnOk (.cons C200_ok .nil) rfl) (by kernel_rfl) (by decide) rfl (by decide) rfl rfl rfl (by kernel_rfl) .nil (by kernel_rfl)

/- 140: loop.example/g00380/impl.docOK -/
noncomputable def F140 (a0 : Bool) (a1 : D78) (a2 : Int) : Option (Bool × Unit) :=
 (cond a0
 (some (((decide (a1.1 = (0 : Int))) && ((decide (a1.2.1 = (0 : Int))) && ((a1.2.2.1 == []) && true))), ()))
 (Option.bind (F172 a1) fun y1 =>
 (Option.bind (F173 a1) fun y2 =>
 (cond y2.1
 (cond y1.2.1
 (some ((y1.1 == a2), ()))
 (some (false, ())))
 (some (false, ()))))))

noncomputable def C140 : Fun := ⟨[(.ro .bool), (.ro Y78), (.ro (.int .i64))], [(.bool, .z)], fun z => F140 z.1 z.2.1 z.2.2.1⟩
noncomputable def E140 : Env := ⟨28, tyTab tys, oneTab ones, fnTab [(172, C172), (173, C173)], false, [], [(3, [2, 4], []), (99999, [6], [])], none, []⟩
noncomputable def L140 : List (LoopS (Bool × Unit)) := []
theorem C140_ok : QuietOk Tryz.prog 140 C140 :=
  told (env := E140) (fn := Tryz.f140) (c := (codeOf Tryz.f140)) (tbl := L140) (ls := []) (vars := Tryz.f140.results.toList) Tryz.func140 (tysC_ok tys_ok rfl rfl) (Told.fnOk (.cons C172_ok (.cons C173_ok .nil)) rfl) (by kernel_rfl) (by decide) rfl (by decide) rfl rfl rfl (by kernel_rfl) .nil (by kernel_rfl)

/- 97: loop.example/g00380/impl.chainOK -/
noncomputable def F97_R2 (e0_0 : D76 × Unit → Option (Bool × Unit)) (er_1 : Bool × Unit → Option (Bool × Unit)) (rec : List (D80) × Int × Int × D76 × Unit → Option (Bool × Unit)) (x2 : List (D80) × Int × Int × D76 × Unit) : Option (Bool × Unit) :=
 (cond (decide (x2.2.2.1 < x2.2.1))
 (let j10 : List (D80) × Int × Int × D76 × Unit → Option (Bool × Unit) := fun (y11 : List (D80) × Int × Int × D76 × Unit) =>
 (rec (y11.1, y11.2.1, (IntKind.wrap IntKind.i64 (y11.2.2.1 + (1 : Int))), y11.2.2.2.1, ()))
 (gd (decide ((0 : Int) ≤ x2.2.2.1))
 (Option.bind x2.1[(Int.toNat x2.2.2.1)]? fun y5 =>
 (Option.bind (F101 y5.1) fun y6 =>
 (cond (!y6.1)
 (er_1 (false, ()))
 (cond (decide (x2.2.2.1 > (0 : Int)))
 (gd (decide ((0 : Int) ≤ (IntKind.wrap IntKind.i64 (x2.2.2.1 - (1 : Int)))))
 (Option.bind x2.2.2.2.1.2.1[(Int.toNat (IntKind.wrap IntKind.i64 (x2.2.2.1 - (1 : Int))))]? fun y7 =>
 (cond (decide (y7.1 ≥ y5.1))
 (er_1 (false, ()))
 (Option.bind (F140 y5.2.1 y5.2.2.1 x2.2.2.2.1.1) fun y8 =>
 (cond (!y8.1)
 (er_1 (false, ()))
 (j10 (x2.1, x2.2.1, x2.2.2.1, x2.2.2.2.1, ())))))))
 (Option.bind (F140 y5.2.1 y5.2.2.1 x2.2.2.2.1.1) fun y9 =>
 (cond (!y9.1)
 (er_1 (false, ()))
 (j10 (x2.1, x2.2.1, x2.2.2.1, x2.2.2.2.1, ()))))))))))
 (e0_0 (x2.2.2.2.1, ())))

noncomputable def F97 (a0 : D76) : Option (Bool × Unit) :=
 (iter (F97_R2
 (fun y12 =>
 (Option.bind (F37 y12.1.1 (0 : Int) (19 : Int)) fun y14 =>
 (cond y14.1
 (Option.bind (F37 (((List.length y12.1.2.1) : Nat) : Int) (1 : Int) (12 : Int)) fun y15 =>
 (some (y15.1, ())))
 (some (false, ())))))
 (fun y13 =>
 (some (y13.1, ())))) fuel (a0.2.1, (((List.length a0.2.1) : Nat) : Int), (0 : Int), a0, ()))

noncomputable def C97 : Fun := ⟨[(.ro Y76)], [(.bool, .z)], fun z => F97 z.1⟩
noncomputable def E97 : Env := ⟨53, tyTab tys, oneTab ones, fnTab [(37, C37), (101, C101), (140, C140)], false, [], [(2, [1, 6, 7, 8], []), (3, [1, 6, 7, 8], []), (6, [1, 6, 7, 8], []), (7, [1], []), (100000, [1], []), (100001, [1, 6, 7, 8], []), (99999, [2], [])], none, []⟩
noncomputable def L97 : List (LoopS (Bool × Unit)) := [⟨2, ⟨[(1, (.ptr 8 [])), (6, (.pv (.slice Y80))), (7, (.pv (.int .i64))), (8, (.pv (.int .i64)))], [(8, (.data true Y76 .z))]⟩, fun κ => F97_R2 (fun y => κ.exit 0 (SSh.mk' ⟨[(1, (.ptr 8 []))], [(8, (.data true Y76 .z))]⟩ y)) (fun y => κ.ret (SSh.mk' ⟨[(2, (.pv .bool))], []⟩ y))⟩]
theorem L97_2 : ∀ (κ : Kont (Bool × Unit)) (N : St → Option (Bool × Unit)) (x : (L97[0]).sh.den), execK E97 (lpOf L97) (nthLoop (codeOf Tryz.f97) 0) { κ with normal := fun σ => N (σ.keepAt (E97).hints 2) } ((L97[0]).sh.mk' x) = (L97[0]).R κ (fun x => N ((L97[0]).sh.mk' x)) x :=
  fun κ N x => by kernel_rfl
theorem C97_ok : QuietOk Tryz.prog 97 C97 :=
  told (env := E97) (fn := Tryz.f97) (c := (codeOf Tryz.f97)) (tbl := L97) (ls := [nthLoop (codeOf Tryz.f97) 0]) (vars := Tryz.f97.results.toList) Tryz.func97 (tysC_ok tys_ok rfl rfl) (Told.fnOk (.cons C37_ok (.cons C101_ok (.cons C140_ok .nil))) rfl) (by kernel_rfl) (by decide) rfl (by decide) rfl rfl rfl (by kernel_rfl) (.cons L97[0] (by kernel_rfl) L97_2 .nil) (by kernel_rfl)

/- 64: loop.example/g00380/impl.CollOK -/
noncomputable def F64_R2 (e0_0 : D57 × Unit → Option (Bool × Unit)) (er_1 : Bool × Unit → Option (Bool × Unit)) (rec : List (D139) × Int × Int × D57 × Unit → Option (Bool × Unit)) (x2 : List (D139) × Int × Int × D57 × Unit) : Option (Bool × Unit) :=
 (cond (decide (x2.2.2.1 < x2.2.1))
 (gd (decide ((0 : Int) ≤ x2.2.2.1))
 (Option.bind x2.1[(Int.toNat x2.2.2.1)]? fun y5 =>
 (Option.bind (F95 y5) fun y6 =>
 (cond (!y6.1)
 (er_1 (false, ()))
 (Option.bind (F96 x2.2.2.2.1 y5.1) fun y7 =>
 (cond (decide (y7.1 < x2.2.2.1))
 (er_1 (false, ()))
 (rec (x2.1, x2.2.1, (IntKind.wrap IntKind.i64 (x2.2.2.1 + (1 : Int))), x2.2.2.2.1, ()))))))))
 (e0_0 (x2.2.2.2.1, ())))

noncomputable def F64_R8 (e2_0 : D57 × Unit → Option (Bool × Unit)) (er_1 : Bool × Unit → Option (Bool × Unit)) (rec : List (D76) × Int × Int × D57 × Unit → Option (Bool × Unit)) (x12 : List (D76) × Int × Int × D57 × Unit) : Option (Bool × Unit) :=
 (cond (decide (x12.2.2.1 < x12.2.1))
 (let j18 : List (D76) × Int × Int × D57 × Unit → Option (Bool × Unit) := fun (y19 : List (D76) × Int × Int × D57 × Unit) =>
 (rec (y19.1, y19.2.1, (IntKind.wrap IntKind.i64 (y19.2.2.1 + (1 : Int))), y19.2.2.2.1, ()))
 (gd (decide ((0 : Int) ≤ x12.2.2.1))
 (Option.bind x12.1[(Int.toNat x12.2.2.1)]? fun y15 =>
 (Option.bind (F97 y15) fun y16 =>
 (cond (!y16.1)
 (er_1 (false, ()))
 (cond (decide (x12.2.2.1 > (0 : Int)))
 (gd (decide ((0 : Int) ≤ (IntKind.wrap IntKind.i64 (x12.2.2.1 - (1 : Int)))))
 (Option.bind x12.2.2.2.1.2.1[(Int.toNat (IntKind.wrap IntKind.i64 (x12.2.2.1 - (1 : Int))))]? fun y17 =>
 (cond (decide (y17.1 ≥ y15.1))
 (er_1 (false, ()))
 (j18 (x12.1, x12.2.1, x12.2.2.1, x12.2.2.2.1, ())))))
 (j18 (x12.1, x12.2.1, x12.2.2.1, x12.2.2.2.1, ()))))))))
 (e2_0 (x12.2.2.2.1, ())))

noncomputable def F64 (a0 : D57) : Option (Bool × Unit) :=
 (iter (F64_R2
 (fun y8 =>
 (iter (F64_R8
 (fun y20 =>
 (Option.bind (F98 y20.1.1) fun y22 =>
 (cond y22.1
 (some ((decide ((((List.length y20.1.2.2.1) : Nat) : Int) ≤ (3 : Int))), ()))
 (some (false, ())))))
 (fun y21 =>
 (some (y21.1, ())))) fuel (y8.1.2.1, (((List.length y8.1.2.1) : Nat) : Int), (0 : Int), y8.1, ())))
 (fun y9 =>
 (some (y9.1, ())))) fuel (a0.2.2.1, (((List.length a0.2.2.1) : Nat) : Int), (0 : Int), a0, ()))

noncomputable def C64 : Fun := ⟨[(.ro Y57)], [(.bool, .z)], fun z => F64 z.1⟩
noncomputable def E64 : Env := ⟨64, tyTab tys, oneTab ones, fnTab [(95, C95), (96, C96), (97, C97), (98, C98)], false, [], [(2, [1, 8, 9, 10], []), (3, [1, 8, 9, 10], []), (6, [1, 8, 9, 10], []), (7, [1], []), (8, [1, 28, 29, 30], []), (9, [1, 28, 29, 30], []), (12, [1, 28, 29, 30], []), (13, [1], []), (100000, [1], []), (100001, [1, 8, 9, 10], []), (100002, [1], []), (100003, [1, 28, 29, 30], []), (99999, [2], [])], none, []⟩
noncomputable def L64 : List (LoopS (Bool × Unit)) := [⟨2, ⟨[(1, (.ptr 8 [])), (8, (.pv (.slice Y139))), (9, (.pv (.int .i64))), (10, (.pv (.int .i64)))], [(8, (.data true Y57 .z))]⟩, fun κ => F64_R2 (fun y => κ.exit 0 (SSh.mk' ⟨[(1, (.ptr 8 []))], [(8, (.data true Y57 .z))]⟩ y)) (fun y => κ.ret (SSh.mk' ⟨[(2, (.pv .bool))], []⟩ y))⟩,
  ⟨8, ⟨[(1, (.ptr 8 [])), (28, (.pv (.slice Y76))), (29, (.pv (.int .i64))), (30, (.pv (.int .i64)))], [(8, (.data true Y57 .z))]⟩, fun κ => F64_R8 (fun y => κ.exit 2 (SSh.mk' ⟨[(1, (.ptr 8 []))], [(8, (.data true Y57 .z))]⟩ y)) (fun y => κ.ret (SSh.mk' ⟨[(2, (.pv .bool))], []⟩ y))⟩]
theorem L64_8 : ∀ (κ : Kont (Bool × Unit)) (N : St → Option (Bool × Unit)) (x : (L64[1]).sh.den), execK E64 (lpOf L64) (nthLoop (codeOf Tryz.f64) 1) { κ with normal := fun σ => N (σ.keepAt (E64).hints 8) } ((L64[1]).sh.mk' x) = (L64[1]).R κ (fun x => N ((L64[1]).sh.mk' x)) x :=
  fun κ N x => by kernel_rfl
theorem L64_2 : ∀ (κ : Kont (Bool × Unit)) (N : St → Option (Bool × Unit)) (x : (L64[0]).sh.den), execK E64 (lpOf L64) (nthLoop (codeOf Tryz.f64) 0) { κ with normal := fun σ => N (σ.keepAt (E64).hints 2) } ((L64[0]).sh.mk' x) = (L64[0]).R κ (fun x => N ((L64[0]).sh.mk' x)) x :=
  fun κ N x => by kernel_rfl
theorem C64_ok : QuietOk Tryz.prog 64 C64 :=
  told (env := E64) (fn := Tryz.f64) (c := (codeOf Tryz.f64)) (tbl := L64) (ls := [nthLoop (codeOf Tryz.f64) 0, nthLoop (codeOf Tryz.f64) 1]) (vars := Tryz.f64.results.toList) Tryz.func64 (tysC_ok tys_ok rfl rfl) (Told.fnOk (.cons C95_ok (.cons C96_ok (.cons C97_ok (.cons C98_ok .nil)))) rfl) (by kernel_rfl) (by decide) rfl (by decide) rfl rfl rfl (by kernel_rfl) (.cons L64[0] (by kernel_rfl) L64_2 (.cons L64[1] (by kernel_rfl) L64_8 .nil)) (by kernel_rfl)

/- 35: loop.example/g00380/impl.areColls -/
noncomputable def F35_R2 (e0_0 : List (D57) × Unit → Option (Bool × Unit)) (er_1 : Bool × Unit → Option (Bool × Unit)) (rec : List (D57) × List (D57) × Int × Int × Unit → Option (Bool × Unit)) (x2 : List (D57) × List (D57) × Int × Int × Unit) : Option (Bool × Unit) :=
 (cond (decide (x2.2.2.2.1 < x2.2.2.1))
 (let j8 : List (D57) × List (D57) × Int × Int × Unit → Option (Bool × Unit) := fun (y9 : List (D57) × List (D57) × Int × Int × Unit) =>
 (rec (y9.1, y9.2.1, y9.2.2.1, (IntKind.wrap IntKind.i64 (y9.2.2.2.1 + (1 : Int))), ()))
 (gd (decide ((0 : Int) ≤ x2.2.2.2.1))
 (Option.bind x2.2.1[(Int.toNat x2.2.2.2.1)]? fun y5 =>
 (Option.bind (F64 y5) fun y6 =>
 (cond (!y6.1)
 (er_1 (false, ()))
 (cond (decide (x2.2.2.2.1 > (0 : Int)))
 (gd (decide ((0 : Int) ≤ (IntKind.wrap IntKind.i64 (x2.2.2.2.1 - (1 : Int)))))
 (Option.bind x2.1[(Int.toNat (IntKind.wrap IntKind.i64 (x2.2.2.2.1 - (1 : Int))))]? fun y7 =>
 (cond (!(Op.bytesLess y7.1 y5.1))
 (er_1 (false, ()))
 (j8 (x2.1, x2.2.1, x2.2.2.1, x2.2.2.2.1, ())))))
 (j8 (x2.1, x2.2.1, x2.2.2.1, x2.2.2.2.1, ()))))))))
 (e0_0 (x2.1, ())))

noncomputable def F35 (a0 : List (D57)) : Option (Bool × Unit) :=
 (iter (F35_R2
 (fun y10 =>
 (some ((decide ((((List.length y10.1) : Nat) : Int) ≤ (3 : Int))), ())))
 (fun y11 =>
 (some (y11.1, ())))) fuel (a0, a0, (((List.length a0) : Nat) : Int), (0 : Int), ()))

noncomputable def C35 : Fun := ⟨[(.ro (.slice Y57))], [(.bool, .z)], fun z => F35 z.1⟩
noncomputable def E35 : Env := ⟨34, tyTab tys, oneTab ones, fnTab [(64, C64)], false, [], [(2, [0, 5, 6, 7], []), (3, [0, 5, 6, 7], []), (6, [0, 5, 6, 7], []), (7, [0], []), (100000, [0], []), (100001, [0, 5, 6, 7], []), (99999, [2], [])], none, []⟩
noncomputable def L35 : List (LoopS (Bool × Unit)) := [⟨2, ⟨[(0, (.pv (.slice Y57))), (5, (.pv (.slice Y57))), (6, (.pv (.int .i64))), (7, (.pv (.int .i64)))], []⟩, fun κ => F35_R2 (fun y => κ.exit 0 (SSh.mk' ⟨[(0, (.pv (.slice Y57)))], []⟩ y)) (fun y => κ.ret (SSh.mk' ⟨[(2, (.pv .bool))], []⟩ y))⟩]
theorem L35_2 : ∀ (κ : Kont (Bool × Unit)) (N : St → Option (Bool × Unit)) (x : (L35[0]).sh.den), execK E35 (lpOf L35) (nthLoop (codeOf Tryz.f35) 0) { κ with normal := fun σ => N (σ.keepAt (E35).hints 2) } ((L35[0]).sh.mk' x) = (L35[0]).R κ (fun x => N ((L35[0]).sh.mk' x)) x :=
  fun κ N x => by kernel_rfl
theorem C35_ok : QuietOk Tryz.prog 35 C35 :=
  told (env := E35) (fn := Tryz.f35) (c := (codeOf Tryz.f35)) (tbl := L35) (ls := [nthLoop (codeOf Tryz.f35) 0]) (vars := Tryz.f35.results.toList) Tryz.func35 (tysC_ok tys_ok rfl rfl) (Told.fnOk (.cons C64_ok .nil) rfl) (by kernel_rfl) (by decide) rfl (by decide) rfl rfl rfl (by kernel_rfl) (.cons L35[0] (by kernel_rfl) L35_2 .nil) (by kernel_rfl)

/- 72: slices.IndexFunc[[]loop.example/g00380/impl.Change,loop.example/g00380/impl.Change] -/
noncomputable def F72_R2 (e0_0 : Unit → Option (Int × Unit)) (er_1 : Int × Unit → Option (Int × Unit)) (rec : List (D95) × (D95 → Option (Bool)) × Int × Int × Unit → Option (Int × Unit)) (x2 : List (D95) × (D95 → Option (Bool)) × Int × Int × Unit) : Option (Int × Unit) :=
 (cond (decide (x2.2.2.2.1 < x2.2.2.1))
 (gd (decide ((0 : Int) ≤ x2.2.2.2.1))
 (Option.bind x2.1[(Int.toNat x2.2.2.2.1)]? fun y5 =>
 (Option.bind (x2.2.1 y5) fun y6 =>
 (cond y6
 (er_1 (x2.2.2.2.1, ()))
 (rec (x2.1, x2.2.1, x2.2.2.1, (IntKind.wrap IntKind.i64 (x2.2.2.2.1 + (1 : Int))), ()))))))
 (e0_0 (())))

noncomputable def F72 (a0 : List (D95)) (a1 : (D95 → Option (Bool))) : Option (Int × Unit) :=
 (iter (F72_R2
 (fun y7 =>
 (some ((-(1 : Int)), ())))
 (fun y8 =>
 (some (y8.1, ())))) fuel (a0, a1, (((List.length a0) : Nat) : Int), (0 : Int), ()))

noncomputable def C72 : Fun := ⟨[(.ro (.slice Y95)), (.fn Y95 .bool)], [((.int .i64), .z)], fun z => F72 z.1 z.2.1⟩
noncomputable def E72 : Env := ⟨19, tyTab tys, oneTab ones, fnTab [], false, [], [(2, [0, 1, 7, 8], []), (3, [0, 1, 7, 8], []), (6, [0, 1, 7, 8], []), (7, [], []), (100000, [], []), (100001, [0, 1, 7, 8], []), (99999, [4], [])], none, []⟩
noncomputable def L72 : List (LoopS (Int × Unit)) := [⟨2, ⟨[(0, (.pv (.slice Y95))), (1, (.fnA Y95 .bool)), (7, (.pv (.int .i64))), (8, (.pv (.int .i64)))], []⟩, fun κ => F72_R2 (fun y => κ.exit 0 (SSh.mk' ⟨[], []⟩ y)) (fun y => κ.ret (SSh.mk' ⟨[(4, (.pv (.int .i64)))], []⟩ y))⟩]
theorem L72_2 : ∀ (κ : Kont (Int × Unit)) (N : St → Option (Int × Unit)) (x : (L72[0]).sh.den), execK E72 (lpOf L72) (nthLoop (codeOf Tryz.f72) 0) { κ with normal := fun σ => N (σ.keepAt (E72).hints 2) } ((L72[0]).sh.mk' x) = (L72[0]).R κ (fun x => N ((L72[0]).sh.mk' x)) x :=
  fun κ N x => by kernel_rfl
theorem C72_ok : QuietOk Tryz.prog 72 C72 :=
  told (env := E72) (fn := Tryz.f72) (c := (codeOf Tryz.f72)) (tbl := L72) (ls := [nthLoop (codeOf Tryz.f72) 0]) (vars := Tryz.f72.results.toList) Tryz.func72 (tysC_ok tys_ok rfl rfl) (Told.fnOk .nil rfl) (by kernel_rfl) (by decide) rfl (by decide) rfl rfl rfl (by kernel_rfl) (.cons L72[0] (by kernel_rfl) L72_2 .nil) (by kernel_rfl)

/- 43: slices.ContainsFunc[[]loop.example/g00380/impl.Change,loop.example/g00380/impl.Change] -/
noncomputable def F43 (a0 : List (D95)) (a1 : (D95 → Option (Bool))) : Option (Bool × Unit) :=
 (Option.bind (F72 a0 a1) fun y0 =>
 (some ((decide (y0.1 ≥ (0 : Int))), ())))

noncomputable def C43 : Fun := ⟨[(.ro (.slice Y95)), (.fn Y95 .bool)], [(.bool, .z)], fun z => F43 z.1 z.2.1⟩
noncomputable def E43 : Env := ⟨9, tyTab tys, oneTab ones, fnTab [(72, C72)], false, [], [(99999, [4], [])], none, []⟩
noncomputable def L43 : List (LoopS (Bool × Unit)) := []
theorem C43_ok : QuietOk Tryz.prog 43 C43 :=
  told (env := E43) (fn := Tryz.f43) (c := (codeOf Tryz.f43)) (tbl := L43) (ls := []) (vars := Tryz.f43.results.toList) Tryz.func43 (tysC_ok tys_ok rfl rfl) (Told.fnOk (.cons C72_ok .nil) rfl) (by kernel_rfl) (by decide) rfl (by decide) rfl rfl rfl (by kernel_rfl) .nil (by kernel_rfl)

/- 100: loop.example/g00380/impl.sameDoc -/
noncomputable def F100 (a0 : D95) (a1 : D95) : Option (Bool × Unit) :=
 (cond (a0.1.1 == a1.1.1)
 (some ((a0.1.2.1 == a1.1.2.1), ()))
 (some (false, ())))

noncomputable def C100 : Fun := ⟨[(.ro Y95), (.ro Y95)], [(.bool, .z)], fun z => F100 z.1 z.2.1⟩
noncomputable def E100 : Env := ⟨21, tyTab tys, oneTab ones, fnTab [], false, [], [(99999, [4], [])], none, []⟩
noncomputable def L100 : List (LoopS (Bool × Unit)) := []
theorem C100_ok : QuietOk Tryz.prog 100 C100 :=
  told (env := E100) (fn := Tryz.f100) (c := (codeOf Tryz.f100)) (tbl := L100) (ls := []) (vars := Tryz.f100.results.toList) Tryz.func100 (tysC_ok tys_ok rfl rfl) (Told.fnOk .nil rfl) (by kernel_rfl) (by decide) rfl (by decide) rfl rfl rfl (by kernel_rfl) .nil (by kernel_rfl)

/- 99: loop.example/g00380/impl.DoneOK$1 -/
noncomputable def F99 (a0 : D95) (a1 : D95) : Option (Bool × Unit) :=
 (Option.bind (F100 a1 a0) fun y0 =>
 (some (y0.1, ())))

noncomputable def C99 : Fun := ⟨[(.ro Y95), (.rp Y95)], [(.bool, .z)], fun z => F99 z.1 z.2.1⟩
noncomputable def E99 : Env := ⟨7, tyTab tys, oneTab ones, fnTab [(100, C100)], false, [], [(99999, [3], [])], none, []⟩
noncomputable def L99 : List (LoopS (Bool × Unit)) := []
theorem C99_ok : QuietOk Tryz.prog 99 C99 :=
  told (env := E99) (fn := Tryz.f99) (c := (codeOf Tryz.f99)) (tbl := L99) (ls := []) (vars := Tryz.f99.results.toList) Tryz.func99 (tysC_ok tys_ok rfl rfl) (Told.fnOk (.cons C100_ok .nil) rfl) (by kernel_rfl) (by decide) rfl (by decide) rfl rfl rfl (by kernel_rfl) .nil (by kernel_rfl)

/- 71: slices.IndexFunc[[]loop.example/g00380/impl.Read,loop.example/g00380/impl.Read] -/
noncomputable def F71_R2 (e0_0 : Unit → Option (Int × Unit)) (er_1 : Int × Unit → Option (Int × Unit)) (rec : List (D93) × (D93 → Option (Bool)) × Int × Int × Unit → Option (Int × Unit)) (x2 : List (D93) × (D93 → Option (Bool)) × Int × Int × Unit) : Option (Int × Unit) :=
 (cond (decide (x2.2.2.2.1 < x2.2.2.1))
 (gd (decide ((0 : Int) ≤ x2.2.2.2.1))
 (Option.bind x2.1[(Int.toNat x2.2.2.2.1)]? fun y5 =>
 (Option.bind (x2.2.1 y5) fun y6 =>
 (cond y6
 (er_1 (x2.2.2.2.1, ()))
 (rec (x2.1, x2.2.1, x2.2.2.1, (IntKind.wrap IntKind.i64 (x2.2.2.2.1 + (1 : Int))), ()))))))
 (e0_0 (())))

noncomputable def F71 (a0 : List (D93)) (a1 : (D93 → Option (Bool))) : Option (Int × Unit) :=
 (iter (F71_R2
 (fun y7 =>
 (some ((-(1 : Int)), ())))
 (fun y8 =>
 (some (y8.1, ())))) fuel (a0, a1, (((List.length a0) : Nat) : Int), (0 : Int), ()))

noncomputable def C71 : Fun := ⟨[(.ro (.slice Y93)), (.fn Y93 .bool)], [((.int .i64), .z)], fun z => F71 z.1 z.2.1⟩
noncomputable def E71 : Env := ⟨19, tyTab tys, oneTab ones, fnTab [], false, [], [(2, [0, 1, 7, 8], []), (3, [0, 1, 7, 8], []), (6, [0, 1, 7, 8], []), (7, [], []), (100000, [], []), (100001, [0, 1, 7, 8], []), (99999, [4], [])], none, []⟩
noncomputable def L71 : List (LoopS (Int × Unit)) := [⟨2, ⟨[(0, (.pv (.slice Y93))), (1, (.fnA Y93 .bool)), (7, (.pv (.int .i64))), (8, (.pv (.int .i64)))], []⟩, fun κ => F71_R2 (fun y => κ.exit 0 (SSh.mk' ⟨[], []⟩ y)) (fun y => κ.ret (SSh.mk' ⟨[(4, (.pv (.int .i64)))], []⟩ y))⟩]
theorem L71_2 : ∀ (κ : Kont (Int × Unit)) (N : St → Option (Int × Unit)) (x : (L71[0]).sh.den), execK E71 (lpOf L71) (nthLoop (codeOf Tryz.f71) 0) { κ with normal := fun σ => N (σ.keepAt (E71).hints 2) } ((L71[0]).sh.mk' x) = (L71[0]).R κ (fun x => N ((L71[0]).sh.mk' x)) x :=
  fun κ N x => by kernel_rfl
theorem C71_ok : QuietOk Tryz.prog 71 C71 :=
  told (env := E71) (fn := Tryz.f71) (c := (codeOf Tryz.f71)) (tbl := L71) (ls := [nthLoop (codeOf Tryz.f71) 0]) (vars := Tryz.f71.results.toList) Tryz.func71 (tysC_ok tys_ok rfl rfl) (Told.fnOk .nil rfl) (by kernel_rfl) (by decide) rfl (by decide) rfl rfl rfl (by kernel_rfl) (.cons L71[0] (by kernel_rfl) L71_2 .nil) (by kernel_rfl)

/- 41: slices.ContainsFunc[[]loop.example/g00380/impl.Read,loop.example/g00380/impl.Read] -/
noncomputable def F41 (a0 : List (D93)) (a1 : (D93 → Option (Bool))) : Option (Bool × Unit) :=
 (Option.bind (F71 a0 a1) fun y0 =>
 (some ((decide (y0.1 ≥ (0 : Int))), ())))

noncomputable def C41 : Fun := ⟨[(.ro (.slice Y93)), (.fn Y93 .bool)], [(.bool, .z)], fun z => F41 z.1 z.2.1⟩
noncomputable def E41 : Env := ⟨9, tyTab tys, oneTab ones, fnTab [(71, C71)], false, [], [(99999, [4], [])], none, []⟩
noncomputable def L41 : List (LoopS (Bool × Unit)) := []
theorem C41_ok : QuietOk Tryz.prog 41 C41 :=
  told (env := E41) (fn := Tryz.f41) (c := (codeOf Tryz.f41)) (tbl := L41) (ls := []) (vars := Tryz.f41.results.toList) Tryz.func41 (tysC_ok tys_ok rfl rfl) (Told.fnOk (.cons C71_ok .nil) rfl) (by kernel_rfl) (by decide) rfl (by decide) rfl rfl rfl (by kernel_rfl) .nil (by kernel_rfl)

/- 149: slices.IndexFunc[[]loop.example/g00380/impl.Clause,loop.example/g00380/impl.Clause] -/
noncomputable def F149_R2 (e0_0 : Unit → Option (Int × Unit)) (er_1 : Int × Unit → Option (Int × Unit)) (rec : List (D163) × (D163 → Option (Bool)) × Int × Int × Unit → Option (Int × Unit)) (x2 : List (D163) × (D163 → Option (Bool)) × Int × Int × Unit) : Option (Int × Unit) :=
 (cond (decide (x2.2.2.2.1 < x2.2.2.1))
 (gd (decide ((0 : Int) ≤ x2.2.2.2.1))
 (Option.bind x2.1[(Int.toNat x2.2.2.2.1)]? fun y5 =>
 (Option.bind (x2.2.1 y5) fun y6 =>
 (cond y6
 (er_1 (x2.2.2.2.1, ()))
 (rec (x2.1, x2.2.1, x2.2.2.1, (IntKind.wrap IntKind.i64 (x2.2.2.2.1 + (1 : Int))), ()))))))
 (e0_0 (())))

noncomputable def F149 (a0 : List (D163)) (a1 : (D163 → Option (Bool))) : Option (Int × Unit) :=
 (iter (F149_R2
 (fun y7 =>
 (some ((-(1 : Int)), ())))
 (fun y8 =>
 (some (y8.1, ())))) fuel (a0, a1, (((List.length a0) : Nat) : Int), (0 : Int), ()))

noncomputable def C149 : Fun := ⟨[(.ro (.slice Y163)), (.fn Y163 .bool)], [((.int .i64), .z)], fun z => F149 z.1 z.2.1⟩
noncomputable def E149 : Env := ⟨19, tyTab tys, oneTab ones, fnTab [], false, [], [(2, [0, 1, 7, 8], []), (3, [0, 1, 7, 8], []), (6, [0, 1, 7, 8], []), (7, [], []), (100000, [], []), (100001, [0, 1, 7, 8], []), (99999, [4], [])], none, []⟩
noncomputable def L149 : List (LoopS (Int × Unit)) := [⟨2, ⟨[(0, (.pv (.slice Y163))), (1, (.fnA Y163 .bool)), (7, (.pv (.int .i64))), (8, (.pv (.int .i64)))], []⟩, fun κ => F149_R2 (fun y => κ.exit 0 (SSh.mk' ⟨[], []⟩ y)) (fun y => κ.ret (SSh.mk' ⟨[(4, (.pv (.int .i64)))], []⟩ y))⟩]
theorem L149_2 : ∀ (κ : Kont (Int × Unit)) (N : St → Option (Int × Unit)) (x : (L149[0]).sh.den), execK E149 (lpOf L149) (nthLoop (codeOf Tryz.f149) 0) { κ with normal := fun σ => N (σ.keepAt (E149).hints 2) } ((L149[0]).sh.mk' x) = (L149[0]).R κ (fun x => N ((L149[0]).sh.mk' x)) x :=
  fun κ N x => by kernel_rfl
theorem C149_ok : QuietOk Tryz.prog 149 C149 :=
  told (env := E149) (fn := Tryz.f149) (c := (codeOf Tryz.f149)) (tbl := L149) (ls := [nthLoop (codeOf Tryz.f149) 0]) (vars := Tryz.f149.results.toList) Tryz.func149 (tysC_ok tys_ok rfl rfl) (Told.fnOk .nil rfl) (by kernel_rfl) (by decide) rfl (by decide) rfl rfl rfl (by kernel_rfl) (.cons L149[0] (by kernel_rfl) L149_2 .nil) (by kernel_rfl)

/- 110: slices.ContainsFunc[[]loop.example/g00380/impl.Clause,loop.example/g00380/impl.Clause] -/
noncomputable def F110 (a0 : List (D163)) (a1 : (D163 → Option (Bool))) : Option (Bool × Unit) :=
 (Option.bind (F149 a0 a1) fun y0 =>
 (some ((decide (y0.1 ≥ (0 : Int))), ())))

noncomputable def C110 : Fun := ⟨[(.ro (.slice Y163)), (.fn Y163 .bool)], [(.bool, .z)], fun z => F110 z.1 z.2.1⟩
noncomputable def E110 : Env := ⟨9, tyTab tys, oneTab ones, fnTab [(149, C149)], false, [], [(99999, [4], [])], none, []⟩
noncomputable def L110 : List (LoopS (Bool × Unit)) := []
theorem C110_ok : QuietOk Tryz.prog 110 C110 :=
  told (env := E110) (fn := Tryz.f110) (c := (codeOf Tryz.f110)) (tbl := L110) (ls := []) (vars := Tryz.f110.results.toList) Tryz.func110 (tysC_ok tys_ok rfl rfl) (Told.fnOk (.cons C149_ok .nil) rfl) (by kernel_rfl) (by decide) rfl (by decide) rfl rfl rfl (by kernel_rfl) .nil (by kernel_rfl)

/- 150: slices.IndexFunc[[]loop.example/g00380/impl.Term,loop.example/g00380/impl.Term] -/
noncomputable def F150_R2 (e0_0 : Unit → Option (Int × Unit)) (er_1 : Int × Unit → Option (Int × Unit)) (rec : List (D182) × (D182 → Option (Bool)) × Int × Int × Unit → Option (Int × Unit)) (x2 : List (D182) × (D182 → Option (Bool)) × Int × Int × Unit) : Option (Int × Unit) :=
 (cond (decide (x2.2.2.2.1 < x2.2.2.1))
 (gd (decide ((0 : Int) ≤ x2.2.2.2.1))
 (Option.bind x2.1[(Int.toNat x2.2.2.2.1)]? fun y5 =>
 (Option.bind (x2.2.1 y5) fun y6 =>
 (cond y6
 (er_1 (x2.2.2.2.1, ()))
 (rec (x2.1, x2.2.1, x2.2.2.1, (IntKind.wrap IntKind.i64 (x2.2.2.2.1 + (1 : Int))), ()))))))
 (e0_0 (())))

noncomputable def F150 (a0 : List (D182)) (a1 : (D182 → Option (Bool))) : Option (Int × Unit) :=
 (iter (F150_R2
 (fun y7 =>
 (some ((-(1 : Int)), ())))
 (fun y8 =>
 (some (y8.1, ())))) fuel (a0, a1, (((List.length a0) : Nat) : Int), (0 : Int), ()))

noncomputable def C150 : Fun := ⟨[(.ro (.slice Y182)), (.fn Y182 .bool)], [((.int .i64), .z)], fun z => F150 z.1 z.2.1⟩
noncomputable def E150 : Env := ⟨19, tyTab tys, oneTab ones, fnTab [], false, [], [(2, [0, 1, 7, 8], []), (3, [0, 1, 7, 8], []), (6, [0, 1, 7, 8], []), (7, [], []), (100000, [], []), (100001, [0, 1, 7, 8], []), (99999, [4], [])], none, []⟩
noncomputable def L150 : List (LoopS (Int × Unit)) := [⟨2, ⟨[(0, (.pv (.slice Y182))), (1, (.fnA Y182 .bool)), (7, (.pv (.int .i64))), (8, (.pv (.int .i64)))], []⟩, fun κ => F150_R2 (fun y => κ.exit 0 (SSh.mk' ⟨[], []⟩ y)) (fun y => κ.ret (SSh.mk' ⟨[(4, (.pv (.int .i64)))], []⟩ y))⟩]
theorem L150_2 : ∀ (κ : Kont (Int × Unit)) (N : St → Option (Int × Unit)) (x : (L150[0]).sh.den), execK E150 (lpOf L150) (nthLoop (codeOf Tryz.f150) 0) { κ with normal := fun σ => N (σ.keepAt (E150).hints 2) } ((L150[0]).sh.mk' x) = (L150[0]).R κ (fun x => N ((L150[0]).sh.mk' x)) x :=
  fun κ N x => by kernel_rfl
theorem C150_ok : QuietOk Tryz.prog 150 C150 :=
  told (env := E150) (fn := Tryz.f150) (c := (codeOf Tryz.f150)) (tbl := L150) (ls := [nthLoop (codeOf Tryz.f150) 0]) (vars := Tryz.f150.results.toList) Tryz.func150 (tysC_ok tys_ok rfl rfl) (Told.fnOk .nil rfl) (by kernel_rfl) (by decide) rfl (by decide) rfl rfl rfl (by kernel_rfl) (.cons L150[0] (by kernel_rfl) L150_2 .nil) (by kernel_rfl)

/- 112: slices.ContainsFunc[[]loop.example/g00380/impl.Term,loop.example/g00380/impl.Term] -/
noncomputable def F112 (a0 : List (D182)) (a1 : (D182 → Option (Bool))) : Option (Bool × Unit) :=
 (Option.bind (F150 a0 a1) fun y0 =>
 (some ((decide (y0.1 ≥ (0 : Int))), ())))

noncomputable def C112 : Fun := ⟨[(.ro (.slice Y182)), (.fn Y182 .bool)], [(.bool, .z)], fun z => F112 z.1 z.2.1⟩
noncomputable def E112 : Env := ⟨9, tyTab tys, oneTab ones, fnTab [(150, C150)], false, [], [(99999, [4], [])], none, []⟩
noncomputable def L112 : List (LoopS (Bool × Unit)) := []
theorem C112_ok : QuietOk Tryz.prog 112 C112 :=
  told (env := E112) (fn := Tryz.f112) (c := (codeOf Tryz.f112)) (tbl := L112) (ls := []) (vars := Tryz.f112.results.toList) Tryz.func112 (tysC_ok tys_ok rfl rfl) (Told.fnOk (.cons C150_ok .nil) rfl) (by kernel_rfl) (by decide) rfl (by decide) rfl rfl rfl (by kernel_rfl) .nil (by kernel_rfl)

/- 203: loop.example/g00380/impl.TermOK -/
noncomputable def F203 (a0 : D182) : Option (Bool × Unit) :=
 (Option.bind (F171 a0.2.1) fun y1 =>
 (cond (!y1.1)
 (some (false, ()))
 (Option.bind (F200 a0.2.2.1) fun y2 =>
 (cond (!y2.1)
 (some (false, ()))
 (cond (a0.1 == (7 : Int))
 (some ((a0.2.2.1.1 == (4 : Int)), ()))
 (cond (a0.1 == (8 : Int))
 (some ((a0.2.2.1.1 == (1 : Int)), ()))
 (cond (a0.1 == (9 : Int))
 (cond (a0.2.2.1.1 == (2 : Int))
 (Option.bind (F37 a0.2.2.1.2.1 (0 : Int) (5 : Int)) fun y4 =>
 (some (y4.1, ())))
 (some (false, ())))
 (cond (a0.1 == (10 : Int))
 (cond (a0.2.2.1.1 == (2 : Int))
 (some ((decide (a0.2.2.1.2.1 ≥ (0 : Int))), ()))
 (some (false, ())))
 (Option.bind (F37 a0.1 (1 : Int) (6 : Int)) fun y5 =>
 (some (y5.1, ())))))))))))

noncomputable def C203 : Fun := ⟨[(.ro Y182)], [(.bool, .z)], fun z => F203 z.1⟩
noncomputable def E203 : Env := ⟨54, tyTab tys, oneTab ones, fnTab [(37, C37), (171, C171), (200, C200)], false, [], [(3, [1], []), (12, [1], []), (100000, [1], []), (99999, [2], [])], none, []⟩
noncomputable def L203 : List (LoopS (Bool × Unit)) := []
theorem C203_ok : QuietOk Tryz.prog 203 C203 :=
  told (env := E203) (fn := Tryz.f203) (c := (codeOf Tryz.f203)) (tbl := L203) (ls := []) (vars := Tryz.f203.results.toList) Tryz.func203 (tysC_ok tys_ok rfl rfl) (Told.fnOk (.cons C37_ok (.cons C171_ok (.cons C200_ok .nil))) rfl) (by kernel_rfl) (by decide) rfl (by decide) rfl rfl rfl (by kernel_rfl) .nil (by kernel_rfl)

/- 202: loop.example/g00380/impl.FilterOK$1$1 -/
noncomputable def F202 (a0 : D182) : Option (Bool × Unit) :=
 (Option.bind (F203 a0) fun y0 =>
 (some ((!y0.1), ())))

noncomputable def C202 : Fun := ⟨[(.ro Y182)], [(.bool, .z)], fun z => F202 z.1⟩
noncomputable def E202 : Env := ⟨6, tyTab tys, oneTab ones, fnTab [(203, C203)], false, [], [(99999, [2], [])], none, []⟩
noncomputable def L202 : List (LoopS (Bool × Unit)) := []
theorem C202_ok : QuietOk Tryz.prog 202 C202 :=
  told (env := E202) (fn := Tryz.f202) (c := (codeOf Tryz.f202)) (tbl := L202) (ls := []) (vars := Tryz.f202.results.toList) Tryz.func202 (tysC_ok tys_ok rfl rfl) (Told.fnOk (.cons C203_ok .nil) rfl) (by kernel_rfl) (by decide) rfl (by decide) rfl rfl rfl (by kernel_rfl) .nil (by kernel_rfl)

/- 201: loop.example/g00380/impl.FilterOK$1 -/
noncomputable def F201 (a0 : D163) : Option (Bool × Unit) :=
 (cond (decide ((((List.length a0.1) : Nat) : Int) > (4 : Int)))
 (some (true, ()))
 (Option.bind (F112 a0.1 (fun (v2 : D182) => (Option.map (fun (v3 : (Bool × Unit)) => v3.1) (F202 v2)))) fun y0 =>
 (some (y0.1, ()))))

noncomputable def C201 : Fun := ⟨[(.ro Y163)], [(.bool, .z)], fun z => F201 z.1⟩
noncomputable def E201 : Env := ⟨12, tyTab tys, oneTab ones, fnTab [(112, C112), (202, C202)], false, [], [(99999, [2], [])], none, []⟩
noncomputable def L201 : List (LoopS (Bool × Unit)) := []
theorem C201_ok : QuietOk Tryz.prog 201 C201 :=
  told (env := E201) (fn := Tryz.f201) (c := (codeOf Tryz.f201)) (tbl := L201) (ls := []) (vars := Tryz.f201.results.toList) Tryz.func201 (tysC_ok tys_ok rfl rfl) (Told.fnOk (.cons C112_ok (.cons C202_ok .nil)) rfl) (by kernel_rfl) (by decide) rfl (by decide) rfl rfl rfl (by kernel_rfl) .nil (by kernel_rfl)

end Go.V
