/- (impl.Coll).seen, by its walk over slices.Backward. No condition. -/
import Derived.Test.YtafhmggfbojpdaaGreatDoorWRep
import Derived.Test.YtafhmggfbojpdaaGreatDoorEc
namespace Go.V
open Go.Proofs
set_option maxRecDepth 100000
set_option linter.unusedVariables false

abbrev syVal : Ty := .pair (.int .i64) (.pair (.int .i64) (.pair .str .unit))
abbrev syVer : Ty := .pair (.int .i64) (.pair .bool (.pair syVal .unit))
abbrev syCh : Ty := .pair (.int .i64) (.pair (.slice syVer) .unit)
abbrev syIx : Ty := .pair .str (.pair (.slice (.pair .str (.pair .bool .unit))) .unit)
abbrev syColl : Ty := .pair .str (.pair (.slice syCh) (.pair (.slice syIx) .unit))

noncomputable def seenAdd (v : syVer.den) : List syVal.den := match (asB v.2.1) with | true => [] | false => [v.2.2.1]
noncomputable def seenF : SeenFun where
  tC := syColl
  tCh := syCh
  e := syVer
  d := syVal
  chains := fun c => c.2.1
  vers := fun ch => ch.2.1
  hit := fun snap v => decide ((asI v.1) ≤ snap)
  add := seenAdd
  add1 := fun v => by unfold seenAdd; split <;> simp

@[reducible] noncomputable def sB : Code := codeOf Tryz.f92
@[reducible] noncomputable def sM : Code := codeOf Tryz.f58
@[reducible] noncomputable def sS : Code := codeOf Tryz.f29
noncomputable def envB : Env := { n := 19, ty := tyTab tys, one := oneTab ones, fn := fun _ => none }
noncomputable def envM : Env := { n := 4, ty := tyTab tys, one := oneTab ones, fn := fun _ => none }
noncomputable def envS (ds : List Deferred) : Env := { n := 37, ty := tyTab tys, one := oneTab ones, fn := fun _ => none, marks := ds }

noncomputable def σB (xs : List syVer.den) (i : Int) : St := ⟨[(1, .fptr ⟨.slice syVer, xs⟩), (3, .pv ⟨.int .i64, i⟩)], []⟩

theorem sB_e3 (xs : List syVer.den) (i : Nat) : opsK envB (opsOf sB 3) [1, 2, 3, 4, 5] ((σB xs (i : Int)).set 11 .undef) some =
    (match xs[i]? with
    | some x => some ⟨[(16, .pv ⟨syVer, x⟩), (15, .fptr ⟨syVer, x⟩), (14, .pv ⟨.int .i64, (i : Int)⟩), (13, .pv ⟨.slice syVer, xs⟩), (12, .pv ⟨.int .i64, (i : Int)⟩), (11, .undef), (1, .fptr ⟨.slice syVer, xs⟩), (3, .pv ⟨.int .i64, (i : Int)⟩)], []⟩
    | none => none) := by kernel_rfl

noncomputable def backCode : BackCode Tryz.prog 92 syVer envB where
  fn := Tryz.f92
  ops0 := opsOf sB 0
  ops1 := opsOf sB 1
  ops2 := opsOf sB 2
  ops3 := opsOf sB 3
  o0 := operAt (opsOf sB 3) 0
  o6 := operAt (opsOf sB 3) 6
  c6 := callOf (operAt (opsOf sB 3) 6)
  lp := noLp
  hfn := Tryz.func92
  hbody := by kernel_rfl
  hres := by kernel_rfl
  hnt := by kernel_rfl
  hn := rfl
  hmk := rfl
  hpin := rfl
  flat := rfl
  t0 := ⟨by kernel_rfl, by kernel_rfl, by kernel_rfl⟩
  t1 := ⟨by kernel_rfl, by kernel_rfl, by kernel_rfl, by kernel_rfl⟩
  t2 := ⟨by kernel_rfl, by kernel_rfl, by kernel_rfl⟩
  sz := by kernel_rfl
  g0 := ⟨by kernel_rfl, by kernel_rfl, by kernel_rfl, by kernel_rfl⟩
  g6 := ⟨by kernel_rfl, by kernel_rfl, by kernel_rfl, by kernel_rfl, by kernel_rfl, by kernel_rfl⟩
  t3 := fun i hi o ho => by
    have h := okOps_ok (ops := opsOf sB 3) (l := [1, 2, 3, 4, 5, 7]) (bad := [0, 1, 3, 11]) (by kernel_rfl) i hi o ho
    exact ⟨h.1, h.2 0 (by simp), h.2 1 (by simp), h.2 3 (by simp), h.2 11 (by simp)⟩
  e0 := fun xs h => by
    refine ⟨stOf (execK envB noLp (.region 0 (opsOf sB 0) false) κS ⟨[(1, .fptr ⟨.slice syVer, xs⟩)], []⟩), by kernel_rfl, ?_⟩
    have : (stOf (execK envB noLp (.region 0 (opsOf sB 0) false) κS ⟨[(1, .fptr ⟨.slice syVer, xs⟩)], []⟩)).slot 3 = .pv ⟨.int .i64, IntKind.wrap .i64 ((xs.length : Int) - 1)⟩ := by kernel_rfl
    rw [this, wrapX _ (by omega) (by unfold lim at h; omega)]
  e1 := fun xs i => ⟨stOf (execK envB noLp (.region 1 (opsOf sB 1) false) κS (σB xs i)), by kernel_rfl, by kernel_rfl⟩
  e2 := fun xs i h => by
    refine ⟨stOf (execK envB noLp (.region 2 (opsOf sB 2) false) κS (σB xs (i : Int))), by kernel_rfl, ?_⟩
    have : (stOf (execK envB noLp (.region 2 (opsOf sB 2) false) κS (σB xs (i : Int)))).slot 3 = .pv ⟨.int .i64, IntKind.wrap .i64 ((i : Int) - 1)⟩ := by kernel_rfl
    rw [this, wrapX _ (by omega) (by unfold lim at h; omega)]
  e3 := fun xs i x h => by
    have := sB_e3 xs i
    rw [h] at this
    exact ⟨_, this, rfl, rfl⟩
  e7 := fun b => ⟨stOf (opsK envB (opsOf sB 3) [7] ⟨[(17, .pv ⟨.bool, b⟩)], []⟩ some), by kernel_rfl, by kernel_rfl⟩

noncomputable def makeCode : MakeCode Tryz.prog 58 92 syVer envM where
  fn := Tryz.f58
  c := sM
  lp := noLp
  hfn := Tryz.func58
  hbody := by kernel_rfl
  hname := by decide +kernel
  hres := by kernel_rfl
  hnt := by kernel_rfl
  hpos := by decide
  hmk := rfl
  hpin := rfl
  hlp := ⟨trivial, trivial, trivial⟩
  e0 := fun xs => ⟨stOf (execK envM noLp sM ⟨fun _ => none, fun _ _ => none, some⟩ ⟨[(0, .pv ⟨.slice syVer, xs⟩)], []⟩), 8, by kernel_rfl, by kernel_rfl, by kernel_rfl⟩

/-! the function itself -/
@[reducible] noncomputable def stLi (ch : List syCh.den) (snap : Int) (out : List syVal.den) (j : Int) : St :=
  ⟨[(3, .ptr ⟨24, []⟩), (5, .ptr ⟨40, []⟩), (12, .pv ⟨.slice syCh, ch⟩), (13, .pv ⟨.int .i64, (ch.length : Int)⟩), (14, .pv ⟨.int .i64, j⟩)],
   [(24, .data true ⟨.int .i64, snap⟩ .z), (40, .data true ⟨.slice syVal, out⟩ (.own .z))]⟩

noncomputable def s0a (ds : List Deferred) (c : syColl.den) (snap : Int) : St := stOf (execK (envS ds) noLp (.region 0 (opsOf sS 0) false) κS ⟨[(0, .pv ⟨syColl, c⟩), (1, .pv ⟨.int .i64, snap⟩)], []⟩)
noncomputable def s0b (ds : List Deferred) (c : syColl.den) (snap : Int) : St := stOf (execK (envS ds) noLp (.region 1 (opsOf sS 1) false) κS (s0a ds c snap))
noncomputable def s0c (ds : List Deferred) (c : syColl.den) (snap : Int) : St := stOf (execK (envS ds) noLp (.region 2 (opsOf sS 2) false) κS (s0b ds c snap))

noncomputable def s4 (ch : List syCh.den) (snap : Int) (out : List syVal.den) (i : Nat) (x : syCh.den) : St := (seenF.stL ch snap out i).set 16 (.fptr ⟨syCh, x⟩)
noncomputable def s4b (ds : List Deferred) (ch : List syCh.den) (snap : Int) (out : List syVal.den) (i : Nat) (x : syCh.den) : St := stOf (opsK (envS ds) (opsOf sS 4) [1, 2, 3] (s4 ch snap out i x) some)
theorem s4_eq (ds : List Deferred) (ch : List syCh.den) (snap : Int) (out : List syVal.den) (i : Nat) : execK (envS ds) noLp (.region 4 (opsOf sS 4) false) κS (seenF.stL ch snap out i) =
    (match ch[i]? with
    | some x => some (s4b ds ch snap out i x)
    | none => none) := by kernel_rfl
theorem s4_at (ds : List Deferred) (ch : List syCh.den) (snap : Int) (out : List syVal.den) (i : Nat) (x : syCh.den) (h : ch[i]? = some x) : execK (envS ds) noLp (.region 4 (opsOf sS 4) false) κS (seenF.stL ch snap out i) = some (s4b ds ch snap out i x) := by
  rw [s4_eq, h]

noncomputable def s7 (ch : List syCh.den) (snap : Int) (out : List syVal.den) (i : Nat) (vs : List syVer.den) (v : syVer.den) : St :=
  ((((seenF.stA ch snap out i vs v).set 23 (.ptr ⟨72, [.l]⟩)).set 24 (.pv ⟨.int .i64, v.1⟩)).set 25 (.pv ⟨.int .i64, snap⟩)).set 26 (.pv ⟨.bool, decide ((asI v.1) ≤ snap)⟩)
noncomputable def s8 (ch : List syCh.den) (snap : Int) (out : List syVal.den) (i : Nat) (vs : List syVer.den) (v : syVer.den) : St :=
  (((s7 ch snap out i vs v).set 27 (.ptr ⟨72, [.r, .l]⟩)).set 28 (.pv ⟨.bool, v.2.1⟩)).set 29 (.pv ⟨.bool, !(asB v.2.1)⟩)
noncomputable def s9 (ch : List syCh.den) (snap : Int) (out : List syVal.den) (i : Nat) (vs : List syVer.den) (v : syVer.den) : St := stOf (opsK (envS []) (opsOf sS 9) [0, 1, 2, 3] (s8 ch snap out i vs v) some)
noncomputable def s10 (ch : List syCh.den) (snap : Int) (out : List syVal.den) (i : Nat) (vs : List syVer.den) (v : syVer.den) : St :=
  ((((s9 ch snap out i vs v).put 40 (.data true ⟨.slice syVal, out⟩ .gone)).lay 272 (.data false ⟨.slice syVal, out⟩ (.own .z))).lay 272 (.data false ⟨.slice syVal, out ++ [v.2.2.1]⟩ (.own .z))).set 34 (.ref (.slice syVal) ⟨272, []⟩)
noncomputable def s11 (ch : List syCh.den) (snap : Int) (out : List syVal.den) (i : Nat) (vs : List syVer.den) (v : syVer.den) : St := stOf (opsK (envS []) (opsOf sS 9) [5] (s10 ch snap out i vs v) some)

theorem bod_eq (ch : List syCh.den) (snap : Int) (out : List syVal.den) (i : Nat) (vs : List syVer.den) (v : syVer.den) : execK (envS []) noLp (bodOf sS) κ3 (seenF.stA ch snap out i vs v) =
    (match decide ((asI v.1) ≤ snap) with
    | true => (match !(asB v.2.1) with
      | true => (match decide (out.length + 1 ≤ lim) with
        | true => some (3, s11 ch snap out i vs v)
        | false => none)
      | false => some (3, s8 ch snap out i vs v))
    | false => some (0, s7 ch snap out i vs v)) := by kernel_rfl

theorem bod_miss (ch : List syCh.den) (snap : Int) (out : List syVal.den) (i : Nat) (vs : List syVer.den) (v : syVer.den) (h : decide ((asI v.1) ≤ snap) = false) : execK (envS []) noLp (bodOf sS) κ3 (seenF.stA ch snap out i vs v) = some (0, s7 ch snap out i vs v) := by
  rw [bod_eq, h]
theorem bod_hit (ch : List syCh.den) (snap : Int) (out : List syVal.den) (i : Nat) (vs : List syVer.den) (v : syVer.den) (h : decide ((asI v.1) ≤ snap) = true) (hl : out.length + 1 ≤ lim) :
    ∃ σ, execK (envS []) noLp (bodOf sS) κ3 (seenF.stA ch snap out i vs v) = some (3, σ) ∧ σ.keepAt hR 0 = seenF.stR ch snap (out ++ seenAdd v) i vs := by
  rw [bod_eq, h, decide_eq_true hl]
  unfold seenAdd
  cases hg : (asB v.2.1) with
  | true =>
    refine ⟨_, rfl, ?_⟩
    rw [List.append_nil]
    kernel_rfl
  | false => exact ⟨_, rfl, by kernel_rfl⟩

noncomputable def seenCode : SeenCode Tryz.prog 29 58 92 seenF envS where
  fn := Tryz.f29
  r0 := .region 0 (opsOf sS 0) false
  r1 := .region 1 (opsOf sS 1) false
  r2 := .region 2 (opsOf sS 2) false
  r3 := .region 3 (opsOf sS 3) false
  r4 := .region 4 (opsOf sS 4) false
  ops5 := opsOf sS 5
  asg := asgOf sS
  bod := bodOf sS
  r10 := .region 10 (opsOf sS 10) false
  r11 := .region 11 (opsOf sS 11) false
  o2 := operAt (opsOf sS 5) 2
  c2 := callOf (operAt (opsOf sS 5) 2)
  hfn := Tryz.func29
  hname := by decide +kernel
  hbody := by kernel_rfl
  hres := by kernel_rfl
  hnt := by kernel_rfl
  hn := fun _ => rfl
  hmk := fun _ => rfl
  hpin := fun _ => rfl
  hty := fun _ => ty_ok
  t0 := by kernel_rfl
  t1 := by kernel_rfl
  t2 := by kernel_rfl
  t3 := by kernel_rfl
  t4 := by kernel_rfl
  t6 := by kernel_rfl
  t7 := by kernel_rfl
  t10 := by kernel_rfl
  t11 := by kernel_rfl
  n6 := fun i hi => by
    have h : ([3, 5, 12, 13, 14, 19] : List Nat).all (fun i => noSet i (asgOf sS) && noSet i (bodOf sS)) = true := by kernel_rfl
    have := List.all_eq_true.1 h i hi
    rwa [Bool.and_eq_true] at this
  sz5 := by kernel_rfl
  t5 := fun i hi o ho => (okOps_ok (ops := opsOf sS 5) (l := [0, 1]) (bad := []) (by kernel_rfl) i hi o ho).1
  g2 := ⟨by kernel_rfl, by kernel_rfl, by kernel_rfl, by kernel_rfl, by kernel_rfl, by kernel_rfl⟩
  e0 := fun ds c snap _ => ⟨s0a ds c snap, s0b ds c snap, s0c ds c snap, by kernel_rfl, by kernel_rfl, by kernel_rfl, by kernel_rfl⟩
  e3 := fun ds ch snap out i => ⟨stOf (execK (envS ds) noLp (.region 3 (opsOf sS 3) false) κS (seenF.stL ch snap out i)), by kernel_rfl, by kernel_rfl, by kernel_rfl⟩
  e4 := fun ds ch snap out i x h => ⟨_, stOf (opsK (envS ds) (opsOf sS 5) [0, 1] (s4b ds ch snap out i x) some), s4_at ds ch snap out i x h, by kernel_rfl, by kernel_rfl⟩
  e6 := fun ch snap out i vs v => ⟨stOf (execK (envS []) noLp (asgOf sS) κS ((seenF.stR ch snap out i vs).set 22 (.pv ⟨syVer, v⟩))), by kernel_rfl, by kernel_rfl⟩
  e7 := fun ch snap out i vs v h => ⟨_, bod_miss ch snap out i vs v h, by kernel_rfl⟩
  e8 := fun ch snap out i vs v h hl => bod_hit ch snap out i vs v h hl
  e10 := fun ds ch snap out i h => by
    refine ⟨stOf (execK (envS ds) noLp (.region 10 (opsOf sS 10) false) κS (seenF.stL ch snap out i)), by kernel_rfl, ?_⟩
    have : (stOf (execK (envS ds) noLp (.region 10 (opsOf sS 10) false) κS (seenF.stL ch snap out i))).keepAt hL 0 = stLi ch snap out (IntKind.wrap .i64 ((i : Int) + 1)) := by kernel_rfl
    rw [this, wrapX _ (by omega) (by unfold lim at h; omega)]
    rfl
  e11 := fun ds ch snap out i => ⟨stOf (execK (envS ds) noLp (.region 11 (opsOf sS 11) false) κS (seenF.stL ch snap out i)), by kernel_rfl, by kernel_rfl⟩

theorem seen_fresh : FreshOk Tryz.prog 29 ⟨[.ro syColl, .ro (.int .i64)], [(.slice syVal, .own .z)], seenF.fn⟩ :=
  seen_ok seenCode backCode makeCode ty_ok ty_ok ⟨fun f fu h => (by cases h), fun f fu h => (by cases h)⟩ (by decide +kernel)

abbrev SyVal : Type := Int × (Int × (List UInt8 × Unit))
abbrev SyVer : Type := Int × (Bool × (SyVal × Unit))
abbrev SyCh : Type := Int × (List SyVer × Unit)
abbrev SyIx : Type := List UInt8 × (List (List UInt8 × (Bool × Unit)) × Unit)
abbrev SyColl : Type := List UInt8 × (List SyCh × (List SyIx × Unit))
noncomputable def F29 (c : SyColl) (snap : Int) : Option (List SyVal × Unit) := seenF.fn (c, snap, ())
noncomputable def C29 : Fun := ⟨[.ro syColl, .ro (.int .i64)], [(.slice syVal, .own .z)], fun z => F29 z.1 z.2.1⟩
theorem C29_ok : FreshOk Tryz.prog 29 C29 := seen_fresh
end Go.V
