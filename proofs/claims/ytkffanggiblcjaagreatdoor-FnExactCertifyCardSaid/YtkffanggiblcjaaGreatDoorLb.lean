/- What the functions compute, in plain words, and the laws. No condition. -/
import Derived.Test.YtkffanggiblcjaaGreatDoorLa
/- What a law marks it finds again. No condition. -/
namespace Go.V
set_option linter.unusedVariables false
set_option linter.unusedSimpArgs false
set_option maxRecDepth 100000
theorem nth_set_self {α : Type} [Inhabited α] {l : List α} {i : Nat} (h : i < l.length) (y : α) : nth (l.set i y) i = y := by
 have : (l.set i y)[Int.toNat (i : Int)]? = some (nth (l.set i y) i) := get_nth (by simpa using h)
 rw [show (List.set l i y)[Int.toNat (i : Int)]? = some y by simp [h]] at this
 exact (Option.some.inj this).symm
theorem nth_set_ne {α : Type} [Inhabited α] {l : List α} {i j : Nat} (h : j < l.length) (hij : j ≠ i) (y : α) : nth (l.set i y) j = nth l j := by
 have h1 : (l.set i y)[Int.toNat (j : Int)]? = some (nth (l.set i y) j) := get_nth (by simpa using h)
 have h2 : l[Int.toNat (j : Int)]? = some (nth l j) := get_nth h
 rw [Int.toNat_natCast, List.getElem?_set_ne (by omega)] at h1
 rw [Int.toNat_natCast] at h2
 rw [h2] at h1
 exact (Option.some.inj h1).symm
def MhOk {α : Type} (G : List α → Int → Option (Int × List α × Unit)) (H : List α → Int → Option (Int × Unit)) (L : Nat → α → Prop) (c : α → Nat) : Prop :=
 ∀ l k, LS L 1048576 l → 0 ≤ k → k + 10 * (cS c l : Int) ≤ 100000000000 → ∃ k' l', G l k = some (k', l', ()) ∧ k ≤ k' ∧ k' ≤ k + 10 * (cS c l : Int) ∧ H l' k = some (k', ())
theorem mhS {α : Type} [Inhabited α] {R : (Int × Int × List α × Unit → Option (Int × List α × Unit)) → Int × Int × List α × Unit → Option (Int × List α × Unit)} {R' : (List α × Int × Int × Unit → Option (Int × Unit)) → List α × Int × Int × Unit → Option (Int × Unit)} {L : Nat → α → Prop} {c : α → Nat}
  (hs : ∀ (i : Nat) (l : List α) (k : Int) (rec : Int × Int × List α × Unit → Option (Int × List α × Unit)), i < l.length → L 1048576 (nth l i) → 0 ≤ k → k + 10 * (1 + (c (nth l i) : Int)) ≤ 100000000000 → l.length ≤ 1048576 →
   ∃ k' y', R rec (k, (i : Int), l, ()) = rec (k', ((i + 1 : Nat) : Int), l.set i y', ()) ∧ k ≤ k' ∧ k' ≤ k + 10 * (1 + (c (nth l i) : Int)) ∧
    ∀ (l2 : List α) (rec2 : List α × Int × Int × Unit → Option (Int × Unit)), i < l2.length → l2.length ≤ 1048576 → nth l2 i = y' → R' rec2 (l2, k, (i : Int), ()) = rec2 (l2, k', ((i + 1 : Nat) : Int), ()))
  (hn : ∀ (l : List α) (k : Int) rec, R rec (k, (l.length : Int), l, ()) = some (k, l, ()))
  (hn' : ∀ (l : List α) (k : Int) rec, R' rec (l, k, (l.length : Int), ()) = some (k, ())) :
  MhOk (fun l k => iter R fuel (k, (0 : Int), l, ())) (fun l k => iter R' fuel (l, k, (0 : Int), ())) L c := by
 intro l k hl hk hb
 have key : ∀ (n i : Nat) (l : List α) (k : Int), i ≤ l.length → l.length - i < n → l.length ≤ 1048576 → (∀ x, x ∈ l.drop i → L 1048576 x) → 0 ≤ k → k + 10 * (((l.drop i).length : Int) + ((l.drop i).map c).sum) ≤ 100000000000 →
   ∃ k' l', iter R n (k, (i : Int), l, ()) = some (k', l', ()) ∧ k ≤ k' ∧ k' ≤ k + 10 * (((l.drop i).length : Int) + ((l.drop i).map c).sum) ∧ l'.length = l.length ∧ (∀ j, j < i → nth l' j = nth l j) ∧
    ∀ n', l.length - i < n' → iter R' n' (l', k, (i : Int), ()) = some (k', ()) := by
  intro n
  induction n with
  | zero => intro i l k _ h; omega
  | succ n ih =>
   intro i l k hi hn2 hlen hL hk hb
   simp only [iter]
   by_cases hlt : i < l.length
   ·rw [drop_cons_nth hlt] at hL hb ⊢
    simp only [List.length_cons, List.map_cons, List.sum_cons] at hb ⊢
    obtain ⟨k', y', e, h1, h2, h3⟩ := hs i l k (iter R n) hlt (hL _ (by simp)) hk (by omega) hlen
    rw [e]
    obtain ⟨k'', l'', e', g1, g2, g3, g4, g5⟩ := ih (i + 1) (l.set i y') k' (by simp; omega) (by simp; omega) (by simpa using hlen) (by rw [drop_set_next]; exact fun x hx => hL x (by simp [hx])) (by omega) (by rw [drop_set_next]; omega)
    rw [drop_set_next] at g2
    rw [List.length_set] at g3
    refine ⟨k'', l'', e', by omega, by omega, g3, fun j hj => ?_, fun n' hn3 => ?_⟩
    ·rw [g4 j (by omega), nth_set_ne (by omega) (by omega)]
    ·cases n' with
     | zero => omega
     | succ n' =>
      simp only [iter]
      rw [h3 l'' (iter R' n') (by omega) (by omega) (by rw [g4 i (by omega), nth_set_self hlt])]
      exact g5 n' (by rw [List.length_set]; omega)
   ·have : i = l.length := by omega
    subst this
    rw [hn]
    refine ⟨k, l, rfl, Int.le_refl _, by omega, rfl, fun _ _ => rfl, fun n' hn3 => ?_⟩
    cases n' with
    | zero => omega
    | succ n' => simp only [iter]; exact hn' _ _ _
 obtain ⟨k', l', e, h1, h2, h3, _, h4⟩ := key fuel 0 l k (Nat.zero_le _) (fuel_gt (by have := hl.1; omega)) hl.1 (by simpa using hl.2) hk (by rw [List.drop_zero]; unfold cS at hb; omega)
 rw [List.drop_zero] at h2
 exact ⟨k', l', e, h1, by unfold cS; omega, h4 fuel (fuel_gt (by have := hl.1; omega))⟩
theorem mhTermS_ok : MhOk F134 F135 LTerm cTerm := by
 refine mhS (R := F134_R2 _) (R' := F135_R2 _ _) (fun i l k rec hi hL hk hb hlen => ?_) (fun l k rec => ?_) (fun l k rec => ?_)
 simp (disch := omega) only [F134_R2, lt_cast, hi, decide_true, cond_true, gd_pos, List.length_set, List.set_set, get_nth hi, get_setI hi, Option.bind_some, wrapK, mtx_ok, wrap_up i _ hi (by omega : l.length ≤ 9223372036854775807)]
 refine ⟨_, _, rfl, by omega, by omega, fun l2 rec2 hi2 hl2 e2 => ?_⟩
 simp (disch := omega) only [F135_R2, lt_cast, hi2, decide_true, cond_true, gd_pos, get_nth hi2, e2, Option.bind_some, wrapK, mtx_ok, bne_self_eq_false, beq_self_eq_true, Bool.not_true, cond_false, wrap_up i _ hi2 (by omega : l2.length ≤ 9223372036854775807)]
 simp only [F134_R2, lt_cast, Nat.lt_irrefl, decide_false, cond_false]
 simp only [F135_R2, lt_cast, Nat.lt_irrefl, decide_false, cond_false]
theorem mhClauseS_ok : MhOk F89 F90 LClause cClause := by
 refine mhS (R := F89_R2 _) (R' := F90_R2 _ _) (fun i l k rec hi hL hk hb hlen => ?_) (fun l k rec => ?_) (fun l k rec => ?_)
 have hc : cClause (nth l i) = cS cTerm (nth l i).1 := rfl
 simp (disch := omega) only [F89_R2, lt_cast, hi, decide_true, cond_true, gd_pos, List.length_set, List.set_set, get_nth hi, get_setI hi, Option.bind_some, wrapK, mtx_ok, wrap_up i _ hi (by omega : l.length ≤ 9223372036854775807)]
 obtain ⟨k0, l0, e0, b0, d0, g0⟩ := mhTermS_ok (nth l i).1 k (hL) (by omega) (by rw [hc] at hb; omega)
 rw [e0]
 simp (disch := omega) only [lt_cast, hi, decide_true, cond_true, gd_pos, List.length_set, List.set_set, get_nth hi, get_setI hi, Option.bind_some, wrapK, mtx_ok, wrap_up i _ hi (by omega : l.length ≤ 9223372036854775807)]
 refine ⟨_, _, rfl, by omega, by rw [hc]; omega, fun l2 rec2 hi2 hl2 e2 => ?_⟩
 simp (disch := omega) only [F90_R2, lt_cast, hi2, decide_true, cond_true, gd_pos, get_nth hi2, e2, Option.bind_some, wrapK, mtx_ok, bne_self_eq_false, beq_self_eq_true, Bool.not_true, cond_false, g0, decide_eq_false (show ¬ k0 < 0 by omega), wrap_up i _ hi2 (by omega : l2.length ≤ 9223372036854775807)]
 simp only [F89_R2, lt_cast, Nat.lt_irrefl, decide_false, cond_false]
 simp only [F90_R2, lt_cast, Nat.lt_irrefl, decide_false, cond_false]
theorem mhReadS_ok : MhOk F42 F44 LRead cRead := by
 refine mhS (R := F42_R2 _) (R' := F44_R2 _ _) (fun i l k rec hi hL hk hb hlen => ?_) (fun l k rec => ?_) (fun l k rec => ?_)
 have hc : cRead (nth l i) = cS cClause (nth l i).2.1.1 := rfl
 simp (disch := omega) only [F42_R2, lt_cast, hi, decide_true, cond_true, gd_pos, List.length_set, List.set_set, get_nth hi, get_setI hi, Option.bind_some, wrapK, mtx_ok, wrap_up i _ hi (by omega : l.length ≤ 9223372036854775807)]
 obtain ⟨k0, l0, e0, b0, d0, g0⟩ := mhClauseS_ok (nth l i).2.1.1 (k + 1) (hL.2) (by omega) (by rw [hc] at hb; omega)
 rw [e0]
 simp (disch := omega) only [lt_cast, hi, decide_true, cond_true, gd_pos, List.length_set, List.set_set, get_nth hi, get_setI hi, Option.bind_some, wrapK, mtx_ok, wrap_up i _ hi (by omega : l.length ≤ 9223372036854775807)]
 refine ⟨_, _, rfl, by omega, by rw [hc]; omega, fun l2 rec2 hi2 hl2 e2 => ?_⟩
 simp (disch := omega) only [F44_R2, lt_cast, hi2, decide_true, cond_true, gd_pos, get_nth hi2, e2, Option.bind_some, wrapK, mtx_ok, bne_self_eq_false, beq_self_eq_true, Bool.not_true, cond_false, g0, decide_eq_false (show ¬ k0 < 0 by omega), wrap_up i _ hi2 (by omega : l2.length ≤ 9223372036854775807)]
 simp only [F42_R2, lt_cast, Nat.lt_irrefl, decide_false, cond_false]
 simp only [F44_R2, lt_cast, Nat.lt_irrefl, decide_false, cond_false]
theorem mhChangeS_ok : MhOk F43 F45 LChange cChange := by
 refine mhS (R := F43_R2 _) (R' := F45_R2 _ _) (fun i l k rec hi hL hk hb hlen => ?_) (fun l k rec => ?_) (fun l k rec => ?_)
 simp (disch := omega) only [F43_R2, lt_cast, hi, decide_true, cond_true, gd_pos, List.length_set, List.set_set, get_nth hi, get_setI hi, Option.bind_some, wrapK, mtx_ok, wrap_up i _ hi (by omega : l.length ≤ 9223372036854775807)]
 refine ⟨_, _, rfl, by omega, by omega, fun l2 rec2 hi2 hl2 e2 => ?_⟩
 simp (disch := omega) only [F45_R2, lt_cast, hi2, decide_true, cond_true, gd_pos, get_nth hi2, e2, Option.bind_some, wrapK, mtx_ok, bne_self_eq_false, beq_self_eq_true, Bool.not_true, cond_false, wrap_up i _ hi2 (by omega : l2.length ≤ 9223372036854775807)]
 simp only [F43_R2, lt_cast, Nat.lt_irrefl, decide_false, cond_false]
 simp only [F45_R2, lt_cast, Nat.lt_irrefl, decide_false, cond_false]
theorem mhDoneS_ok : MhOk F13 F15 LDone cDone := by
 refine mhS (R := F13_R2 _) (R' := F15_R2 _ _) (fun i l k rec hi hL hk hb hlen => ?_) (fun l k rec => ?_) (fun l k rec => ?_)
 have hc : cDone (nth l i) = cS cRead (nth l i).2.2.1 + cS cChange (nth l i).2.2.2.1 := rfl
 simp (disch := omega) only [F13_R2, lt_cast, hi, decide_true, cond_true, gd_pos, List.length_set, List.set_set, get_nth hi, get_setI hi, Option.bind_some, wrapK, mtx_ok, wrap_up i _ hi (by omega : l.length ≤ 9223372036854775807)]
 obtain ⟨k0, l0, e0, b0, d0, g0⟩ := mhReadS_ok (nth l i).2.2.1 ((k + 1) + 1) (hL.1) (by omega) (by rw [hc] at hb; omega)
 rw [e0]
 simp (disch := omega) only [lt_cast, hi, decide_true, cond_true, gd_pos, List.length_set, List.set_set, get_nth hi, get_setI hi, Option.bind_some, wrapK, mtx_ok, wrap_up i _ hi (by omega : l.length ≤ 9223372036854775807)]
 obtain ⟨k1, l1, e1, b1, d1, g1⟩ := mhChangeS_ok (nth l i).2.2.2.1 k0 (hL.2) (by omega) (by rw [hc] at hb; omega)
 rw [e1]
 simp (disch := omega) only [lt_cast, hi, decide_true, cond_true, gd_pos, List.length_set, List.set_set, get_nth hi, get_setI hi, Option.bind_some, wrapK, mtx_ok, wrap_up i _ hi (by omega : l.length ≤ 9223372036854775807)]
 refine ⟨_, _, rfl, by omega, by rw [hc]; omega, fun l2 rec2 hi2 hl2 e2 => ?_⟩
 simp (disch := omega) only [F15_R2, lt_cast, hi2, decide_true, cond_true, gd_pos, get_nth hi2, e2, Option.bind_some, wrapK, mtx_ok, bne_self_eq_false, beq_self_eq_true, Bool.not_true, cond_false, g0, g1, decide_eq_false (show ¬ k0 < 0 by omega), decide_eq_false (show ¬ k1 < 0 by omega), wrap_up i _ hi2 (by omega : l2.length ≤ 9223372036854775807)]
 simp only [F13_R2, lt_cast, Nat.lt_irrefl, decide_false, cond_false]
 simp only [F15_R2, lt_cast, Nat.lt_irrefl, decide_false, cond_false]
end Go.V

/- Certify: the program answers what the reference answers. No condition. -/
namespace Go.V
set_option linter.unusedVariables false
set_option linter.unusedSimpArgs false
set_option maxRecDepth 100000
theorem take_nth {α : Type} [Inhabited α] {l : List α} {i : Nat} (h : i < l.length) : l.take i ++ [nth l i] = l.take (i + 1) := by
 rw [List.take_add_one, get_nth' h]; simp
theorem lim_take {α : Type} {l : List α} {i : Nat} (x : α) (hl : l.length ≤ 1048576) : (l.take i).length + [x].length ≤ lim := by
 simp only [List.length_take, lim, List.length_cons, List.length_nil]; omega
theorem lim_nil {α : Type} {l : List α} (hl : l.length ≤ 1048577) : ([] : List α).length + l.length ≤ lim := by
 simp only [lim, List.length_nil]; omega
theorem both_same {α : Type} (x : Option α) : both x x = x := by unfold both; rw [if_pos rfl]
theorem iter_take {α β X : Type} [Inhabited α] {R : (X → Option β) → X → Option β} (l : List α) (st : Nat → List α → X) (r : Option β)
  (hs : ∀ i, i < l.length → ∀ rec, R rec (st i (l.take i)) = rec (st (i + 1) (l.take i ++ [nth l i])))
  (hn : ∀ rec, R rec (st l.length l) = r) (hl : l.length ≤ 1048577) : iter R fuel (st 0 []) = r := by
 refine Eq.trans (iter_go (S := Unit) (fun i _ => st i (l.take i)) (fun _ _ => r) l.length (fun _ _ => True) ?_ ?_ fuel 0 () (Nat.zero_le _) (fuel_gt (by omega)) trivial) rfl
 ·intro i _ hi _ rec hrec
  rw [hs i hi rec, take_nth hi]
  exact hrec () trivial
 ·intro _ _ rec
  rw [List.take_length]
  exact hn rec
theorem cloneTerm_eq (l : List TTerm) (hl : l.length ≤ 1048576) : F220 l = some (l, ()) := by
 unfold F220
 dsimp only
 rw [gd_if (lim_nil (by omega))]
 cases l with
 | nil => exact both_same _
 | cons a l => rfl
theorem cloneChange_eq (l : List TChange) (hl : l.length ≤ 1048576) : F130 l = some (l, ()) := by
 unfold F130
 dsimp only
 rw [gd_if (lim_nil (by omega))]
 cases l with
 | nil => exact both_same _
 | cons a l => rfl
theorem cloneDone_eq (l : List TDone) (hl : l.length ≤ 1048577) : F39 l = some (l, ()) := by
 unfold F39
 dsimp only
 rw [gd_if (lim_nil hl)]
 cases l with
 | nil => exact both_same _
 | cons a l => rfl
theorem cloneFilter_eq (f : TFilter) (hf : LFilter 1048576 f) : F180 f = some (f, ()) := by
 unfold F180
 obtain ⟨l, u⟩ := f
 refine iter_take l (fun i o => (l, (((List.length l) : Nat) : Int), (i : Int), ([], ()), (o, ()), ())) _ ?_ ?_ (by have := hf.1; dsimp only at this; omega)
 ·intro i hi rec
  have hlen : l.length ≤ 1048576 := hf.1
  have hc := cloneTerm_eq (nth l i).1 (hf.2 _ (nth_mem hi)).1
  simp only [F180_R3, lt_cast, hi, decide_true, cond_true, gd_pos, get_nth hi, Option.bind_some, hc, gd_if (lim_take _ hlen), wrap_up i _ hi (by omega : l.length ≤ 9223372036854775807)]
 ·intro rec
  simp only [F180_R3, lt_cast, Nat.lt_irrefl, decide_false, cond_false]
theorem cloneReads_eq (l : List TRead) (hl : LS LRead 1048576 l) : F129 l = some (l, ()) := by
 unfold F129
 have hlen := hl.1
 refine iter_take l (fun i o => (l, (((List.length l) : Nat) : Int), (i : Int), o, ())) _ ?_ ?_ (by omega)
 ·intro i hi rec
  have hc := cloneFilter_eq (nth l i).2.1 (hl.2 _ (nth_mem hi)).2
  simp only [F129_R3, lt_cast, hi, decide_true, cond_true, gd_pos, get_nth hi, Option.bind_some, hc, gd_if (lim_take _ hlen), wrap_up i _ hi (by omega : l.length ≤ 9223372036854775807)]
 ·intro rec
  simp only [F129_R3, lt_cast, Nat.lt_irrefl, decide_false, cond_false]
theorem doneClone_eq (d : TDone) (hd : LDone 1048576 d) : F85 d = some (d, ()) := by
 unfold F85
 rw [cloneReads_eq _ hd.1, Option.bind_some, cloneChange_eq _ hd.2.1, Option.bind_some]
theorem cloneDones_eq (l : List TDone) (hl : LS LDone 1048576 l) : F38 l = some (l, ()) := by
 unfold F38
 have hlen := hl.1
 refine iter_take l (fun i o => (l, (((List.length l) : Nat) : Int), (i : Int), o, ())) _ ?_ ?_ (by omega)
 ·intro i hi rec
  have hc := doneClone_eq (nth l i) (hl.2 _ (nth_mem hi))
  simp only [F38_R3, lt_cast, hi, decide_true, cond_true, gd_pos, get_nth hi, Option.bind_some, hc, gd_if (lim_take _ hlen), wrap_up i _ hi (by omega : l.length ≤ 9223372036854775807)]
 ·intro rec
  simp only [F38_R3, lt_cast, Nat.lt_irrefl, decide_false, cond_false]
theorem l09Reads_eq (l : List TRead) (hl : LS LRead 1048576 l) : F74 l = some (l, ()) := by
 unfold F74
 have hlen := hl.1
 refine iter_take l (fun i o => (l, (i : Int), o, ())) _ ?_ ?_ (by omega)
 ·intro i hi rec
  have hf : LS LClause 1048576 (nth l i).2.1.1 := (hl.2 _ (nth_mem hi)).2
  have hfl := hf.1
  simp only [F74_R3, lt_cast, hi, decide_true, cond_true]
  refine iter_take (nth l i).2.1.1 (fun k o => (l, (i : Int), (k : Int), l.take i, o, ())) _ ?_ ?_ (by omega)
  ·intro k hk rec'
   have hc : (nth (nth l i).2.1.1 k).1.length ≤ 1048577 := by have := (hf.2 _ (nth_mem hk)).1; omega
   simp only [F74_R7, lt_cast, hk, decide_true, cond_true, gd_pos, get_nth hi, get_nth hk, Option.bind_some, gd_if (lim_nil hc), gd_if (lim_take _ hfl), List.nil_append, wrap_up k _ hk (by omega : (nth l i).2.1.1.length ≤ 9223372036854775807)]
  ·intro rec'
   simp only [F74_R7, lt_cast, Nat.lt_irrefl, decide_false, cond_false, gd_pos, get_nth hi, Option.bind_some, gd_if (lim_take _ hlen), wrap_up i _ hi (by omega : l.length ≤ 9223372036854775807)]
 ·intro rec
  simp only [F74_R3, lt_cast, Nat.lt_irrefl, decide_false, cond_false]
theorem l09Own_eq (l : List TDone) (hl : l.length ≤ 1048577) (hg : ∀ x, x ∈ l → LDone 1048576 x) : F32 l = some (l, ()) := by
 unfold F32
 refine iter_take l (fun i o => (l, (i : Int), o, ())) _ ?_ ?_ (by omega)
 ·intro i hi rec
  have hx := hg _ (nth_mem hi)
  have hlt : (l.take i).length + 1 ≤ lim := by simp only [List.length_take, lim]; omega
  simp only [F32_R3, lt_cast, hi, decide_true, cond_true, gd_pos, get_nth hi, Option.bind_some, l09Reads_eq _ hx.1, gd_if (lim_nil (by have := hx.2.1; omega : (nth l i).2.2.2.1.length ≤ 1048577)), List.length_singleton, List.nil_append, gd_if hlt, wrap_up i _ hi (by omega : l.length ≤ 9223372036854775807)]
 ·intro rec
  simp only [F32_R3, lt_cast, Nat.lt_irrefl, decide_false, cond_false]
def clashM (a b : List TChange) : Bool := a.any fun x => b.any fun y => sameM x y
theorem specSame_eq (a b : List TChange) (h1 : a.length ≤ 1048576) (h2 : b.length ≤ 1048576) : F72 a b = some (clashM a b, ()) := by
 unfold F72
 refine Eq.trans (iter_go (S := Unit) (fun i _ => (a, b, (i : Int), ())) (fun i _ => some ((a.drop i).any fun x => b.any fun y => sameM x y, ())) a.length (fun _ _ => True) ?_ ?_ fuel 0 () (Nat.zero_le _) (fuel_gt (by omega)) trivial) rfl
 ·intro i _ hi _ rec hrec
  simp only [F72_R2, lt_cast, hi, decide_true, cond_true]
  refine Eq.trans (iter_go (S := Unit) (fun k _ => (a, b, (i : Int), (k : Int), ())) (fun k _ => some (((b.drop k).any fun y => sameM (nth a i) y) || ((a.drop (i + 1)).any fun x => b.any fun y => sameM x y), ())) b.length (fun _ _ => True) ?_ ?_ fuel 0 () (Nat.zero_le _) (fuel_gt (by omega)) trivial) ?_
  ·intro k _ hk _ rec' hrec'
   simp only [F72_R5, lt_cast, hk, decide_true, cond_true, gd_pos, get_nth hi, get_nth hk, Option.bind_some, wrap_up k _ hk (by omega : b.length ≤ 9223372036854775807)]
   rw [drop_cons_nth hk, List.any_cons, hrec' () trivial]
   unfold sameM
   cases (nth a i).1.1 == (nth b k).1.1
   ·rfl
   ·cases (nth a i).1.2.1 == (nth b k).1.2.1 <;> rfl
  ·intro _ _ rec'
   simp only [F72_R5, lt_cast, Nat.lt_irrefl, decide_false, cond_false, List.drop_length, List.any_nil, Bool.false_or, wrap_up i _ hi (by omega : a.length ≤ 9223372036854775807)]
   exact hrec () trivial
  ·rw [List.drop_zero, drop_cons_nth hi, List.any_cons]
 ·intro _ _ rec
  simp only [F72_R2, lt_cast, Nat.lt_irrefl, decide_false, cond_false, List.drop_length, List.any_nil]
theorem certify1_eq (x : TChange) (d : TDone) (h2 : d.2.2.2.1.length ≤ 1048576) : F83 x d = some (d.2.2.2.1.any fun y => sameM x y, ()) := by
 unfold F83
 rw [any_change (fun y => sameM x y) _ _ (fun y hy => by
  unfold F84 F79 sameM
  cases x.1.1 == y.1.1 <;> rfl) (by omega), Option.bind_some]
theorem implSame_eq (a : List TChange) (d : TDone) (h1 : a.length ≤ 1048576) (h2 : d.2.2.2.1.length ≤ 1048576) :
  F77 a (fun (v10 : TChange) => (Option.map (fun (v11 : (Bool × Unit)) => v11.1) (F83 v10 d))) = some (clashM a d.2.2.2.1, ()) :=
 any_change (fun x => d.2.2.2.1.any fun y => sameM x y) _ _ (fun x hx => by rw [certify1_eq x d h2]; rfl) (by omega)
def lateM (d x : TDone) : Bool := decide (x.2.1 > d.1) && clashM x.2.2.2.1 d.2.2.2.1
def flagX (d x : TDone) : TDone := (x.1, x.2.1, x.2.2.1, x.2.2.2.1, hitsM d.2.2.1 x.2.2.2.1 || x.2.2.2.2.1, hitsM x.2.2.1 d.2.2.2.1 || x.2.2.2.2.2.1, ())
def flagD (d x : TDone) : TDone := (d.1, d.2.1, d.2.2.1, d.2.2.2.1, hitsM x.2.2.1 d.2.2.2.1 || d.2.2.2.2.1, hitsM d.2.2.1 x.2.2.2.1 || d.2.2.2.2.2.1, ())
def goM : Nat → Nat → TDone → List TDone → Option (TDone × List TDone)
 | 0, _, d, l => some (d, l)
 | m + 1, i, d, l => if (nth l i).2.1 ≤ d.1 then goM m (i + 1) d l
  else cond ((flagX d (nth l i)).2.2.2.2.1 && (flagX d (nth l i)).2.2.2.2.2.1) none (goM m (i + 1) (flagD d (nth l i)) (l.set i (flagX d (nth l i))))
def FitD (d : TDone) : Prop := (LDone 1048576 d ∧ cDone d ≤ 1048576) ∧ (∀ r, r ∈ d.2.2.1 → readM r = true) ∧ ∀ c, c ∈ d.2.2.2.1 → changeM c = true
def FitS (l : List TDone) : Prop := ∀ x, x ∈ l → FitD x
theorem FitS.set {l : List TDone} (h : FitS l) (i : Nat) {x : TDone} (hx : FitD x) : FitS (l.set i x) := fun y hy => by
 rcases List.mem_or_eq_of_mem_set hy with h1 | h1
 ·exact h y h1
 ·rw [h1]; exact hx
theorem FitS.nth {l : List TDone} (h : FitS l) {i : Nat} (hi : i < l.length) : FitD (nth l i) := h _ (nth_mem hi)
theorem goM_fit : ∀ (m i : Nat) (d : TDone) (l : List TDone), i + m = l.length → FitD d → FitS l → ∀ d' l', goM m i d l = some (d', l') → FitD d' ∧ FitS l' ∧ l'.length = l.length
 | 0, i, d, l, _, hd, hl, d', l', h => by cases h; exact ⟨hd, hl, rfl⟩
 | m + 1, i, d, l, hi, hd, hl, d', l', h => by
  have hx := hl.nth (show i < l.length by omega)
  unfold goM at h
  by_cases c : (V.nth l i).2.1 ≤ d.1
  ·rw [if_pos c] at h
   exact goM_fit m (i + 1) d l (by omega) hd hl d' l' h
  ·rw [if_neg c] at h
   cases e : (flagX d (V.nth l i)).2.2.2.2.1 && (flagX d (V.nth l i)).2.2.2.2.2.1 with
   | true => rw [e] at h; cases h
   | false =>
    rw [e] at h
    obtain ⟨h1, h2, h3⟩ := goM_fit m (i + 1) (flagD d (V.nth l i)) (l.set i (flagX d (V.nth l i))) (by simp; omega) hd (hl.set i hx) d' l' h
    exact ⟨h1, h2, by rw [h3, List.length_set]⟩
theorem hits_fit {a b : TDone} (ha : FitD a) (hb : FitD b) : F73 a.2.2.1 b.2.2.2.1 = some (hitsM a.2.2.1 b.2.2.2.1, ()) ∧ F86 a.2.2.1 b.2.2.2.1 = some (hitsM a.2.2.1 b.2.2.2.1, ()) :=
 ⟨specHits_eq _ _ ha.1.1.1.1 hb.1.1.2.1 ha.2.1 hb.2.2, implHits_eq _ _ ha.1.1.1.1 hb.1.1.2.1 ha.2.1 hb.2.2⟩
theorem set_nth {α : Type} [Inhabited α] {l : List α} {i : Nat} (h : i < l.length) : l.set i (nth l i) = l := by
 rw [nth_eq h]; exact List.set_getElem_self h
theorem cond_go {α β : Type} {A B : Option β} {g : Option α} {f : α → Option β} (b : Bool) (h : B = g.elim A f) : cond b A B = (cond b none g).elim A f := by
 cases b
 ·exact h
 ·rfl
theorem specLoop_eq (a0 : List TDone) (e) (er) : ∀ (k i : Nat) (d : TDone) (l : List TDone), i ≤ l.length → l.length - i < k → l.length ≤ 1048576 → FitD d → FitS l →
  iter (F31_R10 e er) k (a0, (i : Int), d, l, ()) = (goM (l.length - i) i d l).elim (er (a0, (16 : Int), ())) (fun x => e (a0, x.1, x.2, ()))
 | k + 1, i, d, l, hi, hk, hn, hd, hl => by
  simp only [iter]
  by_cases c : i < l.length
  ·have hx := hl.nth c
   rw [show l.length - i = (l.length - (i + 1)) + 1 by omega]
   simp only [F31_R10, goM, lt_cast, c, decide_true, cond_true, gd_pos, get_nth c, Option.bind_some, wrap_up i _ c (by omega : l.length ≤ 9223372036854775807)]
   by_cases c2 : (nth l i).2.1 ≤ d.1
   ·simp only [c2, decide_true, cond_true, if_true]
    exact specLoop_eq a0 e er k (i + 1) d l (by omega) (by omega) hn hd hl
   ·have ih := specLoop_eq a0 e er k (i + 1) (flagD d (nth l i)) (l.set i (flagX d (nth l i))) (by simp; omega) (by simp; omega) (by simpa using hn) hd (hl.set i hx)
    rw [List.length_set] at ih
    simp only [c2, decide_false, cond_false, if_false, (hits_fit hd hx).1]
    cases ea : hitsM d.2.2.1 (nth l i).2.2.2.1 with
    | true =>
     simp only [cond_true, get_setI c, Option.bind_some, (hits_fit hx hd).1]
     cases eb : hitsM (nth l i).2.2.1 d.2.2.2.1 with
     | true => simp only [flagD, flagX, ea, eb, cond_true, cond_false, get_setI c, List.set_set, Option.bind_some, Bool.true_or, Bool.false_or, Bool.and_true, Bool.true_and] at ih ⊢; rfl
     | false =>
      simp only [flagD, flagX, ea, eb, cond_true, cond_false, get_setI c, List.set_set, Option.bind_some, Bool.true_or, Bool.false_or, Bool.and_true, Bool.true_and, gd_true] at ih ⊢
      exact cond_go _ ih
    | false =>
     simp only [cond_false, get_nth c, Option.bind_some, (hits_fit hx hd).1]
     cases eb : hitsM (nth l i).2.2.1 d.2.2.2.1 with
     | true =>
      simp only [flagD, flagX, ea, eb, cond_true, cond_false, get_setI c, List.set_set, Option.bind_some, Bool.true_or, Bool.false_or, Bool.and_true, Bool.true_and, gd_true] at ih ⊢
      exact cond_go _ ih
     | false =>
      have e1 : l.set i ((nth l i).1, (nth l i).2.1, (nth l i).2.2.1, (nth l i).2.2.2.1, (nth l i).2.2.2.2.1, (nth l i).2.2.2.2.2.1, ()) = l := set_nth c
      simp only [flagD, flagX, ea, eb, cond_true, cond_false, get_nth c, Option.bind_some, Bool.true_or, Bool.false_or, e1] at ih ⊢
      cases (nth l i).2.2.2.2.1 with
      | false => exact ih
      | true =>
       cases (nth l i).2.2.2.2.2.1 with
       | true => rfl
       | false => exact ih
  ·have : l.length - i = 0 := by omega
   rw [this]
   simp only [F31_R10, goM, lt_cast, c, decide_false, cond_false, Option.elim]
theorem implLoop_eq (e) (er) : ∀ (k i : Nat) (d : TDone) (l : List TDone), i ≤ l.length → l.length - i < k → l.length ≤ 1048576 → FitD d → FitS l →
  iter (F37_R11 e er) k (((l.length : Nat) : Int), (i : Int), d, l, ()) = (goM (l.length - i) i d l).elim (er ((16 : Int), ())) (fun x => e (x.1, x.2, ()))
 | k + 1, i, d, l, hi, hk, hn, hd, hl => by
  simp only [iter]
  by_cases c : i < l.length
  ·have hx := hl.nth c
   rw [show l.length - i = (l.length - (i + 1)) + 1 by omega]
   simp only [F37_R11, goM, lt_cast, c, decide_true, cond_true, gd_pos, get_nth c, Option.bind_some, wrap_up i _ c (by omega : l.length ≤ 9223372036854775807)]
   by_cases c2 : (nth l i).2.1 ≤ d.1
   ·simp only [c2, decide_true, cond_true, if_true]
    exact implLoop_eq e er k (i + 1) d l (by omega) (by omega) hn hd hl
   ·have ih := implLoop_eq e er k (i + 1) (flagD d (nth l i)) (l.set i (flagX d (nth l i))) (by simp; omega) (by simp; omega) (by simpa using hn) hd (hl.set i hx)
    rw [List.length_set] at ih
    simp only [c2, decide_false, cond_false, if_false, (hits_fit hd hx).2]
    cases ea : hitsM d.2.2.1 (nth l i).2.2.2.1 with
    | true =>
     simp only [cond_true, get_setI c, Option.bind_some, (hits_fit hx hd).2]
     cases eb : hitsM (nth l i).2.2.1 d.2.2.2.1 with
     | true => simp only [flagD, flagX, ea, eb, cond_true, cond_false, get_setI c, List.set_set, Option.bind_some, Bool.true_or, Bool.false_or, Bool.and_true, Bool.true_and] at ih ⊢; rfl
     | false =>
      simp only [flagD, flagX, ea, eb, cond_true, cond_false, get_setI c, List.set_set, Option.bind_some, Bool.true_or, Bool.false_or, Bool.and_true, Bool.true_and, gd_true] at ih ⊢
      exact cond_go _ ih
    | false =>
     simp only [cond_false, get_nth c, Option.bind_some, (hits_fit hx hd).2]
     cases eb : hitsM (nth l i).2.2.1 d.2.2.2.1 with
     | true =>
      simp only [flagD, flagX, ea, eb, cond_true, cond_false, get_setI c, List.set_set, Option.bind_some, Bool.true_or, Bool.false_or, Bool.and_true, Bool.true_and, gd_true] at ih ⊢
      exact cond_go _ ih
     | false =>
      have e1 : l.set i ((nth l i).1, (nth l i).2.1, (nth l i).2.2.1, (nth l i).2.2.2.1, (nth l i).2.2.2.2.1, (nth l i).2.2.2.2.2.1, ()) = l := set_nth c
      simp only [flagD, flagX, ea, eb, cond_true, cond_false, get_nth c, Option.bind_some, Bool.true_or, Bool.false_or, e1] at ih ⊢
      cases (nth l i).2.2.2.2.1 with
      | false => exact ih
      | true =>
       cases (nth l i).2.2.2.2.2.1 with
       | true => rfl
       | false => exact ih
  ·have : l.length - i = 0 := by omega
   rw [this]
   simp only [F37_R11, goM, lt_cast, c, decide_false, cond_false, Option.elim]
theorem specLate_eq (a0 : List TDone) (d : TDone) (l : List TDone) (e) (er) (hn : l.length ≤ 1048576) (hd : FitD d) (hl : FitS l) :
  iter (F31_R3 e er) fuel (a0, (0 : Int), d, l, ()) = cond (l.any (lateM d)) (er (a0, (15 : Int), ())) (e (a0, d, l, ())) := by
 refine Eq.trans (iter_go (S := Unit) (fun i _ => (a0, (i : Int), d, l, ())) (fun i _ => cond ((l.drop i).any (lateM d)) (er (a0, (15 : Int), ())) (e (a0, d, l, ()))) l.length (fun _ _ => True) ?_ ?_ fuel 0 () (Nat.zero_le _) (fuel_gt (by omega)) trivial) rfl
 ·intro i _ hi _ rec hrec
  have hx := hl.nth hi
  simp only [F31_R3, lt_cast, hi, decide_true, cond_true, gd_pos, get_nth hi, Option.bind_some, wrap_up i _ hi (by omega : l.length ≤ 9223372036854775807), specSame_eq _ _ hx.1.1.2.1 hd.1.1.2.1]
  rw [drop_cons_nth hi, List.any_cons, hrec () trivial]
  unfold lateM
  cases decide ((nth l i).2.1 > d.1)
  ·rfl
  ·cases clashM (nth l i).2.2.2.1 d.2.2.2.1 <;> rfl
 ·intro _ _ rec
  simp only [F31_R3, lt_cast, Nat.lt_irrefl, decide_false, cond_false, List.drop_length, List.any_nil]
theorem implLate_eq (d : TDone) (l : List TDone) (e) (er) (hn : l.length ≤ 1048576) (hd : FitD d) (hl : FitS l) :
  iter (F37_R2 e er) fuel (l, l, (((List.length l) : Nat) : Int), (0 : Int), d, ()) = cond (l.any (lateM d)) (er ((15 : Int), ())) (e (l, d, ())) := by
 refine Eq.trans (iter_go (S := Unit) (fun i _ => (l, l, (((List.length l) : Nat) : Int), (i : Int), d, ())) (fun i _ => cond ((l.drop i).any (lateM d)) (er ((15 : Int), ())) (e (l, d, ()))) l.length (fun _ _ => True) ?_ ?_ fuel 0 () (Nat.zero_le _) (fuel_gt (by omega)) trivial) rfl
 ·intro i _ hi _ rec hrec
  have hx := hl.nth hi
  simp only [F37_R2, lt_cast, hi, decide_true, cond_true, gd_pos, get_nth hi, Option.bind_some, wrap_up i _ hi (by omega : l.length ≤ 9223372036854775807), implSame_eq _ d hx.1.1.2.1 hd.1.1.2.1]
  rw [drop_cons_nth hi, List.any_cons, hrec () trivial]
  unfold lateM
  cases decide ((nth l i).2.1 > d.1)
  ·rfl
  ·cases clashM (nth l i).2.2.2.1 d.2.2.2.1 <;> rfl
 ·intro _ _ rec
  simp only [F37_R2, lt_cast, Nat.lt_irrefl, decide_false, cond_false, List.drop_length, List.any_nil]
def bareM (d : TDone) : TDone := (d.1, d.2.1, d.2.2.1, d.2.2.2.1, false, false, ())
def sumM (l : List TDone) (d : TDone) : Int ⊕ List TDone :=
 cond (l.any (lateM d)) (.inl 15) (match goM l.length 0 (bareM d) l with
  | none => .inl 16
  | some (d, l) => cond (d.2.2.2.2.1 && d.2.2.2.2.2.1) (.inl 16) (cond (((l.length : Nat) : Int) == 30) (.inl 7) (.inr (l ++ [d]))))
theorem specSum_eq (l : List TDone) (d : TDone) (hn : l.length ≤ 1048576) (hd : FitD d) (hl : FitS l) :
  F31 l d = match sumM l d with | .inl c => some (l, c, ()) | .inr r => some (r, (0 : Int), ()) := by
 unfold F31 sumM
 rw [gd_if (lim_nil (by omega)), List.nil_append, specLate_eq l d l _ _ hn hd hl]
 cases l.any (lateM d)
 ·rw [cond_false, cond_false]
  dsimp only
  refine Eq.trans (specLoop_eq l _ _ fuel 0 (bareM d) l (Nat.zero_le _) (fuel_gt (by omega)) hn hd hl) ?_
  rw [Nat.sub_zero]
  cases e : goM l.length 0 (bareM d) l with
  | none => rfl
  | some x =>
   obtain ⟨d', l'⟩ := x
   have hlen := (goM_fit l.length 0 (bareM d) l (by omega) hd hl d' l' e).2.2
   dsimp only [Option.elim]
   rw [gd_if (show l'.length + [d'].length ≤ lim by simp only [lim, List.length_cons, List.length_nil]; omega)]
   cases d'.2.2.2.2.1 <;> cases d'.2.2.2.2.2.1 <;> cases (((l'.length : Nat) : Int) == 30) <;> rfl
 ·rfl
theorem implSum_eq (l : List TDone) (d : TDone) (hn : l.length ≤ 1048576) (hd : FitD d) (hl : FitS l) :
  F37 l d = match sumM l d with | .inl c => some ([], c, ()) | .inr r => some (r, (0 : Int), ()) := by
 unfold F37 sumM
 rw [implLate_eq d l _ _ hn hd hl]
 cases l.any (lateM d)
 ·rw [cond_false, cond_false]
  dsimp only
  rw [cloneDones_eq l ⟨hn, fun x hx => (hl x hx).1.1⟩, doneClone_eq d hd.1.1]
  simp only [Option.bind_some]
  refine Eq.trans (implLoop_eq _ _ fuel 0 (bareM d) l (Nat.zero_le _) (fuel_gt (by omega)) hn hd hl) ?_
  rw [Nat.sub_zero]
  cases e : goM l.length 0 (bareM d) l with
  | none => rfl
  | some x =>
   obtain ⟨d', l'⟩ := x
   have hlen := (goM_fit l.length 0 (bareM d) l (by omega) hd hl d' l' e).2.2
   dsimp only [Option.elim]
   rw [gd_if (show l'.length + [d'].length ≤ lim by simp only [lim, List.length_cons, List.length_nil]; omega)]
   cases d'.2.2.2.2.1 <;> cases d'.2.2.2.2.2.1 <;> cases (((l'.length : Nat) : Int) == 30) <;> rfl
 ·rfl
theorem sumM_code {l : List TDone} {d : TDone} {c : Int} (h : sumM l d = .inl c) : (c != 0) = true := by
 unfold sumM at h
 cases e1 : l.any (lateM d) with
 | true => rw [e1] at h; cases h; rfl
 | false =>
  rw [e1, cond_false] at h
  cases e2 : goM l.length 0 (bareM d) l with
  | none => rw [e2] at h; cases h; rfl
  | some x =>
   rw [e2] at h
   dsimp only at h
   cases e3 : x.1.2.2.2.2.1 && x.1.2.2.2.2.2.1 with
   | true => rw [e3] at h; cases h; rfl
   | false =>
    rw [e3, cond_false] at h
    cases e4 : (((x.2.length : Nat) : Int) == 30) with
    | true => rw [e4] at h; cases h; rfl
    | false => rw [e4] at h; cases h
theorem sumM_list {l : List TDone} {d : TDone} {r : List TDone} (hd : FitD d) (hl : FitS l) (h : sumM l d = .inr r) : r.length = l.length + 1 ∧ FitS r := by
 unfold sumM at h
 cases e1 : l.any (lateM d) with
 | true => rw [e1] at h; cases h
 | false =>
  rw [e1, cond_false] at h
  cases e2 : goM l.length 0 (bareM d) l with
  | none => rw [e2] at h; cases h
  | some x =>
   obtain ⟨g1, g2, g3⟩ := goM_fit l.length 0 (bareM d) l (by omega) hd hl x.1 x.2 e2
   rw [e2] at h
   dsimp only at h
   cases e3 : x.1.2.2.2.2.1 && x.1.2.2.2.2.2.1 with
   | true => rw [e3] at h; cases h
   | false =>
    rw [e3, cond_false] at h
    cases e4 : (((x.2.length : Nat) : Int) == 30) with
    | true => rw [e4] at h; cases h
    | false =>
     rw [e4] at h
     cases h
     exact ⟨by simp [g3], fun y hy => by
      rw [List.mem_append, List.mem_singleton] at hy
      rcases hy with hy | hy
      ·exact g2 y hy
      ·rw [hy]; exact g1⟩
theorem doneM_fit {d : TDone} (hd : LDone 1048576 d) (hc : cDone d ≤ 1048576) (h : doneM d = true) : FitD d := by
 unfold doneM at h
 simp only [Bool.and_eq_true, List.all_eq_true] at h
 exact ⟨⟨hd, hc⟩, h.2.2.2.2.2.2.1, h.2.2.2.2.2.2.2⟩
theorem cS_mem {α : Type} {c : α → Nat} : ∀ {l : List α} {x : α}, x ∈ l → c x ≤ cS c l
 | a :: l, x, h => by
  have e : cS c (a :: l) = cS c l + c a + 1 := by simp [cS]; omega
  rcases List.mem_cons.1 h with h | h
  ·rw [e, h]; omega
  ·have := cS_mem (c := c) h
   rw [e]; omega
theorem donesM_fit {l : List TDone} (hl : LS LDone 1048576 l) (hc : cS cDone l ≤ 1048576) (h : donesM l = true) : l.length ≤ 30 ∧ FitS l := by
 unfold donesM at h
 rw [Bool.and_eq_true, allF_iff, decide_eq_true_eq] at h
 refine ⟨by omega, fun x hx => ?_⟩
 obtain ⟨i, hi, rfl⟩ := mem_nth hx
 have := h.1 i (Nat.zero_le _) (by omega)
 simp only [Bool.and_eq_true] at this
 exact doneM_fit (hl.2 _ hx) (by have := cS_mem (c := cDone) hx; omega) this.1
theorem certify_eq (l : List TDone) (d : TDone) (hl : LS LDone 1048576 l) (hc : cS cDone l ≤ 1048576) (hd : LDone 1048576 d) (hcd : cDone d ≤ 1048576) :
  ∃ r c, F7 l d = some (r, c, ()) ∧ F10 l d = some (r, c, ()) ∧ LS LDone 1048576 r ∧ cS cDone r ≤ 1000000000 := by
 have hnil : LS LDone 1048576 [] ∧ cS cDone [] ≤ 1000000000 := ⟨⟨Nat.zero_le _, fun _ h => by cases h⟩, by simp [cS]⟩
 unfold F7 F10
 cases c0 : decide (((l.length : Nat) : Int) > 4096) with
 | true => exact ⟨[], 2, rfl, rfl, hnil⟩
 | false =>
 rw [l09Dones_eq l hl, areDone_eq l hl, specDoneOK_eq d hd, implDoneOK_eq d hd]
 simp only [cond_false, Option.bind_some]
 cases m1 : donesM l with
 | false => exact ⟨[], 1, rfl, rfl, hnil⟩
 | true =>
 cases m2 : doneM d with
 | false => exact ⟨[], 1, rfl, rfl, hnil⟩
 | true =>
 simp only [Bool.not_true, cond_false]
 obtain ⟨h30, fl⟩ := donesM_fit hl hc m1
 have fd := doneM_fit hd hcd m2
 have main : ∃ r c, (Option.bind (F31 l d) fun y8 => Option.bind (F32 y8.1) fun y9 => some (y9.1, (y8.2.1, ()))) = some (r, c, ()) ∧
   (Option.bind (F37 l d) fun y6 => cond (y6.2.1 != (0 : Int)) (Option.bind (F38 l) fun y8 => some (y8.1, (y6.2.1, ()))) (Option.bind (F39 y6.1) fun y9 => some (y9.1, ((0 : Int), ())))) = some (r, c, ()) ∧ LS LDone 1048576 r ∧ cS cDone r ≤ 1000000000 := by
  rw [specSum_eq l d hl.1 fd fl, implSum_eq l d hl.1 fd fl]
  cases e : sumM l d with
  | inl c =>
   refine ⟨l, c, ?_, ?_, hl, by omega⟩
   ·simp only [Option.bind_some, l09Own_eq l (by omega) hl.2]
   ·simp only [Option.bind_some, sumM_code e, cond_true, cloneDones_eq l hl]
  | inr r =>
   obtain ⟨g1, g2⟩ := sumM_list fd fl e
   have g3 : LS LDone 1048576 r := ⟨by omega, fun x hx => (g2 x hx).1.1⟩
   refine ⟨r, 0, ?_, ?_, g3, ?_⟩
   ·simp only [Option.bind_some, l09Own_eq r (by omega) g3.2]
   ·simp only [Option.bind_some, bne_self_eq_false, cond_false, cloneDone_eq r (by omega)]
   ·have : ∀ r : List TDone, (∀ x, x ∈ r → cDone x ≤ 1048576) → (r.map cDone).sum ≤ r.length * 1048576 := by
     intro r
     induction r with
     | nil => intro _; simp
     | cons a r ih =>
      intro h
      have h1 := h a (by simp)
      have h2 := ih fun x hx => h x (by simp [hx])
      simp only [List.map_cons, List.sum_cons, List.length_cons]
      omega
    have := this r fun x hx => (g2 x hx).1.2
    unfold cS
    omega
 cases c1 : decide (((l.length : Nat) : Int) > 0) with
 | false => exact main
 | true =>
  have hpos : 0 < l.length := by
   have := of_decide_eq_true c1
   omega
  have e1 : IntKind.wrap IntKind.i64 (((l.length : Nat) : Int) - 1) = ((l.length - 1 : Nat) : Int) := by rw [wrapI _ (by omega) (by omega)]; omega
  simp only [cond_true, e1, gd_pos, get_nth (show l.length - 1 < l.length by omega), Option.bind_some]
  rw [show decide ((nth l (l.length - 1)).2.1 ≥ d.2.1) = decide (d.2.1 ≤ (nth l (l.length - 1)).2.1) from rfl]
  cases decide (d.2.1 ≤ (nth l (l.length - 1)).2.1) with
  | true => exact ⟨[], 19, rfl, rfl, hnil⟩
  | false => exact main
theorem markDone_ok (d : TDone) (k : Int) (hd : LDone 1048576 d) (hc : cDone d ≤ 1048576) (h0 : 0 ≤ k) (hk : k ≤ 1000000000) : ∃ k', F14 d k = some (k', ()) ∧ 0 ≤ k' := by
 have hcc : cDone d = cS cRead d.2.2.1 + cS cChange d.2.2.2.1 := rfl
 unfold F14
 obtain ⟨k0, l0, e0, b0, d0, g0⟩ := mhReadS_ok d.2.2.1 k hd.1 h0 (by omega)
 rw [e0, Option.bind_some]
 obtain ⟨k1, l1, e1, b1, d1, g1⟩ := mhChangeS_ok d.2.2.2.1 k0 hd.2 (by omega) (by omega)
 dsimp only
 rw [e1]
 exact ⟨k1, rfl, by omega⟩
theorem fnExactCertify_law (l : List TDone) (d : TDone) (h : LS LDone 9223372036854775807 l) (h' : LDone 9223372036854775807 d) : F3 l d = some (true, ()) := by
 unfold F3
 obtain ⟨r, hr, hra, hL⟩ := szDoneS_ok l 1048576 h (by decide) (by decide)
 rw [hr, Option.bind_some]
 by_cases h0 : r < 0
 ·simp only [h0, decide_true, cond_true]
 obtain ⟨hl, hc⟩ := hL (by omega)
 obtain ⟨r', hr', hra', hL'⟩ := szDone_ok d r h' (by omega) (by omega)
 simp only [h0, decide_false, cond_false, hr', Option.bind_some]
 by_cases h1 : r' < 0
 ·simp only [h1, decide_true, cond_true]
 obtain ⟨hd, hcd⟩ := hL' (by omega)
 obtain ⟨R, c, es, ei, hR, hcR⟩ := certify_eq l d hl (by omega) hd (by omega)
 obtain ⟨k, lm, hk, k1, k2, _⟩ := mhDoneS_ok l 1 hl (by decide) (by omega)
 obtain ⟨k', hk', k3⟩ := markDone_ok d k hd (by omega) (by omega) (by omega)
 obtain ⟨q, R', hq, q1, q2, q3⟩ := mhDoneS_ok R 1 hR (by decide) (by omega)
 have n1 : ¬ k' < 0 := by omega
 have n2 : ¬ q < 0 := by omega
 simp only [h1, decide_false, cond_false, toDoneS_ok l hl, toDone_ok d hd, Option.bind_some, es, ei, eqDoneS_ok R hR, eqDoneS_ok l hl, eqDone_ok d hd, bne_self_eq_false, Bool.not_true, hk, hk', n1, hq, q3, n2]
end Go.V
