/- What the functions compute, in plain words, and the laws. No condition. -/
import Derived.Test.YtmegollghdmpfaaGreatDoorLa
/- What a query keeps of documents: values and documents in bytes; lists less what is deleted. No condition. -/
namespace Go.V
set_option linter.unusedVariables false
set_option linter.unusedSimpArgs false
set_option maxRecDepth 100000
def toB (z : Int) : UInt8 := UInt8.ofNat (Int.toNat z)
def eI (n : Int) (m : Nat) : Int := IntKind.wrap .u8 (Int.fdiv n ((2 : Int) ^ (Min.min (8 * m) 64)))
def downI (n : Int) : Nat → List Int
 | 0 => []
 | m + 1 => eI n m :: downI n m
theorem fuel_more : ∃ k, fuel = k + 9 := ⟨fuel - 9, by have := fuel_eq; omega⟩
theorem eight_eq (n : Int) : F175 n = some (downI n 8, ()) := by
 unfold F175
 obtain ⟨k, hk⟩ := fuel_more
 rw [hk]
 kernel_rfl
theorem number1_eq (n : Int) : F113 n 1 = some ((downI n 1).map toB, ()) := by
 unfold F113
 obtain ⟨k, hk⟩ := fuel_more
 rw [hk]
 kernel_rfl
theorem number2_eq (n : Int) : F113 n 2 = some ((downI n 2).map toB, ()) := by
 unfold F113
 obtain ⟨k, hk⟩ := fuel_more
 rw [hk]
 kernel_rfl
theorem number8_eq (n : Int) : F113 n 8 = some ((downI n 8).map toB, ()) := by
 unfold F113
 obtain ⟨k, hk⟩ := fuel_more
 rw [hk]
 kernel_rfl
theorem eI_zero (n : Int) : eI n 0 = IntKind.wrap .u8 n := by
 unfold eI
 rw [show (2 : Int) ^ (Min.min (8 * 0) 64) = 1 from rfl, Int.fdiv_one]
theorem down1 (n : Int) : downI n 1 = [IntKind.wrap .u8 n] := by
 rw [show downI n 1 = [eI n 0] from rfl, eI_zero]
theorem down2 (n : Int) : downI n 2 = [IntKind.wrap .u8 (Int.fdiv n ((2 : Int) ^ (Min.min (Int.toNat (8 : Int)) (IntKind.bits IntKind.i64)))), IntKind.wrap .u8 n] := by
 rw [show downI n 2 = [eI n 1, eI n 0] from rfl, eI_zero]; rfl
theorem back (t : List UInt8) : (t.map fun v : UInt8 => ((v.toNat : Nat) : Int)).map toB = t := by
 rw [List.map_map]
 conv => rhs; rw [← List.map_id t]
 refine List.map_congr_left fun x _ => ?_
 simp [toB]
def encI (v : TVal) : List Int :=
 IntKind.wrap .u8 v.1 :: (if v.1 = 0 then [] else if v.1 = 1 then [IntKind.wrap .u8 v.2.1] else if v.1 = 2 then downI (IntKind.wrap .i64 (v.2.1 + 4611686018427387904)) 8
  else downI ((v.2.2.1.length : Nat) : Int) 2 ++ v.2.2.1.map fun v : UInt8 => ((v.toNat : Nat) : Int))
def encM (v : TVal) : List UInt8 := (encI v).map toB
theorem encI_len {v : TVal} (h : v.2.2.1.length ≤ 300) : (encI v).length ≤ 303 := by
 unfold encI
 split
 ·simp
 split
 ·simp
 split
 ·simp [downI]
 ·simp only [List.length_cons, List.length_append, List.length_map, downI, List.length_nil]; omega
theorem okM_kinds {d : Nat} {v : TVal} (h : okM d v = true) : v.1 = 0 ∨ v.1 = 1 ∨ v.1 = 2 ∨ v.1 = 3 ∨ v.1 = 4 ∨ v.1 = 5 := by
 have : ∀ g m, okB g m v = true → v.1 = 0 ∨ v.1 = 1 ∨ v.1 = 2 ∨ v.1 = 3 ∨ v.1 = 4 ∨ v.1 = 5 := by
  intro g m h
  unfold okB at h
  split at h
  ·omega
  split at h
  ·omega
  split at h
  ·omega
  split at h
  ·omega
  split at h
  ·omega
  split at h
  ·omega
  ·cases h
 cases d with
 | zero => exact this _ _ h
 | succ d => exact this _ _ h
theorem putValue_eq {d : Nat} (b : List Int) (v : TVal) (h : okM d v = true) (hb : b.length ≤ 1000000) : F141 b v = some (b ++ encI v, ()) := by
 have ht := okM_short h
 unfold F141 encI
 rcases okM_kinds h with k | k | k | k | k | k
 ·rw [k]
  simp only [show ((0 : Int) == 1) = false from rfl, show ((0 : Int) == 2) = false from rfl, show ((0 : Int) == 3) = false from rfl, show ((0 : Int) == 4) = false from rfl, show ((0 : Int) == 5) = false from rfl, cond_false, if_true]
  rw [gd_if (by simp only [lim, List.length_singleton]; omega)]
 ·rw [k]
  simp only [show ((1 : Int) == 1) = true from rfl, cond_true, if_true, show ¬ ((1 : Int) = 0) by decide, if_false]
  rw [gd_if (by simp only [lim, List.length_singleton]; omega), gd_if (by simp only [lim, List.length_append, List.length_singleton]; omega)]
  simp only [List.append_assoc, List.singleton_append]
 ·rw [k]
  simp only [show ((2 : Int) == 1) = false from rfl, show ((2 : Int) == 2) = true from rfl, cond_true, cond_false, if_true, show ¬ ((2 : Int) = 0) by decide, show ¬ ((2 : Int) = 1) by decide, if_false, eight_eq, Option.bind_some]
  rw [gd_if (by simp only [lim, List.length_singleton]; omega), gd_if (by simp only [lim, List.length_append, List.length_singleton, downI, List.length_cons, List.length_nil]; omega)]
  simp only [List.append_assoc, List.singleton_append]
 all_goals
  rw [k]
  simp only [show ((3 : Int) == 1) = false from rfl, show ((3 : Int) == 2) = false from rfl, show ((3 : Int) == 3) = true from rfl, show ((4 : Int) == 1) = false from rfl, show ((4 : Int) == 2) = false from rfl, show ((4 : Int) == 3) = false from rfl, show ((4 : Int) == 4) = true from rfl,
   show ((5 : Int) == 1) = false from rfl, show ((5 : Int) == 2) = false from rfl, show ((5 : Int) == 3) = false from rfl, show ((5 : Int) == 4) = false from rfl, show ((5 : Int) == 5) = true from rfl, cond_true, cond_false,
   show ¬ ((3 : Int) = 0) by decide, show ¬ ((3 : Int) = 1) by decide, show ¬ ((3 : Int) = 2) by decide, show ¬ ((4 : Int) = 0) by decide, show ¬ ((4 : Int) = 1) by decide, show ¬ ((4 : Int) = 2) by decide, show ¬ ((5 : Int) = 0) by decide, show ¬ ((5 : Int) = 1) by decide, show ¬ ((5 : Int) = 2) by decide, if_false]
  rw [gd_if (by simp only [lim, List.length_singleton]; omega), gd_if (by simp only [lim, List.length_append, List.length_singleton, List.length_cons, List.length_nil]; omega), gd_if (by simp only [lim, List.length_append, List.length_singleton, List.length_cons, List.length_nil, List.length_map]; omega), down2]
  simp only [List.append_assoc, List.singleton_append]
  rfl
theorem l01Encode_eq {d : Nat} (v : TVal) (h : okM d v = true) : F114 v = some (encM v, ()) := by
 have ht := okM_short h
 unfold F114 encM encI
 rw [number1_eq, Option.bind_some, down1]
 rcases okM_kinds h with k | k | k | k | k | k
 ·rw [k]
  simp only [beq_self_eq_true, cond_true, if_true]
 ·rw [k]
  simp only [show ((1 : Int) == 0) = false from rfl, show ((1 : Int) == 1) = true from rfl, cond_true, cond_false, if_true, show ¬ ((1 : Int) = 0) by decide, if_false, number1_eq, Option.bind_some, down1]
  rw [gd_if (by simp)]
  rfl
 ·rw [k]
  simp only [show ((2 : Int) == 0) = false from rfl, show ((2 : Int) == 1) = false from rfl, show ((2 : Int) == 2) = true from rfl, cond_true, cond_false, if_true, show ¬ ((2 : Int) = 0) by decide, show ¬ ((2 : Int) = 1) by decide, if_false, number8_eq, Option.bind_some]
  rw [gd_if (by simp only [List.length_map, downI, List.length_cons, List.length_nil]; omega)]
  rfl
 all_goals
  rw [k]
  simp only [show ((3 : Int) == 0) = false from rfl, show ((3 : Int) == 1) = false from rfl, show ((3 : Int) == 2) = false from rfl, show ((4 : Int) == 0) = false from rfl, show ((4 : Int) == 1) = false from rfl, show ((4 : Int) == 2) = false from rfl, show ((5 : Int) == 0) = false from rfl,
   show ((5 : Int) == 1) = false from rfl, show ((5 : Int) == 2) = false from rfl, cond_false,
   show ¬ ((3 : Int) = 0) by decide, show ¬ ((3 : Int) = 1) by decide, show ¬ ((3 : Int) = 2) by decide, show ¬ ((4 : Int) = 0) by decide, show ¬ ((4 : Int) = 1) by decide, show ¬ ((4 : Int) = 2) by decide, show ¬ ((5 : Int) = 0) by decide, show ¬ ((5 : Int) = 1) by decide, show ¬ ((5 : Int) = 2) by decide, if_false, number2_eq, Option.bind_some]
  rw [gd_if (by simp only [List.length_map, down2, List.length_cons, List.length_nil]; omega), gd_if (by simp only [List.length_append, List.length_map, down2, List.length_cons, List.length_nil]; omega)]
  simp only [List.map_cons, List.map_nil, List.map_append, back, List.append_assoc, List.singleton_append]
  rfl
def fldM (f : TFld) : List UInt8 := toB (IntKind.wrap .u8 ((f.1.length : Nat) : Int)) :: (f.1 ++ encM f.2.1)
def docM' (l : List TFld) : TVal := (5, 0, l.flatMap fldM, ())
def FldOk (f : TFld) : Prop := f.1.length ≤ 12 ∧ okM 4 f.2.1 = true
theorem docOf_eq (l : List TFld) (hl : l.length ≤ 300) (hf : ∀ f, f ∈ l → FldOk f) : F100 l = some (docM' l, ()) := by
 unfold F100 docM'
 refine (iter_go (S := List Int) (fun i s => (l, ((l.length : Nat) : Int), (i : Int), (0, 0, [], ()), s, ())) (fun i s => some ((5, 0, s.map toB ++ (l.drop i).flatMap fldM, ()), ())) l.length (fun i s => s.length ≤ i * 400) ?_ ?_ fuel 0 [] (Nat.zero_le _) (fuel_gt (by omega)) (by simp)).trans rfl
 ·intro i s hi hs rec hrec
  obtain ⟨h1, h2⟩ := hf _ (nth_mem hi)
  have h3 := encI_len (okM_short h2)
  simp only [F100_R3, lt_cast, hi, decide_true, cond_true, gd_pos, get_nth hi, Option.bind_some]
  rw [gd_if (by simp only [lim, List.length_singleton]; omega), gd_if (by simp only [lim, List.length_append, List.length_singleton, List.length_map]; omega),
   putValue_eq _ _ h2 (by simp only [List.length_append, List.length_singleton, List.length_map]; omega)]
  simp only [Option.bind_some, wrap_up i _ hi (by omega : l.length ≤ 9223372036854775807)]
  rw [hrec _ (by simp only [List.length_append, List.length_singleton, List.length_map]; omega), drop_cons_nth hi, List.flatMap_cons]
  simp only [List.map_append, back, fldM, List.map_cons, List.map_nil, List.append_assoc, List.cons_append, List.nil_append, encM]
 ·intro s _ rec
  simp only [F100_R3, lt_cast, Nat.lt_irrefl, decide_false, cond_false, List.drop_length, List.flatMap_nil, List.append_nil]
  rfl
theorem l01Doc_eq (l : List TFld) (hl : l.length ≤ 300) (hf : ∀ f, f ∈ l → FldOk f) : F75 l = some (docM' l, ()) := by
 unfold F75 docM'
 refine (iter_go (S := List UInt8) (fun i s => (l, s, (i : Int), (0, 0, [], ()), ())) (fun i s => some ((5, 0, s ++ (l.drop i).flatMap fldM, ()), ())) l.length (fun i s => s.length ≤ i * 400) ?_ ?_ fuel 0 [] (Nat.zero_le _) (fuel_gt (by omega)) (by simp)).trans rfl
 ·intro i s hi hs rec hrec
  obtain ⟨h1, h2⟩ := hf _ (nth_mem hi)
  have h3 := encI_len (okM_short h2)
  have h4 : (encM (nth l i).2.1).length ≤ 303 := by unfold encM; rw [List.length_map]; exact h3
  simp only [F75_R3, lt_cast, hi, decide_true, cond_true, gd_pos, get_nth hi, Option.bind_some, number1_eq, down1, List.map_cons, List.map_nil, l01Encode_eq _ h2, wrap_up i _ hi (by omega : l.length ≤ 9223372036854775807)]
  rw [gd_if (by simp only [List.length_singleton]; omega), gd_if (by simp only [List.length_append, List.length_singleton]; omega), gd_if (by simp only [List.length_append, List.length_singleton]; omega)]
  rw [hrec _ (by simp only [List.length_append, List.length_singleton]; omega), drop_cons_nth hi, List.flatMap_cons]
  simp only [fldM, List.append_assoc, List.cons_append, List.nil_append]
 ·intro s _ rec
  simp only [F75_R3, lt_cast, Nat.lt_irrefl, decide_false, cond_false, List.drop_length, List.flatMap_nil, List.append_nil]
def dfR {α β : Type} (e0_0 : Int × List α × Unit → Option β) (rec : (α → Option Bool) × Int × Int × List α × Unit → Option β) (x4 : (α → Option Bool) × Int × Int × List α × Unit) : Option β :=
 (cond (decide (x4.2.2.1 < (((List.length x4.2.2.2.1) : Nat) : Int)))
 (let j10 : (α → Option Bool) × Int × Int × List α × Unit → Option β := fun (y11 : (α → Option Bool) × Int × Int × List α × Unit) =>
 (rec (y11.1, y11.2.1, (IntKind.wrap IntKind.i64 (y11.2.2.1 + (1 : Int))), y11.2.2.2.1, ()))
 (gd (decide ((0 : Int) ≤ x4.2.2.1))
 (gd (decide (x4.2.2.1 < (((List.length x4.2.2.2.1) : Nat) : Int)))
 (Option.bind x4.2.2.2.1[(Int.toNat x4.2.2.1)]? fun y7 =>
 (Option.bind (x4.1 y7) fun y8 =>
 (cond (!y8)
 (gd (decide ((0 : Int) ≤ x4.2.1))
 (gd (decide (x4.2.1 < (((List.length x4.2.2.2.1) : Nat) : Int)))
 (Option.bind x4.2.2.2.1[(Int.toNat x4.2.1)]? fun y9 =>
 (j10 (x4.1, (IntKind.wrap IntKind.i64 (x4.2.1 + (1 : Int))), x4.2.2.1, (List.set x4.2.2.2.1 (Int.toNat x4.2.1) y7), ())))))
 (j10 (x4.1, x4.2.1, x4.2.2.1, x4.2.2.2.1, ()))))))))
 (e0_0 (x4.2.1, x4.2.2.2.1, ())))
theorem firstAt_del {α : Type} (p : α → Bool) : ∀ (i : Nat) (l : List α), (firstAt p i l = -1 ∧ (l.filter fun x => !p x) = l) ∨ ∃ j, firstAt p i l = ((i + j : Nat) : Int) ∧ j < l.length ∧ ((l.take (j + 1)).filter fun x => !p x) = l.take j
 | _, [] => .inl ⟨rfl, rfl⟩
 | i, a :: l => by
  unfold firstAt
  cases h : p a with
  | true => exact .inr ⟨0, rfl, by simp, by simp [h]⟩
  | false =>
   rw [cond_false]
   rcases firstAt_del p (i + 1) l with ⟨h1, h2⟩ | ⟨j, h1, h2, h3⟩
   ·exact .inl ⟨h1, by rw [List.filter_cons_of_pos (by simp [h]), h2]⟩
   ·exact .inr ⟨j + 1, by rw [h1]; congr 1; omega, by simp; omega, by rw [List.take_succ_cons, List.filter_cons_of_pos (by simp [h]), h3, List.take_succ_cons]⟩
theorem df_loop {α β : Type} [Inhabited α] (p : α → Bool) (l : List α) (f : α → Option Bool) (hf : ∀ x, x ∈ l → f x = some (p x)) (hl : l.length ≤ 1048576) (E : Int × List α × Unit → Option β) :
  ∀ (m j i k : Nat) (s : List α), j + m = l.length → m < k → s.length = l.length → i ≤ j → s.take i = (l.take j).filter (fun x => !p x) → s.drop j = l.drop j →
   ∃ (i' : Nat) (s' : List α), iter (dfR E) k (f, (i : Int), (j : Int), s, ()) = E ((i' : Int), s', ()) ∧ s'.take i' = l.filter (fun x => !p x) ∧ i' ≤ l.length ∧ s'.length = l.length
 | 0, j, i, k + 1, s, hj, hk, hs, hi, h1, h2 => by
  have : ¬ j < l.length := by omega
  simp only [iter, dfR, lt_cast, hs, this, decide_false, cond_false]
  exact ⟨i, s, rfl, by rw [h1, List.take_of_length_le (by omega)], by omega, hs⟩
 | m + 1, j, i, k + 1, s, hj, hk, hs, hi, h1, h2 => by
  have hjl : j < l.length := by omega
  have hjs : j < s.length := by omega
  have his : i < s.length := by omega
  have e : nth s j = nth l j := by
   have h3 := drop_cons_nth hjs
   rw [h2, drop_cons_nth hjl] at h3
   injection h3 with h3 _
   exact h3.symm
  have e2 : s.drop (j + 1) = l.drop (j + 1) := by
   have h3 := drop_cons_nth hjs
   rw [h2, drop_cons_nth hjl] at h3
   injection h3 with _ h3
   exact h3.symm
  have t1 : (l.take (j + 1)).filter (fun x => !p x) = (l.take j).filter (fun x => !p x) ++ [nth l j].filter (fun x => !p x) := by
   rw [← List.filter_append, List.take_add_one, get_nth' hjl]; rfl
  have w1 := wrap_up j _ hjl (by omega : l.length ≤ 9223372036854775807)
  have w2 := wrap_up i _ (by omega : i < l.length) (by omega : l.length ≤ 9223372036854775807)
  simp only [iter, dfR, lt_cast, hjs, his, decide_true, cond_true, gd_pos, gd_true, get_nth hjs, get_nth his, Option.bind_some, e, hf _ (nth_mem hjl), w1, w2]
  cases hp : p (nth l j) with
  | true =>
   simp only [Bool.not_true, cond_false]
   exact df_loop p l f hf hl E m (j + 1) i k s (by omega) (by omega) hs (by omega) (by rw [h1, t1]; simp [hp]) e2
  | false =>
   simp only [Bool.not_false, cond_true]
   refine df_loop p l f hf hl E m (j + 1) (i + 1) k (s.set (Int.toNat (i : Int)) (nth l j)) (by omega) (by omega) (by rw [List.length_set]; exact hs) (by omega) ?_ ?_
   ·rw [t1, ← h1, Int.toNat_natCast, List.take_set, List.take_add_one, get_nth' his]
    simp [hp, List.set_append, Nat.min_eq_left (Nat.le_of_lt his)]
   ·rw [Int.toNat_natCast, ← e2]
    apply List.ext_getElem?
    intro q
    rw [List.getElem?_drop, List.getElem?_drop, List.getElem?_set_ne (by omega)]
theorem wipe_take (e : Ty) (s : List e.den) (k n : Nat) (h : k ≤ s.length) : (wipe e s k n).take k = s.take k := by
 unfold wipe
 rw [List.append_assoc, List.take_append_of_le_length (by simp [h]), List.take_take, Nat.min_self]
theorem wipe_length (e : Ty) (s : List e.den) (k : Nat) (h : k ≤ s.length) : (wipe e s k s.length).length = s.length := by
 unfold wipe
 simp; omega
theorem delX_no {α : Type} (z : Int) (l : List α) (h : z = -1) (F : Int → Int → Option (List α × Unit)) :
  (cond (((z, ()) : Int × Unit).1 == (-(1 : Int))) (some (l, ())) (F ((z, ()) : Int × Unit).1 (IntKind.wrap IntKind.i64 (((z, ()) : Int × Unit).1 + (1 : Int))))) = some (l, ()) := by subst h; rfl
theorem delX_at {α : Type} (z : Int) (l : List α) {j : Nat} (h : z = (j : Int)) (hj : j < l.length) (hl : l.length ≤ 9223372036854775807) (F : Int → Int → Option (List α × Unit)) :
  (cond (((z, ()) : Int × Unit).1 == (-(1 : Int))) (some (l, ())) (F ((z, ()) : Int × Unit).1 (IntKind.wrap IntKind.i64 (((z, ()) : Int × Unit).1 + (1 : Int))))) = F (j : Int) ((j + 1 : Nat) : Int) := by
 subst h
 have hne : (((j : Nat) : Int) == (-1 : Int)) = false := by rw [beq_eq_false_iff_ne]; omega
 dsimp only
 rw [hne, cond_false, wrap_up j _ hj hl]
def delX (e : Ty) (y : Int × List e.den × Unit) : Option (List e.den × Unit) :=
 (gd (decide ((((List.length y.2.1) : Nat) : Int) ≤ (((List.length y.2.1) : Nat) : Int)))
 (gd (decide ((0 : Int) ≤ y.1))
 (gd (decide (y.1 ≤ (((Int.toNat (((List.length y.2.1) : Nat) : Int)) : Nat) : Int)))
 (gd (decide ((0 : Int) ≤ y.1))
 (gd (decide (y.1 ≤ (((List.length (wipe e y.2.1 (Int.toNat y.1) (Int.toNat (((List.length y.2.1) : Nat) : Int)))) : Nat) : Int)))
 (some ((wipe e y.2.1 (Int.toNat y.1) (Int.toNat (((List.length y.2.1) : Nat) : Int))).take (Int.toNat y.1), ())))))))
theorem del_E (e : Ty) (s : List e.den) (i : Nat) (h : i ≤ s.length) : delX e ((i : Int), s, ()) = some (s.take i, ()) := by
 unfold delX
 dsimp only
 rw [gd_le, gd_pos, gd_if (by rw [Int.toNat_natCast]; omega), gd_pos, Int.toNat_natCast, Int.toNat_natCast, gd_if (by have := wipe_length e s i h; omega), wipe_take e s i _ h]
theorem delete_value (p : TVal → Bool) (l) (f) (hf : ∀ x, x ∈ l → f x = some (p x)) (hl : l.length ≤ 1048576) : F57 l f = some (l.filter (fun x => !p x), ()) := by
 unfold F57
 rw [show F90 l f = ixF l f from rfl, ixF_eq p l f hf (by omega), Option.bind_some]
 rcases firstAt_del p 0 l with ⟨h1, h2⟩ | ⟨j, h1, h2, h3⟩
 ·exact (delX_no _ _ h1 (fun a b => iter _ fuel (f, a, b, l, ()))).trans (congrArg (fun x => some (x, ())) h2.symm)
 ·rw [Nat.zero_add] at h1
  refine (delX_at _ _ h1 h2 (by omega) (fun a b => iter _ fuel (f, a, b, l, ()))).trans ?_
  obtain ⟨i', s', e, g1, g2, g3⟩ := df_loop p l f hf hl (delX (.pair (.int .i64) (.pair (.int .i64) (.pair .str .unit)))) (l.length - (j + 1)) (j + 1) j fuel l (by omega) (fuel_gt (by omega)) rfl (by omega) h3.symm rfl
  have g4 : i' ≤ s'.length := by rw [g3]; exact g2
  exact (e.trans (del_E (.pair (.int .i64) (.pair (.int .i64) (.pair .str .unit))) s' i' g4)).trans (congrArg (fun x => some (x, ())) g1)
theorem delete_field (p : TFld → Bool) (l) (f) (hf : ∀ x, x ∈ l → f x = some (p x)) (hl : l.length ≤ 1048576) : F101 l f = some (l.filter (fun x => !p x), ()) := by
 unfold F101
 rw [show F142 l f = ixF l f from rfl, ixF_eq p l f hf (by omega), Option.bind_some]
 rcases firstAt_del p 0 l with ⟨h1, h2⟩ | ⟨j, h1, h2, h3⟩
 ·exact (delX_no _ _ h1 (fun a b => iter _ fuel (f, a, b, l, ()))).trans (congrArg (fun x => some (x, ())) h2.symm)
 ·rw [Nat.zero_add] at h1
  refine (delX_at _ _ h1 h2 (by omega) (fun a b => iter _ fuel (f, a, b, l, ()))).trans ?_
  obtain ⟨i', s', e, g1, g2, g3⟩ := df_loop p l f hf hl (delX (.pair .str (.pair (.pair (.int .i64) (.pair (.int .i64) (.pair .str .unit))) .unit))) (l.length - (j + 1)) (j + 1) j fuel l (by omega) (fuel_gt (by omega)) rfl (by omega) h3.symm rfl
  have g4 : i' ≤ s'.length := by rw [g3]; exact g2
  exact (e.trans (del_E (.pair .str (.pair (.pair (.int .i64) (.pair (.int .i64) (.pair .str .unit))) .unit)) s' i' g4)).trans (congrArg (fun x => some (x, ())) g1)
theorem hasText_eq (l : List (List UInt8)) (t : List UInt8) (hl : l.length ≤ 1048576) : F103 l t = some (l.any (fun x => t == x), ()) := by
 unfold F103 F143
 have : iter (F143_R2 (fun y6 => (some ((-(1 : Int)), ()))) (fun y7 => (some (y7.1, ())))) fuel (l, t, (((List.length l) : Nat) : Int), (0 : Int), ()) = some (firstAt (fun x => t == x) 0 l, ()) := by
  refine (iter_go (S := Unit) (fun i _ => (l, t, ((l.length : Nat) : Int), (i : Int), ())) (fun i _ => some (firstAt (fun x => t == x) i (l.drop i), ())) l.length (fun _ _ => True) ?_ ?_ fuel 0 () (Nat.zero_le _) (fuel_gt (by omega)) trivial).trans rfl
  ·intro i _ hi _ rec hrec
   simp only [F143_R2, lt_cast, hi, decide_true, cond_true, gd_pos, get_nth hi, Option.bind_some, wrap_up i _ hi (by omega : l.length ≤ 9223372036854775807)]
   rw [drop_cons_nth hi, firstAt, hrec () trivial]
   cases t == nth l i <;> rfl
  ·intro _ _ rec
   simp only [F143_R2, lt_cast, Nat.lt_irrefl, decide_false, cond_false, List.drop_length, firstAt]
 rw [this, Option.bind_some]
 simp only [firstAt_any]
def staysM (keep : List (List UInt8)) (f : TFld) : Bool := (f.1 == [105, 100]) || keep.any fun x => f.1 == x
def keepM (keep : List (List UInt8)) (doc : TVal) : TVal := if keep.length = 0 then doc else docM' ((fieldsL doc).filter (staysM keep))
theorem good_fields {v : TVal} (h : GoodDoc v) : ∃ l, fieldsM v.2.2.1 = some l ∧ fieldsL v = l ∧ l.length ≤ 300 ∧ ∀ f, f ∈ l → FldOk f := by
 obtain ⟨l, h1, _, _, h4, h5⟩ := doc_fields h.1
 refine ⟨l, h1, by unfold fieldsL; rw [h1]; rfl, ?_, fun f hf => ⟨?_, (h5 f hf).1⟩⟩
 ·have := (fieldsM_small _ _ _ (Nat.le_refl _) h1).1; omega
 ·have := (h5 f hf).2
  unfold shortM at this
  rw [Bool.and_eq_true] at this
  have := of_decide_eq_true this.1
  omega
theorem keepFields_eq (doc : TVal) (keep : List (List UInt8)) (h : GoodDoc doc) (hk : keep.length ≤ 1048576) : F62 doc keep = some (keepM keep doc, ()) := by
 unfold F62 keepM
 rw [eq_zero]
 by_cases h0 : keep.length = 0
 ·rw [if_pos h0, decide_eq_true h0]; rfl
 rw [if_neg h0, decide_eq_false h0, cond_false]
 obtain ⟨l, h1, h2, h3, h4⟩ := good_fields h
 rw [implFields_list h.sm h1, Option.bind_some, h2]
 dsimp only
 rw [delete_field (fun f => !staysM keep f) l _ (fun f hf => by
  unfold F102 staysM
  rw [hasText_eq keep f.1 hk]
  cases f.1 == [105, 100] <;> rfl) (by omega), Option.bind_some]
 simp only [Bool.not_not]
 rw [docOf_eq _ (Nat.le_trans (List.length_filter_le _ _) h3) fun f hf => h4 f (List.mem_filter.1 hf).1]
 rfl
theorem l07Keep_eq (doc : TVal) (keep : List (List UInt8)) (h : GoodDoc doc) (hk : keep.length ≤ 1048576) : F47 doc keep = some (keepM keep doc, ()) := by
 unfold F47 keepM
 rw [eq_zero]
 by_cases h0 : keep.length = 0
 ·rw [if_pos h0, decide_eq_true h0]; rfl
 rw [if_neg h0, decide_eq_false h0, cond_false]
 obtain ⟨l, h1, h2, h3, h4⟩ := good_fields h
 rw [l01Fields_eq _ h.sm, h1, Option.bind_some, h2]
 dsimp only
 refine (iter_go (S := List TFld) (fun i out => (keep, l, (i : Int), (0, 0, [], ()), out, ())) (fun i out => some (docM' (out ++ (l.drop i).filter (staysM keep)), ())) l.length (fun i out => out.length ≤ i ∧ ∀ f, f ∈ out → f ∈ l) ?_ ?_ fuel 0 [] (Nat.zero_le _) (fuel_gt (by omega)) ⟨Nat.le_refl _, fun f h => by cases h⟩).trans rfl
 ·intro i out hi ho rec hrec
  simp only [F47_R6, lt_cast, hi, decide_true, cond_true, gd_pos, get_nth hi, Option.bind_some, wrap_up i _ hi (by omega : l.length ≤ 9223372036854775807)]
  refine (iter_go (S := Bool) (fun k s => (keep, l, (i : Int), s, (k : Int), (0, 0, [], ()), out, ())) (fun k s => some (docM' (out ++ (if s || (keep.drop k).any (fun x => (nth l i).1 == x) then [nth l i] else []) ++ (l.drop (i + 1)).filter (staysM keep)), ())) keep.length (fun _ _ => True) ?_ ?_ fuel 0 _ (Nat.zero_le _) (fuel_gt (by omega)) trivial).trans ?_
  ·intro k s hk' _ rec' hrec'
   simp only [F47_R10, lt_cast, hk', decide_true, cond_true, gd_pos, get_nth hi, get_nth hk', Option.bind_some, wrap_up k _ hk' (by omega : keep.length ≤ 9223372036854775807)]
   rw [drop_cons_nth hk', List.any_cons]
   cases s with
   | true => rw [cond_true, hrec' true trivial]; simp only [Bool.true_or]
   | false =>
    rw [cond_false, hrec' _ trivial]
    have : (nth keep k == (nth l i).1) = ((nth l i).1 == nth keep k) := by rw [Bool.eq_iff_iff, beq_iff_eq, beq_iff_eq]; exact ⟨Eq.symm, Eq.symm⟩
    rw [this]; simp only [Bool.false_or]
  ·intro s _ rec'
   simp only [F47_R10, lt_cast, Nat.lt_irrefl, decide_false, cond_false, List.drop_length, List.any_nil, Bool.or_false, gd_pos, get_nth hi, Option.bind_some, wrap_up i _ hi (by omega : l.length ≤ 9223372036854775807)]
   cases s with
   | true =>
    rw [cond_true, gd_if (by have := ho.1; simp only [lim, List.length_singleton]; omega), hrec _ ⟨by have := ho.1; simp only [List.length_append, List.length_singleton]; omega, fun f hf => (List.mem_append.1 hf).elim (ho.2 f) fun hf => by rw [List.mem_singleton.1 hf]; exact nth_mem hi⟩, if_pos rfl]
   | false =>
    rw [cond_false, hrec _ ⟨by have := ho.1; omega, ho.2⟩, if_neg (by decide), List.append_nil]
  ·rw [drop_cons_nth hi, List.drop_zero]
   unfold staysM
   by_cases hs : ((nth l i).1 == [105, 100] || keep.any fun x => (nth l i).1 == x) = true
   ·rw [if_pos hs, List.filter_cons_of_pos (by exact hs)]; simp only [List.append_assoc, List.singleton_append]
   ·rw [if_neg hs, List.filter_cons_of_neg (by exact hs), List.append_nil]
 ·intro out ho rec
  simp only [F47_R6, lt_cast, Nat.lt_irrefl, decide_false, cond_false, List.drop_length, List.filter_nil, List.append_nil]
  rw [l01Doc_eq out (by have := ho.1; omega) fun f hf => h4 f (ho.2 f hf)]
  rfl
end Go.V

/- FindDocs: what a query finds. No condition. -/
namespace Go.V
set_option linter.unusedVariables false
set_option linter.unusedSimpArgs false
set_option maxRecDepth 100000
def atMost {α : Type} (n : Int) (l : List α) : List α := if n = 0 then l else l.take n.toNat
def findM (q : TQuery) (docs : List TVal) : List TVal := (atMost q.2.2.2.1 ((sortM q.2.1 (docs.filter (matchM q.1))).drop q.2.2.1.toNat)).map (keepM q.2.2.2.2.1)
theorem queryM_facts {q : TQuery} (h : queryM q = true) : filterM q.1 = true ∧ q.2.1.length ≤ 2 ∧ partsM q.2.1 = true ∧ 0 ≤ q.2.2.1 ∧ q.2.2.1 ≤ 100 ∧ 0 ≤ q.2.2.2.1 ∧ q.2.2.2.1 ≤ 100 ∧ q.2.2.2.2.1.length ≤ 4 := by
 unfold queryM inR at h
 simp only [Bool.and_eq_true, decide_eq_true_eq] at h
 obtain ⟨h1, h2, h3, ⟨h4, h5⟩, ⟨h6, h7⟩, h8, _⟩ := h
 exact ⟨h1, by omega, h3, h4, h5, h6, h7, by omega⟩
theorem partsM_small {l : List TPart} (h : partsM l = true) (hl : l.length ≤ 2) : LS LPart 1048576 l :=
 ⟨by omega, fun p hp => pathM_len (List.all_eq_true.1 h p hp)⟩
theorem Docs.filter {l : List TVal} (h : Docs l) (p : TVal → Bool) : Docs (l.filter p) := h.sub (fun x hx => (List.mem_filter.1 hx).1) (List.length_filter_le _ _)
theorem map_step {α β : Type} {l : List α} {x : α} {r : List α} (f : α → β) (out : List β) (h : l = x :: r) : out ++ l.map f = (out ++ [f x]) ++ r.map f := by
 subst h; simp
theorem specFinish_eq (q : TQuery) (docs : List TVal) (hq : queryM q = true) (hd : Docs docs) : F21 q docs = some (findM q docs, ()) := by
 obtain ⟨h1, h2, h3, h4, h5, h6, h7, h8⟩ := queryM_facts hq
 have hs := partsM_small h3 h2
 have hF := hd.filter (matchM q.1)
 have hS := sortM_docs q.2.1 hF
 have hlen := hd.len
 unfold F21 findM
 refine (iter_go (S := List TVal) (fun i out => (docs, (i : Int), q, out, ())) (fun i out => some ((atMost q.2.2.2.1 ((sortM q.2.1 (out ++ (docs.drop i).filter (matchM q.1))).drop q.2.2.1.toNat)).map (keepM q.2.2.2.2.1), ())) docs.length (fun i out => out = (docs.take i).filter (matchM q.1)) ?_ ?_ fuel 0 [] (Nat.zero_le _) (fuel_gt (by omega)) rfl).trans rfl
 ·intro i out hi ho rec hrec
  have hg := hd.good _ (nth_mem hi)
  have hol : out.length ≤ docs.length := by rw [ho]; exact Nat.le_trans (List.length_filter_le _ _) (by simp; omega)
  simp only [F21_R3, lt_cast, hi, decide_true, cond_true, gd_pos, get_nth hi, Option.bind_some, specMatches_eq q.1 _ h1 hg.ok, wrap_up i _ hi (by omega : docs.length ≤ 9223372036854775807)]
  have ht : (docs.take (i + 1)).filter (matchM q.1) = (docs.take i).filter (matchM q.1) ++ [nth docs i].filter (matchM q.1) := by
   rw [← List.filter_append, List.take_add_one, get_nth' hi]; rfl
  rw [drop_cons_nth hi]
  cases hm : matchM q.1 (nth docs i) with
  | true =>
   rw [cond_true, gd_if (by simp only [lim, List.length_singleton]; omega), hrec _ (by rw [ht, ho]; simp [hm])]
   rw [List.filter_cons_of_pos hm]
   simp only [List.append_assoc, List.singleton_append]
  | false =>
   rw [cond_false, hrec _ (by rw [ht, ho]; simp [hm])]
   rw [List.filter_cons_of_neg (by simp [hm])]
 ·intro out ho rec
  rw [List.take_length] at ho
  subst ho
  simp only [F21_R3, lt_cast, Nat.lt_irrefl, decide_false, cond_false, List.drop_length, List.filter_nil, List.append_nil, specSort_eq q.2.1 _ hF hs, Option.bind_some]
  generalize sortM q.2.1 (docs.filter (matchM q.1)) = S at hS ⊢
  have hSl := hS.len
  have key : ∀ (k i : Nat) (out : List TVal), S.length - i < k → out.length ≤ i → iter (F21_R10 (fun y20 => (some (y20.1, ())))) k ((i : Int), q, S, out, ()) = some (out ++ (if q.2.2.2.1 = 0 then S.drop i else (S.drop i).take (q.2.2.2.1.toNat - out.length)).map (keepM q.2.2.2.2.1), ()) := by
   intro k
   induction k with
   | zero => intro i out h; omega
   | succ k ih =>
    intro i out hk ho
    simp only [iter, F21_R10, lt_cast]
    by_cases hi : i < S.length
    ·simp only [hi, decide_true, cond_true, gd_pos, gd_true, get_nth hi, Option.bind_some, l07Keep_eq _ _ (hS.good _ (nth_mem hi)) (show q.2.2.2.2.1.length ≤ 1048576 by omega), wrap_up i _ hi (by omega : S.length ≤ 9223372036854775807)]
     rw [gd_if (by simp only [lim, List.length_singleton]; omega), ih (i + 1) _ (by omega) (by simp only [List.length_append, List.length_singleton]; omega)]
     by_cases h0 : q.2.2.2.1 = 0
     ·rw [h0]
      simp only [beq_self_eq_true, cond_true, if_true]
      rw [map_step _ out (drop_cons_nth hi)]
     ·rw [show (q.2.2.2.1 == 0) = false by rw [beq_eq_false_iff_ne]; exact h0, cond_false, if_neg h0, if_neg h0]
      by_cases hlt : (out.length : Int) < q.2.2.2.1
      ·rw [decide_eq_true hlt, cond_true]
       have e : (S.drop i).take (q.2.2.2.1.toNat - out.length) = nth S i :: (S.drop (i + 1)).take (q.2.2.2.1.toNat - (out ++ [keepM q.2.2.2.2.1 (nth S i)]).length) := by
        rw [drop_cons_nth hi]
        obtain ⟨m, hm⟩ : ∃ m, q.2.2.2.1.toNat - out.length = m + 1 := ⟨q.2.2.2.1.toNat - out.length - 1, by omega⟩
        rw [hm, List.take_succ_cons, List.length_append, List.length_singleton, show q.2.2.2.1.toNat - (out.length + 1) = m by omega]
       rw [map_step _ out e]
      ·rw [decide_eq_false hlt, cond_false, show q.2.2.2.1.toNat - out.length = 0 by omega, List.take_zero, List.map_nil, List.append_nil]
    ·simp only [hi, decide_false, cond_false]
     rw [List.drop_eq_nil_of_le (by omega), List.take_nil, ite_self, List.map_nil, List.append_nil]
  have h4' : q.2.2.1 = ((q.2.2.1.toNat : Nat) : Int) := by omega
  rw [h4', key fuel _ [] (fuel_gt (by omega)) (Nat.zero_le _), Int.toNat_natCast]
  unfold atMost
  simp only [List.nil_append, List.length_nil, Nat.sub_zero]
theorem min_cast (n : Nat) (z : Int) (h : 0 ≤ z) : (cond (decide (((n : Nat) : Int) < z)) ((n : Nat) : Int) z) = ((Nat.min n z.toNat : Nat) : Int) := by
 by_cases hlt : ((n : Nat) : Int) < z
 ·rw [decide_eq_true hlt, cond_true]
  have : Nat.min n z.toNat = n := Nat.min_eq_left (by omega)
  rw [this]
 ·rw [decide_eq_false hlt, cond_false]
  have : Nat.min n z.toNat = z.toNat := Nat.min_eq_right (by omega)
  rw [this]; omega
theorem drop_min {α : Type} (l : List α) (k : Nat) : l.drop (Nat.min l.length k) = l.drop k := by
 by_cases h : k ≤ l.length
 ·rw [show Nat.min l.length k = k from Nat.min_eq_right h]
 ·rw [show Nat.min l.length k = l.length from Nat.min_eq_left (by omega), List.drop_length, List.drop_eq_nil_of_le (by omega)]
theorem take_min {α : Type} (l : List α) (k : Nat) : l.take (Nat.min l.length k) = l.take k := by
 by_cases h : k ≤ l.length
 ·rw [show Nat.min l.length k = k from Nat.min_eq_right h]
 ·rw [show Nat.min l.length k = l.length from Nat.min_eq_left (by omega), List.take_length, List.take_of_length_le (by omega)]
theorem find_eq (q : TQuery) (docs : List TVal) (hq : queryM q = true) (hd : Docs docs) : F28 q docs = some (findM q docs, ()) := by
 obtain ⟨h1, h2, h3, h4, h5, h6, h7, h8⟩ := queryM_facts hq
 have hs := partsM_small h3 h2
 have hF := hd.filter (matchM q.1)
 have hS := sortM_docs q.2.1 hF
 have hlen := hd.len
 unfold F28 findM
 rw [cloneVal_eq docs hlen, Option.bind_some, delete_value (fun v => !matchM q.1 v) docs _ (fun v hv => by
  unfold F59
  rw [implMatches_eq q.1 v h1 (hd.good v hv).ok]; rfl) hlen, Option.bind_some]
 simp only [Bool.not_not]
 rw [implSort_eq q.2.1 _ hF hs, Option.bind_some]
 generalize sortM q.2.1 (docs.filter (matchM q.1)) = S at hS ⊢
 have hSl := hS.len
 simp only [Int.toNat_natCast, List.take_length, min_cast _ _ h4]
 rw [gd_le, gd_pos, gd_if (by have : Nat.min S.length q.2.2.1.toNat ≤ S.length := Nat.min_le_left _ _; exact Int.ofNat_le.2 this), drop_min]
 have hD : ∀ x, x ∈ S.drop q.2.2.1.toNat → GoodDoc x := fun x hx => hS.good x (List.mem_of_mem_drop hx)
 have hDl : (S.drop q.2.2.1.toNat).length ≤ 1048576 := by simp; omega
 generalize S.drop q.2.2.1.toNat = D at hD hDl ⊢
 have key : ∀ (L : List TVal), L.length ≤ 1048576 → (∀ x, x ∈ L → GoodDoc x) → iter (F28_R8 (fun y12 => (some (y12.1, ())))) fuel (L, (((List.length L) : Nat) : Int), (0 : Int), q, [], ()) = some (L.map (keepM q.2.2.2.2.1), ()) := by
  intro L hL hg
  refine (iter_go (S := List TVal) (fun i out => (L, ((L.length : Nat) : Int), (i : Int), q, out, ())) (fun i out => some (out ++ (L.drop i).map (keepM q.2.2.2.2.1), ())) L.length (fun i out => out.length = i) ?_ ?_ fuel 0 [] (Nat.zero_le _) (fuel_gt (by omega)) rfl).trans rfl
  ·intro i out hi ho rec hrec
   simp only [F28_R8, lt_cast, hi, decide_true, cond_true, gd_pos, get_nth hi, Option.bind_some, keepFields_eq _ _ (hg _ (nth_mem hi)) (show q.2.2.2.2.1.length ≤ 1048576 by omega), wrap_up i _ hi (by omega : L.length ≤ 9223372036854775807)]
   rw [gd_if (by simp only [lim, List.length_singleton]; omega), hrec _ (by simp only [List.length_append, List.length_singleton]; omega), map_step _ out (drop_cons_nth hi)]
  ·intro out ho rec
   simp only [F28_R8, lt_cast, Nat.lt_irrefl, decide_false, cond_false, List.drop_length, List.map_nil, List.append_nil]
 unfold atMost
 by_cases h0 : q.2.2.2.1 = 0
 ·rw [if_pos h0, decide_eq_false (by omega), cond_false]
  exact key D hDl hD
 ·rw [if_neg h0, decide_eq_true (show q.2.2.2.1 > 0 by omega), cond_true]
  simp only [min_cast _ _ h6]
  rw [gd_pos, gd_if (by have : Nat.min D.length q.2.2.2.1.toNat ≤ D.length := Nat.min_le_left _ _; exact Int.ofNat_le.2 this), Int.toNat_natCast, take_min]
  exact key (D.take q.2.2.2.1.toNat) (by simp; omega) fun x hx => hD x (List.mem_of_mem_take hx)
theorem findM_len (q : TQuery) {docs : List TVal} (hd : Docs docs) : (findM q docs).length ≤ docs.length := by
 have hF := hd.filter (matchM q.1)
 have h1 := (sortM_ok q.2.1 _ hF).1.length_eq
 have h2 := List.length_filter_le (matchM q.1) docs
 unfold findM atMost
 rw [List.length_map]
 split
 ·rw [List.length_drop]; omega
 ·rw [List.length_take, List.length_drop]; omega
theorem findDocs_eq (q : TQuery) (docs : List TVal) (hq : LQuery 1048576 q) (hd : LS LVal 1048576 docs) : ∃ l c, F6 q docs = some (l, c, ()) ∧ F9 q docs = some (l, c, ()) ∧ l.length ≤ 1048576 := by
 unfold F6 F9
 rw [specQueryOK_eq q hq, implQueryOK_eq q hq, l06Docs_eq docs hd, areDocs_eq docs hd]
 simp only [Option.bind_some]
 cases decide (((docs.length : Nat) : Int) > 4096)
 case true => exact ⟨_, _, rfl, rfl, by simp⟩
 cases h1 : queryM q
 case false => exact ⟨_, _, rfl, rfl, by simp⟩
 cases h2 : docsOkM docs
 case false => exact ⟨_, _, rfl, rfl, by simp⟩
 obtain ⟨hD, h3⟩ := docsOkM_docs h2
 rw [specFinish_eq q docs h1 hD, find_eq q docs h1 hD]
 have h4 := findM_len q hD
 exact ⟨findM q docs, 0, rfl, rfl, by omega⟩
end Go.V

/- FindDocs answers as the reference does. No condition. -/
namespace Go.V
set_option linter.unusedVariables false
set_option linter.unusedSimpArgs false
set_option maxRecDepth 100000
noncomputable def markV (k : Int) : TVal := (k, k + 1, mtx (k + 1 + 1), ())
noncomputable def upV (n : Nat) : List TVal := (List.range n).map fun j : Nat => markV (1 + 3 * (j : Int))
theorem upV_length (n : Nat) : (upV n).length = n := by simp [upV]
theorem upV_succ (n : Nat) : upV (n + 1) = upV n ++ [markV (1 + 3 * (n : Int))] := by simp [upV, List.range_succ]
theorem upV_get {n i : Nat} (h : i < n) : (upV n)[Int.toNat (i : Int)]? = some (markV (1 + 3 * (i : Int))) := by simp [upV, h]
theorem markValueS_eq (l : List TVal) (h : l.length ≤ 1048576) : F13 l 1 = some (1 + 3 * (l.length : Int), upV l.length, ()) := by
 unfold F13
 refine Eq.trans (iter_go (S := Int × List TVal) (fun i x => (x.1, (i : Int), x.2, ())) (fun i x => some (1 + 3 * (l.length : Int), upV l.length, ())) l.length (fun i x => x.1 = 1 + 3 * (i : Int) ∧ x.2 = upV i ++ l.drop i) ?_ ?_ fuel 0 (1, l) (Nat.zero_le _) (fuel_gt (by omega)) ⟨by simp, by simp [upV]⟩) ?_
 ·rintro i ⟨k, x⟩ hi ⟨hk, hx⟩ rec hrec
  dsimp only at hk hx
  have hlen : x.length = l.length := by rw [hx, List.length_append, upV_length, List.length_drop]; omega
  have hi' : i < x.length := by rw [hlen]; exact hi
  have hxl : x.length ≤ 1048576 := by omega
  simp (disch := omega) only [F13_R2, lt_cast, hi', decide_true, cond_true, gd_pos, List.length_set, List.set_set, get_nth hi', get_setI hi', Option.bind_some, wrapK, mtx_ok, wrap_up i _ hi' (by omega : x.length ≤ 9223372036854775807)]
  refine hrec (_, _) ⟨by dsimp only; omega, ?_⟩
  dsimp only
  have e1 : Int.toNat (i : Int) = (upV i).length := by rw [upV_length]; simp
  rw [upV_succ, e1, hx, drop_cons_nth hi, List.set_append_right _ _ (Nat.le_refl _), hk]
  simp [markV]
 ·rintro ⟨k, x⟩ ⟨hk, hx⟩ rec
  dsimp only at hk hx
  have hlen : x.length = l.length := by rw [hx, List.length_append, upV_length, List.length_drop]; omega
  simp only [F13_R2, hlen, lt_cast, Nat.lt_irrefl, decide_false, cond_false]
  rw [hk, hx]
  simp
 ·rfl
theorem heldValueS_eq (n : Nat) (h : n ≤ 1048576) : F14 (upV n) 1 = some (1 + 3 * (n : Int), ()) := by
 unfold F14
 refine Eq.trans (iter_go (S := Int) (fun i k => (upV n, k, (i : Int), ())) (fun i k => some (1 + 3 * (n : Int), ())) n (fun i k => k = 1 + 3 * (i : Int)) ?_ ?_ fuel 0 1 (Nat.zero_le _) (fuel_gt (by omega)) (by simp)) ?_
 ·rintro i k hi hk rec hrec
  have hi' : i < (upV n).length := by rw [upV_length]; exact hi
  have hg := upV_get hi
  rw [← hk] at hg
  simp (disch := omega) only [F14_R2, lt_cast, hi', decide_true, cond_true, gd_pos, hg, Option.bind_some, markV, bne_self_eq_false, beq_self_eq_true, Bool.not_true, cond_false, wrapK, mtx_ok, wrap_up i _ hi (by omega : n ≤ 9223372036854775807)]
  exact hrec _ (by omega)
 ·rintro k hk rec
  simp only [F14_R2, upV_length, lt_cast, Nat.lt_irrefl, decide_false, cond_false]
  rw [hk]
 ·rfl
theorem eqValueS_self (l : List TVal) (h : l.length ≤ 1048576) : F10 l l = some (true, ()) := by
 unfold F10
 simp only [bne_self_eq_false, cond_false]
 refine Eq.trans (iter_all (fun i => (l, l, (i : Int), ())) (fun _ => true) (some (true, ())) (some (false, ())) l.length 0 fuel ?_ ?_ (fuel_gt (by omega))) ?_
 ·intro i _ hi rec
  have hi' : i < l.length := by omega
  have hv : F29 (nth l i) (nth l i) = some (true, ()) := by
   unfold F29
   simp only [bne_self_eq_false, beq_self_eq_true, Bool.not_true, cond_false]
  simp only [F10_R4, lt_cast, hi', decide_true, cond_true, gd_pos, get_nth hi', Option.bind_some, hv, Bool.not_true, cond_false, wrap_up i _ hi' (by omega : l.length ≤ 9223372036854775807)]
 ·intro rec
  have : ¬ (0 + l.length < l.length) := by omega
  simp only [F10_R4, lt_cast, this, decide_false, cond_false]
 ·rw [(allF_iff (fun _ => true) l.length 0).2 fun _ _ _ => rfl]; rfl
abbrev yQuery : Ty := .pair yFilter (.pair (.slice yPart) (.pair (.int .i64) (.pair (.int .i64) (.pair (.slice .str) (.pair .str .unit)))))
theorem wfQuery (x : TQuery) (h : Wf yQuery x) : LQuery 9223372036854775807 x :=
 ⟨wfFilter _ h.1, wfS (e := yPart) (α := TPart) rfl wfPart h.2.1, wfS (e := .str) (α := List UInt8) rfl (fun _ h => wfStr h) h.2.2.2.2.1, wfStr h.2.2.2.2.2.1⟩
theorem fnExactFindDocs_law (q : TQuery) (docs : List TVal) (hq : LQuery 9223372036854775807 q) (hd : LS LVal 9223372036854775807 docs) : F3 q docs = some (true, ()) := by
 unfold F3
 obtain ⟨r, hr, hra, hL⟩ := szQuery_ok q 1048576 hq (by decide) (by decide)
 rw [hr, Option.bind_some]
 by_cases h0 : r < 0
 ·simp only [h0, decide_true, cond_true]
 obtain ⟨hq', hc⟩ := hL (by omega)
 obtain ⟨r2, hr2, hra2, hL2⟩ := szValueS_ok docs r hd (by omega) (by omega)
 simp only [h0, decide_false, cond_false]
 rw [hr2, Option.bind_some]
 by_cases h2 : r2 < 0
 ·simp only [h2, decide_true, cond_true]
 obtain ⟨hd', hc2⟩ := hL2 (by omega)
 obtain ⟨k, hk, hk0, hk1⟩ := markQuery_ok q hq' (by omega)
 obtain ⟨k2, l2, hk2, hk20, _⟩ := markValueS_ok docs k hd' hk0 (by omega)
 have hk3 : ¬ k2 < 0 := by omega
 obtain ⟨l, c, e1, e2, hlen⟩ := findDocs_eq q docs hq' hd'
 have hq2 : ¬ (1 + 3 * (l.length : Int) < 0) := by omega
 simp only [h2, decide_false, cond_false, toQuery_ok q hq', toValueS_ok docs hd', Option.bind_some, e1, e2, eqValueS_self l hlen, bne_self_eq_false, Bool.not_true, eqQuery_ok q hq', eqValueS_ok docs hd', hk, hk2, hk3, markValueS_eq l hlen, heldValueS_eq _ hlen, hq2]
end Go.V
