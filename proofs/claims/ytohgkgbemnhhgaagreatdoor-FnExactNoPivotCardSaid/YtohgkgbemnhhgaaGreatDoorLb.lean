/- What the functions compute, in plain words, and the laws. No condition. -/
import Derived.Test.YtohgkgbemnhhgaaGreatDoorLa
/- What a path comes to: the program and the reference. No condition. -/
namespace Go.V
set_option linter.unusedVariables false
set_option linter.unusedSimpArgs false
set_option maxRecDepth 100000

theorem next_room : ∀ {t : List UInt8} {v : TVal} {r : List UInt8}, nextM t = some (v, r) → v.2.2.1.length + 1 + r.length ≤ t.length
  | [], v, r, h => by cases h
  | k :: t, v, r, h => by
    simp only [nextM] at h
    repeat' split at h
    all_goals first | (cases h; done) | (injection h with h; injection h with h1 h2; subst h1; subst h2; simp only [List.length_take, List.length_drop, List.length_cons, List.length_nil]; omega)

theorem items_room : ∀ (n : Nat) (t : List UInt8) (l : List TVal), t.length ≤ n → itemsM t = some l → (l.map fun x => x.2.2.1.length + 1).sum ≤ t.length
  | n, [], l, _, h => by
    rw [itemsM_nil] at h
    injection h with h
    subst h
    simp
  | 0, b :: t, l, h0, h => by simp at h0
  | n + 1, b :: t, l, h0, h => by
    rw [itemsM_step (by simp)] at h
    cases hn : nextM (b :: t) with
    | none => rw [hn] at h; cases h
    | some x =>
      rw [hn, Option.bind_some] at h
      cases hi : itemsM x.2 with
      | none => rw [hi] at h; cases h
      | some y =>
        rw [hi, Option.map_some] at h
        injection h with h
        subst h
        have hroom := next_room (v := x.1) (r := x.2) hn
        have ih := items_room n x.2 y (by simp only [List.length_cons] at hroom h0; omega) hi
        simp only [List.map_cons, List.sum_cons]
        omega

theorem sum_len (l : List TVal) : l.length ≤ (l.map fun x => x.2.2.1.length + 1).sum := by
  induction l with
  | nil => simp
  | cons x l ih => simp only [List.map_cons, List.sum_cons, List.length_cons]; omega

theorem field_room {t : List UInt8} {f : TFld} {r : List UInt8} (h : fieldM t = some (f, r)) : f.2.1.2.2.1.length + 1 + r.length ≤ t.length := by
  cases t with
  | nil => cases h
  | cons n t =>
    simp only [fieldM] at h
    split at h
    · cases h
    · cases hn : nextM (t.drop n.toNat) with
      | none => rw [hn] at h; cases h
      | some x =>
        rw [hn, Option.bind_some] at h
        injection h with h
        injection h with h1 h2
        subst h1; subst h2
        have := next_room (v := x.1) (r := x.2) hn
        simp only [List.length_drop, List.length_cons] at this ⊢
        omega

theorem fields_room : ∀ (n : Nat) (t : List UInt8) (l : List TFld), t.length ≤ n → fieldsM t = some l → ∀ f, f ∈ l → f.2.1.2.2.1.length + 1 ≤ t.length
  | n, [], l, _, h, f, hf => by
    rw [show fieldsM [] = some [] from rfl] at h
    injection h with h
    subst h
    cases hf
  | 0, b :: t, l, h0, h, f, hf => by simp at h0
  | n + 1, b :: t, l, h0, h, f, hf => by
    rw [fieldsM_step (by simp)] at h
    cases hn : fieldM (b :: t) with
    | none => rw [hn] at h; cases h
    | some x =>
      rw [hn, Option.bind_some] at h
      cases hi : fieldsM x.2 with
      | none => rw [hi] at h; cases h
      | some y =>
        rw [hi, Option.map_some] at h
        injection h with h
        subst h
        have hroom := field_room (f := x.1) (r := x.2) hn
        rcases List.mem_cons.1 hf with rfl | hf
        · omega
        · have ih := fields_room n x.2 y (by simp only [List.length_cons] at hroom h0; omega) hi f hf
          omega

theorem fieldOf_mem {l : List TFld} {n : List UInt8} (h : (fieldOf l n).2.1 = true) : ∃ f, f ∈ l ∧ fieldOf l n = (f.2.1, true, ()) := by
  unfold fieldOf at h ⊢
  cases hf : l.find? (fun f => f.1 == n) with
  | none => rw [hf] at h; cases h
  | some f => exact ⟨f, List.mem_of_find?_eq_some hf, rfl⟩

/-- What the rest of the names comes to in a document's field. -/
def oneM (n : List UInt8) (ns : List (List UInt8)) (x : TVal) : List TVal := if (fieldOf (fieldsL x) n).2.1 then getM ns (fieldOf (fieldsL x) n).1 else []

theorem getM_cons (n : List UInt8) (ns : List (List UInt8)) (v : TVal) : getM (n :: ns) v = if v.1 = 5 then oneM n ns v else if v.1 = 4 then (itemsL v).flatMap fun x => if x.1 = 5 then oneM n ns x else [] else [] := rfl

theorem one_len {ns : List (List UInt8)} (ih : ∀ (d : Nat) (v : TVal), okM d v = true → (getM ns v).length ≤ v.2.2.1.length + 1) (n : List UInt8) {d : Nat} {x : TVal} (h : okM d x = true) (hk : x.1 = 5) : (oneM n ns x).length ≤ x.2.2.1.length := by
  unfold oneM
  obtain ⟨e, l, _, i1, i2, _, _, i3⟩ := okM_fields h hk
  rw [i2]
  by_cases c : (fieldOf l n).2.1 = true
  · rw [if_pos c]
    obtain ⟨f, hf, e1⟩ := fieldOf_mem c
    rw [e1]
    have := ih e f.2.1 (i3 f hf)
    have := fields_room _ _ _ (Nat.le_refl _) i1 f hf
    show (getM ns f.2.1).length ≤ _
    omega
  · rw [if_neg c]; simp

theorem flat_len (f : TVal → List TVal) : ∀ (l : List TVal), (∀ x, x ∈ l → (f x).length ≤ x.2.2.1.length) → (l.flatMap f).length ≤ (l.map fun x => x.2.2.1.length + 1).sum
  | [], _ => by simp
  | x :: l, h => by
    have h1 := h x (.head _)
    have h2 := flat_len f l fun y hy => h y (.tail _ hy)
    simp only [List.flatMap_cons, List.length_append, List.map_cons, List.sum_cons]
    omega

theorem getM_len : ∀ (names : List (List UInt8)) (d : Nat) (v : TVal), okM d v = true → (getM names v).length ≤ v.2.2.1.length + 1
  | [], d, v, h => by
    show (v :: (if v.1 = 4 then itemsL v else [])).length ≤ _
    by_cases hk : v.1 = 4
    · rw [if_pos hk]
      obtain ⟨e, l, _, i1, i2, _⟩ := okM_items h hk
      rw [i2]
      have := items_room _ _ _ (Nat.le_refl _) i1
      have := sum_len l
      simp only [List.length_cons]
      omega
    · rw [if_neg hk]; simp
  | n :: ns, d, v, h => by
    rw [getM_cons]
    by_cases h5 : v.1 = 5
    · rw [if_pos h5]
      have := one_len (getM_len ns) n h h5
      omega
    · rw [if_neg h5]
      by_cases h4 : v.1 = 4
      · rw [if_pos h4]
        obtain ⟨e, l, _, i1, i2, _, _, i3⟩ := okM_items h h4
        rw [i2]
        have := items_room _ _ _ (Nat.le_refl _) i1
        have := flat_len (fun x => if x.1 = 5 then oneM n ns x else []) l fun x hx => by
          by_cases hx5 : x.1 = 5
          · rw [if_pos hx5]; exact one_len (getM_len ns) n (i3 x hx) hx5
          · rw [if_neg hx5]; simp
        omega
      · rw [if_neg h4]; simp

/-- The fields of a right document rise. -/
theorem okM_rise {d : Nat} {v : TVal} (h : okM d v = true) (hk : v.1 = 5) {l : List TFld} (hl : fieldsM v.2.2.1 = some l) : RiseF l ∧ fieldsI v.2.2.1.length v.2.2.1 = (l, true) := by
  constructor
  · cases d with
    | zero =>
      rw [show okM 0 v = okB (fun _ => false) false v from rfl] at h
      unfold okB at h
      rw [if_neg (by omega), if_neg (by omega), if_neg (by omega), if_neg (by omega), if_neg (by omega), if_pos hk] at h
      simp at h
    | succ e =>
      rw [show okM (e + 1) v = okB (okM e) true v from rfl] at h
      unfold okB at h
      rw [if_neg (by omega), if_neg (by omega), if_neg (by omega), if_neg (by omega), if_neg (by omega), if_pos hk, hl] at h
      simp only [Bool.and_eq_true, decide_eq_true_eq] at h
      intro i h0 hi
      have := (allF_iff _ _ _).1 h.2.2.2 i (Nat.zero_le _) (by omega)
      simp only [Bool.and_eq_true, Bool.or_eq_true, decide_eq_true_eq] at this
      rcases this.2.1 with h' | h'
      · omega
      · exact h'
  · rcases fieldsI_ok v.2.2.1.length v.2.2.1 (Nat.le_refl _) with ⟨l', h1, h2⟩ | ⟨h1, _⟩
    · rw [hl] at h1
      injection h1 with h1
      subst h1
      exact h2
    · rw [hl] at h1; cases h1

theorem fieldOf_eta (l : List TFld) (n : List UInt8) : (fieldOf l n).2.1 = false → fieldOf l n = ((0, 0, [], ()), false, ()) := by
  unfold fieldOf
  cases l.find? (fun f => f.1 == n) with
  | none => intro _; rfl
  | some f => intro h; cases h

theorem lim_ok {a b : Nat} (h : a + b ≤ 1048576) : decide (a + b ≤ lim) = true := by
  rw [decide_eq_true_eq]
  exact Nat.le_trans h (by decide)

theorem take_all_drop {α : Type} (a : List α) : List.drop (Int.toNat (1 : Int)) (List.take (Int.toNat (((List.length a) : Nat) : Int)) a) = a.drop 1 := by
  rw [Int.toNat_natCast, List.take_length]; rfl

/-- The reference's, once. -/
theorem specGetB (g : TVal → List (List UInt8) → Option (List TVal × Unit)) (d : Nat) (v : TVal) (names : List (List UInt8)) (hv : okM d v = true)
    (hg : ∀ e, d = e + 1 → ∀ x ns, okM e x = true → g x ns = some (getM ns x, ())) : B193 g v names = some (getM names v, ()) := by
  unfold B193
  have lv := okM_short hv
  cases names with
  | nil =>
    rw [show ((((List.length ([] : List (List UInt8))) : Nat) : Int) == (0 : Int)) = true from rfl, cond_true]
    show cond _ _ _ = some (v :: (if v.1 = 4 then itemsL v else []), ())
    by_cases hk : v.1 = 4
    · rw [show (v.1 == (4 : Int)) = true by simpa using hk, cond_true, if_pos hk]
      obtain ⟨e, l, _, i1, i2, _⟩ := okM_items hv hk
      have := (itemsM_small _ _ _ (Nat.le_refl _) i1).1
      rw [l01Items_eq _ (by omega), i1, Option.bind_some, i2]
      dsimp only
      rw [lim_ok (by simp only [List.length_cons, List.length_nil]; omega), gd_true]
      rfl
    · rw [show (v.1 == (4 : Int)) = false by simpa using hk, cond_false, if_neg hk]
  | cons n ns =>
    rw [show ((((List.length (n :: ns)) : Nat) : Int) == (0 : Int)) = false by rw [beq_eq_false_iff_ne]; simp only [List.length_cons]; omega, cond_false, getM_cons]
    by_cases h5 : v.1 = 5
    · rw [show (v.1 == (5 : Int)) = true by simpa using h5, cond_true, if_pos h5]
      obtain ⟨e, l, hd, i1, i2, _, _, i3⟩ := okM_fields hv h5
      rw [show (n :: ns)[Int.toNat (0 : Int)]? = some n from rfl, Option.bind_some, l02Field_eq _ _ (okM_LVal hv), i1, Option.bind_some]
      dsimp only
      unfold oneM
      rw [i2]
      cases hc : (fieldOf l n).2.1 with
      | false => rfl
      | true =>
        obtain ⟨f, hf, e1⟩ := fieldOf_mem hc
        rw [Bool.not_true, cond_false, gd_le, gd_if (by simp only [List.length_cons]; omega), take_all_drop]
        rw [e1]
        show Option.bind (g f.2.1 ns) _ = _
        rw [hg e hd _ _ (i3 f hf)]
        rfl
    · rw [show (v.1 == (5 : Int)) = false by simpa using h5, cond_false, if_neg h5]
      by_cases h4 : v.1 = 4
      · rw [show (v.1 == (4 : Int)) = true by simpa using h4, cond_true, if_pos h4]
        obtain ⟨e, l, hd, i1, i2, _, _, i3⟩ := okM_items hv h4
        have hl := (itemsM_small _ _ _ (Nat.le_refl _) i1).1
        have hr := items_room _ _ _ (Nat.le_refl _) i1
        have hf := flat_len (fun x => if x.1 = 5 then oneM n ns x else []) l fun x hx => by
          by_cases hx5 : x.1 = 5
          · rw [if_pos hx5]; exact one_len (getM_len ns) n (i3 x hx) hx5
          · rw [if_neg hx5]; simp
        rw [l01Items_eq _ (by omega), i1, Option.bind_some, i2]
        refine Eq.trans (iter_go (S := List TVal) (fun i out => (n :: ns, l, (i : Int), out, ())) (fun i out => some (out ++ (l.drop i).flatMap fun x => if x.1 = 5 then oneM n ns x else [], ())) l.length
          (fun i out => out.length + ((l.drop i).flatMap fun x => if x.1 = 5 then oneM n ns x else []).length ≤ 1048576) ?_ ?_ fuel 0 [] (Nat.zero_le _) (fuel_gt (by omega)) (by rw [List.drop_zero]; simp only [List.length_nil]; omega)) (by simp)
        · intro i out hi hI rec hrec
          rw [drop_cons_nth hi, List.flatMap_cons, List.length_append] at hI
          simp only [B193_R17, lt_cast, hi, decide_true, cond_true, gd_pos, get_nth hi, Option.bind_some, wrap_up i _ hi (by omega : l.length ≤ 9223372036854775807)]
          rw [drop_cons_nth hi, List.flatMap_cons]
          by_cases hx : (nth l i).1 = 5
          · rw [show ((nth l i).1 == (5 : Int)) = true by simpa using hx, cond_true, hg e hd _ _ (i3 _ (nth_mem hi)), Option.bind_some, getM_cons, if_pos hx]
            rw [if_pos hx] at hI ⊢
            dsimp only
            rw [lim_ok (by omega), gd_true, hrec _ (by rw [List.length_append]; omega), List.append_assoc]
          · rw [show ((nth l i).1 == (5 : Int)) = false by simpa using hx, cond_false, if_neg hx, List.nil_append]
            rw [if_neg hx] at hI
            exact hrec _ (by simpa using hI)
        · intro out _ rec
          simp only [B193_R17, lt_cast, Nat.lt_irrefl, decide_false, cond_false, List.drop_length, List.flatMap_nil, List.append_nil]
      · rw [show (v.1 == (4 : Int)) = false by simpa using h4, cond_false, if_neg h4]

theorem specGet_all : ∀ (d k : Nat) (v : TVal) (names : List (List UInt8)), d < k → okM d v = true → S193 k v names = some (getM names v, ())
  | 0, k + 1, v, names, _, hv => specGetB _ 0 v names hv (fun e he => by omega)
  | d + 1, k + 1, v, names, hk, hv => specGetB _ (d + 1) v names hv (fun e he x ns hx => by
      have : e = d := by omega
      subst this
      exact specGet_all e k x ns (by omega) hx)

/-- The program's, once. -/
theorem implGetB (g : TVal → List (List UInt8) → Option (List TVal × Unit)) (d : Nat) (v : TVal) (names : List (List UInt8)) (hv : okM d v = true)
    (hg : ∀ e, d = e + 1 → ∀ x ns, okM e x = true → g x ns = some (getM ns x, ())) : B179 g v names = some (getM names v, ()) := by
  unfold B179
  have lv := okM_short hv
  cases names with
  | nil =>
    rw [show ((((List.length ([] : List (List UInt8))) : Nat) : Int) == (0 : Int)) = true from rfl, cond_true]
    show cond _ _ _ = some (v :: (if v.1 = 4 then itemsL v else []), ())
    by_cases hk : v.1 = 4
    · rw [show (v.1 == (4 : Int)) = true by simpa using hk, cond_true, if_pos hk]
      obtain ⟨e, l, _, i1, i2, _⟩ := okM_items hv hk
      have := (itemsM_small _ _ _ (Nat.le_refl _) i1).1
      rw [implItems_list (okM_LVal hv) i1, Option.bind_some, i2]
      dsimp only
      rw [lim_ok (by simp only [List.nil_append, List.length_cons, List.length_nil]; omega), gd_true]
      rfl
    · rw [show (v.1 == (4 : Int)) = false by simpa using hk, cond_false, if_neg hk]
      rfl
  | cons n ns =>
    rw [show ((((List.length (n :: ns)) : Nat) : Int) == (0 : Int)) = false by rw [beq_eq_false_iff_ne]; simp only [List.length_cons]; omega, cond_false, getM_cons]
    dsimp only
    by_cases h5 : v.1 = 5
    · rw [show (v.1 == (5 : Int)) = true by simpa using h5, cond_true, if_pos h5]
      obtain ⟨e, l, hd, i1, i2, _, _, i3⟩ := okM_fields hv h5
      obtain ⟨q1, q2⟩ := okM_rise hv h5 i1
      rw [show (n :: ns)[Int.toNat (0 : Int)]? = some n from rfl, Option.bind_some, field_doc _ _ (okM_LVal hv) q2 q1, Option.bind_some]
      unfold oneM
      rw [i2]
      cases hc : (fieldOf l n).2.1 with
      | false => rfl
      | true =>
        obtain ⟨f, hf, e1⟩ := fieldOf_mem hc
        rw [cond_true, gd_le, gd_if (by simp only [List.length_cons]; omega), take_all_drop]
        rw [e1]
        show Option.bind (g f.2.1 ns) _ = _
        rw [hg e hd _ _ (i3 f hf)]
        rfl
    · rw [show (v.1 == (5 : Int)) = false by simpa using h5, cond_false, if_neg h5]
      by_cases h4 : v.1 = 4
      · rw [show (v.1 == (4 : Int)) = true by simpa using h4, cond_true, if_pos h4]
        obtain ⟨e, l, hd, i1, i2, _, _, i3⟩ := okM_items hv h4
        have hl := (itemsM_small _ _ _ (Nat.le_refl _) i1).1
        have hr := items_room _ _ _ (Nat.le_refl _) i1
        have hf := flat_len (fun x => if x.1 = 5 then oneM n ns x else []) l fun x hx => by
          by_cases hx5 : x.1 = 5
          · rw [if_pos hx5]; exact one_len (getM_len ns) n (i3 x hx) hx5
          · rw [if_neg hx5]; simp
        rw [implItems_list (okM_LVal hv) i1, Option.bind_some, i2]
        refine Eq.trans (iter_go (S := List TVal) (fun i out => (n :: ns, l, ((l.length : Nat) : Int), (i : Int), out, ())) (fun i out => some (out ++ (l.drop i).flatMap fun x => if x.1 = 5 then oneM n ns x else [], ())) l.length
          (fun i out => out.length + ((l.drop i).flatMap fun x => if x.1 = 5 then oneM n ns x else []).length ≤ 1048576) ?_ ?_ fuel 0 [] (Nat.zero_le _) (fuel_gt (by omega)) (by rw [List.drop_zero]; simp only [List.length_nil]; omega)) (by simp)
        · intro i out hi hI rec hrec
          rw [drop_cons_nth hi, List.flatMap_cons, List.length_append] at hI
          simp only [B179_R16, lt_cast, hi, decide_true, cond_true, gd_pos, get_nth hi, Option.bind_some, wrap_up i _ hi (by omega : l.length ≤ 9223372036854775807)]
          rw [drop_cons_nth hi, List.flatMap_cons]
          by_cases hx : (nth l i).1 = 5
          · rw [show ((nth l i).1 == (5 : Int)) = true by simpa using hx, cond_true, hg e hd _ _ (i3 _ (nth_mem hi)), Option.bind_some, getM_cons, if_pos hx]
            rw [if_pos hx] at hI ⊢
            dsimp only
            rw [lim_ok (by omega), gd_true, hrec _ (by rw [List.length_append]; omega), List.append_assoc]
          · rw [show ((nth l i).1 == (5 : Int)) = false by simpa using hx, cond_false, if_neg hx, List.nil_append]
            rw [if_neg hx] at hI
            exact hrec _ (by simpa using hI)
        · intro out _ rec
          simp only [B179_R16, lt_cast, Nat.lt_irrefl, decide_false, cond_false, List.drop_length, List.flatMap_nil, List.append_nil]
      · rw [show (v.1 == (4 : Int)) = false by simpa using h4, cond_false, if_neg h4]

theorem implGet_all : ∀ (d k : Nat) (v : TVal) (names : List (List UInt8)), d < k → okM d v = true → S179 k v names = some (getM names v, ())
  | 0, k + 1, v, names, _, hv => implGetB _ 0 v names hv (fun e he => by omega)
  | d + 1, k + 1, v, names, hk, hv => implGetB _ (d + 1) v names hv (fun e he x ns hx => by
      have : e = d := by omega
      subst this
      exact implGet_all e k x ns (by omega) hx)

end Go.V

/- Terms, filters, reads that hang on changes: the program and the reference. No condition. -/
namespace Go.V
set_option linter.unusedVariables false
set_option linter.unusedSimpArgs false
set_option maxRecDepth 100000

theorem okB_mono {g g' : TVal → Bool} (h : ∀ x, g x = true → g' x = true) {m : Bool} {v : TVal} (hv : okB g m v = true) : okB g' true v = true := by
  unfold okB at hv ⊢
  by_cases c0 : v.1 = 0
  · rw [if_pos c0] at hv ⊢; exact hv
  rw [if_neg c0] at hv ⊢
  by_cases c1 : v.1 = 1
  · rw [if_pos c1] at hv ⊢; exact hv
  rw [if_neg c1] at hv ⊢
  by_cases c2 : v.1 = 2
  · rw [if_pos c2] at hv ⊢; exact hv
  rw [if_neg c2] at hv ⊢
  by_cases c3 : v.1 = 3
  · rw [if_pos c3] at hv ⊢; exact hv
  rw [if_neg c3] at hv ⊢
  by_cases c4 : v.1 = 4
  · rw [if_pos c4] at hv ⊢
    simp only [Bool.and_eq_true] at hv ⊢
    obtain ⟨h1, h2, _, h3⟩ := hv
    refine ⟨h1, h2, trivial, ?_⟩
    cases hi : itemsM v.2.2.1 with
    | none => rw [hi] at h3; cases h3
    | some l =>
      rw [hi] at h3
      dsimp only at h3 ⊢
      rw [List.all_eq_true] at h3 ⊢
      exact fun x hx => h x (h3 x hx)
  rw [if_neg c4] at hv ⊢
  by_cases c5 : v.1 = 5
  · rw [if_pos c5] at hv ⊢
    simp only [Bool.and_eq_true] at hv ⊢
    obtain ⟨h1, h2, _, h3⟩ := hv
    refine ⟨h1, h2, trivial, ?_⟩
    cases hi : fieldsM v.2.2.1 with
    | none => rw [hi] at h3; cases h3
    | some l =>
      rw [hi] at h3
      dsimp only at h3 ⊢
      rw [allF_iff] at h3 ⊢
      intro i h0 hi'
      have := h3 i h0 hi'
      simp only [Bool.and_eq_true] at this ⊢
      exact ⟨this.1, this.2.1, h _ this.2.2⟩
  rw [if_neg c5] at hv
  cases hv

theorem okM_up : ∀ (d : Nat) (v : TVal), okM d v = true → okM (d + 1) v = true
  | 0, v, h => okB_mono (fun x hx => by cases hx) h
  | d + 1, v, h => okB_mono (okM_up d) h

theorem okM_le {d e : Nat} (h : d ≤ e) {v : TVal} (hv : okM d v = true) : okM e v = true := by
  induction e with
  | zero => have : d = 0 := by omega
            subst this; exact hv
  | succ e ih =>
    by_cases c : d = e + 1
    · subst c; exact hv
    · exact okM_up e v (ih (by omega))

theorem getM_ok : ∀ (names : List (List UInt8)) (d : Nat) (v x : TVal), okM d v = true → x ∈ getM names v → okM d x = true
  | [], d, v, x, h, hx => by
    have hx : x ∈ (v :: (if v.1 = 4 then itemsL v else [])) := hx
    rcases List.mem_cons.1 hx with rfl | hx
    · exact h
    · by_cases hk : v.1 = 4
      · rw [if_pos hk] at hx
        obtain ⟨e, l, hd, i1, i2, _, _, i3⟩ := okM_items h hk
        rw [i2] at hx
        exact okM_le (by omega) (i3 x hx)
      · rw [if_neg hk] at hx; cases hx
  | n :: ns, d, v, x, h, hx => by
    have one : ∀ {d : Nat} {y : TVal}, okM d y = true → y.1 = 5 → x ∈ oneM n ns y → okM d x = true := by
      intro d y hy h5 hx
      unfold oneM at hx
      obtain ⟨e, l, hd, i1, i2, _, _, i3⟩ := okM_fields hy h5
      rw [i2] at hx
      by_cases c : (fieldOf l n).2.1 = true
      · rw [if_pos c] at hx
        obtain ⟨f, hf, e1⟩ := fieldOf_mem c
        rw [e1] at hx
        exact okM_le (by omega) (getM_ok ns e f.2.1 x (i3 f hf) hx)
      · rw [if_neg c] at hx; cases hx
    rw [getM_cons] at hx
    by_cases h5 : v.1 = 5
    · rw [if_pos h5] at hx; exact one h h5 hx
    · rw [if_neg h5] at hx
      by_cases h4 : v.1 = 4
      · rw [if_pos h4] at hx
        obtain ⟨e, l, hd, i1, i2, _, _, i3⟩ := okM_items h h4
        rw [i2, List.mem_flatMap] at hx
        obtain ⟨y, hy, hx⟩ := hx
        by_cases hy5 : y.1 = 5
        · rw [if_pos hy5] at hx; exact okM_le (by omega) (one (i3 y hy) hy5 hx)
        · rw [if_neg hy5] at hx; cases hx
      · rw [if_neg h4] at hx; cases hx

theorem nullV_ok : okM 5 nullV = true := by decide

theorem eqV (a b : TVal) : ((decide (a.1 = b.1)) && ((decide (a.2.1 = b.2.1)) && ((a.2.2.1 == b.2.2.1) && true))) = decide (a = b) := by
  obtain ⟨a1, a2, a3, _⟩ := a
  obtain ⟨b1, b2, b3, _⟩ := b
  rw [Bool.eq_iff_iff]
  simp

theorem order_eq_dec (a b : TVal) (ha : okM 5 a = true) (hb : okM 5 b = true) : decide (a = b) = decide (ordM 5 a b = 0) := by
  rw [decide_eq_decide]
  exact (ordM_zero 5 a b ha hb).symm

/-- A value in a list, by a loop. -/
theorem l03In_eq (l : List TVal) (v : TVal) (hl : l.length ≤ 1048576) : iter (F166_R18 (fun y10 => (some (false, ()))) (fun y11 => (some (y11.1, ())))) fuel (l, (0 : Int), v, ()) = some (l.any (fun x => x == v), ()) := by
  refine Eq.trans (iter_go (S := Unit) (fun i _ => (l, (i : Int), v, ())) (fun i _ => some ((l.drop i).any (fun x => x == v), ())) l.length (fun _ _ => True) ?_ ?_ fuel 0 () (Nat.zero_le _) (fuel_gt (by omega)) trivial) rfl
  · intro i _ hi _ rec hrec
    simp only [F166_R18, lt_cast, hi, decide_true, cond_true, gd_pos, get_nth hi, Option.bind_some, wrap_up i _ hi (by omega : l.length ≤ 9223372036854775807), eqV]
    rw [drop_cons_nth hi, List.any_cons, hrec () trivial]
    by_cases h : nth l i = v
    · rw [decide_eq_true h, cond_true, show (nth l i == v) = true by simpa using h]; rfl
    · rw [decide_eq_false h, cond_false, show (nth l i == v) = false by simpa using h]; rfl
  · intro _ _ rec
    simp only [F166_R18, lt_cast, Nat.lt_irrefl, decide_false, cond_false, List.drop_length, List.any_nil]

theorem contains_eq (l : List TVal) (v : TVal) (hl : l.length ≤ 1048576) : F184 l v = some (l.any (fun x => x == v), ()) := by
  have key : F211 l v = some (firstAt (fun x => x == v) 0 l, ()) := by
    unfold F211
    refine Eq.trans (iter_go (S := Unit) (fun i _ => (l, ((l.length : Nat) : Int), (i : Int), v, ())) (fun i _ => some (firstAt (fun x => x == v) i (l.drop i), ())) l.length (fun _ _ => True) ?_ ?_ fuel 0 () (Nat.zero_le _) (fuel_gt (by omega)) trivial) rfl
    · intro i _ hi _ rec hrec
      simp only [F211_R2, lt_cast, hi, decide_true, cond_true, gd_pos, get_nth hi, Option.bind_some, wrap_up i _ hi (by omega : l.length ≤ 9223372036854775807), eqV]
      rw [drop_cons_nth hi, firstAt, hrec () trivial]
      by_cases h : nth l i = v
      · rw [decide_eq_true h.symm, cond_true, show (nth l i == v) = true by simpa using h, cond_true]
      · rw [decide_eq_false (fun e => h e.symm), cond_false, show (nth l i == v) = false by simpa using h, cond_false]
    · intro _ _ rec
      simp only [F211_R2, lt_cast, Nat.lt_irrefl, decide_false, cond_false, List.drop_length]
      rfl
  unfold F184
  rw [key, Option.bind_some, ← firstAt_any (fun x => x == v) 0 l]

theorem termM_op {t : TTerm} (h : termM t = true) : valueM t.2.2.1 = true ∧ pathM t.2.1 = true ∧ 1 ≤ t.1 ∧ t.1 ≤ 10 ∧ (t.1 = 7 → t.2.2.1.1 = 4) := by
  unfold termM at h
  simp only [Bool.and_eq_true] at h
  obtain ⟨h1, h2, h3⟩ := h
  refine ⟨h2, h1, ?_⟩
  by_cases c7 : t.1 = 7
  · rw [if_pos c7] at h3; simp at h3; exact ⟨by omega, by omega, fun _ => h3⟩
  rw [if_neg c7] at h3
  by_cases c8 : t.1 = 8
  · exact ⟨by omega, by omega, fun e => absurd e c7⟩
  rw [if_neg c8] at h3
  by_cases c9 : t.1 = 9
  · exact ⟨by omega, by omega, fun e => absurd e c7⟩
  rw [if_neg c9] at h3
  by_cases c10 : t.1 = 10
  · exact ⟨by omega, by omega, fun e => absurd e c7⟩
  rw [if_neg c10] at h3
  unfold inR at h3
  simp only [Bool.and_eq_true, decide_eq_true_eq] at h3
  exact ⟨by omega, by omega, fun e => absurd e c7⟩

theorem cond_and (a b : Bool) : cond a (some (b, ())) (some (false, ())) = some (a && b, ()) := by cases a <;> rfl

/-- One value and one term, by the operation. -/
theorem specHolds_eq (t : TTerm) (v : TVal) (ht : termM t = true) (h8 : t.1 ≠ 8) (hv : okM 5 v = true) : F166 t v = some (holdsM t v, ()) := by
  obtain ⟨h1, _, h3, h4, h7⟩ := termM_op ht
  unfold F166 holdsM
  have lt := okM_short h1
  have lv := okM_short hv
  rw [specOrder_eq v t.2.2.1 hv h1, Option.bind_some]
  have e12 := order_eq_dec v t.2.2.1 hv h1
  dsimp only
  have hin : t.1 = 7 → (Option.bind (F195 t.2.2.1.2.2.1) fun y3 => (iter (F166_R18 (fun y10 => (some (false, ()))) (fun y11 => (some (y11.1, ())))) fuel (y3.1, (0 : Int), v, ()))) = some ((itemsL t.2.2.1).any (fun x => x == v), ()) := by
    intro e
    obtain ⟨e', l, _, i1, i2, _⟩ := okM_items h1 (h7 e)
    have := (itemsM_small _ _ _ (Nat.le_refl _) i1).1
    rw [l01Items_eq _ (by omega), i1, Option.bind_some, i2]
    exact l03In_eq l v (by omega)
  have hsize : (Option.bind (F195 v.2.2.1) fun y12 => (cond (v.1 == (4 : Int)) (some (((((List.length y12.1) : Nat) : Int) == t.2.2.1.2.1), ())) (some (false, ())))) = some ((v.1 == 4) && ((((itemsL v).length : Nat) : Int) == t.2.2.1.2.1), ()) := by
    rw [l01Items_eq _ (by omega), Option.bind_some]
    by_cases k : v.1 = 4
    · obtain ⟨e', l, _, i1, i2, _⟩ := okM_items hv k
      rw [i1, i2, show (v.1 == (4 : Int)) = true by simpa using k]
      rfl
    · rw [show (v.1 == (4 : Int)) = false by simpa using k]; rfl
  have cases : t.1 = 1 ∨ t.1 = 2 ∨ t.1 = 3 ∨ t.1 = 4 ∨ t.1 = 5 ∨ t.1 = 6 ∨ t.1 = 7 ∨ t.1 = 9 ∨ t.1 = 10 := by omega
  rcases cases with c | c | c | c | c | c | c | c | c <;> simp only [c, show ((1 : Int) == 1) = true from rfl, show ((2 : Int) == 1) = false from rfl, show ((2 : Int) == 2) = true from rfl, show ((3 : Int) == 1) = false from rfl, show ((3 : Int) == 2) = false from rfl, show ((3 : Int) == 3) = true from rfl,
    show ((4 : Int) == 1) = false from rfl, show ((4 : Int) == 2) = false from rfl, show ((4 : Int) == 3) = false from rfl, show ((4 : Int) == 4) = true from rfl,
    show ((5 : Int) == 1) = false from rfl, show ((5 : Int) == 2) = false from rfl, show ((5 : Int) == 3) = false from rfl, show ((5 : Int) == 4) = false from rfl, show ((5 : Int) == 5) = true from rfl,
    show ((6 : Int) == 1) = false from rfl, show ((6 : Int) == 2) = false from rfl, show ((6 : Int) == 3) = false from rfl, show ((6 : Int) == 4) = false from rfl, show ((6 : Int) == 5) = false from rfl, show ((6 : Int) == 6) = true from rfl,
    show ((7 : Int) == 1) = false from rfl, show ((7 : Int) == 2) = false from rfl, show ((7 : Int) == 3) = false from rfl, show ((7 : Int) == 4) = false from rfl, show ((7 : Int) == 5) = false from rfl, show ((7 : Int) == 6) = false from rfl, show ((7 : Int) == 7) = true from rfl,
    show ((9 : Int) == 1) = false from rfl, show ((9 : Int) == 2) = false from rfl, show ((9 : Int) == 3) = false from rfl, show ((9 : Int) == 4) = false from rfl, show ((9 : Int) == 5) = false from rfl, show ((9 : Int) == 6) = false from rfl, show ((9 : Int) == 7) = false from rfl, show ((9 : Int) == 9) = true from rfl,
    show ((10 : Int) == 1) = false from rfl, show ((10 : Int) == 2) = false from rfl, show ((10 : Int) == 3) = false from rfl, show ((10 : Int) == 4) = false from rfl, show ((10 : Int) == 5) = false from rfl, show ((10 : Int) == 6) = false from rfl, show ((10 : Int) == 7) = false from rfl, show ((10 : Int) == 9) = false from rfl, show ((10 : Int) == 10) = true from rfl,
    cond_true, cond_false, eqV, e12, cond_and, hsize, true_or, or_true, if_true]
  all_goals first | rfl | (rw [hin c]; simp; done) | (simp; done) | (simp only [cond_and] at hsize; simp; exact hsize)

theorem implHolds_eq (t : TTerm) (v : TVal) (ht : termM t = true) (h8 : t.1 ≠ 8) (hv : okM 5 v = true) : F153 t v = some (holdsM t v, ()) := by
  obtain ⟨h1, _, h3, h4, h7⟩ := termM_op ht
  unfold F153 holdsM
  have lt := okM_short h1
  have lv := okM_short hv
  rw [implOrder_eq v t.2.2.1 hv h1, Option.bind_some]
  dsimp only
  have hin : t.1 = 7 → (Option.bind (F183 t.2.2.1) fun y3 => (Option.bind (F184 y3.1 v) fun y4 => (some (y4.1, ())))) = some ((itemsL t.2.2.1).any (fun x => x == v), ()) := by
    intro e
    obtain ⟨e', l, _, i1, i2, _⟩ := okM_items h1 (h7 e)
    have := (itemsM_small _ _ _ (Nat.le_refl _) i1).1
    rw [implItems_list (okM_LVal h1) i1, Option.bind_some, i2, contains_eq l v (by omega)]
    rfl
  have hsize : (Option.bind (F183 v) fun y9 => (cond (v.1 == (4 : Int)) (some (((((List.length y9.1) : Nat) : Int) == t.2.2.1.2.1), ())) (some (false, ())))) = some ((v.1 == 4) && ((((itemsL v).length : Nat) : Int) == t.2.2.1.2.1), ()) := by
    by_cases k : v.1 = 4
    · obtain ⟨e', l, _, i1, i2, _⟩ := okM_items hv k
      rw [implItems_list (okM_LVal hv) i1, Option.bind_some, i2, show (v.1 == (4 : Int)) = true by simpa using k]
      rfl
    · rw [implItems_eq v (okM_LVal hv), Option.bind_some, show (v.1 == (4 : Int)) = false by simpa using k]; rfl
  have ez : ∀ z : Int, (z == (0 : Int)) = decide (z = 0) := fun z => by rw [Bool.eq_iff_iff]; simp
  have cases : t.1 = 1 ∨ t.1 = 2 ∨ t.1 = 3 ∨ t.1 = 4 ∨ t.1 = 5 ∨ t.1 = 6 ∨ t.1 = 7 ∨ t.1 = 9 ∨ t.1 = 10 := by omega
  rcases cases with c | c | c | c | c | c | c | c | c <;> simp only [c, show ((1 : Int) == 1) = true from rfl, show ((2 : Int) == 1) = false from rfl, show ((2 : Int) == 2) = true from rfl, show ((3 : Int) == 1) = false from rfl, show ((3 : Int) == 2) = false from rfl, show ((3 : Int) == 3) = true from rfl,
    show ((4 : Int) == 1) = false from rfl, show ((4 : Int) == 2) = false from rfl, show ((4 : Int) == 3) = false from rfl, show ((4 : Int) == 4) = true from rfl,
    show ((5 : Int) == 1) = false from rfl, show ((5 : Int) == 2) = false from rfl, show ((5 : Int) == 3) = false from rfl, show ((5 : Int) == 4) = false from rfl, show ((5 : Int) == 5) = true from rfl,
    show ((6 : Int) == 1) = false from rfl, show ((6 : Int) == 2) = false from rfl, show ((6 : Int) == 3) = false from rfl, show ((6 : Int) == 4) = false from rfl, show ((6 : Int) == 5) = false from rfl, show ((6 : Int) == 6) = true from rfl,
    show ((7 : Int) == 1) = false from rfl, show ((7 : Int) == 2) = false from rfl, show ((7 : Int) == 3) = false from rfl, show ((7 : Int) == 4) = false from rfl, show ((7 : Int) == 5) = false from rfl, show ((7 : Int) == 6) = false from rfl, show ((7 : Int) == 7) = true from rfl,
    show ((9 : Int) == 1) = false from rfl, show ((9 : Int) == 2) = false from rfl, show ((9 : Int) == 3) = false from rfl, show ((9 : Int) == 4) = false from rfl, show ((9 : Int) == 5) = false from rfl, show ((9 : Int) == 6) = false from rfl, show ((9 : Int) == 7) = false from rfl, show ((9 : Int) == 9) = true from rfl,
    show ((10 : Int) == 1) = false from rfl, show ((10 : Int) == 2) = false from rfl, show ((10 : Int) == 3) = false from rfl, show ((10 : Int) == 4) = false from rfl, show ((10 : Int) == 5) = false from rfl, show ((10 : Int) == 6) = false from rfl, show ((10 : Int) == 7) = false from rfl, show ((10 : Int) == 9) = false from rfl, show ((10 : Int) == 10) = true from rfl,
    cond_true, cond_false, ez, cond_and, hsize, true_or, or_true, if_true]
  all_goals first | rfl | (rw [hin c]; simp; done) | (simp; done) | (simp only [cond_and] at hsize; simp; exact hsize)

end Go.V

/- Filters, reads that hang on changes; NoPivot. No condition. -/
namespace Go.V
set_option linter.unusedVariables false
set_option linter.unusedSimpArgs false
set_option maxRecDepth 100000

theorem doc_ok {v : TVal} (h : isDocM v = true) : okM 5 v = true := by
  unfold isDocM valueM at h
  rw [Bool.and_eq_true] at h
  exact h.2

theorem l02Values_eq (v : TVal) (path : List UInt8) (hv : okM 5 v = true) (hp : path.length ≤ 1048576) : F165 v path = some (pathsM v path, ()) := by
  unfold F165
  rw [show F162 path (46 : Int) = some (cutM 46 path, ()) from l00Cut_eq path 46 hp, Option.bind_some]
  have : F193 v (cutM 46 path) = some (getM (cutM 46 path) v, ()) := specGet_all 5 fuel v _ (fuel_gt (by decide)) hv
  rw [this]
  rfl

theorem getPath_eq (v : TVal) (path : List UInt8) (hv : okM 5 v = true) (hp : path.length ≤ 1048576) : F151 v path = some (pathsM v path, ()) := by
  unfold F151
  rw [split_eq path 46 hp, Option.bind_some]
  have : F179 v (cutM 46 path) = some (getM (cutM 46 path) v, ()) := implGet_all 5 fuel v _ (fuel_gt (by decide)) hv
  rw [this]
  rfl

theorem pathsM_ok {v : TVal} {path : List UInt8} (hv : okM 5 v = true) : (pathsM v path).length ≤ 1048576 ∧ ∀ x, x ∈ pathsM v path → okM 5 x = true := by
  have := getM_len (cutM 46 path) 5 v hv
  have := okM_short hv
  exact ⟨by unfold pathsM; omega, fun x hx => getM_ok _ 5 v x hv hx⟩

theorem pathM_len {t : List UInt8} (h : pathM t = true) : t.length ≤ 1048576 := by
  unfold pathM at h
  simp only [Bool.and_eq_true, decide_eq_true_eq] at h
  omega

/-- The values that a term is asked of. -/
def valsM (t : TTerm) (doc : TVal) : List TVal := if (pathsM doc t.2.1).length = 0 ∧ t.1 ≠ 9 then [nullV] else pathsM doc t.2.1

theorem valsM_ok {t : TTerm} {v : TVal} (hv : okM 5 v = true) : (valsM t v).length ≤ 1048576 ∧ ∀ x, x ∈ valsM t v → okM 5 x = true := by
  unfold valsM
  by_cases c : (pathsM v t.2.1).length = 0 ∧ t.1 ≠ 9
  · rw [if_pos c]
    exact ⟨by simp, fun x hx => by rw [List.mem_singleton] at hx; rw [hx]; exact nullV_ok⟩
  · rw [if_neg c]; exact pathsM_ok hv

theorem doesM_eq (t : TTerm) (v : TVal) : doesM t v = if t.1 = 8 then (decide (0 < (pathsM v t.2.1).length)) == (t.2.2.1.2.1 == 1) else ((valsM t v).any (holdsM t)) != (t.1 == 2) := rfl

theorem l03Some_eq (t : TTerm) (l : List TVal) (ht : termM t = true) (h8 : t.1 ≠ 8) (hl : l.length ≤ 1048576) (ho : ∀ x, x ∈ l → okM 5 x = true) :
    iter (F130_R8 (fun y11 => (some ((!(y11.1 == (y11.2.1.1 == (2 : Int)))), ())))) fuel (l, false, (0 : Int), t, ()) = some ((l.any (holdsM t)) != (t.1 == 2), ()) := by
  refine Eq.trans (iter_go (S := Bool) (fun i b => (l, b, (i : Int), t, ())) (fun i b => some ((b || (l.drop i).any (holdsM t)) != (t.1 == 2), ())) l.length (fun _ _ => True) ?_ ?_ fuel 0 false (Nat.zero_le _) (fuel_gt (by omega)) trivial) rfl
  · intro i b hi _ rec hrec
    simp only [F130_R8, lt_cast, hi, decide_true, cond_true, gd_pos, get_nth hi, Option.bind_some, wrap_up i _ hi (by omega : l.length ≤ 9223372036854775807), specHolds_eq t (nth l i) ht h8 (ho _ (nth_mem hi))]
    rw [hrec true trivial, hrec (holdsM t (nth l i)) trivial, drop_cons_nth hi, List.any_cons]
    cases b <;> simp
  · intro b _ rec
    simp only [F130_R8, lt_cast, Nat.lt_irrefl, decide_false, cond_false, List.drop_length, List.any_nil, Bool.or_false]
    rfl

theorem specTerm_eq (t : TTerm) (v : TVal) (ht : termM t = true) (hv : okM 5 v = true) : F130 t v = some (doesM t v, ()) := by
  unfold F130
  obtain ⟨h1, h2, _⟩ := termM_op ht
  rw [l02Values_eq v _ hv (pathM_len h2), Option.bind_some, doesM_eq]
  dsimp only
  by_cases h8 : t.1 = 8
  · rw [show (t.1 == (8 : Int)) = true by simpa using h8, cond_true, if_pos h8, gt_zero]
  · rw [show (t.1 == (8 : Int)) = false by simpa using h8, cond_false, if_neg h8]
    obtain ⟨q1, q2⟩ := valsM_ok (t := t) hv
    have hs := l03Some_eq t (valsM t v) ht h8 q1 q2
    rw [eq_zero]
    by_cases c : (pathsM v t.2.1).length = 0
    · rw [decide_eq_true c, cond_true]
      by_cases c9 : t.1 = 9
      · rw [show (t.1 != (9 : Int)) = false by simpa using c9, cond_false, ← hs]
        unfold valsM
        rw [if_neg (fun h => h.2 c9)]
      · rw [show (t.1 != (9 : Int)) = true by simpa using c9, cond_true, ← hs]
        unfold valsM
        rw [if_pos ⟨c, c9⟩]
        rfl
    · rw [decide_eq_false c, cond_false, ← hs]
      unfold valsM
      rw [if_neg (fun h => c h.1)]

theorem implTerm_eq (t : TTerm) (v : TVal) (ht : termM t = true) (hv : okM 5 v = true) : F114 t v = some (doesM t v, ()) := by
  unfold F114
  obtain ⟨h1, h2, _⟩ := termM_op ht
  rw [getPath_eq v _ hv (pathM_len h2), Option.bind_some, doesM_eq]
  dsimp only
  by_cases h8 : t.1 = 8
  · rw [show (t.1 == (8 : Int)) = true by simpa using h8, cond_true, if_pos h8, gt_zero]
  · rw [show (t.1 == (8 : Int)) = false by simpa using h8, cond_false, if_neg h8]
    obtain ⟨q1, q2⟩ := valsM_ok (t := t) hv
    have hs : F152 (valsM t v) (fun (v7 : TVal) => (Option.map (fun (v8 : (Bool × Unit)) => v8.1) (F153 t v7))) = some ((valsM t v).any (holdsM t), ()) :=
      any_value (holdsM t) _ _ (fun x hx => by rw [implHolds_eq t x ht h8 (q2 x hx)]; rfl) (by omega)
    have hb : ∀ b : Bool, (!(b == (t.1 == (2 : Int)))) = (b != (t.1 == 2)) := fun b => rfl
    rw [eq_zero]
    by_cases c : (pathsM v t.2.1).length = 0
    · rw [decide_eq_true c, cond_true]
      by_cases c9 : t.1 = 9
      · have e : valsM t v = pathsM v t.2.1 := by unfold valsM; rw [if_neg (fun h => h.2 c9)]
        rw [show (t.1 != (9 : Int)) = false by simpa using c9, cond_false, ← e, hs]
        rfl
      · have e : pathsM v t.2.1 ++ [((0 : Int), ((0 : Int), (([] : List UInt8), ())))] = valsM t v := by
          unfold valsM
          rw [if_pos ⟨c, c9⟩, List.eq_nil_of_length_eq_zero c]
          rfl
        rw [show (t.1 != (9 : Int)) = true by simpa using c9, cond_true, lim_ok (by simp only [List.length_cons, List.length_nil]; omega), gd_true]
        rw [e, hs]
        rfl
    · have e : valsM t v = pathsM v t.2.1 := by unfold valsM; rw [if_neg (fun h => c h.1)]
      rw [decide_eq_false c, cond_false, ← e, hs]
      rfl

theorem filterM_spec {f : TFilter} (h : filterM f = true) : f.1.length ≤ 3 ∧ ∀ c, c ∈ f.1 → c.1.length ≤ 4 ∧ ∀ t, t ∈ c.1 → termM t = true := by
  unfold filterM inR at h
  simp only [Bool.and_eq_true, decide_eq_true_eq, List.all_eq_true] at h
  refine ⟨by omega, fun c hc => ?_⟩
  have := h.2 c hc
  exact ⟨by omega, this.2⟩

theorem specClause_eq (c : TClause) (v : TVal) (hl : c.1.length ≤ 4) (ht : ∀ t, t ∈ c.1 → termM t = true) (hv : okM 5 v = true) : F89 c v = some (c.1.all fun t => doesM t v, ()) := by
  unfold F89
  refine Eq.trans (iter_go (S := Unit) (fun i _ => ((i : Int), c, v, ())) (fun i _ => some ((c.1.drop i).all fun t => doesM t v, ())) c.1.length (fun _ _ => True) ?_ ?_ fuel 0 () (Nat.zero_le _) (fuel_gt (by omega)) trivial) rfl
  · intro i _ hi _ rec hrec
    simp only [F89_R2, lt_cast, hi, decide_true, cond_true, gd_pos, get_nth hi, Option.bind_some, wrap_up i _ hi (by omega : c.1.length ≤ 9223372036854775807), specTerm_eq _ v (ht _ (nth_mem hi)) hv]
    rw [drop_cons_nth hi, List.all_cons, hrec () trivial]
    cases doesM (nth c.1 i) v <;> rfl
  · intro _ _ rec
    simp only [F89_R2, lt_cast, Nat.lt_irrefl, decide_false, cond_false, List.drop_length, List.all_nil]

theorem specMatches_eq (f : TFilter) (v : TVal) (hf : filterM f = true) (hv : okM 5 v = true) : F58 f v = some (matchM f v, ()) := by
  obtain ⟨h1, h2⟩ := filterM_spec hf
  unfold F58
  refine Eq.trans (iter_go (S := Unit) (fun i _ => ((i : Int), f, v, ())) (fun i _ => some ((f.1.drop i).any fun c => c.1.all fun t => doesM t v, ())) f.1.length (fun _ _ => True) ?_ ?_ fuel 0 () (Nat.zero_le _) (fuel_gt (by omega)) trivial) rfl
  · intro i _ hi _ rec hrec
    obtain ⟨g1, g2⟩ := h2 _ (nth_mem hi)
    simp only [F58_R2, lt_cast, hi, decide_true, cond_true, gd_pos, get_nth hi, Option.bind_some, wrap_up i _ hi (by omega : f.1.length ≤ 9223372036854775807), specClause_eq _ v g1 g2 hv]
    rw [drop_cons_nth hi, List.any_cons, hrec () trivial]
    cases (nth f.1 i).1.all fun t => doesM t v <;> rfl
  · intro _ _ rec
    simp only [F58_R2, lt_cast, Nat.lt_irrefl, decide_false, cond_false, List.drop_length, List.any_nil]

theorem implMatches_eq (f : TFilter) (v : TVal) (hf : filterM f = true) (hv : okM 5 v = true) : F73 f v = some (matchM f v, ()) := by
  obtain ⟨h1, h2⟩ := filterM_spec hf
  unfold F73
  have : F110 f.1 (fun (v3 : TClause) => (Option.map (fun (v4 : (Bool × Unit)) => v4.1) (F111 v3 v))) = some (f.1.any fun c => c.1.all fun t => doesM t v, ()) :=
    any_clause _ _ _ (fun c hc => by
      obtain ⟨g1, g2⟩ := h2 c hc
      unfold F111
      rw [any_term (fun t => !doesM t v) _ _ (fun t ht => by
        unfold F113
        rw [implTerm_eq t v (g2 t ht) hv]; rfl) (by omega), Option.bind_some, any_not_all']
      simp) (by omega)
  rw [this]
  rfl

theorem changeM_docs {c : TChange} (h : changeM c = true) : (c.2.2.1 = true → okM 5 c.2.1 = true) ∧ (c.1.2.2.1 = false → okM 5 c.1.2.2.2.1 = true) := by
  unfold changeM writeM docM at h
  simp only [Bool.and_eq_true] at h
  refine ⟨fun e => ?_, fun e => ?_⟩
  · have := h.2
    rw [e, Bool.not_true, cond_false] at this
    simp only [Bool.and_eq_true] at this
    exact doc_ok this.1
  · have := h.1.2.2
    rw [e, cond_false] at this
    simp only [Bool.and_eq_true] at this
    exact doc_ok this.1

theorem specHit_eq (r : TRead) (c : TChange) (hr : readM r = true) (hc : changeM c = true) : F31 r c = some (hangsM r c, ()) := by
  have hf : filterM r.2.1 = true := by unfold readM at hr; rw [Bool.and_eq_true] at hr; exact hr.2
  obtain ⟨d1, d2⟩ := changeM_docs hc
  unfold F31 hangsM
  cases r.1 == c.1.1 with
  | false => rfl
  | true =>
    cases hw : c.2.2.1 with
    | false =>
      cases hg : c.1.2.2.1 with
      | true => rfl
      | false => simp only [Bool.not_true, cond_false, Bool.not_false, cond_true, specMatches_eq _ _ hf (d2 hg), Option.bind_some]; rfl
    | true =>
      simp only [Bool.not_true, cond_false, cond_true, specMatches_eq _ _ hf (d1 hw), Option.bind_some]
      cases matchM r.2.1 c.2.1 with
      | true => rfl
      | false =>
        cases hg : c.1.2.2.1 with
        | true => rfl
        | false => simp only [cond_false, Bool.not_false, cond_true, specMatches_eq _ _ hf (d2 hg), Option.bind_some]; rfl

theorem implHit_eq (r : TRead) (c : TChange) (hr : readM r = true) (hc : changeM c = true) : F44 r c = some (hangsM r c, ()) := by
  have hf : filterM r.2.1 = true := by unfold readM at hr; rw [Bool.and_eq_true] at hr; exact hr.2
  obtain ⟨d1, d2⟩ := changeM_docs hc
  unfold F44 hangsM
  cases r.1 == c.1.1 with
  | false => rfl
  | true =>
    cases hw : c.2.2.1 with
    | false =>
      cases hg : c.1.2.2.1 with
      | true => rfl
      | false => simp only [Bool.not_true, cond_false, Bool.not_false, cond_true, implMatches_eq _ _ hf (d2 hg), Option.bind_some]; rfl
    | true =>
      simp only [Bool.not_true, cond_false, cond_true, implMatches_eq _ _ hf (d1 hw), Option.bind_some]
      cases matchM r.2.1 c.2.1 with
      | true => rfl
      | false =>
        cases hg : c.1.2.2.1 with
        | true => rfl
        | false => simp only [cond_false, Bool.not_false, cond_true, implMatches_eq _ _ hf (d2 hg), Option.bind_some]; rfl

theorem specHits_eq (rs : List TRead) (cs : List TChange) (h1 : rs.length ≤ 1048576) (h2 : cs.length ≤ 1048576) (hr : ∀ r, r ∈ rs → readM r = true) (hc : ∀ c, c ∈ cs → changeM c = true) : F13 rs cs = some (hitsM rs cs, ()) := by
  unfold F13
  refine Eq.trans (iter_go (S := Unit) (fun i _ => (rs, cs, (i : Int), ())) (fun i _ => some ((rs.drop i).any fun r => cs.any fun c => hangsM r c, ())) rs.length (fun _ _ => True) ?_ ?_ fuel 0 () (Nat.zero_le _) (fuel_gt (by omega)) trivial) rfl
  · intro i _ hi _ rec hrec
    simp only [F13_R2, lt_cast, hi, decide_true, cond_true]
    refine Eq.trans (iter_go (S := Unit) (fun k _ => (rs, cs, (i : Int), (k : Int), ())) (fun k _ => some (((cs.drop k).any fun c => hangsM (nth rs i) c) || ((rs.drop (i + 1)).any fun r => cs.any fun c => hangsM r c), ())) cs.length (fun _ _ => True) ?_ ?_ fuel 0 () (Nat.zero_le _) (fuel_gt (by omega)) trivial) ?_
    · intro k _ hk _ rec' hrec'
      simp only [F13_R5, lt_cast, hk, decide_true, cond_true, gd_pos, get_nth hi, get_nth hk, Option.bind_some, wrap_up k _ hk (by omega : cs.length ≤ 9223372036854775807), specHit_eq _ _ (hr _ (nth_mem hi)) (hc _ (nth_mem hk))]
      rw [drop_cons_nth hk, List.any_cons, hrec' () trivial]
      cases hangsM (nth rs i) (nth cs k) <;> rfl
    · intro _ _ rec'
      simp only [F13_R5, lt_cast, Nat.lt_irrefl, decide_false, cond_false, List.drop_length, List.any_nil, Bool.false_or, wrap_up i _ hi (by omega : rs.length ≤ 9223372036854775807)]
      exact hrec () trivial
    · rw [List.drop_zero, drop_cons_nth hi, List.any_cons]
  · intro _ _ rec
    simp only [F13_R2, lt_cast, Nat.lt_irrefl, decide_false, cond_false, List.drop_length, List.any_nil]

theorem implHits_eq (rs : List TRead) (cs : List TChange) (h1 : rs.length ≤ 1048576) (h2 : cs.length ≤ 1048576) (hr : ∀ r, r ∈ rs → readM r = true) (hc : ∀ c, c ∈ cs → changeM c = true) : F19 rs cs = some (hitsM rs cs, ()) := by
  unfold F19
  have : F41 rs (fun (v3 : TRead) => (Option.map (fun (v4 : (Bool × Unit)) => v4.1) (F42 v3 cs))) = some (rs.any fun r => cs.any fun c => hangsM r c, ()) :=
    any_read _ _ _ (fun r hrr => by
      unfold F42
      rw [any_change (fun c => hangsM r c) _ _ (fun c hcc => by rw [implHit_eq r c (hr r hrr) (hc c hcc)]; rfl) (by omega)]
      rfl) (by omega)
  rw [this]
  rfl

end Go.V

/- NoPivot: the program answers what the reference answers. No condition. -/
namespace Go.V
set_option linter.unusedVariables false
set_option linter.unusedSimpArgs false
set_option maxRecDepth 100000

theorem donesM_spec {l : List TDone} (h : donesM l = true) : l.length ≤ 30 ∧ ∀ i, i < l.length → (nth l i).2.2.1.length ≤ 20 ∧ (nth l i).2.2.2.1.length ≤ 60 ∧ (∀ r, r ∈ (nth l i).2.2.1 → readM r = true) ∧ ∀ c, c ∈ (nth l i).2.2.2.1 → changeM c = true := by
  unfold donesM at h
  rw [Bool.and_eq_true, allF_iff, decide_eq_true_eq] at h
  refine ⟨by omega, fun i hi => ?_⟩
  have := h.1 i (Nat.zero_le _) (by omega)
  simp only [Bool.and_eq_true] at this
  have hd := this.1
  unfold doneM at hd
  simp only [Bool.and_eq_true, decide_eq_true_eq, List.all_eq_true] at hd
  obtain ⟨_, _, _, _, h1, h2, h3, h4⟩ := hd
  exact ⟨by omega, by omega, h3, h4⟩

theorem hits_of {l : List TDone} (h : donesM l = true) {i k : Nat} (hi : i < l.length) (hk : k < l.length) :
    F13 (nth l i).2.2.1 (nth l k).2.2.2.1 = some (hitsM (nth l i).2.2.1 (nth l k).2.2.2.1, ()) ∧ F19 (nth l i).2.2.1 (nth l k).2.2.2.1 = some (hitsM (nth l i).2.2.1 (nth l k).2.2.2.1, ()) := by
  obtain ⟨_, g⟩ := donesM_spec h
  obtain ⟨a1, _, a3, _⟩ := g i hi
  obtain ⟨_, b2, _, b4⟩ := g k hk
  exact ⟨specHits_eq _ _ (by omega) (by omega) a3 b4, implHits_eq _ _ (by omega) (by omega) a3 b4⟩

/-- Is one beside another? -/
def besM (l : List TDone) (i k : Nat) : Bool := decide (i ≠ k) && (decide ((nth l k).1 < (nth l i).2.1) && decide ((nth l i).1 < (nth l k).2.1))
/-- An edge in, an edge out, with one more. -/
def edgeM (l : List TDone) (i k : Nat) (s : Bool × Bool) : Bool × Bool :=
  if besM l i k then (s.1 || hitsM (nth l k).2.2.1 (nth l i).2.2.2.1, s.2 || hitsM (nth l i).2.2.1 (nth l k).2.2.2.1) else s
def edgesM (l : List TDone) (i : Nat) : Nat → Nat → Bool × Bool → Bool × Bool
  | 0, _, s => s
  | m + 1, k, s => edgesM l i m (k + 1) (edgeM l i k s)
/-- Is one no pivot? -/
def fineM (l : List TDone) (i : Nat) : Bool := !((edgesM l i l.length 0 (false, false)).1 && (edgesM l i l.length 0 (false, false)).2)

theorem int_eq (i k : Nat) : (((i : Nat) : Int) == ((k : Nat) : Int)) = decide (i = k) := by
  rw [Bool.eq_iff_iff]; simp; omega

theorem le_not (a b : Int) : decide (a ≤ b) = !decide (b < a) := by
  by_cases h : a ≤ b
  · rw [decide_eq_true h, decide_eq_false (by omega)]; rfl
  · rw [decide_eq_false h, decide_eq_true (by omega)]; rfl

theorem specNoPivot_eq (s : TStore) (hs : LStore 1048576 s) : F5 s = some (cond (storeM s) (cond (allF (fineM s.2.2.1) 0 s.2.2.1.length) (true, (0 : Int), ()) (false, (0 : Int), ())) (false, (1 : Int), ())) := by
  unfold F5
  rw [specStoreOK_eq s hs, Option.bind_some]
  cases hm : storeM s with
  | false => rfl
  | true =>
    rw [Bool.not_true, cond_false, cond_true]
    have hd : donesM s.2.2.1 = true := by
      unfold storeM at hm
      simp only [Bool.and_eq_true] at hm
      exact hm.2.2.1
    obtain ⟨hl, _⟩ := donesM_spec hd
    refine (iter_all (fun i => ((i : Int), s, ())) (fineM s.2.2.1) (some (true, (0 : Int), ())) (some (false, (0 : Int), ())) s.2.2.1.length 0 fuel ?_ ?_ (fuel_gt (by omega))).trans (by cases allF (fineM s.2.2.1) 0 s.2.2.1.length <;> rfl)
    · intro i _ hi rec
      have hi : i < s.2.2.1.length := by omega
      simp only [F5_R4, lt_cast, hi, decide_true, cond_true]
      refine Eq.trans (iter_go (S := Bool × Bool) (fun k b => ((i : Int), b.1, b.2, (k : Int), s, ())) (fun k b => cond (!((edgesM s.2.2.1 i (s.2.2.1.length - k) k b).1 && (edgesM s.2.2.1 i (s.2.2.1.length - k) k b).2)) (rec (((i + 1 : Nat) : Int), s, ())) (some (false, (0 : Int), ()))) s.2.2.1.length (fun _ _ => True) ?_ ?_ fuel 0 (false, false) (Nat.zero_le _) (fuel_gt (by omega)) trivial) ?_
      · intro k b hk _ rec' hrec'
        simp only [F5_R9, lt_cast, hk, decide_true, cond_true, gd_pos, get_nth hi, get_nth hk, Option.bind_some, wrap_up k _ hk (by omega : s.2.2.1.length ≤ 9223372036854775807), int_eq, (hits_of hd hi hk).1, (hits_of hd hk hi).1]
        have e : s.2.2.1.length - k = (s.2.2.1.length - (k + 1)) + 1 := by omega
        rw [e]
        show _ = cond (!((edgesM s.2.2.1 i (s.2.2.1.length - (k + 1)) (k + 1) (edgeM s.2.2.1 i k b)).1 && (edgesM s.2.2.1 i (s.2.2.1.length - (k + 1)) (k + 1) (edgeM s.2.2.1 i k b)).2)) _ _
        rw [← hrec' (edgeM s.2.2.1 i k b) trivial]
        unfold edgeM besM
        obtain ⟨x, y⟩ := b
        by_cases c1 : i = k
        · simp [c1]
        · rw [decide_eq_false c1, cond_false, le_not, le_not]
          have c1' : decide (i ≠ k) = true := by simpa using c1
          rw [c1', Bool.true_and]
          cases decide ((nth s.2.2.1 k).1 < (nth s.2.2.1 i).2.1) <;> cases decide ((nth s.2.2.1 i).1 < (nth s.2.2.1 k).2.1) <;> cases x <;> cases y <;> rfl
      · intro b _ rec'
        simp only [F5_R9, lt_cast, Nat.lt_irrefl, decide_false, cond_false, Nat.sub_self, wrap_up i _ hi (by omega : s.2.2.1.length ≤ 9223372036854775807)]
        obtain ⟨x, y⟩ := b
        cases x <;> cases y <;> rfl
      · rfl
    · intro rec
      simp only [F5_R4, lt_cast, Nat.zero_add, Nat.lt_irrefl, decide_false, cond_false]

theorem implNoPivot_eq (s : TStore) (hs : LStore 1048576 s) : F7 s = some (cond (storeM s) (cond (allF (fineM s.2.2.1) 0 s.2.2.1.length) (true, (0 : Int), ()) (false, (0 : Int), ())) (false, (1 : Int), ())) := by
  unfold F7
  rw [implStoreOK_eq s hs, Option.bind_some]
  cases hm : storeM s with
  | false => rfl
  | true =>
    rw [Bool.not_true, cond_false, cond_true]
    have hd : donesM s.2.2.1 = true := by
      unfold storeM at hm
      simp only [Bool.and_eq_true] at hm
      exact hm.2.2.1
    obtain ⟨hl, _⟩ := donesM_spec hd
    refine (iter_all (fun i => (s.2.2.1, ((s.2.2.1.length : Nat) : Int), (i : Int), s, ())) (fineM s.2.2.1) (some (true, (0 : Int), ())) (some (false, (0 : Int), ())) s.2.2.1.length 0 fuel ?_ ?_ (fuel_gt (by omega))).trans (by cases allF (fineM s.2.2.1) 0 s.2.2.1.length <;> rfl)
    · intro i _ hi rec
      have hi : i < s.2.2.1.length := by omega
      simp only [F7_R4, lt_cast, hi, decide_true, cond_true, gd_pos, get_nth hi, Option.bind_some]
      refine Eq.trans (iter_go (S := Bool × Bool) (fun k b => ((i : Int), b.1, b.2, s.2.2.1, ((s.2.2.1.length : Nat) : Int), (i : Int), s.2.2.1, ((s.2.2.1.length : Nat) : Int), (k : Int), s, nth s.2.2.1 i, ())) (fun k b => cond (!((edgesM s.2.2.1 i (s.2.2.1.length - k) k b).1 && (edgesM s.2.2.1 i (s.2.2.1.length - k) k b).2)) (rec (s.2.2.1, ((s.2.2.1.length : Nat) : Int), ((i + 1 : Nat) : Int), s, ())) (some (false, (0 : Int), ()))) s.2.2.1.length (fun _ _ => True) ?_ ?_ fuel 0 (false, false) (Nat.zero_le _) (fuel_gt (by omega)) trivial) ?_
      · intro k b hk _ rec' hrec'
        have hne : ((((i : Nat) : Int)) != ((k : Nat) : Int)) = !decide (i = k) := by rw [← int_eq]; rfl
        simp only [F7_R8, lt_cast, hk, decide_true, cond_true, gd_pos, get_nth hk, Option.bind_some, wrap_up k _ hk (by omega : s.2.2.1.length ≤ 9223372036854775807), hne, (hits_of hd hi hk).2, (hits_of hd hk hi).2]
        have e : s.2.2.1.length - k = (s.2.2.1.length - (k + 1)) + 1 := by omega
        rw [e]
        show _ = cond (!((edgesM s.2.2.1 i (s.2.2.1.length - (k + 1)) (k + 1) (edgeM s.2.2.1 i k b)).1 && (edgesM s.2.2.1 i (s.2.2.1.length - (k + 1)) (k + 1) (edgeM s.2.2.1 i k b)).2)) _ _
        rw [← hrec' (edgeM s.2.2.1 i k b) trivial]
        unfold edgeM besM F18
        obtain ⟨x, y⟩ := b
        by_cases c1 : i = k
        · simp [c1]
        · rw [decide_eq_false c1, Bool.not_false, cond_true]
          have c1' : decide (i ≠ k) = true := by simpa using c1
          rw [c1', Bool.true_and]
          rw [show decide ((nth s.2.2.1 k).2.1 > (nth s.2.2.1 i).1) = decide ((nth s.2.2.1 i).1 < (nth s.2.2.1 k).2.1) from rfl, show decide ((nth s.2.2.1 i).2.1 > (nth s.2.2.1 k).1) = decide ((nth s.2.2.1 k).1 < (nth s.2.2.1 i).2.1) from rfl]
          cases decide ((nth s.2.2.1 k).1 < (nth s.2.2.1 i).2.1) <;> cases decide ((nth s.2.2.1 i).1 < (nth s.2.2.1 k).2.1) <;> cases x <;> cases y <;> rfl
      · intro b _ rec'
        simp only [F7_R8, lt_cast, Nat.lt_irrefl, decide_false, cond_false, Nat.sub_self, wrap_up i _ hi (by omega : s.2.2.1.length ≤ 9223372036854775807)]
        obtain ⟨x, y⟩ := b
        cases x <;> cases y <;> rfl
      · rfl
    · intro rec
      simp only [F7_R4, lt_cast, Nat.zero_add, Nat.lt_irrefl, decide_false, cond_false]

theorem fnExactNoPivot_law (s : TStore) (h : LStore 9223372036854775807 s) : F3 s = some (true, ()) := by
  unfold F3
  obtain ⟨r, hr, _, hL⟩ := szStore_ok s 1048576 h (by decide) (by decide)
  rw [hr, Option.bind_some]
  by_cases h0 : r < 0
  · simp only [h0, decide_true, cond_true]
  have hs := hL (by omega)
  simp only [h0, decide_false, cond_false, toStore_ok s hs, Option.bind_some, specNoPivot_eq s hs, implNoPivot_eq s hs, eqStore_ok s hs]
  simp

end Go.V
