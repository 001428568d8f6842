/- An evaluator over the code of the model, on data without memory, and the proof that it is right. No condition. -/
import Derived.Test.YtafhmggfbojpdaaGreatDoorEb
import GoSem.ClaimChange
import Derived.ChangeReads
import Derived.WideShapes
import Derived.ChangeFn
import Derived.Handed
import Derived.ChangeShapes
import Derived.RowKit
import Derived.RangeFuncNested
import Derived.RangeFuncLeaves
import Derived.OwnWalkIn
/- Operations, regions and code of the evaluator are right. No condition. -/
namespace Go.V
variable {α : Type}
variable {P : Program} {env : Env} {w₀ w w' : World} {O₀ O₁ W O O' : Foot} {σ σ₀ σ' : St} {γ γ' : Name → Src} {φ φ' : Name → Foot} {a a' : Act} {n : Name}
theorem Sim.only (m : List Name) : ∀ (l : List (Name × Root)) {σ : St} {O : Foot}, Sim P env w₀ O₀ W σ γ φ O a w → ∃ O', Sim P env w₀ O₀ W (σ.only m l) γ φ O' a w
 | [], σ, O, S => ⟨O, S⟩
 | (n, _) :: l, σ, O, S => by
  unfold St.only
  split
  ·exact Sim.only m l S
  ·cases hr : σ.root n with
   | some r =>
    obtain ⟨O', S', _⟩ := (S.drop hr).forget (O₀ := O₀) (fun b h => .inl h)
    exact Sim.only m l S'
   | none =>
    have A : Away w w O O σ (σ.drop n) γ γ φ φ n :=
     ⟨Kept.refl _ _, fun _ _ h => h, fun m hm => by rw [St.root_drop, if_neg hm], fun _ _ => rfl, fun _ _ => rfl⟩
    refine Sim.only m l (S.change A (fun _ h => h) ?_ ?_ (St.slot_drop σ n) (fun _ bx d sh h => by rw [St.root_drop, if_pos rfl] at h; cases h))
    ·intro b
     rw [S.own b]
     constructor
     ·rintro (h | ⟨k, r, h1, h2⟩)
      ·exact .inl h
      ·refine .inr ⟨k, r.kill n, ?_, h2⟩
       rw [St.root_drop, if_neg (by rintro rfl; rw [hr] at h1; cases h1), h1]; rfl
     ·rintro (h | ⟨k, r, h1, h2⟩)
      ·exact .inl h
      ·rw [St.root_drop] at h1
       split at h1
       ·cases h1
       ·cases hs : σ.root k with
        | none => rw [hs] at h1; cases h1
        | some r' => exact .inr ⟨k, r', hs, h2⟩
    ·intro r h
     rw [St.root_drop, if_pos rfl] at h
     cases h
theorem look_filterMap (f : Name → Option Root) : ∀ (m : List Name) (n : Name) (r : Root), look (m.filterMap fun n => (f n).map fun r => (n, r)) n = some r → f n = some r
 | [], n, r, h => by simp [look] at h
 | k :: m, n, r, h => by
  rw [List.filterMap_cons] at h
  cases hf : f k with
  | none => rw [hf] at h; exact look_filterMap f m n r h
  | some r' =>
   rw [hf] at h
   simp only [Option.map_some, look] at h
   split at h
   ·rename_i hb
    have : k = n := Nat.eq_of_beq_eq_true hb
    subst this
    rw [hf]; exact h
   ·exact look_filterMap f m n r h
theorem look_filterMap' (f : Name → Option Root) : ∀ (m : List Name) (n : Name), n ∈ m → look (m.filterMap fun n => (f n).map fun r => (n, r)) n = f n
 | [], n, h => by simp at h
 | k :: m, n, h => by
  rw [List.filterMap_cons]
  by_cases hk : k = n
  ·subst hk
   cases hf : f k with
   | none =>
    simp only [Option.map_none]
    cases hl : look (m.filterMap fun n => (f n).map fun r => (n, r)) k with
    | none => rfl
    | some r => rw [look_filterMap f m k r hl] at hf; cases hf
   | some r => simp [look]
  ·have hm : n ∈ m := by simp at h; exact h.resolve_left fun e => hk e.symm
   cases hf : f k with
   | none => exact look_filterMap' f m n hm
   | some r =>
    simp only [Option.map_some, look, beq_ne hk]
    exact look_filterMap' f m n hm
theorem only_root : ∀ (m : List Name) (l : List (Name × Root)) (σ : St) (n : Name) (r : Root), (σ.only m l).root n = some r → (n ∈ m ∨ ∀ r', (n, r') ∉ l) ∧ ∃ r', σ.root n = some r'
 | m, [], σ, n, r, h => ⟨.inr (by simp), r, h⟩
 | m, (k, q) :: l, σ, n, r, h => by
  unfold St.only at h
  split at h
  ·rename_i hk
   obtain ⟨h1, h2⟩ := only_root m l σ n r h
   refine ⟨?_, h2⟩
   by_cases hn : n = k
   ·left; rw [hn]; simpa using hk
   ·rcases h1 with h1 | h1
    ·exact .inl h1
    ·refine .inr fun r' => ?_
     simp only [List.mem_cons, Prod.mk.injEq, not_or, not_and]
     exact ⟨fun e => absurd e hn, h1 r'⟩
  ·obtain ⟨h1, r', h2⟩ := only_root m l (σ.drop k) n r h
   rw [St.root_drop] at h2
   split at h2
   ·cases h2
   ·rename_i hn
    refine ⟨?_, ?_⟩
    ·rcases h1 with h1 | h1
     ·exact .inl h1
     ·refine .inr fun r' => ?_
      simp only [List.mem_cons, Prod.mk.injEq, not_or, not_and]
      exact ⟨fun e => absurd e hn, h1 r'⟩
    ·cases hs : σ.root n with
     | none => rw [hs] at h2; cases h2
     | some r₂ => exact ⟨r₂, rfl⟩
theorem look_mem : ∀ (l : List (Nat × Root)) (n : Nat) (r : Root), look l n = some r → (n, r) ∈ l
 | [], n, r, h => by simp [look] at h
 | (k, q) :: l, n, r, h => by
  simp only [look] at h
  split at h
  ·rename_i hb
   have : k = n := Nat.eq_of_beq_eq_true hb
   subst this
   injection h with h
   subst h
   simp
  ·exact List.mem_cons_of_mem _ (look_mem l n r h)
theorem look_slots (f : Nat → Slot) : ∀ (l : List Nat) (i : Nat), (look (l.map fun i => (i, f i)) i).getD .undef = f i ∨ (look (l.map fun i => (i, f i)) i).getD .undef = .undef
 | [], i => .inr rfl
 | k :: l, i => by
  simp only [List.map_cons, look]
  split
  ·rename_i hb
   have : k = i := Nat.eq_of_beq_eq_true hb
   subst this
   exact .inl rfl
  ·exact look_slots f l i
theorem Sim.keep (S : Sim P env w₀ O₀ W σ γ φ O a w) (l : List Nat) (m : List Name) : ∃ O', Sim P env w₀ O₀ W (σ.keep l m) γ φ O' a w := by
 obtain ⟨O', S'⟩ := Sim.only m σ.mem S
 refine ⟨O', ?_⟩
 have hroot : ∀ n, (σ.keep l m).root n = (σ.only m σ.mem).root n := by
  intro n
  unfold St.keep St.root
  dsimp only
  by_cases hn : n ∈ m
  ·exact look_filterMap' _ m n hn
  ·have h1 : (σ.only m σ.mem).root n = none := by
    cases h : (σ.only m σ.mem).root n with
    | none => rfl
    | some r =>
     obtain ⟨h1, r', h2⟩ := only_root m σ.mem σ n r h
     rcases h1 with h1 | h1
     ·exact (hn h1).elim
     ·exact (h1 r' (look_mem _ _ _ h2)).elim
   have h1' : look (σ.only m σ.mem).mem n = none := h1
   rw [h1']
   cases h : look (m.filterMap fun n => ((σ.only m σ.mem).root n).map fun r => (n, r)) n with
   | none => exact h
   | some r =>
    have := look_filterMap _ m n r h
    rw [h1] at this
    cases this
 refine ⟨S'.defers, S'.size, S'.kept, fun n r hr => RootOk.congr hroot (S'.roots n r ((hroot n).symm.trans hr)), ?_, ?_, ?_, S'.old, ?_, fun b hb bx d sh h => S'.pin b hb bx d sh ((hroot 4).symm.trans h)⟩
 ·intro n k r r' h1 h2
  rw [hroot] at h1 h2
  exact S'.apart n k r r' h1 h2
 ·intro n r h
  rw [hroot] at h
  exact S'.fresh n r h
 ·intro b
  rw [S'.own b]
  simp only [hroot]
 ·intro i
  have := look_slots (fun i => (σ.only m σ.mem).slot i) l i
  have e : (σ.keep l m).slot i = (look (l.map fun i => (i, (σ.only m σ.mem).slot i)) i).getD .undef := rfl
  rw [e]
  rcases this with h | h
  ·rw [h]; exact (S'.slots i).congr hroot
  ·rw [h]; exact .undef _
theorem Sim.keepAt (S : Sim P env w₀ O₀ W σ γ φ O a w) (hints : List (Nat × List Nat × List Name)) (id : Nat) : ∃ O', Sim P env w₀ O₀ W (σ.keepAt hints id) γ φ O' a w := by
 unfold St.keepAt
 split
 ·exact S.keep _ _
 ·exact ⟨O, S⟩
theorem FineL.upon {o : Oper} {k : Slot → St → Option α} {r : α} (h : FineL P env w₀ O₀ W a w (execOp a.eval o) k r) {next : Act → World → Prop} {Q : Exit → Act → World → Prop}
  (hnext : ∀ s v σ' γ' φ' O' w', Sim P env w₀ O₀ W σ' γ' φ' O' a w' → SlotOk P w' O' σ' γ' s v → k s σ' = some r → next (a.put o.dst v) w') :
  o.upon P a next Q ((execOp a.eval o).run P w) := by
 obtain ⟨s, v, σ', γ', φ', O', w', hrun, S', hs, hk⟩ := h
 rcases hrun with hrun | ⟨hrun, rfl⟩
 ·rw [hrun]; exact hnext s v σ' γ' φ' O' w' S' hs hk
 ·rw [hrun]; exact hnext s _ σ' γ' φ' O' w' S' hs hk
theorem loud_ok (S : Sim P env w₀ O₀ W σ γ φ O a w) (hty : env.TyOk P) (hfn : env.FnOk P) {o : Oper} {k : Slot → St → Option α} {r : α} (h : loudK env σ o k = some r)
  {next : Act → World → Prop} {Q : Exit → Act → World → Prop}
  (hnext : ∀ s v σ' γ' φ' O' w', Sim P env w₀ O₀ W σ' γ' φ' O' a w' → SlotOk P w' O' σ' γ' s v → k s σ' = some r → next (a.put o.dst v) w') :
  o.upon P a next Q ((execOp a.eval o).run P w) := by
 cases hop : o.op with
 | alloc t => exact (alloc_ok S hty hop h).upon hnext
 | box t x => exact (box_ok S hop h).upon hnext
 | build t parts => exact (build_ok S hty hop h).upon hnext
 | buildSlice t m parts => exact (buildSlice_ok S hty hop h).upon hnext
 | store t x y => exact (store_ok S hty hop h).upon hnext
 | convert src dst x => exact (bytes_ok S hty hop h).upon hnext
 | makeSlice t x y => exact (makeSlice_ok S hty hop h).upon hnext
 | call c =>
  by_cases hb : c.callee = .builtin .append
  ·exact (append_ok S hty hop hb h).upon hnext
  ·have quiet : callE env σ c (fun s => k s σ) = some r → o.upon P a next Q ((execOp a.eval o).run P w) := fun h' =>
    callE_ok S hty hfn hop h' fun s v w' S' hs hk _ => hnext s v σ γ φ O w' S' hs hk
   unfold loudK at h
   rw [hop] at h
   dsimp only at h
   split at h
   ·rename_i e; exact (hb e).elim
   ·rename_i g hg
    split at h
    ·rename_i fu hfu
     exact callIo_ok S hfn hop hg hfu h hnext
    ·split at h
     ·exact fresh_ok S hfn h fun R s v γ' φ' O' w' S' hs hk => hnext s v _ γ' φ' O' w' S' hs hk
     ·exact quiet h
   ·exact quiet h
 | makeFunc g first caps =>
  unfold loudK at h
  rw [hop] at h
  dsimp only at h
  split at h
  ·rename_i f x hx
   obtain ⟨s, v, hrun, hs, hk⟩ := bound_ok S hfn hop hx h
   rw [hrun]
   exact hnext s v σ γ φ O w S hs hk
  ·cases h
 | _ => unfold loudK at h; rw [hop] at h; cases h
theorem oper_ok (S : Sim P env w₀ O₀ W σ γ φ O a w) (hty : env.TyOk P) (hfn : env.FnOk P) {o : Oper} {k : St → Option α} {r : α} (h : operK env o σ k = some r)
  {next : Act → World → Prop} {Q : Exit → Act → World → Prop}
  (hnext : ∀ σ' γ' φ' O' a' w', Sim P env w₀ O₀ W σ' γ' φ' O' a' w' → k σ' = some r → next a' w') : o.wp P a w next Q := by
 unfold operK at h
 have fin : ∀ s v σ' γ' φ' O' w', Sim P env w₀ O₀ W σ' γ' φ' O' a w' → SlotOk P w' O' σ' γ' s v → finK env o.dst k s σ' = some r → next (a.put o.dst v) w' := by
  intro s v σ' γ' φ' O' w' S' hs hk
  unfold finK at hk
  cases hd : o.dst with
  | none =>
   rw [hd] at hk
   exact hnext _ _ _ _ _ _ S' hk
  | some d =>
   rw [hd] at hk
   dsimp only at hk
   split at hk
   ·rename_i hlt
    exact hnext _ _ _ _ _ _ (S'.set (by simpa using hlt) hs) hk
   ·cases hk
 unfold Oper.wp
 split at h
 ·exact loud_ok S hty hfn h fin
 ·obtain ⟨s, v, hrun, hs, hk⟩ := quiet_ok S hty h
  rw [hrun]
  exact fin s v _ _ _ _ _ S hs hk
theorem skip_ok (S : Sim P env w₀ O₀ W σ γ φ O a w) {o : Oper} {k : St → Option α} {r : α} (h : skipK env o σ k = some r)
  {next : Act → World → Prop} (hnext : ∀ σ' γ' φ' O' a' w', Sim P env w₀ O₀ W σ' γ' φ' O' a' w' → k σ' = some r → next a' w') : next (a.put o.dst undef) w := by
 unfold skipK at h
 cases hd : o.dst with
 | none =>
  rw [hd] at h
  exact hnext _ _ _ _ _ _ S h
 | some d =>
  rw [hd] at h
  dsimp only at h
  split at h
  ·rename_i hlt
   exact hnext _ _ _ _ _ _ (S.set (by simpa using hlt) slot_skipped) h
  ·cases h
theorem ops_ok (hty : env.TyOk P) (hfn : env.FnOk P) {ops : Array Oper} {Q : Exit → Act → World → Prop} : ∀ (l : List Nat) {σ : St} {γ : Name → Src} {φ : Name → Foot} {O : Foot} {a : Act} {w : World} {k : St → Option α} {r : α},
  Sim P env w₀ O₀ W σ γ φ O a w → opsK env ops l σ k = some r → (∀ σ' γ' φ' O' a' w', Sim P env w₀ O₀ W σ' γ' φ' O' a' w' → k σ' = some r → Q .normal a' w') → wpOps P ops Q l a w
 | [], σ, γ, φ, O, a, w, k, r, S, h, hQ => hQ _ _ _ _ _ _ S h
 | i :: l, σ, γ, φ, O, a, w, k, r, S, h, hQ => by
  unfold opsK at h
  unfold wpOps
  split at h
  case h_2 => cases h
  case h_1 o ho =>
   rw [ho]
   dsimp only
   have rest : ∀ σ' γ' φ' O' a' w', Sim P env w₀ O₀ W σ' γ' φ' O' a' w' → opsK env ops l σ' k = some r → wpOps P ops Q l a' w' :=
    fun σ' γ' φ' O' a' w' S' h' => ops_ok hty hfn l S' h' hQ
   unfold guardK at h
   split at h
   ·rename_i hg
    rw [show Region.wanted o (yielded ops a.tmps) = true by simp [Region.wanted, hg], if_pos rfl]
    exact .inl (oper_ok S hty hfn h rest)
   ·rename_i j want hg
    split at h
    case h_2 => cases h
    case h_1 d hd =>
     split at h
     case h_3 => cases h
     case h_2 hlt hs =>
      have hv := S.slots d
      rw [hs] at hv
      have hw : Region.wanted o (yielded ops a.tmps) = false := by simp only [Region.wanted, hg, yielded_skipped hd hv]; cases want <;> rfl
      rw [hw]
      simp only [Bool.false_eq_true, if_false]
      exact skip_ok S h rest
     case h_1 b hlt hs =>
      have hdn : d < a.tmps.size := by rw [S.size]; simpa using hlt
      have hv := S.slots d
      rw [hs] at hv
      have hvb := slot_bool hv
      have hy : yielded ops a.tmps j = some (asB b) := by
       unfold yielded
       rw [hd]
       simp only [Option.bind_some]
       rw [Array.getElem?_eq_getElem hdn]
       have : a.tmps[d] = .bool b := by rw [← hvb, Array.getD_eq_getD_getElem?, Array.getElem?_eq_getElem hdn]; rfl
       rw [this]
      have lit : ∀ c : Bool, asB b = c → Sim P env w₀ O₀ W (σ.set d (boolV c)) γ φ O a w := by
       intro c hc
       have := S.set (d := d) (s := boolV c) (v := .bool c) (by simpa using hlt) (ok_bool c)
       rwa [Act.put_same (by rw [hvb, ← hc]) hdn] at this
      have hw : Region.wanted o (yielded ops a.tmps) = (some (asB b) == some want) := by simp only [Region.wanted, hg, hy]
      rw [hw]
      split at h
      ·rename_i hb
       rw [hb]
       split at h
       ·exact .inl (oper_ok (lit true hb) hty hfn h rest)
       ·simp only [show (some true == some false) = false from rfl, Bool.false_eq_true, if_false]
        exact skip_ok (lit true hb) h rest
      ·rename_i hb
       rw [hb]
       split at h
       ·simp only [show (some false == some true) = false from rfl, Bool.false_eq_true, if_false]
        exact skip_ok (lit false hb) h rest
       ·exact .inl (oper_ok (lit false hb) hty hfn h rest)
def Goes (P : Program) (env : Env) (w₀ : World) (O₀ W : Foot) (κ : Kont α) (r : α) : Exit → Act → World → Prop := fun e a' w' =>
 ∃ σ' γ' φ' O', Sim P env w₀ O₀ W σ' γ' φ' O' a' w' ∧ match e with
  | .normal => κ.normal σ' = some r
  | .exit id => κ.exit id σ' = some r
  | .ret => κ.ret σ' = some r
  | _ => False
theorem wp_loop_count {Q : Exit → Act → World → Prop} {c : Code} (Inv : Nat → Act → World → Prop) (h0 : ∀ a w, ¬ Inv 0 a w)
  (round : ∀ k a w, Inv (k + 1) a w → c.wp P (Exit.then (Inv k) Q) a w) {k : Nat} {a : Act} {w : World} (h : Inv k a w) : (Code.loop c).wp P Q a w := by
 intro b kk cs
 have key : ∀ n a w, Inv n a w → ∃ e a' w', Q e a' w' ∧ Arrives P (lone (b.at a (.code c :: .inLoop c :: kk)) cs w) b kk cs e a' w' := by
  intro n
  induction n with
  | zero => intro a w h; exact (h0 a w h).elim
  | succ n ih =>
   intro a w hI
   obtain ⟨e, a₁, w₁, hq, harr⟩ := round n a w hI b (.inLoop c :: kk) cs
   cases e with
   | normal =>
    obtain ⟨e₂, a₂, w₂, hq₂, harr₂⟩ := ih a₁ w₁ hq
    exact ⟨e₂, a₂, w₂, hq₂, .of_steps (Steps.trans harr (.one step_inLoop)) harr₂⟩
   | exit id => exact ⟨_, a₁, w₁, hq, .pass (x := .inLoop c) rfl (fun _ _ => .inl (by simp)) harr⟩
   | goto l => exact ⟨_, a₁, w₁, hq, .pass (x := .inLoop c) rfl (fun _ _ => .inl (by simp)) harr⟩
   | ret => exact ⟨_, a₁, w₁, hq, .pass (x := .inLoop c) rfl (fun _ _ => .inl (by simp)) harr⟩
   | panic ch => exact ⟨_, a₁, w₁, hq, .pass (x := .inLoop c) rfl (fun _ _ => .inl (by simp)) harr⟩
   | outgrown => exact ⟨_, a₁, w₁, hq, .pass (x := .inLoop c) rfl (fun _ _ => .inl (by simp)) harr⟩
 obtain ⟨e, a', w', hq, harr⟩ := key _ a w h
 exact ⟨e, a', w', hq, .of_steps (.one step_loop) harr⟩
theorem exec_ok (hty : env.TyOk P) (hfn : env.FnOk P) (lp : Nat → Kont α → St → Option α) : ∀ (c : Code), LoopsOk env lp c → ∀ {κ : Kont α} {σ : St} {γ : Name → Src} {φ : Name → Foot} {O : Foot} {a : Act} {w : World} {r : α},
  Sim P env w₀ O₀ W σ γ φ O a w → execK env lp c κ σ = some r → c.wp P (Goes P env w₀ O₀ W κ r) a w := by
 intro c
 induction c with
 | skip => intro hlp κ σ γ φ O a w r S h; exact wp_skip ⟨σ, γ, φ, O, S, h⟩
 | region id ops draw =>
  intro hlp κ σ γ φ O a w r S h
  unfold execK at h
  obtain ⟨O', S'⟩ := S.keepAt env.hints id
  cases draw with
  | false => exact wp_region (ops_ok hty hfn _ S' h fun σ' γ' φ' O' a' w' S'' hk => ⟨σ', γ', φ', O', S'', hk⟩)
  | true =>
   dsimp only at h
   split at h
   ·split at h
    ·rename_i hst
     exact draw_ok S' hty hfn hst h fun σ' γ' φ' O' a' w' S'' hk => ⟨σ', γ', φ', O', S'', hk⟩
    ·cases h
   ·rename_i m _
    split at h
    ·rename_i hst
     exact drawE_ok S' hty hfn (fun j d t e => pendAt_some e) hst h fun σ' γ' φ' O' a' w' S'' hk => ⟨σ', γ', φ', O', S'', hk⟩
    ·cases h
 | seq x y ihx ihy =>
  intro hlp κ σ γ φ O a w r S h
  unfold execK at h
  refine wp_seq (wp_mono (ihx hlp.1 S h) ?_)
  rintro e a' w' ⟨σ', γ', φ', O', S', hk⟩
  cases e with
  | normal => exact ihy hlp.2 S' hk
  | exit id => exact ⟨σ', γ', φ', O', S', hk⟩
  | ret => exact ⟨σ', γ', φ', O', S', hk⟩
  | goto l => exact hk.elim
  | panic ch => exact hk.elim
  | outgrown => exact hk.elim
 | cond c x y ihx ihy =>
  intro hlp κ σ γ φ O a w r S h
  unfold execK at h
  split at h
  ·rename_i b hs
   have hv := S.val c
   rw [hs] at hv
   refine wp_cond (slot_bool hv) ?_
   split at h
   ·rename_i hb
    rw [show (b : Bool) = true from hb]
    exact ihx hlp.1 S h
   ·rename_i hb
    rw [show (b : Bool) = false from hb]
    exact ihy hlp.2 S h
  ·cases h
 | block id c ih =>
  intro hlp κ σ γ φ O a w r S h
  unfold execK at h
  refine wp_block (wp_mono (ih hlp S h) ?_)
  rintro e a' w' ⟨σ', γ', φ', O', S', hk⟩
  cases e with
  | normal =>
   obtain ⟨O'', S''⟩ := S'.keepAt env.hints (id + 100000)
   exact ⟨_, γ', φ', O'', S'', hk⟩
  | exit id' =>
   simp only [Exit.inBlock]
   dsimp only at hk
   split at hk
   ·rename_i hb
    rw [if_pos (Nat.eq_of_beq_eq_true hb)]
    exact ⟨σ', γ', φ', O', S', hk⟩
   ·rename_i hb
    rw [if_neg (fun e => by rw [e] at hb; simp at hb)]
    exact ⟨σ', γ', φ', O', S', hk⟩
  | ret => exact ⟨σ', γ', φ', O', S', hk⟩
  | goto l => exact hk.elim
  | panic ch => exact hk.elim
  | outgrown => exact hk.elim
 | loop c ih =>
  intro hlp κ σ γ φ O a w r S h
  unfold execK at h
  obtain ⟨O', S⟩ := S.keepAt env.hints (headId c)
  obtain ⟨n, h⟩ := hlp.2 _ _ _ h
  let Inv : Nat → Act → World → Prop := fun k a w => ∃ σ γ φ O, Sim P env w₀ O₀ W σ γ φ O a w ∧ loopN env.hints (headId c) (execK env lp c) κ k σ = some r
  refine wp_loop_count Inv ?_ ?_ (show Inv n a w from ⟨_, γ, φ, O', S, h⟩)
  ·rintro a w ⟨σ, γ, φ, O, S, h⟩
   simp [loopN] at h
  ·rintro k a w ⟨σ, γ, φ, O, S, h⟩
   simp only [loopN] at h
   refine wp_mono (ih hlp.1 S h) ?_
   rintro e a' w' ⟨σ', γ', φ', O', S', hk'⟩
   cases e with
   | normal =>
    obtain ⟨O'', S''⟩ := S'.keepAt env.hints (headId c)
    exact ⟨_, γ', φ', O'', S'', hk'⟩
   | exit id => exact ⟨σ', γ', φ', O', S', hk'⟩
   | ret => exact ⟨σ', γ', φ', O', S', hk'⟩
   | goto l => exact hk'.elim
   | panic ch => exact hk'.elim
   | outgrown => exact hk'.elim
 | exit id =>
  intro hlp κ σ γ φ O a w r S h
  unfold execK at h
  obtain ⟨O'', S''⟩ := S.keepAt env.hints (id + 100000)
  exact wp_exit ⟨_, γ, φ, O'', S'', h⟩
 | ret =>
  intro hlp κ σ γ φ O a w r S h
  unfold execK at h
  obtain ⟨O'', S''⟩ := S.keepAt env.hints 99999
  exact wp_ret ⟨_, γ, φ, O'', S'', h⟩
 | rangeFunc f params assign body => intro hlp κ σ γ φ O a w r S h; simp [execK] at h
 | scope body => intro hlp κ σ γ φ O a w r S h; simp [execK] at h
 | label l => intro hlp κ σ γ φ O a w r S h; simp [execK] at h
 | goto l => intro hlp κ σ γ φ O a w r S h; simp [execK] at h
 | refuse why => intro hlp κ σ γ φ O a w r S h; simp [execK] at h
end Go.V

/- A function that only computes: from its body to its contract. No condition. -/
namespace Go.V
variable {α : Type}
variable {P : Program} {env : Env} {w₀ w w' : World} {O₀ O₁ W O O' : Foot} {σ σ₀ σ' σ₁ σ₂ : St} {γ γ' : Name → Src} {φ φ' : Name → Foot} {a a' : Act} {n : Name}
theorem Sim.place₀ (S : Sim P env w₀ O₀ W σ γ φ O a w) {p : Place} {k : Dyn → Option α} {r : α} (h : placeK σ p k = some r) :
  ∃ d', k d' = some r ∧ Live σ p ∧ ∃ src cs, (∀ t' src', PlaceAt w σ γ p t' src' → t' = d'.t ∧ src' = src) ∧ cellsAt w d'.t.size src = some cs ∧ Rep w O₀ d'.t .z d'.x cs Foot.none := by
 unfold placeK at h
 split at h
 ·rename_i b d sh hr
  split at h
  ·rename_i hok
   rw [Bool.and_eq_true] at hok
   obtain ⟨d', hget, hk⟩ := getP_some h
   obtain ⟨F, ⟨src, cs, F', hg, hcs, hrep, hF', _⟩, hFφ, _⟩ := S.zip hr hok.1 hget
   have hL : Live σ p := ⟨b, d, sh, d', hr, hok.1, hget⟩
   refine ⟨d', hk, hL, src, cs, ?_, hcs, ?_⟩
   ·rintro t' src' ⟨b', d₂, sh', hr', _, hg'⟩
    rw [hr] at hr'
    injection hr' with hr'
    injection hr' with e1 e2 e3
    subst e2
    have := hg' hL
    rw [hg] at this
    injection this with this
    injection this with e1 e2
    exact ⟨e1.symm, e2.symm⟩
   ·exact Rep.freeze (fun c _ hn ho => hn ((S.own c).2 (.inl ho))) hok.2 (fun c hc => (S.fresh _ _ hr c (hFφ c (hF' c hc))).2) hrep
  ·cases h
 ·cases h
theorem Sim.content₀ (S : Sim P env w₀ O₀ W σ γ φ O a w) {t : Ty} {s : Slot} {v : Value} (hs : SlotOk P w O σ γ s v) {k : t.den → Option α} {r : α} (h : asK σ t s k = some r) :
  ∃ x, k x = some r ∧ ∃ cs, Val t v cs ∧ Rep w O₀ t .z x cs Foot.none := by
 have low : ∀ {t : Ty} {x : t.den} {cs : List Value}, Rep w O t .z x cs Foot.none → Rep w O₀ t .z x cs Foot.none := fun h =>
  Rep.frame (Nat.le_refl _) (fun _ _ _ => rfl) (fun _ _ => rfl) (fun c _ hn ho => hn ((S.own c).2 (.inl ho))) (fun _ h => h.elim) h
 cases hs with
 | undef v => simp [asK] at h
 | pv d v cs hv hrep =>
  obtain ⟨e, hk⟩ := castK_some h
  subst e
  exact ⟨d.x, hk, cs, hv, low hrep⟩
 | ref t' p v src hp hlv =>
  obtain ⟨d', hk, hL, src', cs', hp', hcs', hrep⟩ := S.place₀ h
  obtain ⟨cs, hcs, hv⟩ := hlv hL
  obtain ⟨e1, e2⟩ := hp' _ _ hp
  obtain ⟨e, hk⟩ := castK_some hk
  subst e1 e2
  subst e
  rw [hcs] at hcs'
  injection hcs' with hcs'
  subst hcs'
  exact ⟨d'.x, hk, cs, hv, hrep⟩
 | vw e p lo hi src an n c hp hlv hlo hhi =>
  obtain ⟨d', hk, hL, src', cs', hp', hcs', hrep⟩ := S.place₀ h
  have hcs := hlv hL
  obtain ⟨e1, e2⟩ := hp' _ _ hp
  obtain ⟨ee, hk⟩ := castK_some hk
  obtain ⟨dt, dx⟩ := d'
  subst e2
  dsimp only at *
  subst e1
  rw [show (Ty.slice e).size = 1 from rfl, hcs] at hcs'
  injection hcs' with hcs'
  subst hcs'
  obtain ⟨e3, hk⟩ := castK_some hk
  subst e3
  have hn : n = (asL dx).length := by
   obtain ⟨_, a', cap, hc, _⟩ := hrep
   injection hc with hc
   injection hc
  obtain ⟨_, _, hcut⟩ := Rep.cut (lo := lo) (hi := hi) hrep hlo (by rw [← hn]; exact hhi)
  exact ⟨_, hk, _, rfl, hcut⟩
 | ptr p t b off hp => simp [asK] at h
 | ptrH n s b off h1 h2 => simp [asK] at h
 | fptr d b off cs h1 h2 h3 h4 => simp [asK] at h
 | clo f caps vs h1 h2 => simp [asK] at h
 | fnA a b φ v w₀ O₀ h0 h1 h2 h3 => simp [asK] at h
 | tup l vs h1 h2 => simp [asK] at h
 | nilS =>
  cases t with
  | slice e =>
   obtain ⟨e', hk⟩ := castK_some (show castK (t := .slice e) (t' := .slice e) ([] : List e.den) k = some r from h)
   exact ⟨([] : List e.den), hk, [.slice none 0 0], rfl, fun _ hb => hb, none, 0, rfl, Nat.le_refl _, fun _ => rfl, (fun _ h => by cases h), .inl rfl⟩
  | int k => simp [asK] at h
  | bool => simp [asK] at h
  | str => simp [asK] at h
  | unit => simp [asK] at h
  | pair a b => simp [asK] at h
theorem clos_ok : ∀ {ts : List Ty} {x : Tup ts} {cv : List Value}, PtrsOk w O ts x cv → cv.length = (clos ts x).length ∧ ∀ (i : Nat) s v, (clos ts x)[i]? = some s → cv[i]? = some v → ∀ {P σ γ}, SlotOk P w O σ γ s v
 | [], _, cv, h => by rw [show cv = [] from h]; exact ⟨rfl, fun i s v h => by simp [clos] at h⟩
 | t :: ts, x, cv, ⟨v, vs', e, ⟨b, off, cs, hv, h1, h2, h3, h4⟩, h⟩ => by
  subst e
  obtain ⟨hl, hs⟩ := clos_ok h
  refine ⟨by simp [clos, hl], fun i s u hi hu => ?_⟩
  cases i with
  | zero =>
   simp only [clos, List.getElem?_cons_zero, Option.some.injEq] at hi hu
   subst hi hu
   intro P σ γ
   rw [hv]
   exact .fptr ⟨t, x.1⟩ b off cs h1 h2 h3 h4
  | succ i => exact hs i s u (by simpa [clos] using hi) (by simpa using hu)
theorem init_slots {vs₀ : List Value} : ∀ (ps : List PM) (as : Args ps) (i : Nat) (vs : List Value), ArgsOk P w O ps as vs → (∀ j v, vs[j]? = some v → vs₀[i + j]? = some v) →
  (initSt ps as i).mem = [] ∧ ∀ m, (initSt ps as i).slot m = .undef ∨ (i ≤ m ∧ ∃ v, vs₀[m]? = some v ∧ ∀ σ γ, SlotOk P w O σ γ ((initSt ps as i).slot m) v)
 | [], as, i, vs, h, hv => ⟨rfl, fun m => .inl rfl⟩
 | .ro t :: ps, as, i, vs, ⟨v, vs', cs, e, hval, hrep, h⟩, hv => by
  subst e
  obtain ⟨h1, h2⟩ := init_slots ps as.2 (i + 1) vs' h fun j x hj => by have := hv (j + 1) x (by simpa using hj); rw [← this]; congr 1; omega
  refine ⟨h1, fun m => ?_⟩
  simp only [initSt, St.slot, look]
  by_cases hm : i = m
  ·subst hm
   simp only [beq_self, Option.getD_some]
   exact .inr ⟨Nat.le_refl _, v, by simpa using hv 0 v rfl, fun σ γ => .pv ⟨t, as.1⟩ v cs hval hrep⟩
  ·simp only [beq_ne hm]
   exact (h2 m).imp id fun ⟨g1, g2⟩ => ⟨by omega, g2⟩
 | .rp t :: ps, as, i, vs, ⟨v, vs', e, ⟨b, off, cs, hval, hb, hO, hrep, hcell⟩, h⟩, hv => by
  subst e
  obtain ⟨h1, h2⟩ := init_slots ps as.2 (i + 1) vs' h fun j x hj => by have := hv (j + 1) x (by simpa using hj); rw [← this]; congr 1; omega
  refine ⟨h1, fun m => ?_⟩
  simp only [initSt, St.slot, look]
  by_cases hm : i = m
  ·subst hm
   simp only [beq_self, Option.getD_some]
   refine .inr ⟨Nat.le_refl _, v, by simpa using hv 0 v rfl, fun σ γ => ?_⟩
   rw [hval]
   exact .fptr ⟨t, as.1⟩ b off cs hb hO hrep hcell
  ·simp only [beq_ne hm]
   exact (h2 m).imp id fun ⟨g1, g2⟩ => ⟨by omega, g2⟩
 | .fn t u :: ps, as, i, vs, ⟨v, vs', e, hfl, hfn, h⟩, hv => by
  subst e
  obtain ⟨h1, h2⟩ := init_slots ps as.2 (i + 1) vs' h fun j x hj => by have := hv (j + 1) x (by simpa using hj); rw [← this]; congr 1; omega
  refine ⟨h1, fun m => ?_⟩
  simp only [initSt, St.slot, look]
  by_cases hm : i = m
  ·subst hm
   simp only [beq_self, Option.getD_some]
   exact .inr ⟨Nat.le_refl _, v, by simpa using hv 0 v rfl, fun σ γ => .fnA t u as.1 v w O hfl (Kept.refl _ _) (fun _ _ h => h) hfn⟩
  ·simp only [beq_ne hm]
   exact (h2 m).imp id fun ⟨g1, g2⟩ => ⟨by omega, g2⟩
 | .io t sh :: ps, as, i, vs, h, hv => h.elim
 | .tk t sh :: ps, as, i, vs, h, hv => h.elim
 | .st f ts :: ps, as, i, vs, ⟨cv, vs', e, hp, h⟩, hv => by
  subst e
  obtain ⟨h1, h2⟩ := init_slots ps as.2 (i + 1) vs' h fun j x hj => by have := hv (j + 1) x (by simpa using hj); rw [← this]; congr 1; omega
  refine ⟨h1, fun m => ?_⟩
  simp only [initSt, St.slot, look]
  by_cases hm : i = m
  ·subst hm
   simp only [beq_self, Option.getD_some]
   exact .inr ⟨Nat.le_refl _, .func (.func f) #[] cv.toArray, by simpa using hv 0 _ rfl, fun σ γ => .clo f (clos ts as.1) cv.toArray (by simpa using (clos_ok hp).1) (fun j s v h1 h2 => (clos_ok hp).2 j s v h1 (by simpa using h2))⟩
  ·simp only [beq_ne hm]
   exact (h2 m).imp id fun ⟨g1, g2⟩ => ⟨by omega, g2⟩
theorem load_ptr {t : TypeId} {x : Operand} {k : Slot → Option α} {r : α} {v : Value} (h : quietK env σ (.load t x) k = some r) (hv : SlotOk P w O σ γ (σ.val x) v) : ∃ b off, v = .pointer (some ⟨b, off, none⟩) := by
 unfold quietK at h
 dsimp only at h
 split at h
 ·split at h
  ·rename_i p hp
   rw [hp] at hv
   cases hv with
   | ptr _ t₂ b off _ => exact ⟨b, off, rfl⟩
   | ptrH m s b off _ _ => exact ⟨b, off, rfl⟩
  ·rename_i d hp
   rw [hp] at hv
   cases hv with
   | fptr _ b off cs _ _ _ _ => exact ⟨b, off, rfl⟩
  ·cases h
 ·split at h
  ·split at h
   ·rename_i n hp
    rw [hp] at hv
    cases hv with
    | ptr _ t₂ b off _ => exact ⟨b, off, rfl⟩
    | ptrH m s b off _ _ => exact ⟨b, off, rfl⟩
   ·cases h
  ·cases h
def resultOf (a : Act) : ResultVar → Sem Value
 | .tmp t => pure (a.tmps.getD t undef)
 | .cell c t => do loadVar t (← asAddr (a.tmps.getD c undef))
theorem resultSlot_ok (S : Sim P env w₀ O₀ W σ γ φ O a w) (hty : env.TyOk P) {rv : ResultVar} {k : Slot → Option α} {r : α} (h : resultSlot env σ rv k = some r) :
  ∃ s v, k s = some r ∧ SlotOk P w O σ γ s v ∧ (resultOf a rv).run P w = .ok v w := by
 cases rv with
 | tmp t => exact ⟨_, _, h, S.slots t, rfl⟩
 | cell c ty =>
  obtain ⟨b, off, hp⟩ := load_ptr (x := .tmp c) h (S.val (.tmp c))
  obtain ⟨s, v, hrun, hs, hk⟩ := load_ok S hty (x := .tmp c) h
  refine ⟨s, v, hk, hs, ?_⟩
  rw [hp] at hrun
  have hp' : a.tmps.getD c undef = .pointer (some ⟨b, off, none⟩) := hp
  unfold resultOf
  dsimp only
  rw [hp']
  exact hrun
theorem out_ok (S : Sim P env w₀ O₀ W σ γ φ O a w) (hty : env.TyOk P) (ps : List PM) (hio : ios ps = []) {β : Type} : ∀ (rs : List (Ty × Sh)) (vars : List ResultVar) {k : Tup (rs.map (·.1) ++ ios ps) → Option β} {r : β},
  (rs.all fun x => decide (x.2 = .z)) = true → outK env rs ps vars σ k = some r →
  ∃ q rv, k q = some r ∧ (vars.mapM (resultOf a)).run P w = .ok rv w ∧ rv.length = rs.length ∧ ResVals w O₀ rs (ios ps) q rv
 | [], [], k, r, _, h => by
  unfold outK at h
  have key : ∀ (ps : List PM) (i : Nat) {k : Tup (ios ps) → Option β}, ios ps = [] → iosK ps i σ k = some r → ∃ q, k q = some r := by
   intro ps
   induction ps with
   | nil => intro i k _ h; exact ⟨_, h⟩
   | cons p ps ih =>
    intro i k hi h
    cases p with
    | ro t => exact ih (i + 1) hi h
    | rp t => exact ih (i + 1) hi h
    | fn t u => exact ih (i + 1) hi h
    | st f ts => exact ih (i + 1) hi h
    | io t sh => simp [ios] at hi
    | tk t sh => exact ih (i + 1) hi h
  obtain ⟨q, hq⟩ := key ps 0 hio h
  exact ⟨q, [], hq, rfl, rfl, rfl⟩
 | [], _ :: _, k, r, _, h => by simp [outK] at h
 | _ :: _, [], k, r, _, h => by simp [outK] at h
 | (t, sh) :: rs, v :: vars, k, r, hz, h => by
  simp only [List.all_cons, Bool.and_eq_true, decide_eq_true_eq] at hz
  obtain ⟨hz1, hz2⟩ := hz
  subst hz1
  unfold outK at h
  obtain ⟨s, va, h2, hs, hrun⟩ := resultSlot_ok S hty h
  unfold giveK at h2
  obtain ⟨x, h3, cs, hval, hrep⟩ := S.content₀ hs h2
  obtain ⟨q, rv, h4, h5, h6, h7⟩ := out_ok S hty ps hio rs vars (by simpa using hz2) h3
  refine ⟨(x, q), va :: rv, h4, ?_, by simp [h6], va, rv, cs, rfl, hval, hrep, h7⟩
  simp [List.mapM_cons, hrun, h5]
end Go.V

/- A function that only computes: its contract. No condition. -/
namespace Go.V
variable {P : Program} {env : Env} {w w' : World}
theorem oneVal (rv : List Value) : (if h : rv.toArray.size = 1 then rv.toArray[0] else .tuple rv.toArray) = valOf rv := by
 match rv with
 | [] => rfl
 | [v] => rfl
 | _ :: _ :: _ => simp [valOf]
theorem quiet_fn {f : FuncId} {fn : Func} {c : Code} (hf : P.funcs[f]? = some fn) (hb : fn.body = some c) (hname : fn.name ≠ "runtime.NumGoroutine") (hty : env.TyOk P) (hfn : env.FnOk P) (hmk : env.marks = [])
  (hn : env.n = fn.ntmps) (ps : List PM) (rs : List (Ty × Sh)) (hps : ps.length ≤ fn.ntmps) (hio : ios ps = []) (hrs : (rs.all fun x => decide (x.2 = .z)) = true)
  (lp : Nat → Kont (Tup (rs.map (·.1) ++ ios ps)) → St → Option (Tup (rs.map (·.1) ++ ios ps))) (hlp : LoopsOk env lp c) : QuietOk P f ⟨ps, rs, runF env ps rs lp c fn.results.toList⟩ := by
 refine ⟨⟨fn, hf, by rw [hb]; rfl, hname⟩, ?_⟩
 intro w O as vs r hO hargs hF
 dsimp only at hF hargs ⊢
 refine calls_of_wp hf hb ?_
 have hlen : ∀ (ps : List PM) (as : Args ps) (vs : List Value), ArgsOk P w O ps as vs → vs.length = ps.length := by
  intro ps
  induction ps with
  | nil => intro as vs h; rw [show vs = [] from h]; rfl
  | cons p ps ih =>
   intro as vs h
   cases p with
   | ro t => obtain ⟨v, vs', cs, e, _, _, h⟩ := h; rw [e]; simp [ih _ _ h]
   | rp t => obtain ⟨v, vs', e, _, h⟩ := h; rw [e]; simp [ih _ _ h]
   | fn a b => obtain ⟨v, vs', e, _, _, h⟩ := h; rw [e]; simp [ih _ _ h]
   | st f ts => obtain ⟨cv, vs', e, _, h⟩ := h; rw [e]; simp [ih _ _ h]
   | io t sh => exact h.elim
   | tk t sh => exact h.elim
 have hl := hlen ps as vs hargs
 obtain ⟨hmem, hslots⟩ := init_slots (vs₀ := vs) ps as 0 vs hargs (fun j v h => by rw [Nat.zero_add]; exact h)
 have hroot : ∀ n, (initSt ps as 0).root n = none := fun n => by unfold St.root; rw [hmem]; rfl
 have S : Sim P env w O Foot.none (initSt ps as 0) (fun _ => .val []) (fun _ => Foot.none) O { tmps := vs.toArray ++ Array.replicate (fn.ntmps - vs.toArray.size) undef, defers := [] } w := by
  refine ⟨hmk.symm, ?_, Kept.refl _ _, ?_, ?_, ?_, ?_, hO, ?_, fun b hb bx d sh h => by rw [hroot] at h; cases h⟩
  ·simp only [Array.size_append, Array.size_replicate, List.size_toArray, hn]; omega
  ·intro n r h; rw [hroot] at h; cases h
  ·intro n m r r' h; rw [hroot] at h; cases h
  ·intro n r h; rw [hroot] at h; cases h
  ·intro b
   constructor
   ·exact .inl
   ·rintro (h | ⟨n, r, h, _⟩)
    ·exact h
    ·rw [hroot] at h; cases h
  ·intro i
   rcases hslots i with h | ⟨_, v, hv, h⟩
   ·rw [h]; exact .undef _
   ·have hi := (List.getElem?_eq_some_iff.1 hv).1
    have : (vs.toArray ++ Array.replicate (fn.ntmps - vs.toArray.size) undef).getD i undef = v := by
     rw [Array.getD_eq_getD_getElem?, Array.getElem?_append_left (by simpa using hi), List.getElem?_toArray, hv]; rfl
    dsimp only
    rw [this]
    exact h _ _
 unfold runF at hF
 dsimp only at hF
 refine wp_mono (exec_ok hty hfn lp c hlp S hF) ?_
 have fin : ∀ {σ' γ' φ' O'} {a' : Act} {w' : World}, Sim P env w O Foot.none σ' γ' φ' O' a' w' → outK env rs ps fn.results.toList σ' (fun r => some r) = some r →
   a'.defers = [] ∧ ∃ v, (results fn a'.tmps).run P w' = .ok v w' ∧ ∃ rv, Ending.returned v = .returned (valOf rv) ∧ Kept Foot.none w w' ∧ ResVals w' O rs (ios ps) r rv := by
  intro σ' γ' φ' O' a' w' S' hk
  obtain ⟨q, rv, h1, h2, h3, h4⟩ := out_ok S' hty ps hio rs fn.results.toList hrs hk
  injection h1 with h1
  subst h1
  refine ⟨S'.defers.trans hmk, valOf rv, ?_, rv, rfl, S'.kept, h4⟩
  have hm : (fn.results.mapM (resultOf a')).run P w' = .ok rv.toArray w' := by
   rw [Array.mapM_eq_mapM_toList]
   simp only [Sem.run_map, h2]
   rfl
  unfold results
  have e : (fn.results.mapM fun | .tmp t => (pure (a'.tmps.getD t undef) : Sem Value) | .cell a t => do loadVar t (← asAddr (a'.tmps.getD a undef))) = fn.results.mapM (resultOf a') := by
   rfl
  rw [Sem.run_bind]
  refine (congrArg (fun m => (Sem.run P m w').andThen _) e).trans ?_
  rw [hm]
  simp only [Result.andThen_ok, Sem.run_pure, oneVal]
 rintro e a' w' ⟨σ', γ', φ', O', S', hk⟩
 cases e with
 | normal => exact fin S' hk
 | ret => exact fin S' hk
 | exit id => cases hk
 | goto l => exact hk.elim
 | panic ch => exact hk.elim
 | outgrown => exact hk.elim
theorem give_ok {α : Type} {w₀ : World} {O₀ W O : Foot} {σ : St} {γ : Name → Src} {φ : Name → Foot} {a : Act} (S : Sim P env w₀ O₀ W σ γ φ O a w) {t : Ty} {sh : Sh} {s : Slot} {v : Value} (hs : SlotOk P w O σ γ s v) (hsh : sh ≠ .z) {k : t.den → St → Option α} {r : α} (h : giveK σ t sh s k = some r) :
  ∃ x σ₁ cs, ∃ F G : Foot, k x σ₁ = some r ∧ Val t v cs ∧ Rep w O t sh x cs F ∧ Sim P env w₀ (fun b => O₀ b ∨ G b) W σ₁ γ φ O a w ∧ (∀ b, F b → G b) ∧ ∀ b, G b → ¬ O₀ b ∧ (w₀.heap.size ≤ b ∨ W b) := by
 replace h : ownK σ t sh s k = some r := by
  unfold giveK at h
  cases sh with
  | z => exact (hsh rfl).elim
  | pr _ _ => exact h
  | own _ => exact h
  | gone => exact h
 unfold ownK at h
 split at h
 ·rename_i t₀ n
  split at h
  case h_2 => cases h
  case h_1 b d sh' hr =>
   split at h
   case h_2 => cases h
   case h_1 hd =>
    have hd := of_decide_eq_true hd
    subst hd
    obtain ⟨e, h⟩ := castK_some h
    obtain ⟨dt, x⟩ := d
    dsimp only at e
    subst e
    obtain ⟨cs, F₁, hrep, hcs, hblk, hFφ, hblkφ, hφ, hclear⟩ := S.rootRep hr
    have hv : Val dt v cs := ref_cells hs (p := ⟨n, []⟩) hr rfl (d' := ⟨dt, x⟩) rfl (src := γ n) rfl hcs
    exact ⟨x, _, cs, F₁, φ n, h, hv, hrep, S.drop hr, hFφ, fun b hb => ⟨(S.fresh n _ hr b hb).2, (S.fresh n _ hr b hb).1⟩⟩
 ·obtain ⟨x, sh₁, σ₁, cs, F, h4, hwh, hval, hrep, S₁, _, hFy⟩ := take_ok S (Left.refl σ) hs h
  split at h4
  case h_2 => cases h4
  case h_1 hd =>
   have hd := of_decide_eq_true hd
   subst hd
   exact ⟨x, σ₁, cs, F, F, h4, hval, hrep, S₁, fun _ h => h, hFy⟩
theorem ResVals.less {O O' : Foot} (hO : ∀ b, O' b → O b) : ∀ (rs : List (Ty × Sh)) (io : List Ty) (r : Tup (rs.map (·.1) ++ io)) (rv : List Value), ResVals w O rs io r rv → ResVals w O' rs io r rv
 | [], _, _, _, h => h
 | (_, _) :: rs, io, r, _, ⟨v, vs', cs, hrv, hv, hr, h⟩ =>
  ⟨v, vs', cs, hrv, hv, Rep.frame (Nat.le_refl _) (fun _ _ _ => rfl) (fun _ h => h.elim) (fun b _ hn ho => hn (hO b ho)) (fun _ h => h.elim) hr, ResVals.less hO rs io r.2 vs' h⟩
theorem fresh_fn {f : FuncId} {fn : Func} {c : Code} (hf : P.funcs[f]? = some fn) (hb : fn.body = some c) (hname : fn.name ≠ "runtime.NumGoroutine") (hty : env.TyOk P) (hfn : env.FnOk P) (hmk : env.marks = [])
  (hn : env.n = fn.ntmps) (ps : List PM) (t : Ty) (sh : Sh) (rs : List (Ty × Sh)) (hps : ps.length ≤ fn.ntmps) (hio : ios ps = []) (hsh : sh ≠ .z) (hrs : (rs.all fun x => decide (x.2 = .z)) = true)
  (lp : Nat → Kont (Tup (((t, sh) :: rs).map (·.1) ++ ios ps)) → St → Option (Tup (((t, sh) :: rs).map (·.1) ++ ios ps))) (hlp : LoopsOk env lp c) : FreshOk P f ⟨ps, (t, sh) :: rs, runF env ps ((t, sh) :: rs) lp c fn.results.toList⟩ := by
 refine ⟨⟨fn, hf, by rw [hb]; rfl, hname⟩, ?_⟩
 intro w O as vs r hO hargs hF
 dsimp only at hF hargs ⊢
 refine calls_of_wp hf hb ?_
 have hlen : ∀ (ps : List PM) (as : Args ps) (vs : List Value), ArgsOk P w O ps as vs → vs.length = ps.length := by
  intro ps
  induction ps with
  | nil => intro as vs h; rw [show vs = [] from h]; rfl
  | cons p ps ih =>
   intro as vs h
   cases p with
   | ro t => obtain ⟨v, vs', cs, e, _, _, h⟩ := h; rw [e]; simp [ih _ _ h]
   | rp t => obtain ⟨v, vs', e, _, h⟩ := h; rw [e]; simp [ih _ _ h]
   | fn a b => obtain ⟨v, vs', e, _, _, h⟩ := h; rw [e]; simp [ih _ _ h]
   | st f ts => obtain ⟨cv, vs', e, _, h⟩ := h; rw [e]; simp [ih _ _ h]
   | io t sh => exact h.elim
   | tk t sh => exact h.elim
 have hl := hlen ps as vs hargs
 obtain ⟨hmem, hslots⟩ := init_slots (vs₀ := vs) ps as 0 vs hargs (fun j v h => by rw [Nat.zero_add]; exact h)
 have hroot : ∀ n, (initSt ps as 0).root n = none := fun n => by unfold St.root; rw [hmem]; rfl
 have S : Sim P env w O Foot.none (initSt ps as 0) (fun _ => .val []) (fun _ => Foot.none) O { tmps := vs.toArray ++ Array.replicate (fn.ntmps - vs.toArray.size) undef, defers := [] } w := by
  refine ⟨hmk.symm, ?_, Kept.refl _ _, ?_, ?_, ?_, ?_, hO, ?_, fun b hb bx d sh h => by rw [hroot] at h; cases h⟩
  ·simp only [Array.size_append, Array.size_replicate, List.size_toArray, hn]; omega
  ·intro n r h; rw [hroot] at h; cases h
  ·intro n m r r' h; rw [hroot] at h; cases h
  ·intro n r h; rw [hroot] at h; cases h
  ·intro b
   constructor
   ·exact .inl
   ·rintro (h | ⟨n, r, h, _⟩)
    ·exact h
    ·rw [hroot] at h; cases h
  ·intro i
   rcases hslots i with h | ⟨_, v, hv, h⟩
   ·rw [h]; exact .undef _
   ·have hi := (List.getElem?_eq_some_iff.1 hv).1
    have : (vs.toArray ++ Array.replicate (fn.ntmps - vs.toArray.size) undef).getD i undef = v := by
     rw [Array.getD_eq_getD_getElem?, Array.getElem?_append_left (by simpa using hi), List.getElem?_toArray, hv]; rfl
    dsimp only
    rw [this]
    exact h _ _
 unfold runF at hF
 dsimp only at hF
 refine wp_mono (exec_ok hty hfn lp c hlp S hF) ?_
 have fin : ∀ {σ' γ' φ' O'} {a' : Act} {w' : World}, Sim P env w O Foot.none σ' γ' φ' O' a' w' → outK env ((t, sh) :: rs) ps fn.results.toList σ' (fun r => some r) = some r →
   a'.defers = [] ∧ ∃ v, (results fn a'.tmps).run P w' = .ok v w' ∧ ∃ v' rv cs G, Ending.returned v = .returned (valOf (v' :: rv)) ∧ Kept Foot.none w w' ∧ (∀ b, G b → w.heap.size ≤ b) ∧ Val t v' cs ∧
    Rep w' (fun b => O b ∨ G b) t sh r.1 cs G ∧ ResVals w' (fun b => O b ∨ G b) rs (ios ps) r.2 rv := by
  intro σ' γ' φ' O' a' w' S' hk
  cases hv : fn.results.toList with
  | nil => rw [hv] at hk; simp [outK] at hk
  | cons v vars =>
   rw [hv] at hk
   unfold outK at hk
   obtain ⟨s, va, h2, hs, hrun⟩ := resultSlot_ok S' hty hk
   obtain ⟨x, σ₁, cs, F, G, h4, hval, hrep, S₁, hFG, hG⟩ := give_ok S' hs hsh h2
   ·obtain ⟨q, rv, h5, h6, h7, h8⟩ := out_ok S₁ hty ps hio rs vars hrs h4
    injection h5 with h5
    subst h5
    refine ⟨S'.defers.trans hmk, valOf (va :: rv), ?_, va, rv, cs, F, rfl, S'.kept, fun b hb => (hG b (hFG b hb)).2.resolve_right fun h => h, hval,
     Rep.frame (Nat.le_refl _) (fun _ _ _ => rfl) (fun _ _ => rfl) (fun b _ hn h => hn (h.elim (fun h => (S'.own b).2 (.inl h)) fun h => (hrep.owned b h).1)) (fun b hb _ => .inr hb) hrep, ResVals.less (fun b hb => hb.imp id (hFG b)) _ _ _ _ h8⟩
    have hm : (fn.results.mapM (resultOf a')).run P w' = .ok (va :: rv).toArray w' := by
     rw [Array.mapM_eq_mapM_toList, hv]
     simp only [Sem.run_map, List.mapM_cons, Sem.run_bind, hrun, Result.andThen_ok, h6, Sem.run_pure]
    unfold results
    have e : (fn.results.mapM fun | .tmp t => (pure (a'.tmps.getD t undef) : Sem Value) | .cell a t => do loadVar t (← asAddr (a'.tmps.getD a undef))) = fn.results.mapM (resultOf a') := by
     rfl
    rw [Sem.run_bind]
    refine (congrArg (fun m => (Sem.run P m w').andThen _) e).trans ?_
    rw [hm]
    simp only [Result.andThen_ok, Sem.run_pure, oneVal]
 rintro e a' w' ⟨σ', γ', φ', O', S', hk⟩
 cases e with
 | normal => exact fin S' hk
 | ret => exact fin S' hk
 | exit id => cases hk
 | goto l => exact hk.elim
 | panic ch => exact hk.elim
 | outgrown => exact hk.elim
end Go.V

/- A function that writes what its first argument leads to: its contract. No condition. -/
namespace Go.V
variable {P : Program} {env : Env} {w₀ w w' : World} {O₀ W O : Foot} {σ : St} {γ : Name → Src} {φ : Name → Foot} {a : Act}
theorem ios_some {t : Ty} : ∀ (ps : List PM) (i : Nat) {σ : St} {β : Type} {k : Tup (ios ps) → Option β} {r : β}, noIo ps = true → iosK ps i σ k = some r → ∃ q, k q = some r
 | [], i, σ, β, k, r, _, h => ⟨_, h⟩
 | .ro _ :: ps, i, σ, β, k, r, hn, h => ios_some (t := t) ps (i + 1) hn h
 | .rp _ :: ps, i, σ, β, k, r, hn, h => ios_some (t := t) ps (i + 1) hn h
 | .fn _ _ :: ps, i, σ, β, k, r, hn, h => ios_some (t := t) ps (i + 1) hn h
 | .st _ _ :: ps, i, σ, β, k, r, hn, h => ios_some (t := t) ps (i + 1) hn h
 | .io _ _ :: _, i, σ, β, k, r, hn, h => by cases hn
 | .tk _ _ :: _, i, σ, β, k, r, hn, h => by cases hn
theorem out_io (S : Sim P env w₀ O₀ W σ γ φ O a w) (hty : env.TyOk P) (t : Ty) (sh : Sh) (ps : List PM) (hno : noIo ps = true) {β : Type} : ∀ (rs : List (Ty × Sh)) (vars : List ResultVar) {k : Tup (rs.map (·.1) ++ (t :: ios ps)) → Option β} {r : β},
  (rs.all fun x => x.1.flat && decide (x.2 = .z)) = true → outK env rs (.io t sh :: ps) vars σ k = some r →
  ∃ q rv, k q = some r ∧ (vars.mapM (resultOf a)).run P w = .ok rv w ∧ rv.length = rs.length ∧ PvAll P w (ioSplit rs t (ios ps) q).1 rv ∧ σ.root 4 = some (.data (decide (sh = .z)) ⟨t, (ioSplit rs t (ios ps) q).2⟩ sh)
 | [], [], k, r, _, h => by
  replace h : (match σ.root 4 with
   | some (.data b d sh') => match decide (sh' = sh ∧ b = decide (sh = .z)) with
    | true => castK (t' := t) d.x fun x => iosK ps (0 + 1) σ fun r => k (x, r)
    | false => none
   | _ => none) = some r := h
  split at h
  case h_2 => cases h
  case h_1 b d sh' hr =>
   split at h
   case h_2 => cases h
   case h_1 hs =>
    obtain ⟨h1, h2⟩ := of_decide_eq_true hs
    subst h1 h2
    obtain ⟨e, h⟩ := castK_some h
    obtain ⟨dt, x⟩ := d
    dsimp only at e
    subst e
    obtain ⟨q, hq⟩ := ios_some (t := .bool) ps (0 + 1) hno h
    exact ⟨(x, q), [], hq, rfl, rfl, trivial, hr⟩
 | [], _ :: _, k, r, _, h => by simp [outK] at h
 | _ :: _, [], k, r, _, h => by simp [outK] at h
 | (u, sh₁) :: rs, v :: vars, k, r, hz, h => by
  simp only [List.all_cons, Bool.and_eq_true, decide_eq_true_eq] at hz
  obtain ⟨⟨hu, hz1⟩, hz2⟩ := hz
  subst hz1
  have h : resultSlot env σ v (fun s => giveK σ u .z s fun x σ => outK env rs (.io t sh :: ps) vars σ fun r => k (x, r)) = some r := h
  obtain ⟨s, va, h2, hs, hrun⟩ := resultSlot_ok S hty h
  unfold giveK at h2
  obtain ⟨x, h3, cs, hval, hrep⟩ := S.content₀ hs h2
  obtain ⟨q, rv, h4, h5, h6, h7, h8⟩ := out_io S hty t sh ps hno rs vars (by simpa using hz2) h3
  refine ⟨(x, q), va :: rv, h4, ?_, by simp [h6], ⟨fun O' σ' γ' => .pv ⟨u, x⟩ va cs hval (hrep.flat hu), h7⟩, h8⟩
  simp [List.mapM_cons, hrun, h5]
theorem ArgsOk.length : ∀ (ps : List PM) (as : Args ps) (vs : List Value), ArgsOk P w O ps as vs → vs.length = ps.length := by
 intro ps
 induction ps with
 | nil => intro as vs h; rw [show vs = [] from h]; rfl
 | cons p ps ih =>
  intro as vs h
  cases p with
  | ro t => obtain ⟨v, vs', cs, e, _, _, h⟩ := h; rw [e]; simp [ih _ _ h]
  | rp t => obtain ⟨v, vs', e, _, h⟩ := h; rw [e]; simp [ih _ _ h]
  | fn a b => obtain ⟨v, vs', e, _, _, h⟩ := h; rw [e]; simp [ih _ _ h]
  | st f ts => obtain ⟨cv, vs', e, _, h⟩ := h; rw [e]; simp [ih _ _ h]
  | io t sh => exact h.elim
  | tk t sh => exact h.elim
theorem io_fn {f : FuncId} {fn : Func} {c : Code} (hf : P.funcs[f]? = some fn) (hb : fn.body = some c) (hname : fn.name ≠ "runtime.NumGoroutine") (hty : env.TyOk P) (hfn : env.FnOk P) (hmk : env.marks = [])
  (hn : env.n = fn.ntmps) (t : Ty) (ps : List PM) (rs : List (Ty × Sh)) (hps : ps.length + 1 ≤ fn.ntmps) (hfl : t.flat = true) (hno : noIo ps = true) (hrs : (rs.all fun x => x.1.flat && decide (x.2 = .z)) = true)
  (F : Args (.io t .z :: ps) → Option (Tup (rs.map (·.1) ++ ios (.io t .z :: ps))))
  (lp : Nat → Kont (Tup (rs.map (·.1) ++ ios (.io t .z :: ps))) → St → Option (Tup (rs.map (·.1) ++ ios (.io t .z :: ps)))) (hlp : ∀ p, LoopsOk { env with pin := p } lp c)
  (he : ∀ p, runF { env with pin := p } (.io t .z :: ps) rs lp c fn.results.toList = F) : IoOk P f ⟨.io t .z :: ps, rs, F⟩ := by
 refine ⟨⟨fn, hf, by rw [hb]; rfl, hname⟩, ?_⟩
 intro w O b off x as vs r hO hOb hio hargs hF
 have hF : runF { env with pin := some (.mem b off) } (.io t .z :: ps) rs lp c fn.results.toList (x, as) = some r := by rw [he]; exact hF
 refine calls_of_wp hf hb ?_
 have hty' : Env.TyOk { env with pin := some (.mem b off) } P := hty
 have hfn' : Env.FnOk { env with pin := some (.mem b off) } P := hfn
 have hl := ArgsOk.length ps as vs hargs
 let pv : Value := .pointer (some ⟨b, off, none⟩)
 obtain ⟨hmem, hslots⟩ := init_slots (vs₀ := pv :: vs) ps as 1 vs hargs (fun j v h => by rw [Nat.add_comm]; simpa using h)
 let σ₀ : St := initSt (.io t .z :: ps) (x, as) 0
 have hroot : ∀ n, σ₀.root n = if n = 4 then some (.data true ⟨t, x⟩ .z) else none := by
  intro n
  show look ((4, Root.data true ⟨t, x⟩ .z) :: (initSt ps as (0 + 1)).mem) n = _
  rw [hmem]
  simp only [look]
  by_cases hn4 : n = 4
  ·subst hn4; rw [beq_self, if_pos rfl]
  ·rw [beq_ne (fun e => hn4 e.symm), if_neg hn4]
 have root4 : ∀ {n r}, σ₀.root n = some r → n = 4 ∧ r = .data true ⟨t, x⟩ .z := by
  intro n r h
  rw [hroot] at h
  split at h
  ·rename_i e; injection h with h; exact ⟨e, h.symm⟩
  ·cases h
 let γ₀ : Name → Src := fun _ => .mem b off
 let φ₀ : Name → Foot := fun n c => n = 4 ∧ c = b
 have hh4 : σ₀.root 4 = some (.data true ⟨t, x⟩ .z) := by rw [hroot, if_pos rfl]
 have S : Sim P { env with pin := some (.mem b off) } w (fun c => O c ∧ c ≠ b) (fun c => c = b) σ₀ γ₀ φ₀ O { tmps := (pv :: vs).toArray ++ Array.replicate (fn.ntmps - (pv :: vs).toArray.size) undef, defers := [] } w := by
  refine ⟨hmk.symm, ?_, Kept.refl _ _, ?_, ?_, ?_, ?_, fun c h => hO c h.1, ?_, ?_⟩
  ·simp only [Array.size_append, Array.size_replicate, List.size_toArray, List.length_cons, hn]; omega
  ·intro n r h
   obtain ⟨rfl, rfl⟩ := root4 h
   obtain ⟨C, tid, fr, cs, h1, h2, h3, h4⟩ := hio
   exact ⟨b, off, C, tid, fr, cs, Foot.none, rfl, h1, h2, h3, h4 _ _, fun h => h, hOb, fun k => ⟨fun h => .inl h.2, fun h => h.elim (fun h => ⟨rfl, h⟩) fun h => h.elim⟩⟩
  ·intro n m r r' h h' hnm
   exact (hnm ((root4 h).1.trans (root4 h').1.symm)).elim
  ·rintro n r h c ⟨_, rfl⟩
   exact ⟨.inr rfl, fun h => h.2 rfl⟩
  ·intro c
   constructor
   ·intro h
    by_cases hc : c = b
    ·exact .inr ⟨4, _, hh4, rfl, hc⟩
    ·exact .inl ⟨h, hc⟩
   ·rintro (h | ⟨n, r, _, _, rfl⟩)
    ·exact h.1
    ·exact hOb
  ·intro i
   have hsl : σ₀.slot i = if i = 0 then .ptr ⟨4, []⟩ else (initSt ps as 1).slot i := by
    show (look ((0, Slot.ptr ⟨ioName 0, []⟩) :: (initSt ps as (0 + 1)).slots) i).getD .undef = _
    simp only [look]
    by_cases hi : i = 0
    ·subst hi; rw [beq_self, if_pos rfl]; rfl
    ·rw [beq_ne (fun e => hi e.symm), if_neg hi]; rfl
   have hval : ∀ v, (pv :: vs)[i]? = some v → ({ tmps := (pv :: vs).toArray ++ Array.replicate (fn.ntmps - (pv :: vs).toArray.size) undef, defers := [] } : Act).tmps.getD i undef = v := by
    intro v hv
    have hi := (List.getElem?_eq_some_iff.1 hv).1
    rw [Array.getD_eq_getD_getElem?, Array.getElem?_append_left (by simpa using hi), List.getElem?_toArray, hv]; rfl
   rw [hsl]
   split
   ·rename_i hi
    subst hi
    rw [hval pv rfl]
    exact .ptr ⟨4, []⟩ t b off ⟨true, ⟨t, x⟩, .z, hh4, rfl, fun _ => rfl⟩
   ·rcases hslots i with h | ⟨_, v, hv, h⟩
    ·rw [h]; exact .undef _
    ·rw [hval v hv]; exact h _ _
  ·intro s h bx d sh _
   injection h with h
 unfold runF at hF
 dsimp only at hF
 refine wp_mono (exec_ok hty' hfn' lp c (hlp _) S hF) ?_
 have fin : ∀ {σ' γ' φ' O'} {a' : Act} {w' : World}, Sim P { env with pin := some (.mem b off) } w (fun c => O c ∧ c ≠ b) (fun c => c = b) σ' γ' φ' O' a' w' →
   outK { env with pin := some (.mem b off) } rs (.io t .z :: ps) fn.results.toList σ' (fun r => some r) = some r →
   a'.defers = [] ∧ ∃ v, (results fn a'.tmps).run P w' = .ok v w' ∧ ∃ rv, Ending.returned v = .returned (valOf rv) ∧ Kept (fun c => c = b) w w' ∧
    IoAt w' t b off (ioSplit rs t (ios ps) r).2 ∧ PvAll P w' (ioSplit rs t (ios ps) r).1 rv := by
  intro σ' γ' φ' O' a' w' S' hk
  obtain ⟨q, rv, h1, h2, h3, h4, h5⟩ := out_io S' hty' t .z ps hno rs fn.results.toList hrs hk
  injection h1 with h1
  subst h1
  have hat : IoAt w' t b off (ioSplit rs t (ios ps) q).2 := by
   obtain ⟨b₁, off₁, C, tid, fr, cs, F', hsrc, hb, hfz, hcs, hrep, hF', hOb, hU⟩ := S'.roots 4 _ h5
   have := S'.pin _ rfl _ _ _ h5
   rw [hsrc] at this
   injection this with e1 e2
   subst e1 e2
   exact ⟨C, tid, fr, cs, hb, hfz, hcs, fun w'' O'' => hrep.flat hfl⟩
  refine ⟨S'.defers.trans hmk, valOf rv, ?_, rv, rfl, S'.kept, hat, h4⟩
  have hm : (fn.results.mapM (resultOf a')).run P w' = .ok rv.toArray w' := by
   rw [Array.mapM_eq_mapM_toList]
   simp only [Sem.run_map, h2]
   rfl
  unfold results
  have e : (fn.results.mapM fun | .tmp t => (pure (a'.tmps.getD t undef) : Sem Value) | .cell a t => do loadVar t (← asAddr (a'.tmps.getD a undef))) = fn.results.mapM (resultOf a') := by
   rfl
  rw [Sem.run_bind]
  refine (congrArg (fun m => (Sem.run P m w').andThen _) e).trans ?_
  rw [hm]
  simp only [Result.andThen_ok, Sem.run_pure, oneVal]
 rintro e a' w' ⟨σ', γ', φ', O', S', hk⟩
 cases e with
 | normal => exact fin S' hk
 | ret => exact fin S' hk
 | exit id => cases hk
 | goto l => exact hk.elim
 | panic ch => exact hk.elim
 | outgrown => exact hk.elim
theorem own_fn {f : FuncId} {fn : Func} {c : Code} (hf : P.funcs[f]? = some fn) (hb : fn.body = some c) (hname : fn.name ≠ "runtime.NumGoroutine") (hty : env.TyOk P) (hfn : env.FnOk P) (hmk : env.marks = [])
  (hn : env.n = fn.ntmps) (e : Ty) (s : Sh) (ps : List PM) (rs : List (Ty × Sh)) (hps : ps.length + 1 ≤ fn.ntmps) (hno : noIo ps = true) (hrs : (rs.all fun x => x.1.flat && decide (x.2 = .z)) = true)
  (F : Args (.io (.slice e) (.own s) :: ps) → Option (Tup (rs.map (·.1) ++ ios (.io (.slice e) (.own s) :: ps))))
  (lp : Nat → Kont (Tup (rs.map (·.1) ++ ios (.io (.slice e) (.own s) :: ps))) → St → Option (Tup (rs.map (·.1) ++ ios (.io (.slice e) (.own s) :: ps)))) (hlp : ∀ p, LoopsOk { env with pin := p } lp c)
  (he : ∀ p, runF { env with pin := p } (.io (.slice e) (.own s) :: ps) rs lp c fn.results.toList = F) : IoOk P f ⟨.io (.slice e) (.own s) :: ps, rs, F⟩ := by
 refine ⟨⟨fn, hf, by rw [hb]; rfl, hname⟩, ?_⟩
 intro w O x v G as vs r hO hrepx hargs hF
 have hF : runF { env with pin := some (.val [v]) } (.io (.slice e) (.own s) :: ps) rs lp c fn.results.toList (x, as) = some r := by rw [he]; exact hF
 refine calls_of_wp hf hb ?_
 have hty' : Env.TyOk { env with pin := some (.val [v]) } P := hty
 have hfn' : Env.FnOk { env with pin := some (.val [v]) } P := hfn
 have hl := ArgsOk.length ps as vs hargs
 obtain ⟨hmem, hslots⟩ := init_slots (vs₀ := v :: vs) ps as 1 vs hargs (fun j v h => by rw [Nat.add_comm]; simpa using h)
 let σ₀ : St := initSt (.io (.slice e) (.own s) :: ps) (x, as) 0
 have hroot : ∀ n, σ₀.root n = if n = 4 then some (.data false ⟨.slice e, x⟩ (.own s)) else none := by
  intro n
  show look ((4, Root.data false ⟨.slice e, x⟩ (.own s)) :: (initSt ps as (0 + 1)).mem) n = _
  rw [hmem]
  simp only [look]
  by_cases hn4 : n = 4
  ·subst hn4; rw [beq_self, if_pos rfl]
  ·rw [beq_ne (fun e => hn4 e.symm), if_neg hn4]
 have root4 : ∀ {n r}, σ₀.root n = some r → n = 4 ∧ r = .data false ⟨.slice e, x⟩ (.own s) := by
  intro n r h
  rw [hroot] at h
  split at h
  ·rename_i e; injection h with h; exact ⟨e, h.symm⟩
  ·cases h
 let γ₀ : Name → Src := fun _ => .val [v]
 let φ₀ : Name → Foot := fun n c => n = 4 ∧ G c
 have hh4 : σ₀.root 4 = some (.data false ⟨.slice e, x⟩ (.own s)) := by rw [hroot, if_pos rfl]
 have hGO : ∀ c, G c → O c := fun c hc => (hrepx.owned c hc).1
 have S : Sim P { env with pin := some (.val [v]) } w (fun c => O c ∧ ¬ G c) G σ₀ γ₀ φ₀ O { tmps := (v :: vs).toArray ++ Array.replicate (fn.ntmps - (v :: vs).toArray.size) undef, defers := [] } w := by
  refine ⟨hmk.symm, ?_, Kept.refl _ _, ?_, ?_, ?_, ?_, fun c h => hO c h.1, ?_, ?_⟩
  ·simp only [Array.size_append, Array.size_replicate, List.size_toArray, List.length_cons, hn]; omega
  ·intro n r h
   obtain ⟨rfl, rfl⟩ := root4 h
   exact ⟨[v], rfl, hrepx.foot fun c => ⟨fun h => h.2, fun h => ⟨rfl, h⟩⟩⟩
  ·intro n m r r' h h' hnm
   exact (hnm ((root4 h).1.trans (root4 h').1.symm)).elim
  ·rintro n r h c ⟨_, hc⟩
   exact ⟨.inr hc, fun h => h.2 hc⟩
  ·intro c
   constructor
   ·intro h
    by_cases hc : G c
    ·exact .inr ⟨4, _, hh4, rfl, hc⟩
    ·exact .inl ⟨h, hc⟩
   ·rintro (h | ⟨n, r, _, _, hc⟩)
    ·exact h.1
    ·exact hGO c hc
  ·intro i
   have hsl : σ₀.slot i = if i = 0 then .ref (.slice e) ⟨4, []⟩ else (initSt ps as 1).slot i := by
    show (look ((0, Slot.ref (.slice e) ⟨ioName 0, []⟩) :: (initSt ps as (0 + 1)).slots) i).getD .undef = _
    simp only [look]
    by_cases hi : i = 0
    ·subst hi; rw [beq_self, if_pos rfl]; rfl
    ·rw [beq_ne (fun e => hi e.symm), if_neg hi]; rfl
   have hval : ∀ v', (v :: vs)[i]? = some v' → ({ tmps := (v :: vs).toArray ++ Array.replicate (fn.ntmps - (v :: vs).toArray.size) undef, defers := [] } : Act).tmps.getD i undef = v' := by
    intro v' hv
    have hi := (List.getElem?_eq_some_iff.1 hv).1
    rw [Array.getD_eq_getD_getElem?, Array.getElem?_append_left (by simpa using hi), List.getElem?_toArray, hv]; rfl
   rw [hsl]
   split
   ·rename_i hi
    subst hi
    rw [hval v rfl]
    exact .ref (.slice e) ⟨4, []⟩ v (.val [v]) ⟨false, ⟨.slice e, x⟩, .own s, hh4, rfl, fun _ => rfl⟩ fun _ => ⟨[v], rfl, rfl⟩
   ·rcases hslots i with h | ⟨_, v', hv, h⟩
    ·rw [h]; exact .undef _
    ·rw [hval v' hv]; exact h _ _
  ·intro s h bx d sh _
   injection h with h
 unfold runF at hF
 dsimp only at hF
 refine wp_mono (exec_ok hty' hfn' lp c (hlp _) S hF) ?_
 have fin : ∀ {σ' γ' φ' O'} {a' : Act} {w' : World}, Sim P { env with pin := some (.val [v]) } w (fun c => O c ∧ ¬ G c) G σ' γ' φ' O' a' w' →
   outK { env with pin := some (.val [v]) } rs (.io (.slice e) (.own s) :: ps) fn.results.toList σ' (fun r => some r) = some r →
   a'.defers = [] ∧ ∃ v', (results fn a'.tmps).run P w' = .ok v' w' ∧ ∃ rv G', Ending.returned v' = .returned (valOf rv) ∧ Kept G w w' ∧ (∀ b, G' b → G b ∨ w.heap.size ≤ b) ∧
    Rep w' (fun b => (O b ∧ ¬ G b) ∨ G' b) (.slice e) (.own s) (ioSplit rs (.slice e) (ios ps) r).2 [v] G' ∧ PvAll P w' (ioSplit rs (.slice e) (ios ps) r).1 rv := by
  intro σ' γ' φ' O' a' w' S' hk
  obtain ⟨q, rv, h1, h2, h3, h4, h5⟩ := out_io S' hty' (.slice e) (.own s) ps hno rs fn.results.toList hrs hk
  injection h1 with h1
  subst h1
  obtain ⟨cs, hsrc, hrep⟩ := S'.roots 4 _ h5
  have := S'.pin _ rfl _ _ _ h5
  rw [hsrc] at this
  injection this with this
  subst this
  refine ⟨S'.defers.trans hmk, valOf rv, ?_, rv, φ' 4, rfl, S'.kept, fun b hb => (S'.fresh 4 _ h5 b hb).1.symm, ?_, h4⟩
  ·have hm : (fn.results.mapM (resultOf a')).run P w' = .ok rv.toArray w' := by
    rw [Array.mapM_eq_mapM_toList]
    simp only [Sem.run_map, h2]
    rfl
   unfold results
   have e : (fn.results.mapM fun | .tmp t => (pure (a'.tmps.getD t undef) : Sem Value) | .cell a t => do loadVar t (← asAddr (a'.tmps.getD a undef))) = fn.results.mapM (resultOf a') := by
    rfl
   rw [Sem.run_bind]
   refine (congrArg (fun m => (Sem.run P m w').andThen _) e).trans ?_
   rw [hm]
   simp only [Result.andThen_ok, Sem.run_pure, oneVal]
  ·refine Rep.frame (Nat.le_refl _) (fun _ _ _ => rfl) (fun _ _ => rfl) (fun b _ hn h => ?_) (fun b hb _ => .inr hb) hrep
   rcases h with h | h
   ·exact hn ((S'.own b).2 (.inl h))
   ·exact hn ((S'.own b).2 (.inr ⟨4, _, h5, h⟩))
 rintro e a' w' ⟨σ', γ', φ', O', S', hk⟩
 cases e with
 | normal => exact fin S' hk
 | ret => exact fin S' hk
 | exit id => cases hk
 | goto l => exact hk.elim
 | panic ch => exact hk.elim
 | outgrown => exact hk.elim
theorem ResVals.pv : ∀ (rs : List (Ty × Sh)) (io : List Ty) (r : Tup (rs.map (·.1) ++ io)) (rv : List Value), (rs.all fun x => x.1.flat) = true → ResVals w O rs io r rv → PvAll P w (quietRes rs io r) rv
 | [], _, _, rv, _, h => by rw [show rv = [] from h]; trivial
 | (t, sh) :: rs, io, r, rv, hf, ⟨v, vs', cs, hrv, hv, hr, h⟩ => by
  simp only [List.all_cons, Bool.and_eq_true] at hf
  subst hrv
  exact ⟨fun O' σ' γ' => .pv ⟨t, r.1⟩ v cs hv (hr.flat hf.1), ResVals.pv rs io r.2 vs' hf.2 h⟩
theorem tk_fn {f : FuncId} {fn : Func} {c : Code} (hf : P.funcs[f]? = some fn) (hb : fn.body = some c) (hname : fn.name ≠ "runtime.NumGoroutine") (hty : env.TyOk P) (hfn : env.FnOk P) (hmk : env.marks = [])
  (hn : env.n = fn.ntmps) (t : Ty) (sh : Sh) (ps : List PM) (rs : List (Ty × Sh)) (hps : ps.length + 1 ≤ fn.ntmps) (hno : noIo ps = true) (hrs : (rs.all fun x => x.1.flat && decide (x.2 = .z)) = true)
  (lp : Nat → Kont (Tup (rs.map (·.1) ++ ios (.tk t sh :: ps))) → St → Option (Tup (rs.map (·.1) ++ ios (.tk t sh :: ps)))) (hlp : LoopsOk env lp c) (hp : env.pin = none) :
  IoOk P f ⟨.tk t sh :: ps, rs, runF env (.tk t sh :: ps) rs lp c fn.results.toList⟩ := by
 refine ⟨⟨fn, hf, by rw [hb]; rfl, hname⟩, ?_⟩
 intro w O x v cs G as vs r hO hval₀ hrepx hargs hF
 refine calls_of_wp hf hb ?_
 have hl := ArgsOk.length ps as vs hargs
 obtain ⟨hmem, hslots⟩ := init_slots (vs₀ := v :: vs) ps as 1 vs hargs (fun j v h => by rw [Nat.add_comm]; simpa using h)
 let σ₀ : St := initSt (.tk t sh :: ps) (x, as) 0
 have hroot : ∀ n, σ₀.root n = if n = 4 then some (.data false ⟨t, x⟩ sh) else none := by
  intro n
  show look ((4, Root.data false ⟨t, x⟩ sh) :: (initSt ps as (0 + 1)).mem) n = _
  rw [hmem]
  simp only [look]
  by_cases hn4 : n = 4
  ·subst hn4; rw [beq_self, if_pos rfl]
  ·rw [beq_ne (fun e => hn4 e.symm), if_neg hn4]
 have root4 : ∀ {n r}, σ₀.root n = some r → n = 4 ∧ r = .data false ⟨t, x⟩ sh := by
  intro n r h
  rw [hroot] at h
  split at h
  ·rename_i e; injection h with h; exact ⟨e, h.symm⟩
  ·cases h
 let γ₀ : Name → Src := fun _ => .val cs
 let φ₀ : Name → Foot := fun n c => n = 4 ∧ G c
 have hh4 : σ₀.root 4 = some (.data false ⟨t, x⟩ sh) := by rw [hroot, if_pos rfl]
 have hGO : ∀ c, G c → O c := fun c hc => (hrepx.owned c hc).1
 have S : Sim P env w (fun c => O c ∧ ¬ G c) G σ₀ γ₀ φ₀ O { tmps := (v :: vs).toArray ++ Array.replicate (fn.ntmps - (v :: vs).toArray.size) undef, defers := [] } w := by
  refine ⟨hmk.symm, ?_, Kept.refl _ _, ?_, ?_, ?_, ?_, fun c h => hO c h.1, ?_, ?_⟩
  ·simp only [Array.size_append, Array.size_replicate, List.size_toArray, List.length_cons, hn]; omega
  ·intro n r h
   obtain ⟨rfl, rfl⟩ := root4 h
   exact ⟨cs, rfl, hrepx.foot fun c => ⟨fun h => h.2, fun h => ⟨rfl, h⟩⟩⟩
  ·intro n m r r' h h' hnm
   exact (hnm ((root4 h).1.trans (root4 h').1.symm)).elim
  ·rintro n r h c ⟨_, hc⟩
   exact ⟨.inr hc, fun h => h.2 hc⟩
  ·intro c
   constructor
   ·intro h
    by_cases hc : G c
    ·exact .inr ⟨4, _, hh4, rfl, hc⟩
    ·exact .inl ⟨h, hc⟩
   ·rintro (h | ⟨n, r, _, _, hc⟩)
    ·exact h.1
    ·exact hGO c hc
  ·intro i
   have hsl : σ₀.slot i = if i = 0 then .ref t ⟨4, []⟩ else (initSt ps as 1).slot i := by
    show (look ((0, Slot.ref t ⟨ioName 0, []⟩) :: (initSt ps as (0 + 1)).slots) i).getD .undef = _
    simp only [look]
    by_cases hi : i = 0
    ·subst hi; rw [beq_self, if_pos rfl]; rfl
    ·rw [beq_ne (fun e => hi e.symm), if_neg hi]; rfl
   have hval : ∀ v', (v :: vs)[i]? = some v' → ({ tmps := (v :: vs).toArray ++ Array.replicate (fn.ntmps - (v :: vs).toArray.size) undef, defers := [] } : Act).tmps.getD i undef = v' := by
    intro v' hv
    have hi := (List.getElem?_eq_some_iff.1 hv).1
    rw [Array.getD_eq_getD_getElem?, Array.getElem?_append_left (by simpa using hi), List.getElem?_toArray, hv]; rfl
   rw [hsl]
   split
   ·rename_i hi
    subst hi
    rw [hval v rfl]
    exact .ref t ⟨4, []⟩ v (.val cs) ⟨false, ⟨t, x⟩, sh, hh4, rfl, fun _ => rfl⟩ fun _ => ⟨cs, rfl, hval₀⟩
   ·rcases hslots i with h | ⟨_, v', hv, h⟩
    ·rw [h]; exact .undef _
    ·rw [hval v' hv]; exact h _ _
  ·intro s h bx d sh _
   rw [hp] at h
   cases h
 unfold runF at hF
 dsimp only at hF
 refine wp_mono (exec_ok hty hfn lp c hlp S hF) ?_
 have hio : ios (.tk t sh :: ps) = [] := (noIo_ios hno : ios ps = [])
 have fin : ∀ {σ' γ' φ' O'} {a' : Act} {w' : World}, Sim P env w (fun c => O c ∧ ¬ G c) G σ' γ' φ' O' a' w' →
   outK env rs (.tk t sh :: ps) fn.results.toList σ' (fun r => some r) = some r →
   a'.defers = [] ∧ ∃ v', (results fn a'.tmps).run P w' = .ok v' w' ∧ ∃ rv, Ending.returned v' = .returned (valOf rv) ∧ Kept G w w' ∧ PvAll P w' (quietRes rs (ios ps) r) rv := by
  intro σ' γ' φ' O' a' w' S' hk
  obtain ⟨q, rv, h1, h2, h3, h4⟩ := out_ok S' hty (.tk t sh :: ps) hio rs fn.results.toList (by
   rw [List.all_eq_true] at hrs ⊢
   intro y hy
   have := hrs y hy
   simp only [Bool.and_eq_true] at this
   exact this.2) hk
  injection h1 with h1
  subst h1
  refine ⟨S'.defers.trans hmk, valOf rv, ?_, rv, rfl, S'.kept, ResVals.pv rs (ios (.tk t sh :: ps)) q rv (by
   rw [List.all_eq_true] at hrs ⊢
   intro y hy
   have := hrs y hy
   simp only [Bool.and_eq_true] at this
   exact this.1) h4⟩
  have hm : (fn.results.mapM (resultOf a')).run P w' = .ok rv.toArray w' := by
   rw [Array.mapM_eq_mapM_toList]
   simp only [Sem.run_map, h2]
   rfl
  unfold results
  have e : (fn.results.mapM fun | .tmp t => (pure (a'.tmps.getD t undef) : Sem Value) | .cell a t => do loadVar t (← asAddr (a'.tmps.getD a undef))) = fn.results.mapM (resultOf a') := by
   rfl
  rw [Sem.run_bind]
  refine (congrArg (fun m => (Sem.run P m w').andThen _) e).trans ?_
  rw [hm]
  simp only [Result.andThen_ok, Sem.run_pure, oneVal]
 rintro e a' w' ⟨σ', γ', φ', O', S', hk⟩
 cases e with
 | normal => exact fin S' hk
 | ret => exact fin S' hk
 | exit id => cases hk
 | goto l => exact hk.elim
 | panic ch => exact hk.elim
 | outgrown => exact hk.elim
end Go.V

/- Loops by summaries: shapes of states, rounds, fuel. No condition. -/
namespace Go.V
variable {β : Type}
inductive PS where
 | l | r | at
 deriving DecidableEq
inductive Shape where
 | undef
 | pv (t : Ty)
 | ref (t : Ty) (n : Name) (p : List PS)
 | vw (e : Ty) (n : Name) (p : List PS)
 | ptr (n : Name) (p : List PS)
 | fptr (t : Ty)
 | fnA (a b : Ty)
 | clo (f : FuncId) (l : List Shape)
 | nilS
def PS.dn : List PS → Type → Type
 | [], R => R
 | .l :: p, R => PS.dn p R
 | .r :: p, R => PS.dn p R
 | .at :: p, R => Nat × PS.dn p R
def PS.mk {R : Type} : (p : List PS) → PS.dn p R → Path × R
 | [], x => ([], x)
 | .l :: p, x => let q := PS.mk p x; (.l :: q.1, q.2)
 | .r :: p, x => let q := PS.mk p x; (.r :: q.1, q.2)
 | .at :: p, x => let q := PS.mk p x.2; (.at x.1 :: q.1, q.2)
def PS.un {R : Type} : (p : List PS) → Path → R → (PS.dn p R → Option β) → Option β
 | [], [], x, k => k x
 | .l :: p, .l :: q, x, k => PS.un p q x k
 | .r :: p, .r :: q, x, k => PS.un p q x k
 | .at :: p, .at n :: q, x, k => PS.un p q x fun y => k (n, y)
 | _, _, _, _ => none
theorem PS.un_some {R : Type} : ∀ (p : List PS) (q : Path) (x : R) {k : PS.dn p R → Option β} {o : β}, PS.un p q x k = some o → ∃ y, PS.mk p y = (q, x) ∧ k y = some o
 | [], [], x, k, o, h => ⟨x, rfl, h⟩
 | .l :: p, .l :: q, x, k, o, h => by
  obtain ⟨y, h1, h2⟩ := PS.un_some p q x h
  exact ⟨y, by simp only [PS.mk, h1], h2⟩
 | .r :: p, .r :: q, x, k, o, h => by
  obtain ⟨y, h1, h2⟩ := PS.un_some p q x h
  exact ⟨y, by simp only [PS.mk, h1], h2⟩
 | .at :: p, .at n :: q, x, k, o, h => by
  obtain ⟨y, h1, h2⟩ := PS.un_some p q x (k := fun y => k (n, y)) h
  exact ⟨(n, y), by simp only [PS.mk, h1], h2⟩
 | [], _ :: _, x, k, o, h => by simp [PS.un] at h
 | .l :: _, [], x, k, o, h => by simp [PS.un] at h
 | .r :: _, [], x, k, o, h => by simp [PS.un] at h
 | .at :: _, [], x, k, o, h => by simp [PS.un] at h
 | .l :: _, .r :: _, x, k, o, h => by simp [PS.un] at h
 | .l :: _, .at _ :: _, x, k, o, h => by simp [PS.un] at h
 | .r :: _, .l :: _, x, k, o, h => by simp [PS.un] at h
 | .r :: _, .at _ :: _, x, k, o, h => by simp [PS.un] at h
 | .at :: _, .l :: _, x, k, o, h => by simp [PS.un] at h
 | .at :: _, .r :: _, x, k, o, h => by simp [PS.un] at h
mutual
def Shape.dn : Shape → Type → Type
 | .undef, R => R
 | .pv t, R => t.den × R
 | .ref _ _ p, R => PS.dn p R
 | .vw _ _ p, R => Nat × Nat × PS.dn p R
 | .ptr _ p, R => PS.dn p R
 | .fptr t, R => t.den × R
 | .fnA a b, R => (a.den → Option b.den) × R
 | .clo _ l, R => Shape.dnL l R
 | .nilS, R => R
def Shape.dnL : List Shape → Type → Type
 | [], R => R
 | s :: l, R => Shape.dn s (Shape.dnL l R)
end
mutual
def Shape.mk {R : Type} : (s : Shape) → Shape.dn s R → Slot × R
 | .undef, x => (.undef, x)
 | .pv t, x => (.pv ⟨t, x.1⟩, x.2)
 | .ref t n p, x => let q := PS.mk p x; (.ref t ⟨n, q.1⟩, q.2)
 | .vw e n p, x => let q := PS.mk p x.2.2; (.vw e ⟨n, q.1⟩ x.1 x.2.1, q.2)
 | .ptr n p, x => let q := PS.mk p x; (.ptr ⟨n, q.1⟩, q.2)
 | .fptr t, x => (.fptr ⟨t, x.1⟩, x.2)
 | .fnA a b, x => (.fnA a b x.1, x.2)
 | .clo f l, x => let q := Shape.mkL l x; (.clo f q.1, q.2)
 | .nilS, x => (.nilS, x)
def Shape.mkL {R : Type} : (l : List Shape) → Shape.dnL l R → List Slot × R
 | [], x => ([], x)
 | s :: l, x => let q := Shape.mk s x; let q' := Shape.mkL l q.2; (q.1 :: q'.1, q'.2)
end
mutual
def Shape.un {R : Type} : (s : Shape) → Slot → R → (Shape.dn s R → Option β) → Option β
 | .undef, .undef, x, k => k x
 | .pv t, .pv d, x, k => castK (t' := t) d.x fun y => k (y, x)
 | .ref t n p, .ref t' q, x, k => match decide (t' = t) && Nat.beq q.name n with
  | true => PS.un p q.path x k
  | false => none
 | .vw e n p, .vw e' q lo hi, x, k => match decide (e' = e) && Nat.beq q.name n with
  | true => PS.un p q.path x fun y => k (lo, hi, y)
  | false => none
 | .ptr n p, .ptr q, x, k => match Nat.beq q.name n with
  | true => PS.un p q.path x k
  | false => none
 | .fptr t, .fptr d, x, k => castK (t' := t) d.x fun y => k (y, x)
 | .fnA a b, .fnA a' b' φ, x, k => if h : a' = a ∧ b' = b then k (h.1 ▸ h.2 ▸ φ, x) else none
 | .clo f l, .clo f' l', x, k => match Nat.beq f' f with
  | true => Shape.unL l l' x k
  | false => none
 | .nilS, .nilS, x, k => k x
 | _, _, _, _ => none
def Shape.unL {R : Type} : (l : List Shape) → List Slot → R → (Shape.dnL l R → Option β) → Option β
 | [], [], x, k => k x
 | s :: l, s' :: l', x, k => Shape.unL l l' x fun y => Shape.un s s' y k
 | _, _, _, _ => none
end
mutual
theorem Shape.un_some {R : Type} : ∀ (s : Shape) (sl : Slot) (x : R) {k : Shape.dn s R → Option β} {r : β}, Shape.un s sl x k = some r → ∃ y, Shape.mk s y = (sl, x) ∧ k y = some r
 | .undef, sl, x, k, r, h => by
  cases sl <;> simp only [Shape.un] at h <;> try (cases h; done)
  exact ⟨x, rfl, h⟩
 | .nilS, sl, x, k, r, h => by
  cases sl <;> simp only [Shape.un] at h <;> try (cases h; done)
  exact ⟨x, rfl, h⟩
 | .pv t, sl, x, k, r, h => by
  cases sl <;> simp only [Shape.un] at h <;> try (cases h; done)
  rename_i d
  obtain ⟨e, h⟩ := castK_some h
  subst e
  exact ⟨(d.x, x), rfl, h⟩
 | .fptr t, sl, x, k, r, h => by
  cases sl <;> simp only [Shape.un] at h <;> try (cases h; done)
  rename_i d
  obtain ⟨e, h⟩ := castK_some h
  subst e
  exact ⟨(d.x, x), rfl, h⟩
 | .fnA a b, sl, x, k, r, h => by
  cases sl <;> simp only [Shape.un] at h <;> try (cases h; done)
  split at h
  ·rename_i e
   obtain ⟨rfl, rfl⟩ := e
   exact ⟨(_, x), rfl, h⟩
  ·cases h
 | .ref t n p, sl, x, k, r, h => by
  cases sl <;> simp only [Shape.un] at h <;> try (cases h; done)
  rename_i t' q
  split at h
  ·rename_i e
   simp only [Bool.and_eq_true, decide_eq_true_eq] at e
   obtain ⟨rfl, e⟩ := e
   obtain ⟨y, h1, h2⟩ := PS.un_some p q.path x h
   obtain ⟨qn, qp⟩ := q
   exact ⟨y, by simp only [Shape.mk, h1]; rw [← Nat.eq_of_beq_eq_true e], h2⟩
  ·cases h
 | .vw t n p, sl, x, k, r, h => by
  cases sl <;> simp only [Shape.un] at h <;> try (cases h; done)
  rename_i t' q lo hi
  split at h
  ·rename_i e
   simp only [Bool.and_eq_true, decide_eq_true_eq] at e
   obtain ⟨rfl, e⟩ := e
   obtain ⟨y, h1, h2⟩ := PS.un_some p q.path x (k := fun y => k (lo, hi, y)) h
   obtain ⟨qn, qp⟩ := q
   exact ⟨(lo, hi, y), by simp only [Shape.mk, h1]; rw [← Nat.eq_of_beq_eq_true e], h2⟩
  ·cases h
 | .ptr n p, sl, x, k, r, h => by
  cases sl <;> simp only [Shape.un] at h <;> try (cases h; done)
  rename_i q
  split at h
  ·rename_i e
   obtain ⟨y, h1, h2⟩ := PS.un_some p q.path x h
   obtain ⟨qn, qp⟩ := q
   exact ⟨y, by simp only [Shape.mk, h1]; rw [← Nat.eq_of_beq_eq_true e], h2⟩
  ·cases h
 | .clo f l, sl, x, k, r, h => by
  cases sl <;> simp only [Shape.un] at h <;> try (cases h; done)
  rename_i f' l'
  split at h
  ·rename_i e
   obtain ⟨y, h1, h2⟩ := Shape.unL_some l l' x h
   exact ⟨y, by simp only [Shape.mk, h1]; rw [← Nat.eq_of_beq_eq_true e], h2⟩
  ·cases h
theorem Shape.unL_some {R : Type} : ∀ (l : List Shape) (sl : List Slot) (x : R) {k : Shape.dnL l R → Option β} {r : β}, Shape.unL l sl x k = some r → ∃ y, Shape.mkL l y = (sl, x) ∧ k y = some r
 | [], [], x, k, r, h => ⟨x, rfl, h⟩
 | [], _ :: _, x, k, r, h => by simp [Shape.unL] at h
 | _ :: _, [], x, k, r, h => by simp [Shape.unL] at h
 | s :: l, s' :: l', x, k, r, h => by
  simp only [Shape.unL] at h
  obtain ⟨y, h1, h⟩ := Shape.unL_some l l' x h
  obtain ⟨z, h2, h⟩ := Shape.un_some s s' y h
  exact ⟨z, by simp only [Shape.mkL, h2, h1], h⟩
end
inductive RSh where
 | data (boxed : Bool) (t : Ty) (sh : Sh)
 | held (s : Shape)
def RSh.dn : RSh → Type → Type
 | .data _ t _, R => t.den × R
 | .held s, R => s.dn R
def RSh.mk {R : Type} : (s : RSh) → s.dn R → Root × R
 | .data b t sh, x => (.data b ⟨t, x.1⟩ sh, x.2)
 | .held s, x => let q := s.mk x; (.held q.1, q.2)
def RSh.un {R : Type} : (s : RSh) → Root → R → (s.dn R → Option β) → Option β
 | .data b t sh, .data b' d sh', x, k => match (b == b') && decide (sh' = sh) with
  | true => castK (t' := t) d.x fun y => k (y, x)
  | false => none
 | .held s, .held s', x, k => s.un s' x k
 | _, _, _, _ => none
theorem RSh.un_some {R : Type} : ∀ (s : RSh) (ro : Root) (x : R) {k : s.dn R → Option β} {r : β}, s.un ro x k = some r → ∃ y, s.mk y = (ro, x) ∧ k y = some r
 | .held s, ro, x, k, r, h => by
  cases ro <;> simp only [RSh.un] at h <;> try (cases h; done)
  obtain ⟨y, h1, h2⟩ := s.un_some _ x h
  exact ⟨y, by simp only [RSh.mk, h1], h2⟩
 | .data b t sh, ro, x, k, r, h => by
  cases ro <;> simp only [RSh.un] at h <;> try (cases h; done)
  rename_i b' d sh'
  split at h
  ·rename_i e
   simp only [Bool.and_eq_true, decide_eq_true_eq, beq_iff_eq] at e
   obtain ⟨rfl, rfl⟩ := e
   obtain ⟨e, h⟩ := castK_some h
   subst e
   exact ⟨(d.x, x), rfl, h⟩
  ·cases h
def slotsDn : List (Nat × Shape) → Type → Type
 | [], R => R
 | s :: l, R => s.2.dn (slotsDn l R)
def slotsMk {R : Type} : (l : List (Nat × Shape)) → slotsDn l R → List (Nat × Slot) × R
 | [], x => ([], x)
 | s :: l, x => let q := s.2.mk x; let q' := slotsMk l q.2; ((s.1, q.1) :: q'.1, q'.2)
def slotsUn {R : Type} : (l : List (Nat × Shape)) → List (Nat × Slot) → R → (slotsDn l R → Option β) → Option β
 | [], [], x, k => k x
 | s :: l, s' :: l', x, k => match Nat.beq s'.1 s.1 with
  | true => slotsUn l l' x fun y => s.2.un s'.2 y k
  | false => none
 | _, _, _, _ => none
theorem slotsUn_some {R : Type} : ∀ (l : List (Nat × Shape)) (l' : List (Nat × Slot)) (x : R) {k : slotsDn l R → Option β} {r : β}, slotsUn l l' x k = some r → ∃ y, slotsMk l y = (l', x) ∧ k y = some r
 | [], [], x, k, r, h => ⟨x, rfl, h⟩
 | [], _ :: _, x, k, r, h => by simp [slotsUn] at h
 | _ :: _, [], x, k, r, h => by simp [slotsUn] at h
 | (i, s) :: l, (j, s') :: l', x, k, r, h => by
  simp only [slotsUn] at h
  split at h
  ·rename_i e
   obtain ⟨y, h1, h⟩ := slotsUn_some l l' x h
   obtain ⟨z, h2, h⟩ := s.un_some s' y h
   exact ⟨z, by simp only [slotsMk, h2, h1]; rw [← Nat.eq_of_beq_eq_true e], h⟩
  ·cases h
def memDn : List (Name × RSh) → Type → Type
 | [], R => R
 | s :: l, R => s.2.dn (memDn l R)
def memMk {R : Type} : (l : List (Name × RSh)) → memDn l R → List (Name × Root) × R
 | [], x => ([], x)
 | s :: l, x => let q := s.2.mk x; let q' := memMk l q.2; ((s.1, q.1) :: q'.1, q'.2)
def memUn {R : Type} : (l : List (Name × RSh)) → List (Name × Root) → R → (memDn l R → Option β) → Option β
 | [], [], x, k => k x
 | s :: l, s' :: l', x, k => match Nat.beq s'.1 s.1 with
  | true => memUn l l' x fun y => s.2.un s'.2 y k
  | false => none
 | _, _, _, _ => none
theorem memUn_some {R : Type} : ∀ (l : List (Name × RSh)) (l' : List (Name × Root)) (x : R) {k : memDn l R → Option β} {r : β}, memUn l l' x k = some r → ∃ y, memMk l y = (l', x) ∧ k y = some r
 | [], [], x, k, r, h => ⟨x, rfl, h⟩
 | [], _ :: _, x, k, r, h => by simp [memUn] at h
 | _ :: _, [], x, k, r, h => by simp [memUn] at h
 | (i, s) :: l, (j, s') :: l', x, k, r, h => by
  simp only [memUn] at h
  split at h
  ·rename_i e
   obtain ⟨y, h1, h⟩ := memUn_some l l' x h
   obtain ⟨z, h2, h⟩ := s.un_some s' y h
   exact ⟨z, by simp only [memMk, h2, h1]; rw [← Nat.eq_of_beq_eq_true e], h⟩
  ·cases h
structure SSh where
 slots : List (Nat × Shape)
 mem : List (Name × RSh)
def SSh.den (S : SSh) : Type := slotsDn S.slots (memDn S.mem Unit)
def SSh.mk' (S : SSh) (x : S.den) : St := let q := slotsMk S.slots x; ⟨q.1, (memMk S.mem q.2).1⟩
def SSh.un (S : SSh) (σ : St) (k : S.den → Option β) : Option β :=
 memUn S.mem σ.mem () fun y => slotsUn S.slots σ.slots y k
theorem SSh.un_some (S : SSh) (σ : St) {k : S.den → Option β} {r : β} (h : S.un σ k = some r) : ∃ x, S.mk' x = σ ∧ k x = some r := by
 obtain ⟨y, h1, h⟩ := memUn_some S.mem σ.mem () h
 obtain ⟨x, h2, h⟩ := slotsUn_some S.slots σ.slots y h
 exact ⟨x, by simp only [SSh.mk', h2, h1], h⟩
def iter {X : Type} (R : (X → Option β) → X → Option β) : Nat → X → Option β
 | 0, _ => none
 | k + 1, x => R (iter R k) x
noncomputable def fuel : Nat := Classical.choose (⟨18446744073709551616, rfl⟩ : ∃ n, n = 18446744073709551616)
theorem fuel_eq : fuel = 18446744073709551616 := Classical.choose_spec (⟨18446744073709551616, rfl⟩ : ∃ n, n = 18446744073709551616)
structure LoopS (β : Type) where
 id : Nat
 sh : SSh
 R : Kont β → (sh.den → Option β) → sh.den → Option β
def findL : List (LoopS β) → Nat → Option (LoopS β)
 | [], _ => none
 | L :: l, i => match Nat.beq L.id i with | true => some L | false => findL l i
noncomputable def lpOf (tbl : List (LoopS β)) (i : Nat) (κ : Kont β) (σ : St) : Option β :=
 match findL tbl i with
 | some L => L.sh.un σ fun x => iter (L.R κ) fuel x
 | none => none
def loopsOf : Code → List Code
 | .seq a b => loopsOf a ++ loopsOf b
 | .cond _ a b => loopsOf a ++ loopsOf b
 | .block _ c => loopsOf c
 | .loop c => c :: loopsOf c
 | _ => []
def RoundOk (env : Env) (tbl : List (LoopS β)) (c : Code) : Prop :=
 findL tbl (headId c) = none ∨ ∃ L, findL tbl (headId c) = some L ∧ ∀ (κ : Kont β) (N : St → Option β) (x : L.sh.den),
  execK env (lpOf tbl) c { κ with normal := fun σ => N (σ.keepAt env.hints (headId c)) } (L.sh.mk' x) = L.R κ (fun x => N (L.sh.mk' x)) x
theorem loop_sum {env : Env} {tbl : List (LoopS β)} {c : Code} {L : LoopS β}
  (h : ∀ (κ : Kont β) (N : St → Option β) (x : L.sh.den), execK env (lpOf tbl) c { κ with normal := fun σ => N (σ.keepAt env.hints (headId c)) } (L.sh.mk' x) = L.R κ (fun x => N (L.sh.mk' x)) x)
  (κ : Kont β) : ∀ k x, loopN env.hints (headId c) (execK env (lpOf tbl) c) κ k (L.sh.mk' x) = iter (L.R κ) k x
 | 0, _ => rfl
 | k + 1, x => by
  refine (h κ (loopN env.hints (headId c) (execK env (lpOf tbl) c) κ k) x).trans ?_
  exact congrArg (fun f => L.R κ f x) (funext fun y => loop_sum h κ k y)
theorem loopsOk {env : Env} {tbl : List (LoopS β)} : ∀ {c : Code}, (∀ b, b ∈ loopsOf c → RoundOk env tbl b) → LoopsOk env (lpOf tbl) c := by
 intro c
 induction c with
 | seq a b iha ihb => intro h; exact ⟨iha fun x hx => h x (List.mem_append.2 (.inl hx)), ihb fun x hx => h x (List.mem_append.2 (.inr hx))⟩
 | cond v a b iha ihb => intro h; exact ⟨iha fun x hx => h x (List.mem_append.2 (.inl hx)), ihb fun x hx => h x (List.mem_append.2 (.inr hx))⟩
 | block id c ih => intro h; exact ih h
 | loop c ih =>
  intro h
  refine ⟨ih fun x hx => h x (List.mem_cons_of_mem _ hx), ?_⟩
  intro κ σ r hr
  rcases h c (List.mem_cons_self ..) with hN | ⟨L, hL, hR⟩
  ·unfold lpOf at hr
   rw [hN] at hr
   cases hr
  unfold lpOf at hr
  rw [hL] at hr
  dsimp only at hr
  obtain ⟨x, hx, hq⟩ := L.sh.un_some σ hr
  exact ⟨fuel, by rw [← hx]; exact (loop_sum hR κ fuel x).trans hq⟩
 | _ => intro _; trivial
end Go.V

/- Types, checked against the program's table. No condition. -/
namespace Go.V
def Ty.zcells : Ty → List Value
 | .int k => [.int k 0]
 | .bool => [.bool false]
 | .str => [.string ⟨#[]⟩]
 | .unit => []
 | .pair a b => a.zcells ++ b.zcells
 | .slice _ => [.slice none 0 0]
theorem rep_zero_flat {w : World} {O : Foot} : ∀ (t : Ty) (sh : Sh), t.flat = true → Rep w O t sh t.zero t.zcells Foot.none
 | .int k, _, _ => ⟨rfl, fun _ h => h⟩
 | .bool, _, _ => ⟨rfl, fun _ h => h⟩
 | .str, _, _ => ⟨rfl, fun _ h => h⟩
 | .unit, _, _ => ⟨rfl, fun _ h => h⟩
 | .pair a b, sh, h => by
  simp only [Ty.flat, Bool.and_eq_true] at h
  exact ⟨a.zcells, b.zcells, Foot.none, Foot.none, rfl, rep_zero_flat a sh.l h.1, rep_zero_flat b sh.r h.2, fun b => ⟨.inl, fun h => h.elim id id⟩, fun _ h => h.1⟩
 | .slice _, _, h => by simp [Ty.flat] at h
theorem rep_zero {w : World} {O : Foot} : ∀ (t : Ty), Rep w O t t.ownAll t.zero t.zcells Foot.none
 | .int k => ⟨rfl, fun _ h => h⟩
 | .bool => ⟨rfl, fun _ h => h⟩
 | .str => ⟨rfl, fun _ h => h⟩
 | .unit => ⟨rfl, fun _ h => h⟩
 | .slice _ => .inl ⟨rfl, rfl, fun _ h => h⟩
 | .pair a b => by
  cases hf : (Ty.pair a b).flat with
  | true => exact rep_zero_flat _ _ hf
  | false =>
   simp only [Ty.flat] at hf
   have e : (Ty.pair a b).ownAll = .pr a.ownAll b.ownAll := by simp only [Ty.ownAll, hf, Bool.false_eq_true, if_false]
   rw [e]
   exact ⟨a.zcells, b.zcells, Foot.none, Foot.none, rfl, rep_zero a, rep_zero b, fun b => ⟨.inl, fun h => h.elim id id⟩, fun _ h => h.1⟩
def sameCell : Value → Value → Bool
 | .int k n, .int k' n' => decide (k = k') && decide (n = n')
 | .bool a, .bool b => a == b
 | .string a, .string b => a.data.toList.isEmpty && b.data.toList.isEmpty
 | .slice none 0 0, .slice none 0 0 => true
 | _, _ => false
theorem sameCell_eq {a b : Value} (h : sameCell a b = true) : a = b := by
 unfold sameCell at h
 split at h
 ·simp only [Bool.and_eq_true, decide_eq_true_eq] at h; rw [h.1, h.2]
 ·simp only [beq_iff_eq] at h; rw [h]
 ·rename_i a b
  simp only [Bool.and_eq_true, List.isEmpty_iff] at h
  obtain ⟨⟨a⟩⟩ := a
  obtain ⟨⟨b⟩⟩ := b
  simp only at h
  rw [h.1, h.2]
 ·rfl
 ·cases h
def sameCells : List Value → List Value → Bool
 | [], [] => true
 | a :: l, b :: m => sameCell a b && sameCells l m
 | _, _ => false
theorem sameCells_eq : ∀ {l m : List Value}, sameCells l m = true → l = m
 | [], [], _ => rfl
 | a :: l, b :: m, h => by
  simp only [sameCells, Bool.and_eq_true] at h
  rw [sameCell_eq h.1, sameCells_eq h.2]
 | [], _ :: _, h => by simp [sameCells] at h
 | _ :: _, [], h => by simp [sameCells] at h
def zeroC (t : Ty) (z : Option Value) : Bool :=
 match z with
 | some v => match t.agg with
  | true => match v with
   | .agg cs => sameCells cs.toList t.zcells
   | _ => false
  | false => sameCells [v] t.zcells
 | none => false
theorem zeroC_ok {t : Ty} {z : Option Value} (h : zeroC t z = true) : ∃ v cs, z = some v ∧ Val t v cs ∧ ∀ w O, Rep w O t t.ownAll t.zero cs Foot.none := by
 unfold zeroC at h
 split at h
 case h_2 => cases h
 case h_1 v =>
  refine ⟨v, t.zcells, rfl, ?_, fun w O => rep_zero t⟩
  unfold Val
  split at h
  ·rename_i ha
   rw [ha]
   split at h
   ·rw [← sameCells_eq h]
   ·cases h
  ·rename_i ha
   rw [ha]
   exact (sameCells_eq h).symm
def infoC (P : Program) (t : Ty) (i : TypeId) : Bool :=
 match P.info? i with
 | some f => Nat.beq f.size t.size && (Nat.ble f.bytes 32768 && zeroC t f.zero)
 | none => false
theorem infoC_ok {P : Program} {t : Ty} {i : TypeId} (h : infoC P t i = true) :
  ∃ f, P.info? i = some f ∧ f.size = t.size ∧ f.bytes ≤ 32768 ∧ ∃ z cs, f.zero = some z ∧ Val t z cs ∧ ∀ w O, Rep w O t t.ownAll t.zero cs Foot.none := by
 unfold infoC at h
 split at h
 ·rename_i f hf
  simp only [Bool.and_eq_true] at h
  exact ⟨f, hf, Nat.eq_of_beq_eq_true h.1, Nat.le_of_ble_eq_true h.2.1, zeroC_ok h.2.2⟩
 ·cases h
def tyC (P : Program) : Ty → (TypeId → Bool) × (List Field → Nat → Bool)
 | .int k => (fun i => match P.underlying i with | some (.int k') => decide (k' = k) | _ => false, fun _ _ => false)
 | .bool => (fun i => match P.underlying i with | some .bool => true | _ => false, fun _ _ => false)
 | .str => (fun i => match P.underlying i with | some .string => true | _ => false, fun _ _ => false)
 | .slice e => (fun i => match P.underlying i with | some (.slice j) => (tyC P e).1 j && infoC P e j | _ => false, fun _ _ => false)
 | .unit => (fun i => match P.underlying i with | some (.struct fs) => !P.stoodInHeld i && fs.toList.isEmpty | _ => false, fun fs _ => fs.isEmpty)
 | .pair a b =>
  let q : List Field → Nat → Bool := fun fs off => match fs with
   | f :: r => Nat.beq f.offset off && (!(f.name == "_") && ((tyC P a).1 f.type && ((match P.info? f.type with | some i => Nat.beq i.size a.size | none => false) && (tyC P b).2 r (off + a.size))))
   | [] => false
  (fun i => match P.underlying i with | some (.struct fs) => !P.stoodInHeld i && q fs.toList 0 | _ => false, q)
theorem tyC_ok {P : Program} : ∀ {t : Ty}, (∀ {i : TypeId}, (tyC P t).1 i = true → (TyInfo P t).1 i) ∧ (∀ {fs : List Field} {off : Nat}, (tyC P t).2 fs off = true → (TyInfo P t).2 fs off) := by
 intro t
 induction t with
 | int k =>
  refine ⟨fun {i} h => ?_, fun h => by simp [tyC] at h⟩
  simp only [tyC] at h
  split at h
  ·rename_i k' hk
   simp only [decide_eq_true_eq] at h
   subst h
   exact hk
  ·cases h
 | bool =>
  refine ⟨fun {i} h => ?_, fun h => by simp [tyC] at h⟩
  simp only [tyC] at h
  split at h
  ·rename_i hk; exact hk
  ·cases h
 | str =>
  refine ⟨fun {i} h => ?_, fun h => by simp [tyC] at h⟩
  simp only [tyC] at h
  split at h
  ·rename_i hk; exact hk
  ·cases h
 | slice e ih =>
  refine ⟨fun {i} h => ?_, fun h => by simp [tyC] at h⟩
  simp only [tyC] at h
  split at h
  ·rename_i j hj
   simp only [Bool.and_eq_true] at h
   exact ⟨j, hj, ih.1 h.1, infoC_ok h.2⟩
  ·cases h
 | unit =>
  refine ⟨fun {i} h => ?_, fun {fs off} h => ?_⟩
  ·simp only [tyC] at h
   split at h
   ·rename_i fs hk
    simp only [Bool.and_eq_true, Bool.not_eq_true', List.isEmpty_iff] at h
    exact ⟨fs, hk, h.1, h.2⟩
   ·cases h
  ·simp only [tyC, List.isEmpty_iff] at h
   exact h
 | pair a b iha ihb =>
  have hq : ∀ {fs : List Field} {off : Nat}, (tyC P (.pair a b)).2 fs off = true → (TyInfo P (.pair a b)).2 fs off := by
   intro fs off h
   simp only [tyC] at h
   split at h
   ·rename_i f r
    simp only [Bool.and_eq_true, Bool.not_eq_true'] at h
    obtain ⟨h1, h2, h3, h4, h5⟩ := h
    refine ⟨f, r, rfl, Nat.eq_of_beq_eq_true h1, ?_, iha.1 h3, ?_, ihb.2 h5⟩
    ·intro e; rw [e] at h2; simp at h2
    ·split at h4
     ·rename_i i hi; exact ⟨i, hi, Nat.eq_of_beq_eq_true h4⟩
     ·cases h4
   ·cases h
  refine ⟨fun {i} h => ?_, hq⟩
  simp only [tyC] at h
  split at h
  ·rename_i fs hk
   rw [Bool.and_eq_true, Bool.not_eq_true'] at h
   exact ⟨fs, hk, h.1, hq (by simp only [tyC]; exact h.2)⟩
  ·cases h
def tyOkC (P : Program) (i : TypeId) (t : Ty) : Bool :=
 (tyC P t).1 i && ((!t.flat || !(P.eqGuardType P.depth i)) && (Nat.ble t.dep 10000 && infoC P t i))
theorem tyOkC_ok {P : Program} {i : TypeId} {t : Ty} (h : tyOkC P i t = true) : V.TyOk P i t := by
 unfold tyOkC at h
 simp only [Bool.and_eq_true] at h
 obtain ⟨h1, h2, h3, h4⟩ := h
 obtain ⟨f, hf, hs, hb, hz⟩ := infoC_ok h4
 refine ⟨tyC_ok.1 h1, fun hfl => ?_, Nat.le_of_ble_eq_true h3, f, hf, hs, hb, hz⟩
 rw [hfl] at h2
 simpa using h2
def oneC (P : Program) (i : TypeId) : Bool :=
 (match P.underlying i with | some (.pointer _) | some (.func _ _ _) => true | _ => false) &&
 match P.info? i with
 | some f => Nat.beq f.size 1 && (match f.zero with | some (.agg _) => false | some _ => true | none => false)
 | none => false
theorem oneC_ok {P : Program} {i : TypeId} (h : oneC P i = true) : (∀ w, (isAgg i).run P w = .ok false w) ∧ ∃ f, P.info? i = some f ∧ f.size = 1 ∧ ∃ z, f.zero = some z ∧ ∀ cs, z ≠ .agg cs := by
 unfold oneC at h
 rw [Bool.and_eq_true] at h
 obtain ⟨h1, h2⟩ := h
 constructor
 ·intro w
  unfold isAgg
  split at h1
  ·rename_i hu; simp [run_underlying hu]
  ·rename_i hu; simp [run_underlying hu]
  ·cases h1
 ·split at h2
  ·rename_i f hf
   rw [Bool.and_eq_true] at h2
   refine ⟨f, hf, Nat.eq_of_beq_eq_true h2.1, ?_⟩
   have h3 := h2.2
   split at h3
   ·cases h3
   ·rename_i z hz hn; exact ⟨_, hn, fun cs e => hz cs e⟩
   ·cases h3
  ·cases h2
def tyTab (l : List (TypeId × Ty)) (i : TypeId) : Option Ty := look l i
theorem lookT_mem {α : Type} : ∀ {l : List (Nat × α)} {i : Nat} {a : α}, look l i = some a → (i, a) ∈ l
 | [], i, a, h => by simp [look] at h
 | (j, b) :: l, i, a, h => by
  simp only [look] at h
  split at h
  ·rename_i e
   injection h with h
   rw [h, Nat.eq_of_beq_eq_true e]; exact List.mem_cons_self ..
  ·exact List.mem_cons_of_mem _ (lookT_mem h)
def oneTab (m : List TypeId) (i : TypeId) : Bool := m.any (Nat.beq i)
def tysC (P : Program) (l : List (TypeId × Ty)) (m : List TypeId) : Bool := l.all (fun x => tyOkC P x.1 x.2) && m.all (oneC P)
theorem tysC_ok {P : Program} {l : List (TypeId × Ty)} {m : List TypeId} (h : tysC P l m = true) {env : Env} (h1 : env.ty = tyTab l) (h2 : env.one = oneTab m) : env.TyOk P := by
 unfold tysC at h
 rw [Bool.and_eq_true, List.all_eq_true, List.all_eq_true] at h
 constructor
 ·intro i t hi
  rw [h1] at hi
  exact tyOkC_ok (h.1 _ (lookT_mem hi))
 ·intro i hi
  rw [h2] at hi
  simp only [oneTab, List.any_eq_true] at hi
  obtain ⟨j, hj, e⟩ := hi
  rw [Nat.eq_of_beq_eq_true e]
  exact oneC_ok (h.2 _ hj)
def fnTab (l : List (FuncId × Fun)) (f : FuncId) : Option Fun := look l f
theorem Fun.not_both {f : Fun} (h : f.quiet = true) : f.fresh = false := by
 obtain ⟨ps, rs, F⟩ := f
 unfold Fun.quiet at h
 unfold Fun.fresh
 cases rs with
 | nil => simp
 | cons x rs =>
  obtain ⟨t, sh⟩ := x
  simp only [Bool.and_eq_true, List.all_cons, decide_eq_true_eq] at h
  rw [h.1.2.1]
  simp
inductive Told (P : Program) : List (FuncId × Fun) → Prop where
 | nil : Told P []
 | cons {f : FuncId} {fu : Fun} {l : List (FuncId × Fun)} (h : QuietOk P f fu) (r : Told P l) (hq : fu.quiet = true := by rfl) : Told P ((f, fu) :: l)
 | consIo {f : FuncId} {fu : Fun} {l : List (FuncId × Fun)} (h : IoOk P f fu) (r : Told P l) (hq : fu.quiet = false := by rfl) (hr : fu.fresh = false := by rfl) : Told P ((f, fu) :: l)
 | consFr {f : FuncId} {fu : Fun} {l : List (FuncId × Fun)} (h : FreshOk P f fu) (r : Told P l) (hq : fu.quiet = false := by rfl) (hr : fu.fresh = true := by rfl) : Told P ((f, fu) :: l)
theorem Told.mem {P : Program} {l : List (FuncId × Fun)} (h : Told P l) : ∀ {f fu}, (f, fu) ∈ l → (fu.quiet = true → QuietOk P f fu) ∧ (fu.quiet = false → fu.fresh = false → IoOk P f fu) ∧ (fu.fresh = true → FreshOk P f fu) := by
 induction h with
 | nil => intro f fu h; cases h
 | cons hq _ hqq ih =>
  intro f fu h
  cases h with
  | head => exact ⟨fun _ => hq, (fun e => by rw [hqq] at e; cases e), fun e => by rw [Fun.not_both hqq] at e; cases e⟩
  | tail _ h => exact ih h
 | consIo hq _ hqq hr ih =>
  intro f fu h
  cases h with
  | head => exact ⟨fun e => (by rw [hqq] at e; cases e), fun _ _ => hq, fun e => by rw [hr] at e; cases e⟩
  | tail _ h => exact ih h
 | consFr hq _ hqq hr ih =>
  intro f fu h
  cases h with
  | head => exact ⟨fun e => (by rw [hqq] at e; cases e), fun _ e => (by rw [hr] at e; cases e), fun _ => hq⟩
  | tail _ h => exact ih h
inductive ToldX (P : Program) : List (FuncId × Fun) → Prop where
 | nil : ToldX P []
 | cons {f : FuncId} {fu : Fun} {l : List (FuncId × Fun)} (h : ExtOk P f fu) (r : ToldX P l) : ToldX P ((f, fu) :: l)
theorem ToldX.mem {P : Program} {l : List (FuncId × Fun)} (h : ToldX P l) : ∀ {f fu}, (f, fu) ∈ l → ExtOk P f fu := by
 induction h with
 | nil => intro f fu h; cases h
 | cons hq _ ih =>
  intro f fu h
  cases h with
  | head => exact hq
  | tail _ h => exact ih h
theorem Told.fnOk {P : Program} {l : List (FuncId × Fun)} (h : Told P l) {env : Env} (he : env.fn = fnTab l) (hx : ToldX P env.ext := by exact .nil) : env.FnOk P := by
 refine ⟨?_, fun f fu hf => hx.mem (lookT_mem hf)⟩
 intro f fu hf
 rw [he] at hf
 exact h.mem (lookT_mem hf)
end Go.V

/- Functions, told from their rounds. No condition. -/
namespace Go.V
variable {α β : Type}
def gd (c : Bool) (k : Option α) : Option α := match c with | true => k | false => none
@[simp] theorem gd_true (k : Option α) : gd true k = k := rfl
@[simp] theorem gd_false (k : Option α) : gd false k = none := rfl
inductive RoundsOk (env : Env) (tbl : List (LoopS β)) : List Code → Prop where
 | nil : RoundsOk env tbl []
 | cons {c : Code} {l : List Code} (L : LoopS β) (hL : findL tbl (headId c) = some L)
   (h : ∀ (κ : Kont β) (N : St → Option β) (x : L.sh.den), execK env (lpOf tbl) c { κ with normal := fun σ => N (σ.keepAt env.hints (headId c)) } (L.sh.mk' x) = L.R κ (fun x => N (L.sh.mk' x)) x)
   (r : RoundsOk env tbl l) : RoundsOk env tbl (c :: l)
 | skip {c : Code} {l : List Code} (hL : findL tbl (headId c) = none) (r : RoundsOk env tbl l) : RoundsOk env tbl (c :: l)
theorem RoundsOk.all {env : Env} {tbl : List (LoopS β)} {l : List Code} (h : RoundsOk env tbl l) : ∀ b, b ∈ l → RoundOk env tbl b := by
 induction h with
 | nil => intro b hb; cases hb
 | cons L hL hr _ ih =>
  intro b hb
  cases hb with
  | head => exact .inr ⟨L, hL, hr⟩
  | tail _ h => exact ih b h
 | skip hL _ ih =>
  intro b hb
  cases hb with
  | head => exact .inl hL
  | tail _ h => exact ih b h
def nthLoop (c : Code) (k : Nat) : Code := ((loopsOf c)[k]?).getD .skip
theorem told {P : Program} {env : Env} {f : FuncId} {fn : Func} {c : Code} {ps : List PM} {rs : List (Ty × Sh)} {F : Args ps → Option (Tup (rs.map (·.1) ++ ios ps))}
  {tbl : List (LoopS (Tup (rs.map (·.1) ++ ios ps)))} {ls : List Code} {vars : List ResultVar}
  (hf : P.funcs[f]? = some fn) (hty : env.TyOk P) (hfn : env.FnOk P) (hmk : env.marks = [])
  (hb : fn.body = some c) (hname : fn.name ≠ "runtime.NumGoroutine")
  (hn : env.n = fn.ntmps) (hps : ps.length ≤ fn.ntmps) (hio : ios ps = []) (hrs : (rs.all fun x => decide (x.2 = .z)) = true)
  (hv : fn.results.toList = vars)
  (hls : loopsOf c = ls) (hlp : RoundsOk env tbl ls)
  (he : runF env ps rs (lpOf tbl) c vars = F) : QuietOk P f ⟨ps, rs, F⟩ := by
 subst he
 subst hv
 exact quiet_fn hf hb hname hty hfn hmk hn ps rs hps hio hrs (lpOf tbl) (loopsOk (by rw [hls]; exact hlp.all))
theorem toldFr {P : Program} {env : Env} {f : FuncId} {fn : Func} {c : Code} {ps : List PM} {t : Ty} {sh : Sh} {rs : List (Ty × Sh)} {F : Args ps → Option (Tup (((t, sh) :: rs).map (·.1) ++ ios ps))}
  {tbl : List (LoopS (Tup (((t, sh) :: rs).map (·.1) ++ ios ps)))} {ls : List Code} {vars : List ResultVar}
  (hf : P.funcs[f]? = some fn) (hty : env.TyOk P) (hfn : env.FnOk P) (hmk : env.marks = [])
  (hb : fn.body = some c) (hname : fn.name ≠ "runtime.NumGoroutine")
  (hn : env.n = fn.ntmps) (hps : ps.length ≤ fn.ntmps) (hio : ios ps = []) (hsh : sh ≠ .z) (hrs : (rs.all fun x => decide (x.2 = .z)) = true)
  (hv : fn.results.toList = vars)
  (hls : loopsOf c = ls) (hlp : RoundsOk env tbl ls)
  (he : runF env ps ((t, sh) :: rs) (lpOf tbl) c vars = F) : FreshOk P f ⟨ps, (t, sh) :: rs, F⟩ := by
 subst he
 subst hv
 exact fresh_fn hf hb hname hty hfn hmk hn ps t sh rs hps hio hsh hrs (lpOf tbl) (loopsOk (by rw [hls]; exact hlp.all))
theorem toldIo {P : Program} {env : Env} {f : FuncId} {fn : Func} {c : Code} {t : Ty} {ps : List PM} {rs : List (Ty × Sh)} {F : Args (.io t .z :: ps) → Option (Tup (rs.map (·.1) ++ ios (.io t .z :: ps)))}
  {tbl : List (LoopS (Tup (rs.map (·.1) ++ ios (.io t .z :: ps))))} {ls : List Code} {vars : List ResultVar}
  (hf : P.funcs[f]? = some fn) (hty : env.TyOk P) (hfn : env.FnOk P) (hmk : env.marks = [])
  (hb : fn.body = some c) (hname : fn.name ≠ "runtime.NumGoroutine")
  (hn : env.n = fn.ntmps) (hps : ps.length + 1 ≤ fn.ntmps) (hfl : t.flat = true) (hno : noIo ps = true) (hrs : (rs.all fun x => x.1.flat && decide (x.2 = .z)) = true)
  (hv : fn.results.toList = vars)
  (hls : loopsOf c = ls) (hlp : ∀ p, RoundsOk { env with pin := p } tbl ls)
  (he : ∀ p, runF { env with pin := p } (.io t .z :: ps) rs (lpOf tbl) c vars = F) : IoOk P f ⟨.io t .z :: ps, rs, F⟩ := by
 subst hv
 exact io_fn hf hb hname hty hfn hmk hn t ps rs hps hfl hno hrs F (lpOf tbl) (fun p => loopsOk (by rw [hls]; exact (hlp p).all)) he
theorem toldOwn {P : Program} {env : Env} {f : FuncId} {fn : Func} {c : Code} {e : Ty} {s : Sh} {ps : List PM} {rs : List (Ty × Sh)} {F : Args (.io (.slice e) (.own s) :: ps) → Option (Tup (rs.map (·.1) ++ ios (.io (.slice e) (.own s) :: ps)))}
  {tbl : List (LoopS (Tup (rs.map (·.1) ++ ios (.io (.slice e) (.own s) :: ps))))} {ls : List Code} {vars : List ResultVar}
  (hf : P.funcs[f]? = some fn) (hty : env.TyOk P) (hfn : env.FnOk P) (hmk : env.marks = [])
  (hb : fn.body = some c) (hname : fn.name ≠ "runtime.NumGoroutine")
  (hn : env.n = fn.ntmps) (hps : ps.length + 1 ≤ fn.ntmps) (hno : noIo ps = true) (hrs : (rs.all fun x => x.1.flat && decide (x.2 = .z)) = true)
  (hv : fn.results.toList = vars)
  (hls : loopsOf c = ls) (hlp : ∀ p, RoundsOk { env with pin := p } tbl ls)
  (he : ∀ p, runF { env with pin := p } (.io (.slice e) (.own s) :: ps) rs (lpOf tbl) c vars = F) : IoOk P f ⟨.io (.slice e) (.own s) :: ps, rs, F⟩ := by
 subst hv
 exact own_fn hf hb hname hty hfn hmk hn e s ps rs hps hno hrs F (lpOf tbl) (fun p => loopsOk (by rw [hls]; exact (hlp p).all)) he
theorem toldTk {P : Program} {env : Env} {f : FuncId} {fn : Func} {c : Code} {t : Ty} {sh : Sh} {ps : List PM} {rs : List (Ty × Sh)} {F : Args (.tk t sh :: ps) → Option (Tup (rs.map (·.1) ++ ios (.tk t sh :: ps)))}
  {tbl : List (LoopS (Tup (rs.map (·.1) ++ ios (.tk t sh :: ps))))} {ls : List Code} {vars : List ResultVar}
  (hf : P.funcs[f]? = some fn) (hty : env.TyOk P) (hfn : env.FnOk P) (hmk : env.marks = [])
  (hb : fn.body = some c) (hname : fn.name ≠ "runtime.NumGoroutine")
  (hn : env.n = fn.ntmps) (hps : ps.length + 1 ≤ fn.ntmps) (hno : noIo ps = true) (hrs : (rs.all fun x => x.1.flat && decide (x.2 = .z)) = true)
  (hv : fn.results.toList = vars)
  (hls : loopsOf c = ls) (hlp : RoundsOk env tbl ls)
  (he : runF env (.tk t sh :: ps) rs (lpOf tbl) c vars = F) (hp : env.pin = .none := by rfl) : IoOk P f ⟨.tk t sh :: ps, rs, F⟩ := by
 subst he
 subst hv
 exact tk_fn hf hb hname hty hfn hmk hn t sh ps rs hps hno hrs (lpOf tbl) (loopsOk (by rw [hls]; exact hlp.all)) hp
def RoundEq (env : Env) (tbl : List (LoopS β)) (L : LoopS β) (c : Code) : Prop :=
 ∀ (κ : Kont β) (N : St → Option β) (x : L.sh.den), execK env (lpOf tbl) c { κ with normal := fun σ => N (σ.keepAt env.hints (headId c)) } (L.sh.mk' x) = L.R κ (fun x => N (L.sh.mk' x)) x
theorem tQ {P : Program} {f : FuncId} {fn : Func} {ps : List PM} {rs : List (Ty × Sh)} {F : Args ps → Option (Tup (rs.map (·.1) ++ ios ps))} {l : List (FuncId × Fun)} (env : Env) (tbl : List (LoopS (Tup (rs.map (·.1) ++ ios ps)))) (ls : List Code)
  (hf : P.funcs[f]? = some fn) (hty : env.TyOk P) (hl : Told P l) (hlp : RoundsOk env tbl ls) (hx : ToldX P env.ext := by exact .nil) (he1 : env.fn = fnTab l := by rfl) (hmk : env.marks = [] := by rfl)
  (hb : fn.body = some (codeOf fn) := by kernel_rfl) (hname : fn.name ≠ "runtime.NumGoroutine" := by decide) (hn : env.n = fn.ntmps := by rfl) (hps : ps.length ≤ fn.ntmps := by decide) (hio : ios ps = [] := by rfl)
  (hrs : (rs.all fun x => decide (x.2 = .z)) = true := by rfl) (hls : loopsOf (codeOf fn) = ls := by kernel_rfl) (he : runF env ps rs (lpOf tbl) (codeOf fn) fn.results.toList = F := by kernel_rfl) : QuietOk P f ⟨ps, rs, F⟩ :=
 told hf hty (Told.fnOk hl he1 hx) hmk hb hname hn hps hio hrs rfl hls hlp he
theorem tF {P : Program} {f : FuncId} {fn : Func} {ps : List PM} {t : Ty} {sh : Sh} {rs : List (Ty × Sh)} {F : Args ps → Option (Tup (((t, sh) :: rs).map (·.1) ++ ios ps))} {l : List (FuncId × Fun)} (env : Env) (tbl : List (LoopS (Tup (((t, sh) :: rs).map (·.1) ++ ios ps)))) (ls : List Code)
  (hf : P.funcs[f]? = some fn) (hty : env.TyOk P) (hl : Told P l) (hlp : RoundsOk env tbl ls) (hx : ToldX P env.ext := by exact .nil) (he1 : env.fn = fnTab l := by rfl) (hmk : env.marks = [] := by rfl)
  (hb : fn.body = some (codeOf fn) := by kernel_rfl) (hname : fn.name ≠ "runtime.NumGoroutine" := by decide) (hn : env.n = fn.ntmps := by rfl) (hps : ps.length ≤ fn.ntmps := by decide) (hio : ios ps = [] := by rfl) (hsh : sh ≠ .z := by decide)
  (hrs : (rs.all fun x => decide (x.2 = .z)) = true := by rfl) (hls : loopsOf (codeOf fn) = ls := by kernel_rfl) (he : runF env ps ((t, sh) :: rs) (lpOf tbl) (codeOf fn) fn.results.toList = F := by kernel_rfl) : FreshOk P f ⟨ps, (t, sh) :: rs, F⟩ :=
 toldFr hf hty (Told.fnOk hl he1 hx) hmk hb hname hn hps hio hsh hrs rfl hls hlp he
theorem tI {P : Program} {f : FuncId} {fn : Func} {t : Ty} {ps : List PM} {rs : List (Ty × Sh)} {F : Args (.io t .z :: ps) → Option (Tup (rs.map (·.1) ++ ios (.io t .z :: ps)))} {l : List (FuncId × Fun)} (env : Env) (tbl : List (LoopS (Tup (rs.map (·.1) ++ ios (.io t .z :: ps))))) (ls : List Code)
  (hf : P.funcs[f]? = some fn) (hty : env.TyOk P) (hl : Told P l) (hlp : ∀ p, RoundsOk { env with pin := p } tbl ls) (hx : ToldX P env.ext := by exact .nil) (he1 : env.fn = fnTab l := by rfl) (hmk : env.marks = [] := by rfl)
  (hb : fn.body = some (codeOf fn) := by kernel_rfl) (hname : fn.name ≠ "runtime.NumGoroutine" := by decide) (hn : env.n = fn.ntmps := by rfl) (hps : ps.length + 1 ≤ fn.ntmps := by decide) (hfl : t.flat = true := by rfl) (hno : noIo ps = true := by rfl)
  (hrs : (rs.all fun x => x.1.flat && decide (x.2 = .z)) = true := by rfl) (hls : loopsOf (codeOf fn) = ls := by kernel_rfl) (he : ∀ p, runF { env with pin := p } (.io t .z :: ps) rs (lpOf tbl) (codeOf fn) fn.results.toList = F := by intro p; kernel_rfl) : IoOk P f ⟨.io t .z :: ps, rs, F⟩ :=
 toldIo hf hty (Told.fnOk hl he1 hx) hmk hb hname hn hps hfl hno hrs rfl hls hlp he
theorem tO {P : Program} {f : FuncId} {fn : Func} {e : Ty} {s : Sh} {ps : List PM} {rs : List (Ty × Sh)} {F : Args (.io (.slice e) (.own s) :: ps) → Option (Tup (rs.map (·.1) ++ ios (.io (.slice e) (.own s) :: ps)))} {l : List (FuncId × Fun)} (env : Env) (tbl : List (LoopS (Tup (rs.map (·.1) ++ ios (.io (.slice e) (.own s) :: ps))))) (ls : List Code)
  (hf : P.funcs[f]? = some fn) (hty : env.TyOk P) (hl : Told P l) (hlp : ∀ p, RoundsOk { env with pin := p } tbl ls) (hx : ToldX P env.ext := by exact .nil) (he1 : env.fn = fnTab l := by rfl) (hmk : env.marks = [] := by rfl)
  (hb : fn.body = some (codeOf fn) := by kernel_rfl) (hname : fn.name ≠ "runtime.NumGoroutine" := by decide) (hn : env.n = fn.ntmps := by rfl) (hps : ps.length + 1 ≤ fn.ntmps := by decide) (hno : noIo ps = true := by rfl)
  (hrs : (rs.all fun x => x.1.flat && decide (x.2 = .z)) = true := by rfl) (hls : loopsOf (codeOf fn) = ls := by kernel_rfl) (he : ∀ p, runF { env with pin := p } (.io (.slice e) (.own s) :: ps) rs (lpOf tbl) (codeOf fn) fn.results.toList = F := by intro p; kernel_rfl) : IoOk P f ⟨.io (.slice e) (.own s) :: ps, rs, F⟩ :=
 toldOwn hf hty (Told.fnOk hl he1 hx) hmk hb hname hn hps hno hrs rfl hls hlp he
theorem tK {P : Program} {f : FuncId} {fn : Func} {t : Ty} {sh : Sh} {ps : List PM} {rs : List (Ty × Sh)} {F : Args (.tk t sh :: ps) → Option (Tup (rs.map (·.1) ++ ios (.tk t sh :: ps)))} {l : List (FuncId × Fun)} (env : Env) (tbl : List (LoopS (Tup (rs.map (·.1) ++ ios (.tk t sh :: ps))))) (ls : List Code)
  (hf : P.funcs[f]? = some fn) (hty : env.TyOk P) (hl : Told P l) (hlp : RoundsOk env tbl ls) (hx : ToldX P env.ext := by exact .nil) (he1 : env.fn = fnTab l := by rfl) (hmk : env.marks = [] := by rfl)
  (hb : fn.body = some (codeOf fn) := by kernel_rfl) (hname : fn.name ≠ "runtime.NumGoroutine" := by decide) (hn : env.n = fn.ntmps := by rfl) (hps : ps.length + 1 ≤ fn.ntmps := by decide) (hno : noIo ps = true := by rfl)
  (hrs : (rs.all fun x => x.1.flat && decide (x.2 = .z)) = true := by rfl) (hls : loopsOf (codeOf fn) = ls := by kernel_rfl) (he : runF env (.tk t sh :: ps) rs (lpOf tbl) (codeOf fn) fn.results.toList = F := by kernel_rfl) (hp : env.pin = .none := by rfl) : IoOk P f ⟨.tk t sh :: ps, rs, F⟩ :=
 toldTk hf hty (Told.fnOk hl he1 hx) hmk hb hname hn hps hno hrs rfl hls hlp he hp
theorem QuietOk.none {P : Program} {f : FuncId} {fn : Func} {fu : Fun} (hf : P.funcs[f]? = some fn) (hb : fn.body.isSome = true) (hname : fn.name ≠ "runtime.NumGoroutine") (h : ∀ x, fu.F x = .none) : QuietOk P f fu := by
 refine ⟨⟨fn, hf, hb, hname⟩, ?_⟩
 intro w O as vs r _ _ hr
 rw [h] at hr
 cases hr
theorem FreshOk.none {P : Program} {f : FuncId} {fn : Func} {ps : List PM} {t : Ty} {sh : Sh} {rs : List (Ty × Sh)} {F : Args ps → Option (Tup (((t, sh) :: rs).map (·.1) ++ ios ps))} (hf : P.funcs[f]? = some fn) (hb : fn.body.isSome = true) (hname : fn.name ≠ "runtime.NumGoroutine") (h : ∀ x, F x = .none) :
  FreshOk P f ⟨ps, (t, sh) :: rs, F⟩ := by
 refine ⟨⟨fn, hf, hb, hname⟩, ?_⟩
 intro w O as vs r _ _ hr
 rw [h] at hr
 cases hr
end Go.V

/- What a row reads as data is data of the evaluator. No condition. -/
namespace Go.V
def Wf : (t : Ty) → t.den → Prop
 | .int k, n => (Lit.int k n).wf = true
 | .bool, _ => True
 | .str, l => (asS l).length ≤ maxLen
 | .unit, _ => True
 | .pair a b, x => Wf a x.1 ∧ Wf b x.2
 | .slice e, l => (asL l).length ≤ maxLen ∧ ∀ y, y ∈ asL l → Wf e y
def Ty.pos : Ty → Bool
 | .slice e => Nat.blt 0 e.size && e.pos
 | .pair a b => a.pos && b.pos
 | _ => true
variable {H : Type} {enc : TypeId × Value → H} {P : Program} {w : World} {spare : Nat → Bool} {held : Bool}
theorem mapM_each {α β : Type} {f : α → Option β} : ∀ {l : List α} {ys : List β}, l.mapM f = some ys → ∀ x, x ∈ l → ∃ y, f x = some y
 | [], _, _, x, hx => by cases hx
 | a :: l, ys, h, x, hx => by
  rw [List.mapM_cons] at h
  cases h1 : f a with
  | none => rw [h1] at h; cases h
  | some y =>
   rw [h1] at h
   cases h2 : l.mapM f with
   | none => simp [h2] at h
   | some zs =>
    cases hx with
    | head => exact ⟨y, h1⟩
    | tail _ hx => exact mapM_each h2 x hx
theorem els_of {e : Ty} {n : Nat} {a : Addr} {Q : e.den → Prop} : ∀ (m s : Nat), (∀ k, s ≤ k → k < s + m → ∃ x cs, Rep w Foot.none e .z x cs Foot.none ∧ Q x ∧ cs.length = n ∧ ∀ i, i < n → w.cell? ((a.add (k * n)).add i) = cs[i]?) →
  ∃ (xs : List e.den) (cl : List Value), xs.length = m ∧ Els (Rep w Foot.none e .z) xs cl Foot.none ∧ (∀ y, y ∈ xs → Q y) ∧ cl.length = m * n ∧ ∀ i, i < m * n → w.cell? (a.add (s * n + i)) = cl[i]?
 | 0, s, _ => ⟨[], [], rfl, ⟨rfl, fun _ h => h⟩, fun _ h => (by cases h), (by simp), fun i hi => (by omega)⟩
 | m + 1, s, h => by
  obtain ⟨x, cs, hr, hq, hl, hc⟩ := h s (Nat.le_refl _) (by omega)
  obtain ⟨xs, cl, g1, g2, g3, g4, g5⟩ := els_of (a := a) (Q := Q) m (s + 1) fun k h1 h2 => h k (by omega) (by omega)
  have add_add : ∀ p q : Nat, (a.add p).add q = a.add (p + q) ∨ (p = 0 ∧ q = 0) := by
   intro p q
   unfold Addr.add
   by_cases hp : p = 0
   ·by_cases hq : q = 0
    ·exact .inr ⟨hp, hq⟩
    ·left; simp [hp, hq]
   ·left
    by_cases hq : q = 0
    ·simp [hp, hq]
    ·simp [hp, hq, Nat.add_assoc]
  refine ⟨x :: xs, cs ++ cl, by simp [g1], ⟨cs, cl, Foot.none, Foot.none, rfl, hr, g2, fun b => ⟨.inl, fun h => h.elim id id⟩, fun _ h => h.1⟩, ?_, ?_, ?_⟩
  ·intro y hy
   cases hy with
   | head => exact hq
   | tail _ hy => exact g3 y hy
  ·rw [List.length_append, hl, g4, Nat.succ_mul]; omega
  ·intro i hi
   by_cases hin : i < n
   ·rw [List.getElem?_append_left (by rw [hl]; exact hin), ← hc i hin]
    rcases add_add (s * n) i with h | ⟨h1, h2⟩
    ·rw [h]
    ·rw [h1, h2]; rfl
   ·rw [List.getElem?_append_right (by rw [hl]; omega), hl, ← g5 (i - n) (by rw [Nat.succ_mul] at hi; omega)]
    congr 2
    rw [Nat.succ_mul]; omega
theorem trod_rep : ∀ (t : Ty), t.pos = true →
  (∀ {i fuel : Nat} {cs : List Value} {d : DataW H} {ps : List MemPlace}, (TyInfo P t).1 i → DataW.trod enc P w 0 spare held fuel i cs = some (d, ps) → P.cellsOf i = t.size → ∃ x : t.den, Rep w Foot.none t .z x cs Foot.none ∧ Wf t x) ∧
  (∀ {fs : List Field} {off fuel : Nat} {cs : List Value} {xs : List (DataW H × List MemPlace)}, (TyInfo P t).2 fs off → cs.length = off + t.size →
   (fs.mapM fun f => DataW.trod enc P w 0 spare held fuel f.type ((cs.drop f.offset).take (P.cellsOf f.type))) = some xs → ∃ x : t.den, Rep w Foot.none t .z x (cs.drop off) Foot.none ∧ Wf t x) := by
 intro t
 induction t with
 | int k =>
  intro _
  refine ⟨fun {i fuel cs d ps} hi h _ => ?_, fun h => h.elim⟩
  have hi : P.underlying i = some (.int k) := hi
  cases fuel with
  | zero => simp [DataW.trod] at h
  | succ fuel =>
   unfold DataW.trod at h
   split at h <;> rename_i h1 <;> rw [hi] at h1 <;> try (cases h1; done)
   ·injection h1 with h1
    injection h1 with h1
    subst h1
    split at h
    ·rename_i hc
     obtain ⟨rfl, hw⟩ := hc
     exact ⟨_, ⟨rfl, fun _ h => h⟩, hw⟩
    ·cases h
   all_goals cases h
 | bool =>
  intro _
  refine ⟨fun {i fuel cs d ps} hi h _ => ?_, fun h => h.elim⟩
  have hi : P.underlying i = some .bool := hi
  cases fuel with
  | zero => simp [DataW.trod] at h
  | succ fuel =>
   unfold DataW.trod at h
   split at h <;> rename_i h1 <;> rw [hi] at h1 <;> try (cases h1; done)
   ·exact ⟨_, ⟨rfl, fun _ h => h⟩, trivial⟩
   all_goals cases h
 | str =>
  intro _
  refine ⟨fun {i fuel cs d ps} hi h _ => ?_, fun h => h.elim⟩
  have hi : P.underlying i = some .string := hi
  cases fuel with
  | zero => simp [DataW.trod] at h
  | succ fuel =>
   unfold DataW.trod at h
   split at h <;> rename_i h1 <;> rw [hi] at h1 <;> try (cases h1; done)
   ·rename_i s
    split at h
    ·rename_i hs
     refine ⟨s.data.toList, ⟨by obtain ⟨⟨l⟩⟩ := s; rfl, fun _ h => h⟩, ?_⟩
     obtain ⟨⟨l⟩⟩ := s
     exact hs
    ·cases h
   all_goals cases h
 | unit =>
  intro _
  refine ⟨fun {i fuel cs d ps} hi h hsz => ?_, fun {fs off fuel cs xs} _ hl _ => ?_⟩
  ·obtain ⟨fs, hi, _, hfs⟩ := hi
   cases fuel with
   | zero => simp [DataW.trod] at h
   | succ fuel =>
    unfold DataW.trod at h
    split at h <;> rename_i h1 <;> rw [hi] at h1 <;> try (cases h1; done)
    ·split at h
     ·rename_i hlen
      rw [hsz] at hlen
      exact ⟨(), ⟨List.eq_nil_of_length_eq_zero hlen, fun _ h => h⟩, trivial⟩
     ·cases h
    all_goals cases h
  ·exact ⟨(), ⟨List.drop_eq_nil_of_le (by rw [hl]; exact Nat.le_refl _), fun _ h => h⟩, trivial⟩
 | pair a b iha ihb =>
  intro hpos
  simp only [Ty.pos, Bool.and_eq_true] at hpos
  have second : ∀ {fs : List Field} {off fuel : Nat} {cs : List Value} {xs : List (DataW H × List MemPlace)}, (TyInfo P (.pair a b)).2 fs off → cs.length = off + (Ty.pair a b).size →
    (fs.mapM fun f => DataW.trod enc P w 0 spare held fuel f.type ((cs.drop f.offset).take (P.cellsOf f.type))) = some xs → ∃ x : (Ty.pair a b).den, Rep w Foot.none (.pair a b) .z x (cs.drop off) Foot.none ∧ Wf (.pair a b) x := by
   intro fs off fuel cs xs hq hl hx
   obtain ⟨f, r, rfl, hoff, _, hta, ⟨ii, hii, his⟩, htb⟩ := hq
   rw [List.mapM_cons] at hx
   cases h1 : DataW.trod enc P w 0 spare held fuel f.type ((cs.drop f.offset).take (P.cellsOf f.type)) with
   | none => rw [h1] at hx; cases hx
   | some y =>
    rw [h1] at hx
    cases h2 : (r.mapM fun f => DataW.trod enc P w 0 spare held fuel f.type ((cs.drop f.offset).take (P.cellsOf f.type))) with
    | none => simp [h2] at hx
    | some ys =>
     have hca : P.cellsOf f.type = a.size := by unfold Program.cellsOf; rw [hii]; exact his
     obtain ⟨x, hrx, hwx⟩ := (iha hpos.1).1 hta (d := y.1) (ps := y.2) h1 hca
     obtain ⟨z, hrz, hwz⟩ := (ihb hpos.2).2 htb (by rw [hl]; simp only [Ty.size]; omega) h2
     refine ⟨(x, z), ⟨_, _, Foot.none, Foot.none, ?_, hrx, hrz, fun b => ⟨.inl, fun h => h.elim id id⟩, fun _ h => h.1⟩, hwx, hwz⟩
     rw [hoff, hca, ← List.drop_drop, List.take_append_drop]
  refine ⟨fun {i fuel cs d ps} hi h hsz => ?_, fun hq hl hx => second hq hl hx⟩
  obtain ⟨fs, hi, _, hq⟩ := hi
  cases fuel with
  | zero => simp [DataW.trod] at h
  | succ fuel =>
   unfold DataW.trod at h
   split at h <;> rename_i h1 <;> rw [hi] at h1 <;> try (cases h1; done)
   ·injection h1 with h1
    injection h1 with h1
    subst h1
    split at h
    ·rename_i hlen
     rw [hsz] at hlen
     rw [Option.map_eq_some_iff] at h
     obtain ⟨xs, hxs, _⟩ := h
     have := second (off := 0) hq (by rw [hlen]; omega) hxs
     rwa [List.drop_zero] at this
    ·cases h
   all_goals cases h
 | slice e ih =>
  intro hpos
  simp only [Ty.pos, Bool.and_eq_true] at hpos
  have hsz0 : 0 < e.size := by simpa using hpos.1
  refine ⟨fun {i fuel cs d ps} hi h _ => ?_, fun h => h.elim⟩
  obtain ⟨j, hi, hj, ⟨f, hf, hfs, _⟩⟩ := hi
  have hcells : P.cellsOf j = e.size := by unfold Program.cellsOf; rw [hf]; exact hfs
  cases fuel with
  | zero => simp [DataW.trod] at h
  | succ fuel =>
   unfold DataW.trod at h
   split at h <;> rename_i h1 <;> rw [hi] at h1 <;> try (cases h1; done)
   ·exact ⟨[], ⟨fun _ h => h, none, 0, rfl, Nat.le_refl _, fun _ => rfl, fun _ h => (by cases h), .inl rfl⟩, Nat.zero_le _, fun _ h => (by cases h)⟩
   ·rename_i ad len cap
    injection h1 with h1
    injection h1 with h1
    subst h1
    dsimp only at h
    split at h
    case isFalse => cases h
    case isTrue hc =>
     obtain ⟨_, hlc, hcm⟩ := hc
     cases hm : ((List.range len).mapM fun i => (w.cells? 0 (ad.add (i * P.cellsOf j)) (P.cellsOf j)).bind (DataW.trod enc P w 0 spare held fuel j)) with
     | none => rw [hm] at h; cases h
     | some elems =>
      obtain ⟨xs, cl, g1, g2, g3, g4, g5⟩ := els_of (w := w) (e := e) (n := e.size) (a := ad) (Q := Wf e) len 0 fun k _ hk => by
       obtain ⟨y, hy⟩ := mapM_each hm k (by simpa using hk)
       rw [hcells] at hy
       cases hcs : w.cells? 0 (ad.add (k * e.size)) e.size with
       | none => rw [hcs] at hy; cases hy
       | some cs =>
        rw [hcs] at hy
        obtain ⟨_, hl, hcc⟩ := World.cells?_some hcs
        obtain ⟨x, hr, hw⟩ := (ih hpos.2).1 hj (d := y.1) (ps := y.2) hy hcells
        exact ⟨x, cs, hr, hw, hl, hcc⟩
      have hsp : 0 < len → ad.spot = none ∧ ad.block < w.heap.size := by
       intro h0
       have hpos' : 0 < len * e.size := Nat.mul_pos h0 hsz0
       have hc0 := g5 0 hpos'
       rw [List.getElem?_eq_getElem (by omega)] at hc0
       have ha : ad.add (0 * e.size + 0) = ad := by simp [Addr.add]
       rw [ha] at hc0
       unfold World.cell? at hc0
       split at hc0
       ·rename_i C _ _ hb
        refine ⟨?_, (Array.getElem?_eq_some_iff.1 hb).1⟩
        cases hs : ad.spot with
        | none => rfl
        | some _ => rw [hs] at hc0; simp at hc0
       ·cases hc0
      refine ⟨xs, ⟨fun _ h => h, some ad, cap, by rw [← g1], by rw [← g1] at hlc; exact hlc, fun h => (by cases h), ?_, ?_⟩, ?_, g3⟩
      ·intro _ _; rfl
      ·by_cases h0 : len = 0
       ·exact .inl (List.eq_nil_of_length_eq_zero (g1.trans h0))
       ·right
        obtain ⟨hs, hb⟩ := hsp (Nat.pos_of_ne_zero h0)
        obtain ⟨b, off, sp⟩ := ad
        dsimp only at hs hb
        subst hs
        refine ⟨b, off, cl, rfl, hb, fun h => h, g2, fun i hi => ?_⟩
        rw [← g5 i (by omega)]
        congr 1
        unfold Addr.add
        by_cases hi0 : i = 0
        ·subst hi0; simp
        ·simp [hi0]
      ·rw [show (asL xs).length = len from g1]; omega
   all_goals cases h
end Go.V

/- From the row's reading to the call, and back. No condition. -/
namespace Go.V
variable {H : Type} {enc : TypeId × Value → H} {P : Program} {w w' : World} {held : Bool} {sp : Nat → Bool}
theorem cells_row {a : Addr} {n : Nat} {cs : List Value} (h : w.cells? 0 a n = some cs) (hs : ∀ p ∈ MemPlace.row a n, w.sameAt w' p) : w'.cells? 0 a n = some cs :=
 World.cells?_carry h hs
theorem mapM_len {α β : Type} {f : α → Option β} : ∀ {l : List α} {r : List β}, l.mapM f = some r → r.length = l.length
 | [], r, h => by
  rw [List.mapM_nil] at h
  injection h with h
  subst h; rfl
 | a :: l, r, h => by
  rw [List.mapM_cons] at h
  cases h1 : f a with
  | none => rw [h1] at h; cases h
  | some y =>
   rw [h1] at h
   cases h2 : l.mapM f with
   | none => simp [h2] at h
   | some ys =>
    simp only [h2, Option.bind_eq_bind, Option.bind_some, Option.pure_def, Option.some.injEq] at h
    subst h
    simp [mapM_len h2]
theorem trod_again : ∀ (t : Ty), t.pos = true →
  (∀ {i fuel : Nat} {cs : List Value} {d : DataW H} {ps : List MemPlace}, (TyInfo P t).1 i → P.cellsOf i = t.size → DataW.trod enc P w 0 (fun _ => true) held fuel i cs = some (d, ps) →
   (∀ p ∈ ps, w.sameAt w' p) → (∀ p ∈ ps, sp p.block = true) → DataW.trod enc P w' 0 sp held fuel i cs = some (d, ps)) ∧
  (∀ {fs : List Field} {off fuel : Nat} {cs : List Value} {xs : List (DataW H × List MemPlace)}, (TyInfo P t).2 fs off →
   (fs.mapM fun f => DataW.trod enc P w 0 (fun _ => true) held fuel f.type ((cs.drop f.offset).take (P.cellsOf f.type))) = some xs →
   (∀ p ∈ xs.flatMap (·.2), w.sameAt w' p) → (∀ p ∈ xs.flatMap (·.2), sp p.block = true) →
   (fs.mapM fun f => DataW.trod enc P w' 0 sp held fuel f.type ((cs.drop f.offset).take (P.cellsOf f.type))) = some xs) := by
 intro t
 induction t with
 | int k =>
  intro _
  refine ⟨fun {i fuel cs d ps} hi _ h _ _ => ?_, fun h => h.elim⟩
  have hi : P.underlying i = some (.int k) := hi
  cases fuel with
  | zero => simp [DataW.trod] at h
  | succ fuel =>
   unfold DataW.trod at h
   split at h <;> rename_i h1 <;> rw [hi] at h1 <;> try (cases h1; done)
   ·injection h1 with h1
    injection h1 with h1
    subst h1
    unfold DataW.trod
    rw [hi]
    exact h
   all_goals cases h
 | bool =>
  intro _
  refine ⟨fun {i fuel cs d ps} hi _ h _ _ => ?_, fun h => h.elim⟩
  have hi : P.underlying i = some .bool := hi
  cases fuel with
  | zero => simp [DataW.trod] at h
  | succ fuel =>
   unfold DataW.trod at h
   split at h <;> rename_i h1 <;> rw [hi] at h1 <;> try (cases h1; done)
   ·unfold DataW.trod
    rw [hi]
    exact h
   all_goals cases h
 | str =>
  intro _
  refine ⟨fun {i fuel cs d ps} hi _ h _ _ => ?_, fun h => h.elim⟩
  have hi : P.underlying i = some .string := hi
  cases fuel with
  | zero => simp [DataW.trod] at h
  | succ fuel =>
   unfold DataW.trod at h
   split at h <;> rename_i h1 <;> rw [hi] at h1 <;> try (cases h1; done)
   ·unfold DataW.trod
    rw [hi]
    exact h
   all_goals cases h
 | unit =>
  intro _
  refine ⟨fun {i fuel cs d ps} hi _ h hs hq => ?_, fun {fs off fuel cs xs} hf h _ _ => ?_⟩
  ·obtain ⟨fs, hi, _, hfs⟩ := hi
   cases fuel with
   | zero => simp [DataW.trod] at h
   | succ fuel =>
    unfold DataW.trod at h ⊢
    rw [hi] at h ⊢
    dsimp only at h ⊢
    rw [hfs] at h ⊢
    exact h
  ·have hf : fs = [] := hf
   subst hf
   exact h
 | pair a b iha ihb =>
  intro hpos
  simp only [Ty.pos, Bool.and_eq_true] at hpos
  have second : ∀ {fs : List Field} {off fuel : Nat} {cs : List Value} {xs : List (DataW H × List MemPlace)}, (TyInfo P (.pair a b)).2 fs off →
    (fs.mapM fun f => DataW.trod enc P w 0 (fun _ => true) held fuel f.type ((cs.drop f.offset).take (P.cellsOf f.type))) = some xs →
    (∀ p ∈ xs.flatMap (·.2), w.sameAt w' p) → (∀ p ∈ xs.flatMap (·.2), sp p.block = true) →
    (fs.mapM fun f => DataW.trod enc P w' 0 sp held fuel f.type ((cs.drop f.offset).take (P.cellsOf f.type))) = some xs := by
   intro fs off fuel cs xs hq hx hs hsp
   obtain ⟨f, r, rfl, hoff, _, hta, ⟨ii, hii, his⟩, htb⟩ := hq
   rw [List.mapM_cons] at hx ⊢
   cases h1 : DataW.trod enc P w 0 (fun _ => true) held fuel f.type ((cs.drop f.offset).take (P.cellsOf f.type)) with
   | none => rw [h1] at hx; cases hx
   | some y =>
    rw [h1] at hx
    cases h2 : (r.mapM fun f => DataW.trod enc P w 0 (fun _ => true) held fuel f.type ((cs.drop f.offset).take (P.cellsOf f.type))) with
    | none => simp [h2] at hx
    | some ys =>
     simp only [h2, Option.bind_eq_bind, Option.bind_some, Option.pure_def, Option.some.injEq] at hx
     subst hx
     have hca : P.cellsOf f.type = a.size := by unfold Program.cellsOf; rw [hii]; exact his
     have g1 := (iha hpos.1).1 hta hca (d := y.1) (ps := y.2) h1 (fun p hp => hs p (by simp [hp])) (fun p hp => hsp p (by simp [hp]))
     have g2 := (ihb hpos.2).2 htb h2 (fun p hp => hs p (by simp only [List.flatMap_cons, List.mem_append]; exact .inr hp)) (fun p hp => hsp p (by simp only [List.flatMap_cons, List.mem_append]; exact .inr hp))
     rw [g1, g2]
     rfl
  refine ⟨fun {i fuel cs d ps} hi hsz h hs hq => ?_, fun hq hx h1 h2 => second hq hx h1 h2⟩
  obtain ⟨fs, hi, _, hq'⟩ := hi
  cases fuel with
  | zero => simp [DataW.trod] at h
  | succ fuel =>
   unfold DataW.trod at h ⊢
   rw [hi] at h ⊢
   dsimp only at h ⊢
   split at h
   ·rename_i hlen
    rw [if_pos hlen]
    rw [Option.map_eq_some_iff] at h
    obtain ⟨xs, hxs, he⟩ := h
    injection he with he1 he2
    subst he1; subst he2
    rw [second (off := 0) hq' hxs hs hq]
    rfl
   ·cases h
 | slice e ih =>
  intro hpos
  simp only [Ty.pos, Bool.and_eq_true] at hpos
  have hsz0 : 0 < e.size := by simpa using hpos.1
  refine ⟨fun {i fuel cs d ps} hi _ h hs hq => ?_, fun h => h.elim⟩
  obtain ⟨j, hi, hj, ⟨f, hf, hfs, _⟩⟩ := hi
  have hcells : P.cellsOf j = e.size := by unfold Program.cellsOf; rw [hf]; exact hfs
  cases fuel with
  | zero => simp [DataW.trod] at h
  | succ fuel =>
   unfold DataW.trod at h
   split at h <;> rename_i h1 <;> rw [hi] at h1 <;> try (cases h1; done)
   ·unfold DataW.trod
    rw [hi]
    exact h
   ·rename_i ad len cap
    injection h1 with h1
    injection h1 with h1
    subst h1
    dsimp only at h
    split at h
    case isFalse => cases h
    case isTrue hc =>
     unfold DataW.trod
     rw [hi]
     dsimp only
     rw [if_pos hc]
     simp only [if_true] at h
     cases hm : ((List.range len).mapM fun i => (w.cells? 0 (ad.add (i * P.cellsOf j)) (P.cellsOf j)).bind (DataW.trod enc P w 0 (fun _ => true) held fuel j)) with
     | none => rw [hm] at h; cases h
     | some elems =>
      rw [hm, Option.bind_some] at h
      cases hr : ((List.range (cap - len)).mapM fun k => (w.cells? 0 (ad.add ((len + k) * P.cellsOf j)) (P.cellsOf j)).bind (DataW.trod enc P w 0 (fun _ => true) held fuel j)) with
      | none => rw [hr] at h; cases h
      | some rest =>
       rw [hr, Option.map_some] at h
       injection h with h
       injection h with h2 h3
       subst h2; subst h3
       have l1 := mapM_len hm
       have l2 := mapM_len hr
       rw [List.length_range] at l1 l2
       have one : ∀ (k : Nat) (y : DataW H × List MemPlace), k < elems.length + rest.length → (∀ p ∈ y.2, p ∈ (elems ++ rest).flatMap (·.2)) →
         ((w.cells? 0 (ad.add (k * P.cellsOf j)) (P.cellsOf j)).bind (DataW.trod enc P w 0 (fun _ => true) held fuel j)) = some y →
         ((w'.cells? 0 (ad.add (k * P.cellsOf j)) (P.cellsOf j)).bind (DataW.trod enc P w' 0 sp held fuel j)) = some y := by
        intro k y hk hy hh
        cases hcs : w.cells? 0 (ad.add (k * P.cellsOf j)) (P.cellsOf j) with
        | none => rw [hcs] at hh; cases hh
        | some cs =>
         rw [hcs, Option.bind_some] at hh
         have hrow : ∀ p ∈ MemPlace.row (ad.add (k * P.cellsOf j)) (P.cellsOf j), p ∈ MemPlace.row ad ((elems.length + rest.length) * P.cellsOf j) := by
          intro p hp
          simp only [MemPlace.row, List.mem_map, List.mem_range] at hp ⊢
          obtain ⟨q, hq1, rfl⟩ := hp
          have hb : (ad.add (k * P.cellsOf j)).block = ad.block := by unfold Addr.add; split <;> rfl
          have ho : (ad.add (k * P.cellsOf j)).off = ad.off + k * P.cellsOf j := by
           unfold Addr.add
           split
           ·rename_i h0; rw [h0]; rfl
           ·rfl
          refine ⟨k * P.cellsOf j + q, ?_, by rw [hb, ho, Nat.add_assoc]⟩
          have : (k + 1) * P.cellsOf j ≤ (elems.length + rest.length) * P.cellsOf j := Nat.mul_le_mul_right _ hk
          rw [Nat.succ_mul] at this
          omega
         rw [cells_row hcs (fun p hp => hs p (by simp only [List.mem_append]; exact .inl (hrow p hp))), Option.bind_some]
         exact (ih hpos.2).1 hj hcells (d := y.1) (ps := y.2) hh (fun p hp => hs p (by simp only [List.mem_append]; exact .inr (hy p hp))) (fun p hp => hq p (by simp only [List.mem_append]; exact .inr (hy p hp)))
       rw [mapM_carry hm fun k y hk hy hh => one k y (by have : k < len := (by simpa using hk); omega) (fun p hp => List.mem_flatMap.2 ⟨y, List.mem_append_left _ hy, hp⟩) hh, Option.bind_some]
       have hrest : ∀ k y, k ∈ List.range (cap - len) → y ∈ rest → ((w.cells? 0 (ad.add ((len + k) * P.cellsOf j)) (P.cellsOf j)).bind (DataW.trod enc P w 0 (fun _ => true) held fuel j)) = some y →
         ((w'.cells? 0 (ad.add ((len + k) * P.cellsOf j)) (P.cellsOf j)).bind (DataW.trod enc P w' 0 sp held fuel j)) = some y := fun k y hk hy hh =>
        one (len + k) y (by have : k < cap - len := (by simpa using hk); omega) (fun p hp => List.mem_flatMap.2 ⟨y, List.mem_append_right _ hy, hp⟩) hh
       by_cases hlc : cap - len = 0
       ·rw [hlc] at hr
        have : rest = [] := by rw [hlc] at l2; exact List.eq_nil_of_length_eq_zero l2
        subst this
        cases sp ad.block
        ·rfl
        ·rw [hlc]; rfl
       ·have hsp : sp ad.block = true := by
         refine hq (.cell ad.block ad.off) ?_
         simp only [List.mem_append]
         left
         simp only [MemPlace.row, List.mem_map, List.mem_range]
         refine ⟨0, ?_, rfl⟩
         rw [hcells]
         exact Nat.mul_pos (by omega) hsz0
        rw [hsp, if_pos rfl, mapM_carry hr hrest]
        rfl
   all_goals cases h
theorem kept_but (h : Kept Foot.none w w') (may : MemPlace → Prop) : w.keptBut w' may := by
 refine ⟨h.os, h.output, fun i hi => ?_⟩
 rw [h.block i hi fun hf => hf]
 cases w.heap[i]? with
 | none => rfl
 | some o => cases o <;> first | rfl | exact ⟨rfl, rfl, rfl, fun _ _ => rfl⟩ | exact .inr ⟨rfl, rfl⟩
theorem kept_same (h : Kept Foot.none w w') {p : MemPlace} (hp : p.block < w.heap.size) : w.sameAt w' p := by
 cases p with
 | cell b off =>
  show w'.cell? _ = w.cell? _
  unfold World.cell?
  rw [h.block b hp fun hf => hf]
 | map b => exact h.block b hp fun hf => hf
theorem val_cells {t : Ty} {i : TypeId} {v : Value} {r : Reach} {base : Nat} (h : (TyInfo P t).1 i) (hv : Value.okWide P w r base i v) : Val t v v.cells.toList := by
 cases t with
 | int k => obtain ⟨n, rfl⟩ := WideShapes.okWide_int (show P.underlying i = some (.int k) from h) hv; rfl
 | bool => obtain ⟨n, rfl⟩ := WideShapes.okWide_bool (show P.underlying i = some .bool from h) hv; rfl
 | str => obtain ⟨n, rfl⟩ := WideShapes.okWide_string (show P.underlying i = some .string from h) hv; rfl
 | slice e => obtain ⟨j, hj, _⟩ := h; obtain ⟨a, l, c, rfl⟩ := WideShapes.okWide_slice hj hv; rfl
 | unit => obtain ⟨fs, hj, _⟩ := h; obtain ⟨cs, rfl, _⟩ := WideShapes.okWide_struct hj hv; simp [Val, Ty.agg, Value.cells]
 | pair a b => obtain ⟨fs, hj, _⟩ := h; obtain ⟨cs, rfl, _⟩ := WideShapes.okWide_struct hj hv; simp [Val, Ty.agg, Value.cells]
def roAll : List Ty → List PM
 | [] => []
 | t :: ts => .ro t :: roAll ts
def WfAll : (ts : List Ty) → Args (roAll ts) → Prop
 | [], _ => True
 | t :: ts, as => Wf t as.1 ∧ WfAll ts as.2
def TyAll (P : Program) : List Ty → List TypeId → Prop
 | [], [] => True
 | t :: ts, i :: is => TyOk P i t ∧ t.pos = true ∧ TyAll P ts is
 | _, _ => False
theorem args_read : ∀ (ts : List Ty) (is : List TypeId) (vs : List Value) (ds : List (DataW H)) (ps : List MemPlace) {r : Reach} {base : Nat}, TyAll P ts is →
  (∀ (j : Nat) t v, is[j]? = some t → vs[j]? = some v → Value.okWide P w r base t v) → DataW.TrodAll enc P w 0 (fun _ => true) held is vs ds ps →
  ∃ as : Args (roAll ts), ArgsOk P w Foot.none (roAll ts) as vs ∧ WfAll ts as ∧ ds.length = ts.length ∧
   ∀ (w' : World) (sp : Nat → Bool), (∀ p ∈ ps, w.sameAt w' p) → (∀ p ∈ ps, sp p.block = true) → DataW.TrodAll enc P w' 0 sp held is vs ds ps
 | [], [], vs, ds, ps, r, base, _, _, h => by
  match vs, ds, h with
  | [], [], h => exact ⟨(), rfl, trivial, rfl, fun _ _ _ _ => h⟩
 | t :: ts, i :: is, vs, ds, ps, r, base, ht, hok, h => by
  match vs, ds, h with
  | v :: vs, d :: ds, ⟨p, q, ⟨fuel, hd⟩, hrest, e⟩ =>
   subst e
   obtain ⟨hty, hpos, hts⟩ := ht
   obtain ⟨as, g1, g2, g3, g4⟩ := args_read ts is vs ds q hts (fun j t v h1 h2 => hok (j + 1) t v (by simpa using h1) (by simpa using h2)) hrest
   obtain ⟨h1, _, _, f, hf, hfs, _⟩ := hty
   have hc : P.cellsOf i = t.size := by unfold Program.cellsOf; rw [hf]; exact hfs
   obtain ⟨x, hx, hw⟩ := (trod_rep t hpos).1 h1 hd hc
   refine ⟨(x, as), ⟨v, vs, _, rfl, val_cells h1 (hok 0 i v rfl rfl), hx, g1⟩, ⟨hw, g2⟩, by simp [g3], fun w' sp hs hq => ?_⟩
   exact ⟨p, q, ⟨fuel, (trod_again t hpos).1 h1 hc hd (fun x hx => hs x (List.mem_append_left _ hx)) (fun x hx => hq x (List.mem_append_left _ hx))⟩, g4 w' sp (fun x hx => hs x (List.mem_append_right _ hx)) (fun x hx => hq x (List.mem_append_right _ hx)), rfl⟩
theorem law_contract {f : FuncId} {fn : Func} {s : ChangeSpec} {ts : List Ty} {F : Args (roAll ts) → Option (Tup ([(Ty.bool, Sh.z)].map (·.1) ++ ios (roAll ts)))} {tb : TypeId}
  (hq : QuietOk P f ⟨roAll ts, [(.bool, .z)], F⟩) (law : ∀ as, WfAll ts as → ∃ r, F as = some r ∧ r.1 = true) (hty : TyAll P ts fn.params.toList)
  (hres : fn.resultTypes = #[tb]) (htb : P.underlying tb = some .bool) (hvars : s.vars = [])
  (hspec : ∀ (ds : List (DataW H)), ds.length = ts.length → s.fn H ds = { results := [.lit (.bool true)], args := ds })
  {fresh handsOn apart : Bool} (W : World) (base : Nat) (args : Array Value) (ds gs : List (DataW H)) (before : List MemPlace)
  (hval : ∀ (j : Nat) t v, fn.params[j]? = some t → args[j]? = some v → Value.okWide P W .any base t v)
  (hW : DataW.Whole enc P fn.params.toList s.vars apart W args.toList ds gs before) :
  Calls P f args W fun e W' => ∃ v, e = .returned v ∧ s.post enc P fn apart fresh handsOn false W args v W' := by
 have hW' := hW
 have hlt := hW.lt
 obtain ⟨p, q, hA, hV, rfl, hfz, hnd⟩ := hW
 rw [hvars] at hV
 obtain ⟨rfl, rfl⟩ : gs = [] ∧ q = [] := by
  cases gs with
  | nil => exact ⟨rfl, hV⟩
  | cons g r => exact absurd hV (by intro h; cases h)
 obtain ⟨as, g1, g2, g3, g4⟩ := args_read ts fn.params.toList args.toList ds p hty (fun j t v h1 h2 => hval j t v (by simpa using h1) (by simpa using h2)) hA
 obtain ⟨r, hr, hr1⟩ := law as g2
 have hc := hq.2 W Foot.none as args.toList r (fun _ h => h.elim) g1 hr
 rw [Array.toArray_toList] at hc
 refine hc.mono fun e W' ⟨rv, he, hk, hrv⟩ => ?_
 obtain ⟨v, vs', cs, rfl, hv, hrep, h3⟩ := hrv
 have h3 : vs' = [] := h3
 subst h3
 have h1 : cs = [v] := hv
 have h2 : cs = [.bool r.1] := hrep.1
 rw [h1] at h2
 injection h2 with h2 _
 subst h2
 have hsame : ∀ x ∈ p, W.sameAt W' x := fun x hx => kept_same hk (hlt x (by simpa using hx))
 have hold : ∀ x ∈ p, (fun b => decide (b < W.heap.size)) x.block = true := fun x hx => by simpa using hlt x (by simpa using hx)
 refine ⟨_, he, ds, [], p ++ [], [], p, [], hW', ?_, ?_, ?_, kept_but hk _, fun h => by cases h⟩
 ·rw [List.append_nil, hspec ds g3, hres, hr1]
  exact ChangeShapes.trodAll_mk1 (RowKit.shut_bool htb true)
 ·rw [List.append_nil, hspec ds g3]
  exact g4 W' _ hsame hold
 ·rw [List.append_nil, hspec ds g3, hvars]; rfl
end Go.V

/- Code that calls nothing, inside a fence; other times to begin. No condition. -/
namespace Go.V
variable {α : Type}
variable {P : Program} {env : Env} {w₀ w w' : World} {O₀ W O O' : Foot} {σ σ' : St} {γ γ' : Name → Src} {φ φ' : Name → Foot} {a a' : Act} {n : Nat}
theorem Sim.rebase (S : Sim P env w₀ O₀ W σ γ φ O a w) : Sim P env w O₀ (fun b => O b ∧ ¬ O₀ b) σ γ φ O a w :=
 ⟨S.defers, S.size, Kept.refl _ _, S.roots, S.apart, fun n r hr b hb => ⟨.inr ⟨(S.own b).2 (.inr ⟨n, r, hr, hb⟩), (S.fresh n r hr b hb).2⟩, (S.fresh n r hr b hb).2⟩, S.own, S.old, S.slots, S.pin⟩
theorem Sim.unbase {env' : Env} (S : Sim P env w₀ O₀ W σ γ φ O a w) (S' : Sim P env' w O₀ (fun b => O b ∧ ¬ O₀ b) σ' γ' φ' O' a' w') : Sim P env' w₀ O₀ W σ' γ' φ' O' a' w' := by
 have key : ∀ b, O b ∧ ¬ O₀ b → w₀.heap.size ≤ b ∨ W b := by
  rintro b ⟨h, hn⟩
  rcases (S.own b).1 h with h | ⟨n, r, hr, hb⟩
  ·exact (hn h).elim
  ·exact (S.fresh n r hr b hb).1
 refine ⟨S'.defers, S'.size, S.kept.trans S'.kept (fun k hk h => (key k h).resolve_left (by omega)), S'.roots, S'.apart, fun n r hr b hb => ?_, S'.own, S'.old, S'.slots, S'.pin⟩
 obtain ⟨h1, h2⟩ := S'.fresh n r hr b hb
 refine ⟨?_, h2⟩
 rcases h1 with h | h
 ·exact .inl (Nat.le_trans S.kept.size h)
 ·exact key b h
theorem Sim.mark (S : Sim P env w₀ O₀ W σ γ φ O a w) (ds : List Deferred) : Sim P { env with marks := ds } w₀ O₀ W σ γ φ O { a with defers := ds } w :=
 ⟨rfl, S.size, S.kept, S.roots, S.apart, S.fresh, S.own, S.old, S.slots, S.pin⟩
theorem Sim.act (S : Sim P env w₀ O₀ W σ γ φ O a w) {env' : Env} (hn : env'.n = env.n) (hp : env'.pin = env.pin) (hd : a'.defers = env'.marks) (hs : a'.tmps.size = env.n) (h : ∀ i, σ.slot i = .undef ∨ a'.tmps.getD i undef = a.tmps.getD i undef) : Sim P env' w₀ O₀ W σ γ φ O a' w := by
 refine ⟨hd, hs.trans hn.symm, S.kept, S.roots, S.apart, S.fresh, S.own, S.old, fun i => ?_, fun s h => S.pin s (hp ▸ h)⟩
 rcases h i with h | h
 ·rw [h]; exact .undef _
 ·rw [h]; exact S.slots i
theorem Sim.know (S : Sim P env w₀ O₀ W σ γ φ O a w) {d : Nat} (hd : d < env.n) {s : Slot} (hs : SlotOk P w O σ γ s (a.tmps.getD d undef)) : Sim P env w₀ O₀ W (σ.set d s) γ φ O a w := by
 have := S.set hd hs
 rwa [Act.put_same rfl (by rw [S.size]; exact hd)] at this
def tameOp (o : Oper) : Bool := (match o.guard with | none => true | some _ => false) && match o.op with
 | .call c => match c.callee with
  | .builtin .append | .builtin .len => true
  | _ => false
 | .defer _ | .makeFunc _ _ _ => false
 | _ => true
theorem tame_ok (S : Sim P env w₀ O₀ W σ γ φ O a w) (hty : env.TyOk P) {o : Oper} (ht : tameOp o = true) {k : St → Option α} {r : α} (h : operK env o σ k = some r) :
  ∃ σ' γ' φ' O' v w', ((execOp a.eval o).run P w = .ok (.value v) w' ∨ ((execOp a.eval o).run P w = .ok .skip w' ∧ v = undef)) ∧ Sim P env w₀ O₀ W σ' γ' φ' O' (a.put o.dst v) w' ∧ k σ' = some r := by
 have fin : ∀ {s v σ' γ' φ' O' w'}, ((execOp a.eval o).run P w = .ok (.value v) w' ∨ ((execOp a.eval o).run P w = .ok .skip w' ∧ v = undef)) → Sim P env w₀ O₀ W σ' γ' φ' O' a w' → SlotOk P w' O' σ' γ' s v → finK env o.dst k s σ' = some r →
   ∃ σ' γ' φ' O' v w', ((execOp a.eval o).run P w = .ok (.value v) w' ∨ ((execOp a.eval o).run P w = .ok .skip w' ∧ v = undef)) ∧ Sim P env w₀ O₀ W σ' γ' φ' O' (a.put o.dst v) w' ∧ k σ' = some r := by
  intro s v σ' γ' φ' O' w' hrun S' hs hk
  unfold finK at hk
  cases hd : o.dst with
  | none => rw [hd] at hk; exact ⟨_, γ', φ', O', v, w', hrun, S', hk⟩
  | some d =>
   rw [hd] at hk
   dsimp only at hk
   split at hk
   ·rename_i hlt
    exact ⟨_, γ', φ', O', v, w', hrun, S'.set (by simpa using hlt) hs, hk⟩
   ·cases hk
 have ofL : FineL P env w₀ O₀ W a w (execOp a.eval o) (finK env o.dst k) r → _ := fun ⟨s, v, σ', γ', φ', O', w', hrun, S', hs, hk⟩ => fin hrun S' hs hk
 have ofN : ∀ {k' : Slot → Option α}, (∀ s, k' s = finK env o.dst k s σ) → FineN P w O σ γ (execOp a.eval o) k' r → _ := fun hk' ⟨s, v, hrun, hs, hk⟩ => fin (.inl hrun) S hs ((hk' s).symm.trans hk)
 unfold operK at h
 split at h
 ·unfold tameOp at ht
  rw [Bool.and_eq_true] at ht
  replace ht := ht.2
  cases hop : o.op with
  | alloc t => exact ofL (alloc_ok S hty hop h)
  | box t x => exact ofL (box_ok S hop h)
  | build t parts => exact ofL (build_ok S hty hop h)
  | buildSlice t m parts => exact ofL (buildSlice_ok S hty hop h)
  | store t x y => exact ofL (store_ok S hty hop h)
  | convert src dst x => exact ofL (bytes_ok S hty hop h)
  | makeSlice t x y => exact ofL (makeSlice_ok S hty hop h)
  | call c =>
   rw [hop] at ht
   dsimp only at ht
   split at ht
   ·rename_i hb; exact ofL (append_ok S hty hop hb h)
   ·rename_i hb
    refine ofN (fun s => rfl) (bltin_ok S hty hop hb (k := fun s => finK env o.dst k s σ) ?_)
    unfold loudK at h
    rw [hop] at h
    dsimp only at h
    rw [hb] at h
    exact h
   ·cases ht
  | makeFunc g first caps => rw [hop] at ht; cases ht
  | _ => unfold loudK at h; rw [hop] at h; cases h
 ·exact ofN (fun s => rfl) (quiet_ok S hty h)
theorem tame_about {o : Oper} (ht : tameOp o = true) : (∀ c, o.op ≠ .defer c) ∧ o.guard = none := by
 unfold tameOp at ht
 rw [Bool.and_eq_true] at ht
 refine ⟨fun c e => (by rw [e] at ht; cases ht.2), ?_⟩
 cases e : o.guard with | none => rfl | some _ => rw [e] at ht; cases ht.1
theorem put_away {o : Oper} {v : Value} {d : Nat} (h : o.dst ≠ some d) : (a.put o.dst v).tmps.getD d undef = a.tmps.getD d undef := by
 cases hd : o.dst with
 | none => rfl
 | some e => exact Act.put_other fun h' => h (by rw [hd, h'])
theorem opsIn_app (hty : env.TyOk P) {F : Fence} (hF : ∀ f, F.fn f) {ops : Array Oper} {Q : Exit → Act → World → Prop} : ∀ (l rest : List Nat) {σ : St} {γ : Name → Src} {φ : Name → Foot} {O : Foot} {a : Act} {w : World} {k : St → Option α} {r : α},
  Sim P env w₀ O₀ W σ γ φ O a w → opsK env ops l σ k = some r → (∀ i ∈ l, ∀ o, ops[i]? = some o → tameOp o = true) →
  (∀ σ' γ' φ' O' a' w', Sim P env w₀ O₀ W σ' γ' φ' O' a' w' → k σ' = some r → (∀ d, (∀ i ∈ l, ∀ o, ops[i]? = some o → o.dst ≠ some d) → a'.tmps.getD d undef = a.tmps.getD d undef) → wpOpsIn F n P ops Q rest a' w') →
  wpOpsIn F n P ops Q (l ++ rest) a w
 | [], rest, σ, γ, φ, O, a, w, k, r, S, h, _, hQ => hQ _ _ _ _ _ _ S h fun _ _ => rfl
 | i :: l, rest, σ, γ, φ, O, a, w, k, r, S, h, ht, hQ => by
  unfold opsK at h
  rw [List.cons_append]
  unfold wpOpsIn
  split at h
  case h_2 => cases h
  case h_1 o ho =>
   rw [ho]
   dsimp only
   have hto := ht i (by simp) o ho
   obtain ⟨hdef, hg⟩ := tame_about hto
   unfold guardK at h
   rw [hg] at h
   dsimp only at h
   rw [show Region.wanted o (yielded ops a.tmps) = true by simp [Region.wanted, hg], if_pos rfl]
   obtain ⟨σ₁, γ₁, φ₁, O₁, v, w₁, hrun, S₁, hk⟩ := tame_ok S hty hto h
   have hrec := opsIn_app hty hF (Q := Q) l rest S₁ hk (fun j hj => ht j (by simp [hj])) (fun σ' γ' φ' O' a' w' S' hk' hd => hQ σ' γ' φ' O' a' w' S' hk' fun d hno => (hd d fun j hj => hno j (by simp [hj])).trans (put_away (hno i (by simp) o ho)))
   refine ⟨fun f _ => hF f, ?_⟩
   rw [Oper.semAt_plain F _ _ hdef]
   rcases hrun with hrun | ⟨hrun, rfl⟩
   ·rw [hrun]; exact hrec
   ·rw [hrun]; exact hrec
def tameCode : Code → Bool
 | .skip | .exit _ | .ret => true
 | .region _ ops draw => !draw && ops.all tameOp
 | .seq a b => tameCode a && tameCode b
 | .cond _ a b => tameCode a && tameCode b
 | .block _ c => tameCode c
 | _ => false
def noSet (d : Nat) : Code → Bool
 | .region _ ops _ => ops.all fun o => match o.dst with | some e => !Nat.beq e d | none => true
 | .seq a b => noSet d a && noSet d b
 | .cond _ a b => noSet d a && noSet d b
 | .block _ c => noSet d c
 | _ => true
theorem execIn_ok (hty : env.TyOk P) {F : Fence} (hF : ∀ f, F.fn f) (lp : Nat → Kont α → St → Option α) : ∀ (c : Code), tameCode c = true → ∀ {κ : Kont α} {σ : St} {γ : Name → Src} {φ : Name → Foot} {O : Foot} {a : Act} {w : World} {r : α},
  Sim P env w₀ O₀ W σ γ φ O a w → execK env lp c κ σ = some r → c.wpIn F n P (fun e a' w' => Goes P env w₀ O₀ W κ r e a' w' ∧ ∀ d, noSet d c = true → a'.tmps.getD d undef = a.tmps.getD d undef) a w := by
 intro c
 induction c with
 | skip => intro _ κ σ γ φ O a w r S h; exact wpIn_skip ⟨⟨σ, γ, φ, O, S, h⟩, fun _ _ => rfl⟩
 | region id ops draw =>
  intro ht κ σ γ φ O a w r S h
  unfold execK at h
  obtain ⟨O', S'⟩ := S.keepAt env.hints id
  unfold tameCode at ht
  rw [Bool.and_eq_true] at ht
  cases draw with
  | true => cases ht.1
  | false =>
   have ht2 := ht.2
   rw [Array.all_eq_true'] at ht2
   refine wpIn_region ?_
   rw [← List.append_nil (List.range ops.size)]
   refine opsIn_app hty hF _ [] S' h (fun i _ o ho => ht2 o (Array.mem_of_getElem? ho)) fun σ' γ' φ' O' a' w' S'' hk hd => ⟨⟨σ', γ', φ', O', S'', hk⟩, fun d hno => hd d fun i _ o ho e => ?_⟩
   unfold noSet at hno
   rw [Array.all_eq_true'] at hno
   have := hno o (Array.mem_of_getElem? ho)
   rw [e] at this
   simp at this
 | seq x y ihx ihy =>
  intro ht κ σ γ φ O a w r S h
  unfold tameCode at ht
  rw [Bool.and_eq_true] at ht
  unfold execK at h
  refine wpIn_seq (wpIn_mono (ihx ht.1 S h) ?_)
  rintro e a' w' ⟨⟨σ', γ', φ', O', S', hk⟩, hd⟩
  have both : ∀ d, noSet d (.seq x y) = true → noSet d x = true ∧ noSet d y = true := fun d hno => by unfold noSet at hno; rwa [Bool.and_eq_true] at hno
  cases e with
  | normal => exact wpIn_mono (ihy ht.2 S' hk) fun e' a'' w'' ⟨h1, h2⟩ => ⟨h1, fun d hno => (h2 d (both d hno).2).trans (hd d (both d hno).1)⟩
  | exit id => exact ⟨⟨σ', γ', φ', O', S', hk⟩, fun d hno => hd d (both d hno).1⟩
  | ret => exact ⟨⟨σ', γ', φ', O', S', hk⟩, fun d hno => hd d (both d hno).1⟩
  | goto l => exact hk.elim
  | panic ch => exact hk.elim
  | outgrown => exact hk.elim
 | cond c x y ihx ihy =>
  intro ht κ σ γ φ O a w r S h
  unfold tameCode at ht
  rw [Bool.and_eq_true] at ht
  unfold execK at h
  have both : ∀ d, noSet d (.cond c x y) = true → noSet d x = true ∧ noSet d y = true := fun d hno => by unfold noSet at hno; rwa [Bool.and_eq_true] at hno
  split at h
  ·rename_i b hs
   have hv := S.val c
   rw [hs] at hv
   refine wpIn_cond (slot_bool hv) ?_
   split at h
   ·rename_i hb
    rw [show (b : Bool) = true from hb]
    exact wpIn_mono (ihx ht.1 S h) fun e' a'' w'' ⟨h1, h2⟩ => ⟨h1, fun d hno => h2 d (both d hno).1⟩
   ·rename_i hb
    rw [show (b : Bool) = false from hb]
    exact wpIn_mono (ihy ht.2 S h) fun e' a'' w'' ⟨h1, h2⟩ => ⟨h1, fun d hno => h2 d (both d hno).2⟩
  ·cases h
 | block id c ih =>
  intro ht κ σ γ φ O a w r S h
  unfold tameCode at ht
  unfold execK at h
  refine wpIn_block (wpIn_mono (ih ht S h) ?_)
  rintro e a' w' ⟨⟨σ', γ', φ', O', S', hk⟩, hd⟩
  have hd : ∀ d, noSet d (.block id c) = true → a'.tmps.getD d undef = a.tmps.getD d undef := fun d hno => hd d hno
  cases e with
  | normal =>
   obtain ⟨O'', S''⟩ := S'.keepAt env.hints (id + 100000)
   exact ⟨⟨_, γ', φ', O'', S'', hk⟩, hd⟩
  | exit id' =>
   simp only [Exit.inBlock]
   dsimp only at hk
   split at hk
   ·rename_i hb
    rw [if_pos (Nat.eq_of_beq_eq_true hb)]
    exact ⟨⟨σ', γ', φ', O', S', hk⟩, hd⟩
   ·rename_i hb
    rw [if_neg (fun e => by rw [e] at hb; simp at hb)]
    exact ⟨⟨σ', γ', φ', O', S', hk⟩, hd⟩
  | ret => exact ⟨⟨σ', γ', φ', O', S', hk⟩, hd⟩
  | goto l => exact hk.elim
  | panic ch => exact hk.elim
  | outgrown => exact hk.elim
 | exit id =>
  intro _ κ σ γ φ O a w r S h
  unfold execK at h
  obtain ⟨O'', S''⟩ := S.keepAt env.hints (id + 100000)
  exact wpIn_exit ⟨⟨_, γ, φ, O'', S'', h⟩, fun _ _ => rfl⟩
 | ret =>
  intro _ κ σ γ φ O a w r S h
  unfold execK at h
  obtain ⟨O'', S''⟩ := S.keepAt env.hints 99999
  exact wpIn_ret ⟨⟨_, γ, φ, O'', S'', h⟩, fun _ _ => rfl⟩
 | loop c _ => intro ht; cases ht
 | rangeFunc f params assign body => intro ht; cases ht
 | scope body => intro ht; cases ht
 | label l => intro ht; cases ht
 | goto l => intro ht; cases ht
 | refuse why => intro ht; cases ht
theorem execIn_step (hty : env.TyOk P) {F : Fence} (hF : ∀ f, F.fn f) (lp : Nat → Kont α → St → Option α) {c : Code} (ht : tameCode c = true) {κ : Kont α} {r : α}
  (S : Sim P env w₀ O₀ W σ γ φ O a w) (h : execK env lp c κ σ = some r) : c.wpIn F n P (fun e a' w' => Goes P env w₀ O₀ W κ r e a' w' ∧ Kept (fun b => O b ∧ ¬ O₀ b) w w' ∧ ∀ d, noSet d c = true → a'.tmps.getD d undef = a.tmps.getD d undef) a w := by
 refine wpIn_mono (execIn_ok hty hF lp c ht S.rebase h) ?_
 rintro e a' w' ⟨⟨σ', γ', φ', O', S', hk⟩, hd⟩
 exact ⟨⟨σ', γ', φ', O', S.unbase S', hk⟩, S'.kept, hd⟩
theorem Sim.cells (S : Sim P env w₀ O₀ W σ γ φ O a w) {b : Nat} (h : O b) (hn : ¬ O₀ b) : ∃ C tid fr, w.heap[b]? = some (.cells C tid fr) := by
 rcases (S.own b).1 h with h | ⟨n, r, hr, hb⟩
 ·exact (hn h).elim
 ·cases r with
  | data bx d sh =>
   obtain ⟨_, _, _, _, _, _, _, _, hclear⟩ := S.rootRep hr
   obtain ⟨C, tid, fr, h, _⟩ := hclear b hb
   exact ⟨C, tid, fr, h⟩
  | held s =>
   obtain ⟨b', off, C, tid, fr, v, h1, h2, h3, h4, h5, h6, h7⟩ := S.roots n _ hr
   have := (h7 b).1 hb
   subst this
   exact ⟨C, tid, fr, h2⟩
theorem Sim.keepsFrom (S : Sim P env w₀ O₀ W σ γ φ O a w) (K : Kept (fun b => O b ∧ ¬ O₀ b) w w') (B : Nat) : KeepsFrom B w w' :=
 ⟨K.size, fun k o _ hk ho => (K.block k (Array.getElem?_eq_some_iff.1 hk).1 fun h => by
  obtain ⟨C, tid, fr, h'⟩ := S.cells h.1 h.2
  rw [hk] at h'
  injection h' with h'
  subst h'
  cases ho).trans hk⟩
end Go.V

/- The iterator that slices.Backward hands back: the elements, the last first. No condition. -/
namespace Go.V
variable {α : Type}
variable {P : Program} {env : Env} {w₀ w w' : World} {O₀ W O O' : Foot} {σ σ' : St} {γ γ' : Name → Src} {φ φ' : Name → Foot} {a a' : Act} {n : Nat}
def encC : (t : Ty) → t.den → List Value
 | .int k => fun (n : Int) => [.int k n]
 | .bool => fun (b : Bool) => [.bool b]
 | .str => fun (s : List UInt8) => [.string ⟨s.toArray⟩]
 | .unit => fun _ => []
 | .pair a b => fun x => encC a x.1 ++ encC b x.2
 | .slice _ => fun _ => []
def encV (t : Ty) (x : t.den) : Value := match t.agg with | true => .agg (encC t x).toArray | false => (encC t x).headD undef
theorem Rep.enc : ∀ {t : Ty} {sh : Sh} {x : t.den} {cs : List Value} {F : Foot}, t.flat = true → Rep w O t sh x cs F → cs = encC t x := by
 intro t
 induction t with
 | int k => intro sh x cs F _ h; exact h.1
 | bool => intro sh x cs F _ h; exact h.1
 | str => intro sh x cs F _ h; exact h.1
 | unit => intro sh x cs F _ h; exact h.1
 | pair a b iha ihb =>
  intro sh x cs F hf h
  simp only [Ty.flat, Bool.and_eq_true] at hf
  obtain ⟨c₁, c₂, F₁, F₂, hc, h1, h2, -, -⟩ := h
  rw [hc, iha hf.1 h1, ihb hf.2 h2]
  rfl
 | slice e _ => intro sh x cs F hf; simp [Ty.flat] at hf
theorem rep_enc : ∀ {t : Ty} (x : t.den), t.flat = true → Rep w O t .z x (encC t x) Foot.none := by
 intro t
 induction t with
 | int k => intro x _; exact ⟨rfl, fun _ h => h⟩
 | bool => intro x _; exact ⟨rfl, fun _ h => h⟩
 | str => intro x _; exact ⟨rfl, fun _ h => h⟩
 | unit => intro x _; exact ⟨rfl, fun _ h => h⟩
 | pair a b iha ihb =>
  intro x hf
  simp only [Ty.flat, Bool.and_eq_true] at hf
  exact ⟨_, _, Foot.none, Foot.none, rfl, iha x.1 hf.1, ihb x.2 hf.2, fun _ => by simp [Foot.none], fun _ h => h.1⟩
 | slice e _ => intro x hf; simp [Ty.flat] at hf
theorem val_enc : ∀ {t : Ty} (x : t.den), t.flat = true → Val t (encV t x) (encC t x) := by
 intro t x hf
 cases t with
 | int k => rfl
 | bool => rfl
 | str => rfl
 | unit => rfl
 | pair a b => rfl
 | slice e => simp [Ty.flat] at hf
theorem Val.enc : ∀ {t : Ty} {x : t.den} {v : Value}, t.flat = true → Val t v (encC t x) → v = encV t x := by
 intro t x v hf h
 cases t with
 | int k => exact ((List.cons.inj h).1).symm
 | bool => exact ((List.cons.inj h).1).symm
 | str => exact ((List.cons.inj h).1).symm
 | unit => exact h
 | pair a b => exact h
 | slice e => simp [Ty.flat] at hf
theorem SlotOk.enc {d : Dyn} {v : Value} (hf : d.t.flat = true) (h : SlotOk P w O σ γ (.pv d) v) : v = encV d.t d.x := by
 cases h with
 | pv _ _ cs hv hr =>
  have := hr.enc hf
  subst this
  exact hv.enc hf
theorem slotOk_enc (d : Dyn) (hf : d.t.flat = true) : SlotOk P w O σ γ (.pv d) (encV d.t d.x) := .pv d _ _ (val_enc d.x hf) (rep_enc d.x hf)
theorem Sim.ofNone (hd : a.defers = env.marks) (hs : a.tmps.size = env.n) (hp : env.pin = none) (hO : ∀ b, O b → b < w.heap.size) {ss : List (Nat × Slot)}
  (h : ∀ i, SlotOk P w O ⟨ss, []⟩ γ (St.slot ⟨ss, []⟩ i) (a.tmps.getD i undef)) : Sim P env w O Foot.none ⟨ss, []⟩ γ (fun _ => Foot.none) O a w :=
 ⟨hd, hs, Kept.refl _ _, fun n r h => by simp [St.root, look] at h, fun n m r r' h => by simp [St.root, look] at h, fun n r h => by simp [St.root, look] at h,
  fun b => ⟨.inl, fun h => h.elim id fun ⟨n, r, h, _⟩ => by simp [St.root, look] at h⟩, hO, h, fun s h => by rw [hp] at h; cases h⟩
theorem Kept.grown (h : Kept Foot.none w w') : w.grownBy w' none := ⟨h.os, h.tape, h.output, h.size, fun k hk _ => h.block k hk fun h => h⟩
structure Same (U : Foot) (wb w : World) : Prop where
 size : wb.heap.size ≤ w.heap.size
 block : ∀ k, k < wb.heap.size → ¬ U k → w.heap[k]? = wb.heap[k]?
theorem Same.kept {U : Foot} {wb : World} (h : Same U wb w) (K : Kept Foot.none w w') : Same U wb w' :=
 ⟨Nat.le_trans h.size K.size, fun k hk hn => (K.block k (Nat.lt_of_lt_of_le hk h.size) fun h => h).trans (h.block k hk hn)⟩
structure BackAt (wb : World) (U : Foot) (e : Ty) (xs : List e.den) (b off : Nat) : Prop where
 lt : b < wb.heap.size
 out : ¬ U b
 rep : ∃ cs, Rep wb U (.slice e) .z xs cs Foot.none ∧ ∀ k, k < cs.length → wb.cell? ⟨b, off + k, none⟩ = cs[k]?
def own0 (U : Foot) (wb w : World) : Foot := fun k => (U k ∨ wb.heap.size ≤ k) ∧ k < w.heap.size
theorem BackAt.slot {wb : World} {U : Foot} {e : Ty} {xs : List e.den} {b off : Nat} (B : BackAt wb U e xs b off) (h : Same U wb w) : SlotOk P w (own0 U wb w) σ γ (.fptr ⟨.slice e, xs⟩) (.pointer (some ⟨b, off, none⟩)) := by
 obtain ⟨cs, hr, hc⟩ := B.rep
 have hn : ¬ own0 U wb w b := fun h => h.1.elim B.out fun h' => by have := B.lt; omega
 refine .fptr _ b off cs (Nat.lt_of_lt_of_le B.lt h.size) hn (Rep.frame h.size h.block (fun _ h => h.elim) (fun k hk hu h' => h'.1.elim hu fun h' => by omega) (fun _ h => h.elim) hr) fun k hk => ?_
 rw [← hc k hk]
 exact World.cell?_of_block (h.block b B.lt B.out)
structure BackCode (P : Program) (fB : FuncId) (e : Ty) (env : Env) where
 fn : Func
 ops0 : Array Oper
 ops1 : Array Oper
 ops2 : Array Oper
 ops3 : Array Oper
 o0 : Oper
 o6 : Oper
 c6 : Call
 lp : Nat → Kont St → St → Option St
 hfn : P.funcs[fB]? = some fn
 hbody : fn.body = some (.seq (.region 0 ops0 false) (.block 0 (.loop (.seq (.seq (.region 1 ops1 false) (.cond (.tmp 8) .skip (.exit 0))) (.seq (.block 1 (.seq (.region 3 ops3 false) (.cond (.tmp 18) .ret .skip))) (.region 2 ops2 false))))))
 hres : fn.results = #[]
 hnt : fn.ntmps = 19
 hn : env.n = 19
 hmk : env.marks = []
 hpin : env.pin = none
 flat : e.flat = true
 t0 : tameCode (.region 0 ops0 false) = true ∧ noSet 0 (.region 0 ops0 false) = true ∧ noSet 1 (.region 0 ops0 false) = true
 t1 : tameCode (.region 1 ops1 false) = true ∧ noSet 0 (.region 1 ops1 false) = true ∧ noSet 1 (.region 1 ops1 false) = true ∧ noSet 3 (.region 1 ops1 false) = true
 t2 : tameCode (.region 2 ops2 false) = true ∧ noSet 0 (.region 2 ops2 false) = true ∧ noSet 1 (.region 2 ops2 false) = true
 sz : ops3.size = 8
 g0 : ops3[0]? = some o0 ∧ o0.op = .move (.tmp 0) ∧ o0.dst = some 11 ∧ o0.guard = none
 g6 : ops3[6]? = some o6 ∧ o6.op = .call c6 ∧ c6.callee = .value (.tmp 11) ∧ c6.args = #[.tmp 12, .tmp 16] ∧ o6.dst = some 17 ∧ o6.guard = none
 t3 : ∀ i ∈ [1, 2, 3, 4, 5, 7], ∀ o, ops3[i]? = some o → tameOp o = true ∧ o.dst ≠ some 0 ∧ o.dst ≠ some 1 ∧ o.dst ≠ some 3 ∧ o.dst ≠ some 11
 e0 : ∀ xs : List e.den, xs.length ≤ lim → ∃ σ, execK env lp (.region 0 ops0 false) ⟨some, fun _ _ => none, fun _ => none⟩ ⟨[(1, .fptr ⟨.slice e, xs⟩)], []⟩ = some σ ∧ σ.slot 3 = .pv ⟨.int .i64, ((xs.length : Int) - 1 : Int)⟩
 e1 : ∀ (xs : List e.den) (i : Int), ∃ σ, execK env lp (.region 1 ops1 false) ⟨some, fun _ _ => none, fun _ => none⟩ ⟨[(1, .fptr ⟨.slice e, xs⟩), (3, .pv ⟨.int .i64, i⟩)], []⟩ = some σ ∧ σ.slot 8 = .pv ⟨.bool, decide (0 ≤ i)⟩
 e2 : ∀ (xs : List e.den) (i : Nat), i < lim → ∃ σ, execK env lp (.region 2 ops2 false) ⟨some, fun _ _ => none, fun _ => none⟩ ⟨[(1, .fptr ⟨.slice e, xs⟩), (3, .pv ⟨.int .i64, (i : Int)⟩)], []⟩ = some σ ∧ σ.slot 3 = .pv ⟨.int .i64, ((i : Int) - 1 : Int)⟩
 e3 : ∀ (xs : List e.den) (i : Nat) (x : e.den), xs[i]? = some x → ∃ σ, opsK env ops3 [1, 2, 3, 4, 5] (St.set ⟨[(1, .fptr ⟨.slice e, xs⟩), (3, .pv ⟨.int .i64, (i : Int)⟩)], []⟩ 11 .undef) some = some σ ∧ σ.slot 12 = .pv ⟨.int .i64, (i : Int)⟩ ∧ σ.slot 16 = .pv ⟨e, x⟩
 e7 : ∀ b : Bool, ∃ σ, opsK env ops3 [7] ⟨[(17, .pv ⟨.bool, b⟩)], []⟩ some = some σ ∧ σ.slot 18 = .pv ⟨.bool, !b⟩
def backL {β : Type} (xs : List β) : List (Nat × β) := (xs.zipIdx.map fun p => (p.2, p.1)).reverse
def encB (e : Ty) (p : Nat × e.den) : Array Value := #[.int .i64 (p.1 : Int), encV e p.2]
end Go.V

/- The iterator of slices.Backward has its contract. No condition. -/
namespace Go.V
variable {α : Type}
variable {P : Program} {env : Env} {w₀ w w' : World} {O₀ W O O' U : Foot} {σ σ' : St} {γ γ' : Name → Src} {φ φ' : Name → Foot} {a a' : Act} {n : Nat} {F : Fence}
theorem slot_cons (j : Nat) (s : Slot) (l : List (Nat × Slot)) (i : Nat) : St.slot ⟨(j, s) :: l, []⟩ i = if i = j then s else St.slot ⟨l, []⟩ i := by
 unfold St.slot
 simp only [look]
 by_cases h : i = j
 ·subst h; simp
 ·rw [if_neg h]
  have : Nat.beq j i = false := by
   cases hb : Nat.beq j i with
   | false => rfl
   | true => exact (h (Nat.eq_of_beq_eq_true hb).symm).elim
  rw [this]
theorem slot_nil (i : Nat) : St.slot ⟨[], []⟩ i = .undef := rfl
structure AtIt (y ptr : Value) (a : Act) : Prop where
 d : a.defers = []
 s : a.tmps.size = 19
 y : a.tmps.getD 0 undef = y
 p : a.tmps.getD 1 undef = ptr
theorem piece (hty : env.TyOk P) (hF : ∀ f, F.fn f) (lp : Nat → Kont St → St → Option St) {c : Code} (ht : tameCode c = true) {r : St}
  (S : Sim P env w₀ O Foot.none σ γ φ O a w) (h : execK env lp c ⟨some, fun _ _ => none, fun _ => none⟩ σ = some r) :
  c.wpIn F n P (fun e a' w' => e = .normal ∧ (∃ γ' φ' O', Sim P env w₀ O Foot.none r γ' φ' O' a' w') ∧ Kept Foot.none w w' ∧ ∀ d, noSet d c = true → a'.tmps.getD d undef = a.tmps.getD d undef) a w := by
 refine wpIn_mono (execIn_step hty hF lp ht S h) ?_
 rintro e a' w' ⟨⟨σ', γ', φ', O', S', hk⟩, K, hd⟩
 cases e with
 | normal => injection hk with hk; subst hk; exact ⟨rfl, ⟨γ', φ', O', S'⟩, K.mono fun _ _ h => h.2 h.1, hd⟩
 | exit id => cases hk
 | ret => cases hk
 | goto l => exact hk.elim
 | panic ch => exact hk.elim
 | outgrown => exact hk.elim
theorem Sim.kept0 (S : Sim P env w₀ O Foot.none σ γ φ O' a w) : Kept Foot.none w₀ w := S.kept
section
variable {fB : FuncId} {e : Ty} {xs : List e.den} {b off : Nat} {y : Value} {wb : World}
theorem AtIt.sim1 (C : BackCode P fB e env) (A : AtIt y (.pointer (some ⟨b, off, none⟩)) a) (B : BackAt wb U e xs b off) (h : Same U wb w) :
  Sim P env w (own0 U wb w) Foot.none ⟨[(1, .fptr ⟨.slice e, xs⟩)], []⟩ (fun _ => .val []) (fun _ => Foot.none) (own0 U wb w) a w := by
 refine Sim.ofNone (A.d.trans C.hmk.symm) (A.s.trans C.hn.symm) C.hpin (fun k h => h.2) fun i => ?_
 rw [slot_cons]
 split
 ·rename_i e; subst e; rw [A.p]; exact B.slot h
 ·rw [slot_nil]; exact .undef _
theorem AtIt.sim3 (C : BackCode P fB e env) (A : AtIt y (.pointer (some ⟨b, off, none⟩)) a) (B : BackAt wb U e xs b off) (h : Same U wb w) {i : Int} (hi : a.tmps.getD 3 undef = .int .i64 i) :
  Sim P env w (own0 U wb w) Foot.none ⟨[(1, .fptr ⟨.slice e, xs⟩), (3, .pv ⟨.int .i64, i⟩)], []⟩ (fun _ => .val []) (fun _ => Foot.none) (own0 U wb w) a w := by
 refine Sim.ofNone (A.d.trans C.hmk.symm) (A.s.trans C.hn.symm) C.hpin (fun k h => h.2) fun k => ?_
 rw [slot_cons]
 split
 ·rename_i e; subst e; rw [A.p]; exact B.slot h
 ·rw [slot_cons]
  split
  ·rename_i e; subst e; rw [hi]; exact slotOk_enc ⟨.int .i64, i⟩ rfl
  ·rw [slot_nil]; exact .undef _
theorem AtIt.sim17 (C : BackCode P fB e env) (A : AtIt y (.pointer (some ⟨b, off, none⟩)) a) {t : Bool} (hi : a.tmps.getD 17 undef = .bool t) :
  Sim P env w (own0 U wb w) Foot.none ⟨[(17, .pv ⟨.bool, t⟩)], []⟩ (fun _ => .val []) (fun _ => Foot.none) (own0 U wb w) a w := by
 refine Sim.ofNone (A.d.trans C.hmk.symm) (A.s.trans C.hn.symm) C.hpin (fun k h => h.2) fun k => ?_
 rw [slot_cons]
 split
 ·rename_i e; subst e; rw [hi]; exact slotOk_enc ⟨.bool, t⟩ rfl
 ·rw [slot_nil]; exact .undef _
end
theorem put_at' {d : Nat} {v : Value} (h : d < a.tmps.size) : (a.put (some d) v).tmps.getD d undef = v := by simp [Act.put, Array.getD_eq_getD_getElem?, h]
theorem put_defers' (a : Act) (d : Option Tmp) (v : Value) : (a.put d v).defers = a.defers := by cases d <;> rfl
theorem put_size' (a : Act) (d : Option Tmp) (v : Value) : (a.put d v).tmps.size = a.tmps.size := by cases d <;> simp [Act.put]
theorem backL_length {β : Type} (xs : List β) : (backL xs).length = xs.length := by simp [backL]
theorem backL_get {β : Type} (xs : List β) {k : Nat} (hk : k < xs.length) : (backL xs)[k]? = some (xs.length - 1 - k, xs[xs.length - 1 - k]'(by omega)) := by
 unfold backL
 rw [List.getElem?_reverse (by simpa using hk)]
 simp only [List.length_map, List.length_zipIdx, List.getElem?_map]
 rw [List.getElem?_zipIdx, List.getElem?_eq_getElem (by omega)]
 simp
theorem backL_take {β : Type} (xs : List β) {k : Nat} (hk : k < xs.length) : (backL xs).take (k + 1) = (backL xs).take k ++ [(xs.length - 1 - k, xs[xs.length - 1 - k]'(by omega))] := by
 rw [List.take_add_one, backL_get xs hk]
 rfl
def slot3 (a : Act) : Nat := match a.tmps.getD 3 undef with | .int _ i => (i + 1).toNat | _ => 0
set_option maxHeartbeats 1000000 in
theorem back_stops {fB : FuncId} {e : Ty} {xs : List e.den} {b off : Nat} {wb : World} (C : BackCode P fB e env) (hty : env.TyOk P) (hF : ∀ f, F.fn f) (hro : F.round = none) (hdep : F.depth = none) (hlen : xs.length ≤ lim) (B : BackAt wb U e xs b off) :
  SeqStopsK F n P fB #[.pointer (some ⟨b, off, none⟩)] (encB e) (fun X Y => X.heap.size ≤ Y.heap.size ∧ ∀ k, k < wb.heap.size → ¬ U k → Y.heap[k]? = X.heap[k]?) (fun ys => ys = backL xs) (fun pre => pre <+: backL xs) xs.length wb := by
 intro l J Jx W hW hJ hJx hY h0
 have dep : ∀ {m : Nat}, F.depth.isSome = true → 1 ≤ m := fun h => by rw [hdep] at h; cases h
 refine callsIn_of_wp C.hfn C.hbody (hF _) ?_ hro
 generalize hy : (Value.func (.yield l) #[] #[]) = y at *
 have A0 : AtIt y (.pointer (some ⟨b, off, none⟩)) { tmps := (#[y] ++ #[.pointer (some ⟨b, off, none⟩)]) ++ Array.replicate (C.fn.ntmps - (#[y] ++ #[Value.pointer (some ⟨b, off, none⟩)]).size) undef, defers := [] } := by
  rw [C.hnt]
  exact ⟨rfl, by simp, by simp, by simp⟩
 revert A0
 generalize ({ tmps := (#[y] ++ #[.pointer (some ⟨b, off, none⟩)]) ++ Array.replicate (C.fn.ntmps - (#[y] ++ #[Value.pointer (some ⟨b, off, none⟩)]).size) undef, defers := [] } : Act) = a0
 intro A0
 have hS0 : Same U wb W := ⟨hW.size, fun k hk _ => hW.block k hk⟩
 have growJ : ∀ {pre : List (Nat × e.den)} {X Y : World}, J pre X → Kept Foot.none X Y → J pre Y := fun h K => hJ _ _ _ none h K.grown fun r e => by cases e
 have growJx : ∀ {pre : List (Nat × e.den)} {X Y : World}, Jx pre X → Kept Foot.none X Y → Jx pre Y := fun h K => hJx _ _ _ none h K.grown fun r e => by cases e
 obtain ⟨σ0, e0, i0⟩ := C.e0 xs hlen
 refine wpIn_seq (wpIn_mono (piece hty hF C.lp C.t0.1 (A0.sim1 C B hS0) e0) ?_)
 rintro ex a1 w1 ⟨rfl, ⟨_, _, _, S1⟩, K1, d1⟩
 have A1 : AtIt y (.pointer (some ⟨b, off, none⟩)) a1 := ⟨S1.defers.trans C.hmk, S1.size.trans C.hn, (d1 0 C.t0.2.1).trans A0.y, (d1 1 C.t0.2.2).trans A0.p⟩
 have v1 := S1.slots 3
 rw [i0] at v1
 replace v1 := slot_int v1
 refine wpIn_block (wpIn_loop (fun a w => AtIt y (.pointer (some ⟨b, off, none⟩)) a ∧ Same U wb w ∧ ∃ k, k ≤ xs.length ∧ a.tmps.getD 3 undef = .int .i64 ((xs.length : Int) - 1 - k) ∧ J ((backL xs).take k) w)
  (fun a _ => slot3 a) ⟨A1, hS0.kept K1, 0, Nat.zero_le _, by rw [v1]; simp, by simpa using growJ h0 K1⟩ ?_)
 rintro a w ⟨A, hS, k, hk, hi, hj⟩
 obtain ⟨σ1, e1, i1⟩ := C.e1 xs ((xs.length : Int) - 1 - k)
 refine wpIn_seq (wpIn_seq (wpIn_mono (piece hty hF C.lp C.t1.1 (A.sim3 C B hS hi) e1) ?_))
 rintro ex a1 w1 ⟨rfl, ⟨_, _, _, S1⟩, K1, d1⟩
 have A1 : AtIt y (.pointer (some ⟨b, off, none⟩)) a1 := ⟨S1.defers.trans C.hmk, S1.size.trans C.hn, (d1 0 C.t1.2.1).trans A.y, (d1 1 C.t1.2.2.1).trans A.p⟩
 have hi1 := (d1 3 C.t1.2.2.2).trans hi
 have hS1 := hS.kept K1
 have hj1 := growJ hj K1
 have v1 := S1.slots 8
 rw [i1] at v1
 replace v1 := slot_bool v1
 clear d1 K1 S1
 refine wpIn_cond (t := decide (0 ≤ (xs.length : Int) - 1 - k)) v1 ?_
 by_cases hlt : k < xs.length
 case neg =>
  have : k = xs.length := by omega
  subst this
  rw [decide_eq_false (by omega)]
  refine wpIn_exit ?_
  simp only [Exit.then, Exit.inBlock, if_true]
  refine ⟨A1.d, _, results_none C.hres _ _ _, ⟨_, rfl⟩, .inl ⟨_, rfl, ?_⟩⟩
  rwa [List.take_of_length_le (by rw [backL_length]; omega)] at hj1
 case pos =>
 rw [decide_eq_true (by omega)]
 refine wpIn_skip ?_
 show (Code.seq _ _).wpIn _ _ _ _ _ _
 obtain ⟨m, hm⟩ : ∃ m, m = xs.length - 1 - k := ⟨_, rfl⟩
 have him : (xs.length : Int) - 1 - k = (m : Int) := by omega
 have hmx : m < xs.length := by omega
 rw [him] at hi1
 refine wpIn_seq (wpIn_block (wpIn_seq (wpIn_region ?_)))
 rw [C.sz, show List.range 8 = 0 :: ([1, 2, 3, 4, 5] ++ [6, 7]) from by decide]
 unfold wpOpsIn
 rw [C.g0.1]
 dsimp only
 rw [show Region.wanted C.o0 (yielded C.ops3 a1.tmps) = true by simp [Region.wanted, C.g0.2.2.2], if_pos rfl]
 refine ⟨fun f _ => hF f, ?_⟩
 rw [Oper.semAt_plain F _ _ (fun c e => by rw [C.g0.2.1] at e; cases e), show (execOp a1.eval C.o0).run P w1 = .ok (.value (a1.tmps.getD 0 undef)) w1 by unfold execOp; rw [C.g0.2.1]; rfl]
 show wpOpsIn _ _ _ _ _ _ _ _
 have hp11 : ∀ v, (a1.put C.o0.dst v).tmps.getD 11 undef = v := fun v => by rw [C.g0.2.2.1]; exact put_at' (by rw [A1.s]; omega)
 have S3 := (A1.sim3 C B hS1 hi1).set (d := 11) (s := .undef) (v := a1.tmps.getD 0 undef) (by rw [C.hn]; omega) (.undef _)
 rw [← C.g0.2.2.1] at S3
 obtain ⟨σ3, e3, i12, i16⟩ := C.e3 xs m xs[m] (List.getElem?_eq_getElem hmx)
 refine opsIn_app hty hF [1, 2, 3, 4, 5] [6, 7] S3 e3 (fun i hi o ho => (C.t3 i (by simp at hi ⊢; omega) o ho).1) ?_
 intro σ4 γ4 φ4 O4 a4 w4 S4 hk4 d4
 injection hk4 with hk4
 subst hk4
 have K4 : Kept Foot.none w1 w4 := S4.kept
 have keep : ∀ d, d = 0 ∨ d = 1 ∨ d = 3 ∨ d = 11 → a4.tmps.getD d undef = (a1.put C.o0.dst (a1.tmps.getD 0 undef)).tmps.getD d undef := fun d hd => d4 d fun i hi o ho e => by
  obtain ⟨_, h0, h1, h3, h11⟩ := C.t3 i (by simp at hi ⊢; omega) o ho
  rcases hd with rfl | rfl | rfl | rfl <;> contradiction
 have put1 : ∀ d, d ≠ 11 → ∀ v, (a1.put C.o0.dst v).tmps.getD d undef = a1.tmps.getD d undef := fun d hd v => put_away fun h => hd (by rw [C.g0.2.2.1] at h; injection h with h; exact h.symm)
 have A4 : AtIt y (.pointer (some ⟨b, off, none⟩)) a4 := ⟨S4.defers.trans C.hmk, S4.size.trans C.hn, (keep 0 (by simp)).trans ((put1 0 (by omega) _).trans A1.y), (keep 1 (by simp)).trans ((put1 1 (by omega) _).trans A1.p)⟩
 have hi4 : a4.tmps.getD 3 undef = .int .i64 (m : Int) := (keep 3 (by simp)).trans ((put1 3 (by omega) _).trans hi1)
 have hy4 : a4.tmps.getD 11 undef = y := (keep 11 (by simp)).trans ((hp11 _).trans A1.y)
 have v12 := S4.slots 12
 rw [i12] at v12
 replace v12 := slot_int v12
 have v16 := S4.slots 16
 rw [i16] at v16
 replace v16 := v16.enc C.flat
 have hS4 := hS1.kept K4
 have hj4 := growJ hj1 K4
 clear S4 d4 keep put1 S3 hp11
 unfold wpOpsIn
 rw [C.g6.1]
 dsimp only
 rw [show Region.wanted C.o6 (yielded C.ops3 a4.tmps) = true by simp [Region.wanted, C.g6.2.2.2.2.2], if_pos rfl]
 obtain ⟨fn, tmps, assign, body, hyl, hR⟩ := hY _ (m, xs[m]) w4 hj4 (by rw [List.length_take, backL_length]; omega)
 refine ⟨fun f _ => hF f, ?_⟩
 have hrun : (execOp a4.eval C.o6).run P w4 = .ok (.round l fn tmps assign body) w4 := by
  unfold execOp
  rw [C.g6.2.1]
  dsimp only
  rw [Sem.run_bind, run_resolve_value C.g6.2.2.1 (show a4.eval (.tmp 11) = .func (.yield l) #[] #[] from hy4.trans hy.symm), Result.andThen_ok]
  simp only [invoke, C.g6.2.2.2.1]
  rw [← hyl]
  have h12 : a4.eval (.tmp 12) = .int .i64 (m : Int) := v12
  have h16 : a4.eval (.tmp 16) = encV e xs[m] := v16
  simp [h12, h16, encB]
 rw [Oper.semAt_plain F _ _ (fun c e => by rw [C.g6.2.1] at e; cases e), hrun, Oper.uponIn_round]
 refine ⟨dep, hR.mono ?_⟩
 have hp17 : ∀ v, (a4.put C.o6.dst v).tmps.getD 17 undef = v := fun v => by rw [C.g6.2.2.2.2.1]; exact put_at' (by rw [A4.s]; omega)
 have put4 : ∀ d, d ≠ 17 → ∀ v, (a4.put C.o6.dst v).tmps.getD d undef = a4.tmps.getD d undef := fun d hd v => put_away fun h => hd (by rw [C.g6.2.2.2.2.1] at h; injection h with h; exact h.symm)
 have A5 : ∀ v, AtIt y (.pointer (some ⟨b, off, none⟩)) (a4.put C.o6.dst v) := fun v => ⟨(put_defers' _ _ _).trans A4.d, (put_size' _ _ _).trans A4.s, (put4 0 (by omega) v).trans A4.y, (put4 1 (by omega) v).trans A4.p⟩
 have hi5 : ∀ v, (a4.put C.o6.dst v).tmps.getD 3 undef = .int .i64 (m : Int) := fun v => (put4 3 (by omega) v).trans hi4
 have last : ∀ (t : Bool) (W5 : World) (Q : Exit → Act → World → Prop), (∀ a6 w6, AtIt y (.pointer (some ⟨b, off, none⟩)) a6 → a6.tmps.getD 3 undef = .int .i64 (m : Int) → a6.eval (.tmp 18) = .bool (!t) → Kept Foot.none W5 w6 → Q .normal a6 w6) →
   wpOpsIn F n P C.ops3 Q [7] (a4.put C.o6.dst (.bool t)) W5 := by
  intro t W5 Q hQ
  obtain ⟨σ7, e7, i18⟩ := C.e7 t
  rw [← List.append_nil [7]]
  refine opsIn_app hty hF [7] [] ((A5 (.bool t)).sim17 (U := fun _ => False) (wb := W5) (w := W5) C (hp17 _)) e7 (fun i hi o ho => (C.t3 i (by simp at hi ⊢; omega) o ho).1) ?_
  intro σ6 γ6 φ6 O6 a6 w6 S6 hk6 d6
  injection hk6 with hk6
  subst hk6
  have keep : ∀ d, d = 0 ∨ d = 1 ∨ d = 3 → a6.tmps.getD d undef = (a4.put C.o6.dst (.bool t)).tmps.getD d undef := fun d hd => d6 d fun i hi o ho e => by
   obtain ⟨_, h0, h1, h3, h11⟩ := C.t3 i (by simp at hi ⊢; omega) o ho
   rcases hd with rfl | rfl | rfl <;> contradiction
  have v18 := S6.slots 18
  rw [i18] at v18
  exact hQ a6 w6 ⟨S6.defers.trans C.hmk, S6.size.trans C.hn, (keep 0 (by simp)).trans (A5 _).y, (keep 1 (by simp)).trans (A5 _).p⟩ ((keep 3 (by simp)).trans (hi5 _)) (slot_bool v18) S6.kept
 have hnext : (backL xs).take k ++ [(m, xs[m])] = (backL xs).take (k + 1) := by rw [backL_take xs hlt]; subst hm; rfl
 rw [hnext]
 rintro ed W5 (⟨rfl, hj5, hk5⟩ | ⟨rfl, hjx5⟩)
 ·-- it goes on
  refine last true W5 _ ?_
  intro a6 w6 A6 hi6 v18 K6
  have hS6 : Same U wb w6 := Same.kept ⟨Nat.le_trans hS4.size hk5.1, fun q hq hu => (hk5.2 q hq hu).trans (hS4.block q hq hu)⟩ K6
  refine wpIn_cond (t := false) v18 (wpIn_skip ?_)
  show (Code.region _ _ _).wpIn _ _ _ _ _ _
  obtain ⟨σ2, e2, i2⟩ := C.e2 xs m (Nat.lt_of_lt_of_le hmx hlen)
  refine wpIn_mono (piece hty hF C.lp C.t2.1 (A6.sim3 C B hS6 hi6) e2) ?_
  rintro ex a7 w7 ⟨rfl, ⟨_, _, _, S7⟩, K7, d7⟩
  have v3 := S7.slots 3
  rw [i2] at v3
  replace v3 := slot_int v3
  refine ⟨⟨⟨S7.defers.trans C.hmk, S7.size.trans C.hn, (d7 0 C.t2.2.1).trans A6.y, (d7 1 C.t2.2.2).trans A6.p⟩, hS6.kept K7, k + 1, by omega, ?_, growJ (growJ hj5 K6) K7⟩, ?_⟩
  ·rw [v3]; congr 1; omega
  ·unfold slot3; rw [v3, hi]; dsimp only; omega
 ·-- no more
  refine last false W5 _ ?_
  intro a6 w6 A6 hi6 v18 K6
  refine wpIn_cond (t := true) v18 (wpIn_ret ?_)
  exact ⟨A6.d, _, results_none C.hres _ _ _, ⟨_, rfl⟩, .inr ⟨_, List.take_prefix _ _, growJx hjx5 K6⟩⟩
end Go.V

/- slices.Backward has its contract. No condition. -/
namespace Go.V
variable {α : Type}
variable {P : Program} {env : Env} {w₀ w w' : World} {O₀ W O O' U : Foot} {σ σ' : St} {γ γ' : Name → Src} {φ φ' : Name → Foot} {a a' : Act} {n : Nat} {F : Fence}
structure MakeCode (P : Program) (fM fB : FuncId) (e : Ty) (env : Env) where
 fn : Func
 c : Code
 lp : Nat → Kont St → St → Option St
 hfn : P.funcs[fM]? = some fn
 hbody : fn.body = some c
 hname : fn.name ≠ "runtime.NumGoroutine"
 hres : fn.results = #[.tmp 2]
 hnt : fn.ntmps = env.n
 hpos : 1 ≤ env.n
 hmk : env.marks = []
 hpin : env.pin = none
 hlp : LoopsOk env lp c
 e0 : ∀ xs : List e.den, ∃ σ nm, execK env lp c ⟨fun _ => none, fun _ _ => none, some⟩ ⟨[(0, .pv ⟨.slice e, xs⟩)], []⟩ = some σ ∧ σ.slot 2 = .clo fB [.ptr ⟨nm, []⟩] ∧ σ.root nm = some (.data true ⟨.slice e, xs⟩ .z)
theorem make_ok {fM fB : FuncId} {e : Ty} (C : MakeCode P fM fB e env) (hty : env.TyOk P) (hfn : env.FnOk P) {xs : List e.den} {v : Value} (hU : ∀ k, U k → k < w.heap.size) (hr : Rep w U (.slice e) .z xs [v] Foot.none) :
  Calls P fM #[v] w fun ed w' => ∃ b off, ed = .returned (.func (.func fB) #[] #[.pointer (some ⟨b, off, none⟩)]) ∧ Kept Foot.none w w' ∧ w.heap.size ≤ b ∧ BackAt w' U e xs b off := by
 refine calls_of_wp C.hfn C.hbody ?_
 obtain ⟨σ, nm, he, h2, hroot⟩ := C.e0 xs
 have S : Sim P env w U Foot.none ⟨[(0, .pv ⟨.slice e, xs⟩)], []⟩ (fun _ => .val []) (fun _ => Foot.none) U { tmps := #[v] ++ Array.replicate (C.fn.ntmps - (#[v] : Array Value).size) undef, defers := [] } w := by
  refine Sim.ofNone C.hmk.symm (by have := C.hpos; simp [C.hnt]; omega) C.hpin hU fun i => ?_
  rw [slot_cons]
  split
  ·rename_i ei
   subst ei
   exact .pv _ _ [v] (by simp only [Val, Ty.agg, Array.getD_eq_getD_getElem?]; rw [Array.getElem?_append_left (by simp)]; rfl) hr
  ·exact .undef _
 refine wp_mono (exec_ok hty hfn C.lp C.c C.hlp S he) ?_
 rintro ex a' w' ⟨σ', γ', φ', O', S', hk⟩
 cases ex with
 | normal => cases hk
 | exit id => cases hk
 | goto l => exact hk.elim
 | panic ch => exact hk.elim
 | outgrown => exact hk.elim
 | ret =>
  injection hk with hk
  subst hk
  have hs := S'.slots 2
  rw [h2] at hs
  obtain ⟨b, off, K, tid, fr, cs, F', hsrc, hb, hfr, hcs, hrep, hF', hOb, hphi⟩ := S'.roots nm _ hroot
  obtain ⟨hfresh, hnU⟩ := S'.fresh nm _ hroot b ((hphi b).2 (.inl rfl))
  have hval : a'.tmps.getD 2 undef = .func (.func fB) #[] #[.pointer (some ⟨b, off, none⟩)] := by
   generalize a'.tmps.getD 2 undef = u at hs
   cases hs with
   | clo _ _ vs hsz hvs =>
    have hsz : vs.size = 1 := hsz
    obtain ⟨u, hu⟩ : ∃ u, vs[0]? = some u := ⟨vs[0], by simp [hsz]⟩
    have hp := hvs 0 _ _ rfl hu
    have : u = .pointer (some ⟨b, off, none⟩) := by
     cases hp with
     | ptr _ t b' off' hp =>
      obtain ⟨b₁, d, sh, hr', htp, hg⟩ := hp
      have := hg ⟨_, _, _, _, hroot, rfl, rfl⟩
      have hsrc' : γ' nm = .mem b off := hsrc
      unfold goto at this
      dsimp only at this
      rw [hsrc'] at this
      injection this with this
      injection this with _ this
      injection this with e1 e2
      rw [e1, e2]
     | ptrH _ s b' off' hr' hg => rw [hroot] at hr'; cases hr'
    subst this
    have : vs = #[.pointer (some ⟨b, off, none⟩)] := by
     apply Array.ext_getElem?
     intro i
     cases i with
     | zero => rw [hu]; rfl
     | succ i => rw [Array.getElem?_eq_none (by omega), Array.getElem?_eq_none (by simp)]
    rw [this]
  refine ⟨S'.defers.trans C.hmk, _, results_tmp C.hres _ _ _, b, off, by rw [hval], S'.kept, hfresh.resolve_right fun h => h, (Array.getElem?_eq_some_iff.1 hb).1, hnU, cs, ?_, cell_of_cellsAt hcs⟩
  exact Rep.freeze (fun k _ h hk => h ((S'.own k).2 (.inl hk))) rfl (fun k hk => (hrep.1 k hk).elim) hrep
end Go.V

/- What is no cells may be turned. No condition. -/
namespace Go.V
variable {α : Type}
variable {P : Program} {env : Env} {w₀ w w' : World} {O₀ W O O' U : Foot} {σ σ' : St} {γ γ' : Name → Src} {φ φ' : Name → Foot} {a a' : Act} {n : Nat} {F : Fence}
structure Stay (w w' : World) : Prop where
 size : w.heap.size ≤ w'.heap.size
 block : ∀ (b : Nat) (C : Array Value) (tid : TypeId) (fr : Nat × Nat), w.heap[b]? = some (Obj.cells C tid fr) → w'.heap[b]? = some (Obj.cells C tid fr)
theorem Stay.trans {x y z : World} (h : Stay x y) (k : Stay y z) : Stay x z := ⟨Nat.le_trans h.size k.size, fun _ _ _ _ e => k.block _ _ _ _ (h.block _ _ _ _ e)⟩
theorem Stay.refl (x : World) : Stay x x := ⟨Nat.le_refl _, fun _ _ _ _ e => e⟩
theorem Stay.cell (h : Stay w w') {a : Addr} {v : Value} (hv : w.cell? a = some v) : w'.cell? a = some v := by
 obtain ⟨o, ho, hc⟩ := cells_of_cell hv
 cases o with
 | cells C tid fr => rw [World.cell?_of_block ((h.block _ _ _ _ ho).trans ho.symm)]; exact hv
 | _ => cases hc
theorem Stay.of_grown {row : Option Nat} (hg : w.grownBy w' row) (hr : ∀ r, row = some r → ∃ o : Obj, w.heap[r]? = some o ∧ o.isCells = false) : Stay w w' :=
 ⟨hg.size, fun b _ _ _ e => (hg.block b (Array.getElem?_eq_some_iff.1 e).1 fun h => by
  obtain ⟨o, ho, hc⟩ := hr b h.symm
  rw [e] at ho
  injection ho with ho
  subst ho
  cases hc).trans e⟩
theorem Stay.cellsAt (h : Stay w w') {k : Nat} {s : Src} {cs : List Value} (hc : cellsAt w k s = some cs) : cellsAt w' k s = some cs := by
 cases s with
 | val c => exact hc
 | mem b off =>
  obtain ⟨C, tid, fr, hb, hle, rfl⟩ := cellsAt_mem hc
  simp only [V.cellsAt, h.block _ _ _ _ hb, if_pos hle]
theorem Stay.rep (h : Stay w w') : ∀ {t : Ty} {sh : Sh} {x : t.den} {cs : List Value} {F : Foot}, Rep w O t sh x cs F → Rep w' O t sh x cs F := by
 intro t
 induction t with
 | int k => intro sh x cs F h; exact h
 | bool => intro sh x cs F h; exact h
 | str => intro sh x cs F h; exact h
 | unit => intro sh x cs F h; exact h
 | pair a b iha ihb =>
  intro sh x cs F hr
  obtain ⟨c₁, c₂, F₁, F₂, hc, h1, h2, hU, hd⟩ := hr
  exact ⟨c₁, c₂, F₁, F₂, hc, iha h1, ihb h2, hU, hd⟩
 | slice e ih =>
  intro sh x cs F hr
  have frozen : ∀ (x : List e.den), ((∀ b, ¬ F b) ∧ ∃ a cap, cs = [.slice a x.length cap] ∧ x.length ≤ cap ∧
   (a = none → cap = 0) ∧ (∀ a', a = some a' → a' = a') ∧
   (x = [] ∨ ∃ b off cl, a = some ⟨b, off, none⟩ ∧ b < w.heap.size ∧ ¬ O b ∧ Els (Rep w O e .z) x cl Foot.none ∧ ∀ i, i < cl.length → w.cell? ⟨b, off + i, none⟩ = cl[i]?)) →
   ((∀ b, ¬ F b) ∧ ∃ a cap, cs = [.slice a x.length cap] ∧ x.length ≤ cap ∧
   (a = none → cap = 0) ∧ (∀ a', a = some a' → a' = a') ∧
   (x = [] ∨ ∃ b off cl, a = some ⟨b, off, none⟩ ∧ b < w'.heap.size ∧ ¬ O b ∧ Els (Rep w' O e .z) x cl Foot.none ∧ ∀ i, i < cl.length → w'.cell? ⟨b, off + i, none⟩ = cl[i]?)) := by
   rintro x ⟨hn, a, cap, hc, hl, ha, hs, hx⟩
   refine ⟨hn, a, cap, hc, hl, ha, hs, hx.imp id ?_⟩
   rintro ⟨b, off, cl, hab, hb, hob, hel, hcell⟩
   refine ⟨b, off, cl, hab, Nat.lt_of_lt_of_le hb h.size, hob, hel.mono fun y _ c F' _ hy => ih hy, fun i hi => ?_⟩
   have := hcell i hi
   rw [List.getElem?_eq_getElem hi] at this ⊢
   exact h.cell this
  unfold Rep at hr ⊢
  cases sh with
  | own s =>
   dsimp only at hr ⊢
   rcases hr with hr | ⟨b, off, cap, C, tid, fr, F', hc, hl, hb, hfr, hsz', hel, hU, hd, hOb⟩
   ·exact .inl hr
   ·exact .inr ⟨b, off, cap, C, tid, fr, F', hc, hl, h.block _ _ _ _ hb, hfr, hsz', hel.mono fun y _ c F'' _ hy => ih hy, hU, hd, hOb⟩
  | gone => exact hr
  | z => exact frozen x hr
  | pr a b => exact frozen x hr
theorem Stay.goto (h : Stay w w') : ∀ (p : Path) {t : Ty} {s : Src} {r : Ty × Src}, goto w p t s = some r → goto w' p t s = some r
 | [], _, _, _, e => e
 | .l :: p, .pair a _, s, r, e => Stay.goto h p (t := a) e
 | .r :: p, .pair _ b, s, r, e => Stay.goto h p (t := b) e
 | .at n :: p, .slice t, s, r, e => by
  unfold V.goto at e ⊢
  split at e
  ·rename_i hc
   rw [h.cellsAt hc]
   exact Stay.goto h p e
  ·cases e
 | .l :: _, .int _, _, _, e | .l :: _, .bool, _, _, e | .l :: _, .str, _, _, e | .l :: _, .unit, _, _, e | .l :: _, .slice _, _, _, e
 | .r :: _, .int _, _, _, e | .r :: _, .bool, _, _, e | .r :: _, .str, _, _, e | .r :: _, .unit, _, _, e | .r :: _, .slice _, _, _, e
 | .at _ :: _, .int _, _, _, e | .at _ :: _, .bool, _, _, e | .at _ :: _, .str, _, _, e | .at _ :: _, .unit, _, _, e | .at _ :: _, .pair _ _, _, _, e => by simp [V.goto] at e
def Slot.simple : Slot → Bool
 | .undef | .pv _ | .ref _ _ | .vw _ _ _ _ | .ptr _ | .fptr _ | .nilS => true
 | _ => false
theorem Stay.place (h : Stay w w') {p : Place} {t : Ty} {src : Src} (hp : PlaceAt w σ γ p t src) : PlaceAt w' σ γ p t src := by
 obtain ⟨b, d, sh, hr, ht, hg⟩ := hp
 exact ⟨b, d, sh, hr, ht, fun hL => h.goto _ (hg hL)⟩
theorem Stay.slot (h : Stay w w') {s : Slot} {v : Value} (hs : s.simple = true) (S : SlotOk P w O σ γ s v) : SlotOk P w' O σ γ s v := by
 cases S with
 | undef v => exact .undef v
 | pv d v cs hv hr => exact .pv d v cs hv (h.rep hr)
 | ref t p v src hp hl => exact .ref t p v src (h.place hp) fun hL => let ⟨cs, hc, hv⟩ := hl hL; ⟨cs, h.cellsAt hc, hv⟩
 | vw e p lo hi src a n c hp hl h1 h2 => exact .vw e p lo hi src a n c (h.place hp) (fun hL => h.cellsAt (hl hL)) h1 h2
 | ptr p t b off hp => exact .ptr p t b off (h.place hp)
 | ptrH n s b off hr hg => exact .ptrH n s b off hr hg
 | fptr d b off cs h1 h2 h3 h4 =>
  refine .fptr d b off cs (Nat.lt_of_lt_of_le h1 h.size) h2 (h.rep h3) fun k hk => ?_
  have := h4 k hk
  rw [List.getElem?_eq_getElem hk] at this ⊢
  exact h.cell this
 | clo f caps vs h1 h2 => cases hs
 | fnA a b φ v w₁ O₁ h1 h2 h3 h4 => cases hs
 | tup l vs h1 h2 => cases hs
 | nilS => exact .nilS
theorem Stay.root (h : Stay w w') {r : Root} {src : Src} {F : Foot} (hs : ∀ s, r = .held s → s.simple = true) (R : RootOk P w O σ γ r src F) : RootOk P w' O σ γ r src F := by
 cases r with
 | data b d sh =>
  cases b with
  | true =>
   obtain ⟨b, off, C, tid, fr, cs, F', h1, h2, h3, h4, h5, h6⟩ := R
   exact ⟨b, off, C, tid, fr, cs, F', h1, h.block _ _ _ _ h2, h3, h.cellsAt h4, h.rep h5, h6⟩
  | false =>
   obtain ⟨cs, h1, h2⟩ := R
   exact ⟨cs, h1, h.rep h2⟩
 | held s =>
  obtain ⟨b, off, C, tid, fr, v, h1, h2, h3, h4, h5, h6⟩ := R
  exact ⟨b, off, C, tid, fr, v, h1, h.block _ _ _ _ h2, h3, h4, h.slot (hs s rfl) h5, h6⟩
def St.simple (σ : St) : Bool := σ.slots.all (fun x => x.2.simple) && σ.mem.all fun x => match x.2 with | .held s => s.simple | _ => true
theorem look_all {β : Type} {p : β → Bool} : ∀ {l : List (Nat × β)} {i : Nat} {x : β}, (l.all fun x => p x.2) = true → look l i = some x → p x = true
 | (j, y) :: l, i, x, h, e => by
  rw [List.all_cons, Bool.and_eq_true] at h
  unfold look at e
  split at e
  ·injection e with e; subst e; exact h.1
  ·exact look_all h.2 e
theorem St.simple_slot (h : σ.simple = true) (i : Nat) : (σ.slot i).simple = true := by
 unfold St.simple at h
 rw [Bool.and_eq_true] at h
 unfold St.slot
 cases hl : look σ.slots i with
 | none => rfl
 | some s => exact look_all h.1 hl
theorem St.simple_root (h : σ.simple = true) {n : Name} {r : Root} (hr : σ.root n = some r) (s : Slot) (e : r = .held s) : s.simple = true := by
 unfold St.simple at h
 rw [Bool.and_eq_true] at h
 have := look_all (p := fun r : Root => match r with | .held s => s.simple | _ => true) h.2 hr
 subst e
 exact this
theorem Sim.turn (S : Sim P env w₀ O₀ W σ γ φ O a w) (hs : σ.simple = true) {row : Option Nat} (hg : w.grownBy w' row) (hr : ∀ r, row = some r → w₀.heap.size ≤ r ∧ ∃ o : Obj, w.heap[r]? = some o ∧ o.isCells = false) :
  Sim P env w₀ O₀ W σ γ φ O a w' := by
 have h := Stay.of_grown hg fun r e => (hr r e).2
 refine ⟨S.defers, S.size, ⟨hg.os.trans S.kept.os, hg.tape.trans S.kept.tape, hg.output.trans S.kept.output, Nat.le_trans S.kept.size hg.size, fun k hk hn => (hg.block k (Nat.lt_of_lt_of_le hk S.kept.size) fun e => ?_).trans (S.kept.block k hk hn)⟩,
  fun n r e => h.root (St.simple_root hs e) (S.roots n r e), S.apart, S.fresh, S.own, fun b hb => Nat.lt_of_lt_of_le (S.old b hb) h.size, fun i => h.slot (St.simple_slot hs i) (S.slots i), S.pin⟩
 have := (hr k e.symm).1
 omega
end Go.V

/- A function that goes over slices, and over each from its end on, until one element is met. No condition. -/
namespace Go.V
variable {α : Type}
variable {P : Program} {env : Env} {w₀ w w' : World} {O₀ W O O' U : Foot} {σ σ' : St} {γ γ' : Name → Src} {φ φ' : Name → Foot} {a a' : Act} {n : Nat} {F : Fence}
structure SeenFun where
 tC : Ty
 tCh : Ty
 e : Ty
 d : Ty
 chains : tC.den → List tCh.den
 vers : tCh.den → List e.den
 hit : Int → e.den → Bool
 add : e.den → List d.den
 add1 : ∀ v, (add v).length ≤ 1
def SeenFun.pick (f : SeenFun) (snap : Int) (vs : List f.e.den) : List f.d.den := match vs.reverse.find? (f.hit snap) with | some v => f.add v | none => []
def SeenFun.all (f : SeenFun) (snap : Int) (l : List f.tCh.den) : List f.d.den := l.flatMap fun ch => f.pick snap (f.vers ch)
def SeenFun.fn (f : SeenFun) : Args [.ro f.tC, .ro (.int .i64)] → Option (Tup (([(.slice f.d, .own .z)] : List (Ty × Sh)).map (·.1) ++ ios [.ro f.tC, .ro (.int .i64)])) := fun as =>
 gd (decide ((f.chains as.1).length ≤ lim) && (f.chains as.1).all fun ch => decide ((f.vers ch).length ≤ lim)) (some (f.all as.2.1 (f.chains as.1), ()))
theorem SeenFun.pick_length (f : SeenFun) (snap : Int) (vs : List f.e.den) : (f.pick snap vs).length ≤ 1 := by
 unfold SeenFun.pick
 split
 ·exact f.add1 _
 ·simp
theorem SeenFun.all_length (f : SeenFun) (snap : Int) : ∀ l, (f.all snap l).length ≤ l.length
 | [] => by simp [SeenFun.all]
 | c :: l => by
  have h1 := f.pick_length snap (f.vers c)
  have h2 := SeenFun.all_length f snap l
  simp only [SeenFun.all, List.flatMap_cons, List.length_append, List.length_cons] at h2 ⊢
  omega
theorem SeenFun.all_take (f : SeenFun) (snap : Int) {l : List f.tCh.den} {i : Nat} {x : f.tCh.den} (h : l[i]? = some x) : f.all snap (l.take (i + 1)) = f.all snap (l.take i) ++ f.pick snap (f.vers x) := by
 rw [List.take_add_one, h]
 simp [SeenFun.all]
def SeenFun.stL (f : SeenFun) (ch : List f.tCh.den) (snap : Int) (out : List f.d.den) (i : Nat) : St :=
 ⟨[(3, .ptr ⟨24, []⟩), (5, .ptr ⟨40, []⟩), (12, .pv ⟨.slice f.tCh, ch⟩), (13, .pv ⟨.int .i64, (ch.length : Int)⟩), (14, .pv ⟨.int .i64, (i : Int)⟩)],
  [(24, .data true ⟨.int .i64, snap⟩ .z), (40, .data true ⟨.slice f.d, out⟩ (.own .z))]⟩
def SeenFun.stR (f : SeenFun) (ch : List f.tCh.den) (snap : Int) (out : List f.d.den) (i : Nat) (vs : List f.e.den) : St :=
 ⟨[(3, .ptr ⟨24, []⟩), (5, .ptr ⟨40, []⟩), (12, .pv ⟨.slice f.tCh, ch⟩), (13, .pv ⟨.int .i64, (ch.length : Int)⟩), (14, .pv ⟨.int .i64, (i : Int)⟩), (19, .pv ⟨.slice f.e, vs⟩)],
  [(24, .data true ⟨.int .i64, snap⟩ .z), (40, .data true ⟨.slice f.d, out⟩ (.own .z))]⟩
def SeenFun.stA (f : SeenFun) (ch : List f.tCh.den) (snap : Int) (out : List f.d.den) (i : Nat) (vs : List f.e.den) (v : f.e.den) : St :=
 ⟨[(3, .ptr ⟨24, []⟩), (5, .ptr ⟨40, []⟩), (9, .ptr ⟨72, []⟩), (12, .pv ⟨.slice f.tCh, ch⟩), (13, .pv ⟨.int .i64, (ch.length : Int)⟩), (14, .pv ⟨.int .i64, (i : Int)⟩), (19, .pv ⟨.slice f.e, vs⟩)],
  [(24, .data true ⟨.int .i64, snap⟩ .z), (40, .data true ⟨.slice f.d, out⟩ (.own .z)), (72, .data true ⟨f.e, v⟩ .z)]⟩
def hL : List (Nat × List Nat × List Name) := [(0, [3, 5, 12, 13, 14], [24, 40])]
def hR : List (Nat × List Nat × List Name) := [(0, [3, 5, 12, 13, 14, 19], [24, 40])]
def hA : List (Nat × List Nat × List Name) := [(0, [3, 5, 9, 12, 13, 14, 19], [24, 40, 72])]
def noLp : Nat → Kont α → St → Option α := fun _ _ _ => none
def κS : Kont St := ⟨some, fun _ _ => none, fun _ => none⟩
def κ3 : Kont (Nat × St) := ⟨fun σ => some (0, σ), fun i σ => some (i + 1, σ), fun _ => none⟩
theorem stA_keep (f : SeenFun) (ch : List f.tCh.den) (snap : Int) (out : List f.d.den) (i : Nat) (vs : List f.e.den) (v : f.e.den) : (f.stA ch snap out i vs v).keepAt hR 0 = f.stR ch snap out i vs := rfl
theorem stR_keep (f : SeenFun) (ch : List f.tCh.den) (snap : Int) (out : List f.d.den) (i : Nat) (vs : List f.e.den) : (f.stR ch snap out i vs).keepAt hL 0 = f.stL ch snap out i := rfl
theorem stR_simple (f : SeenFun) (ch : List f.tCh.den) (snap : Int) (out : List f.d.den) (i : Nat) (vs : List f.e.den) : (f.stR ch snap out i vs).simple = true := rfl
theorem stA_simple (f : SeenFun) (ch : List f.tCh.den) (snap : Int) (out : List f.d.den) (i : Nat) (vs : List f.e.den) (v : f.e.den) : (f.stA ch snap out i vs v).simple = true := rfl
structure SeenCode (P : Program) (fS fM fB : FuncId) (f : SeenFun) (E : List Deferred → Env) where
 fn : Func
 r0 : Code
 r1 : Code
 r2 : Code
 r3 : Code
 r4 : Code
 ops5 : Array Oper
 asg : Code
 bod : Code
 r10 : Code
 r11 : Code
 o2 : Oper
 c2 : Call
 hfn : P.funcs[fS]? = some fn
 hname : fn.name ≠ "runtime.NumGoroutine"
 hbody : fn.body = some (.seq r0 (.seq r1 (.seq (.seq r2 (.block 0 (.loop (.seq r3 (.seq (.cond (.tmp 15) .skip (.exit 0)) (.seq (.block 1 (.seq r4 (.seq (.region 5 ops5 false) (.block 2 (.rangeFunc (.tmp 20) #[21, 22] asg bod))))) r10)))))) (.seq r11 .ret))))
 hres : fn.results = #[.tmp 4]
 hnt : fn.ntmps = 37
 hn : ∀ ds, (E ds).n = 37
 hmk : ∀ ds, (E ds).marks = ds
 hpin : ∀ ds, (E ds).pin = none
 hty : ∀ ds, (E ds).TyOk P
 t0 : tameCode r0 = true
 t1 : tameCode r1 = true
 t2 : tameCode r2 = true
 t3 : tameCode r3 = true
 t4 : tameCode r4 = true
 t6 : tameCode asg = true
 t7 : tameCode bod = true
 t10 : tameCode r10 = true
 t11 : tameCode r11 = true
 n6 : ∀ i ∈ [3, 5, 12, 13, 14, 19], noSet i asg = true ∧ noSet i bod = true
 sz5 : ops5.size = 3
 t5 : ∀ i ∈ [0, 1], ∀ o, ops5[i]? = some o → tameOp o = true
 g2 : ops5[2]? = some o2 ∧ o2.op = .call c2 ∧ c2.callee = .value (.func fM) ∧ c2.args = #[.tmp 19] ∧ o2.dst = some 20 ∧ o2.guard = none
 e0 : ∀ ds (c : f.tC.den) (snap : Int), (f.chains c).length ≤ lim → ∃ σ1 σ2 σ3, execK (E ds) noLp r0 κS ⟨[(0, .pv ⟨f.tC, c⟩), (1, .pv ⟨.int .i64, snap⟩)], []⟩ = some σ1 ∧ execK (E ds) noLp r1 κS σ1 = some σ2 ∧
  execK (E ds) noLp r2 κS σ2 = some σ3 ∧ σ3.keepAt hL 0 = f.stL (f.chains c) snap [] 0
 e3 : ∀ ds ch snap out i, ∃ σ, execK (E ds) noLp r3 κS (f.stL ch snap out i) = some σ ∧ σ.slot 15 = .pv ⟨.bool, decide ((i : Int) < (ch.length : Int))⟩ ∧ σ.keepAt hL 0 = f.stL ch snap out i
 e4 : ∀ ds ch snap out i x, ch[i]? = some x → ∃ σ σ', execK (E ds) noLp r4 κS (f.stL ch snap out i) = some σ ∧ opsK (E ds) ops5 [0, 1] σ some = some σ' ∧ σ'.keepAt hR 0 = f.stR ch snap out i (f.vers x)
 e6 : ∀ ch snap out i vs v, ∃ σ, execK (E []) noLp asg κS ((f.stR ch snap out i vs).set 22 (.pv ⟨f.e, v⟩)) = some σ ∧ σ.keepAt hA 0 = f.stA ch snap out i vs v
 e7 : ∀ ch snap out i vs v, f.hit snap v = false → ∃ σ, execK (E []) noLp bod κ3 (f.stA ch snap out i vs v) = some (0, σ) ∧ σ.keepAt hR 0 = f.stR ch snap out i vs
 e8 : ∀ ch snap out i vs v, f.hit snap v = true → out.length + 1 ≤ lim → ∃ σ, execK (E []) noLp bod κ3 (f.stA ch snap out i vs v) = some (3, σ) ∧ σ.keepAt hR 0 = f.stR ch snap (out ++ f.add v) i vs
 e10 : ∀ ds ch snap out i, i < lim → ∃ σ, execK (E ds) noLp r10 κS (f.stL ch snap out i) = some σ ∧ σ.keepAt hL 0 = f.stL ch snap out (i + 1)
 e11 : ∀ ds ch snap out i, ∃ σ, execK (E ds) noLp r11 κS (f.stL ch snap out i) = some σ ∧ giveK σ (.slice f.d) (.own .z) (σ.slot 4) (fun x _ => some x) = some out
theorem part (hty : env.TyOk P) (hF : ∀ f, F.fn f) {c : Code} (ht : tameCode c = true) {r : St} (S : Sim P env w₀ O₀ W σ γ φ O a w) (h : execK env noLp c κS σ = some r) :
  c.wpIn F n P (fun e a' w' => e = .normal ∧ (∃ γ' φ' O', Sim P env w₀ O₀ W r γ' φ' O' a' w') ∧ KeepsFrom 0 w w') a w := by
 refine wpIn_mono (execIn_step hty hF noLp ht S h) ?_
 rintro e a' w' ⟨⟨σ', γ', φ', O', S', hk⟩, K, hd⟩
 cases e with
 | normal => injection hk with hk; subst hk; exact ⟨rfl, ⟨γ', φ', O', S'⟩, S.keepsFrom K 0⟩
 | exit id => cases hk
 | ret => cases hk
 | goto l => exact hk.elim
 | panic ch => exact hk.elim
 | outgrown => exact hk.elim
def markOf (r : Nat) : Deferred := { target := .collected r, args := #[] }
structure MarksOk (w₀ w : World) (rs : List Nat) : Prop where
 nodup : rs.Nodup
 at' : ∀ r ∈ rs, w₀.heap.size ≤ r ∧ w.heap[r]? = some (.deferred (some []))
theorem MarksOk.keep {rs : List Nat} (h : MarksOk w₀ w rs) (k : KeepsFrom 0 w w') : MarksOk w₀ w' rs := ⟨h.nodup, fun r hr => ⟨(h.at' r hr).1, k.same r _ (Nat.zero_le _) (h.at' r hr).2 rfl⟩⟩
theorem MarksOk.lt {rs : List Nat} (h : MarksOk w₀ w rs) : ∀ r ∈ rs, r < w.heap.size := fun r hr => (Array.getElem?_eq_some_iff.1 (h.at' r hr).2).1
theorem leaves_marks {fn : Func} {tmps : Array Value} {R : Ending → World → Prop} : ∀ {rs : List Nat} {w : World}, MarksOk w₀ w rs →
  (∀ w', Stay w w' → (∀ W, Kept W w₀ w → Kept W w₀ w') → ∃ v, (results fn tmps).run P w' = .ok v w' ∧ R (.returned v) w') → LeavesInM F n P fn tmps R (rs.map markOf) .returning w
 | [], w, h, hR => hR w (Stay.refl _) fun _ h => h
 | r :: rs, w, h, hR => by
  obtain ⟨h1, h2⟩ := h.at' r (by simp)
  have hlt := (Array.getElem?_eq_some_iff.1 h2).1
  have hst : Stay w (w.putObj r (.deferred none)) := Stay.of_grown (grownBy_putObj' w r _) fun r' e => by cases e; exact ⟨_, h2, rfl⟩
  refine ⟨by simp, .inl ⟨r, _, rfl, run_takeDeferred h2, ?_⟩⟩
  refine leaves_marks (rs := rs) ⟨(List.nodup_cons.1 h.nodup).2, fun r' hr' => ⟨(h.at' r' (by simp [hr'])).1, ?_⟩⟩ fun w' hs hk => hR w' (hst.trans hs) fun W K => hk W ?_
  ·rw [World.putObj_heap_other (fun (e : r' = r) => (List.nodup_cons.1 h.nodup).1 (by subst e; exact hr'))]
   exact (h.at' r' (by simp [hr'])).2
  ·exact ⟨K.os, K.tape, K.output, by rw [World.putObj_size]; exact K.size, fun k hk hn => (World.putObj_heap_other (by omega)).trans (K.block k hk hn)⟩
end Go.V

/- The range within it. No condition. -/
namespace Go.V
variable {α : Type}
variable {P : Program} {env : Env} {w₀ w w' : World} {O₀ W O O' U : Foot} {σ σ' : St} {γ γ' : Name → Src} {φ φ' : Name → Foot} {a a' : Act} {n : Nat} {F : Fence}
theorem Sim.own_old (S : Sim P env w O₀ (fun b => U b ∧ ¬ O₀ b) σ γ φ O a w') {k : Nat} (hk : k < w.heap.size) (hO : O k) (hn : ¬ O₀ k) : U k := by
 rcases (S.own k).1 hO with h | ⟨n, r, hr, hb⟩
 ·exact (hn h).elim
 ·rcases (S.fresh n r hr k hb).1 with h | h
  ·omega
  ·exact h.1
theorem same_else {l : List Nat} {t t' : Array Value} {σ : St} (h : ∀ i ∈ l, t'.getD i undef = t.getD i undef) (hs : ∀ i, i ∉ l → σ.slot i = .undef) : ∀ i, σ.slot i = .undef ∨ t'.getD i undef = t.getD i undef := fun i => by
 by_cases hi : i ∈ l
 ·exact .inr (h i hi)
 ·exact .inl (hs i hi)
theorem stR_slots (f : SeenFun) (ch : List f.tCh.den) (snap : Int) (out : List f.d.den) (k : Nat) (vs : List f.e.den) (i : Nat) (hi : i ∉ [3, 5, 12, 13, 14, 19]) : (f.stR ch snap out k vs).slot i = .undef := by
 simp only [List.mem_cons, List.not_mem_nil, or_false, not_or] at hi
 obtain ⟨h1, h2, h3, h4, h5, h6⟩ := hi
 have key : ∀ j, j ≠ i → Nat.beq j i = false := fun j h => by
  cases hb : Nat.beq j i with
  | false => rfl
  | true => exact (h (Nat.eq_of_beq_eq_true hb)).elim
 unfold St.slot SeenFun.stR
 simp only [look, key 3 (Ne.symm h1), key 5 (Ne.symm h2), key 12 (Ne.symm h3), key 13 (Ne.symm h4), key 14 (Ne.symm h5), key 19 (Ne.symm h6)]
 rfl
set_option maxHeartbeats 1000000 in
theorem range_ok {fS fM fB : FuncId} {f : SeenFun} {E : List Deferred → Env} {envB : Env} (C : SeenCode P fS fM fB f E) (B : BackCode P fB f.e envB) (htyB : envB.TyOk P) (hname : B.fn.name ≠ "runtime.NumGoroutine")
  {ch : List f.tCh.den} {snap : Int} {out : List f.d.den} {i : Nat} {vs : List f.e.den} (hlen : vs.length ≤ lim) (hout : out.length + 1 ≤ lim) {rs : List Nat} {b off : Nat}
  (S : Sim P (E (rs.map markOf)) w₀ O₀ W (f.stR ch snap out i vs) γ φ O a w) (hB : BackAt w O f.e vs b off) (hM : MarksOk w₀ w rs)
  (h20 : a.tmps.getD 20 undef = .func (.func fB) #[] #[.pointer (some ⟨b, off, none⟩)]) (h1 : 1 ≤ n) {Q : Exit → Act → World → Prop}
  (hQ : ∀ D w' γ' φ' O', Sim P (E ((D :: rs).map markOf)) w₀ O₀ W (f.stR ch snap (out ++ f.pick snap vs) i vs) γ' φ' O' { a with defers := markOf D :: a.defers } w' → MarksOk w₀ w' (D :: rs) →
   Q .normal { a with defers := markOf D :: a.defers } w' ∧ Q (.exit 2) { a with defers := markOf D :: a.defers } w') :
  (Code.rangeFunc (.tmp 20) #[21, 22] C.asg C.bod).wpIn Fence.wide n P Q a w := by
 have hF : ∀ l f, (Fence.wide.inRound l).fn f := fun _ _ => trivial
 have hfd : ∃ fn, P.funcs[fB]? = some fn ∧ fn.body.isSome = true ∧ fn.name ≠ "runtime.NumGoroutine" := ⟨B.fn, B.hfn, by rw [B.hbody]; rfl, hname⟩
 obtain ⟨fnB, hfB1, hfB2, hfB3⟩ := hfd
 have hrs := hM.lt
 have Sb := S.rebase
 obtain ⟨Wf, hWf⟩ : ∃ Wf : Foot, Wf = fun b => O b ∧ ¬ O₀ b := ⟨_, rfl⟩
 rw [← hWf] at Sb
 obtain ⟨L, hLdef⟩ : ∃ L, L = [3, 5, 12, 13, 14, 19] := ⟨_, rfl⟩
 let I : List (Nat × f.e.den) → World → Prop := fun pre X => (∀ p ∈ pre, f.hit snap p.2 = false) ∧ MarksOk w₀ X rs ∧ ∃ γ φ O', Sim P (E (rs.map markOf)) w O₀ Wf (f.stR ch snap out i vs) γ φ O' a X
 let Ix : Code → List (Nat × f.e.den) → World → Prop := fun c pre X => c = .exit 2 ∧ ∃ pre' p, pre = pre' ++ [p] ∧ (∀ q ∈ pre', f.hit snap q.2 = false) ∧ f.hit snap p.2 = true ∧ MarksOk w₀ X rs ∧
  ∃ γ φ O', Sim P (E (rs.map markOf)) w O₀ Wf (f.stR ch snap (out ++ f.add p.2) i vs) γ φ O' a X
 let Ax : Nat × f.e.den → Act → World → Prop := fun x a' X => (∀ j ∈ L, a'.tmps.getD j undef = a.tmps.getD j undef) ∧ ∃ γ φ O', Sim P (E []) w O₀ Wf (f.stA ch snap out i vs x.2) γ φ O' a' X
 have turnM : ∀ {X Y : World} {row : Option Nat}, MarksOk w₀ X rs → X.heap.size ≥ w.heap.size → X.grownBy Y row → (∀ r, row = some r → w.heap.size ≤ r ∧ ∃ o : Obj, X.heap[r]? = some o ∧ o.isCells = false) → MarksOk w₀ Y rs :=
  fun h hsz hg hr => ⟨h.nodup, fun r hm => ⟨(h.at' r hm).1, (hg.block r (h.lt r hm) fun e => by have := (hr r e.symm).1; have := hrs r hm; omega).trans (h.at' r hm).2⟩⟩
 have back : ∀ {X Y : World} {σ : St} {γ φ O'} {a' : Act} {out' : List f.d.den}, Sim P (E []) w O₀ Wf σ γ φ O' a' Y → σ.keepAt hR 0 = f.stR ch snap out' i vs → (∀ j ∈ L, a'.tmps.getD j undef = a.tmps.getD j undef) →
   ∃ γ φ O', Sim P (E (rs.map markOf)) w O₀ Wf (f.stR ch snap out' i vs) γ φ O' a Y := by
  intro X Y σ γ φ O' a' out' S1 hk hj
  obtain ⟨O'', S2⟩ := S1.keepAt hR 0
  rw [hk] at S2
  exact ⟨_, _, _, S2.act (env' := E (rs.map markOf)) (by rw [C.hn, C.hn]) (by rw [C.hpin, C.hpin]) (by rw [S.defers]) (by rw [S.size, C.hn, C.hn]) (same_else (l := L) (fun j hm => (hj j hm).symm) fun j hm => stR_slots f ch snap out' i vs j (hLdef ▸ hm))⟩
 have kp : ∀ {X Y : World} {env : Env} {σ : St} {γ φ} {O' : Foot} {a' : Act}, Sim P env w O₀ Wf σ γ φ O' a' X → Kept (fun b => O' b ∧ ¬ O₀ b) X Y → X.heap.size ≤ Y.heap.size ∧ ∀ k, k < w.heap.size → ¬ O k → Y.heap[k]? = X.heap[k]? := by
  intro X Y env σ γ φ O' a' S1 K
  subst hWf
  exact ⟨K.size, fun k hk hn => K.block k (Nat.lt_of_lt_of_le hk S1.kept.size) fun h => hn (S1.own_old hk h.1 h.2)⟩
 refine wpIn_rangeFunc_ownH (α := Nat × f.e.den) (F := Fence.wide) rfl h1 (gf := fB) (lb := #[.pointer (some ⟨b, off, none⟩)]) (by exact h20) trivial (fun args w => run_callFunc_enter hfB1 hfB2 hfB3 args w)
  (back_stops (U := O) B htyB (fun _ => trivial) rfl rfl hlen hB) ?_ ?_ (RowKit.Below.refl _ _) (fun x => rfl) I Ix ?_ ?_ ?_ Ax ?_ ?_ ?_ ?_ ?_
 ·rintro X Y Z ⟨h1, h2⟩ ⟨h3, h4⟩
  exact ⟨Nat.le_trans h1 h3, fun k hk hn => (h4 k hk hn).trans (h2 k hk hn)⟩
 ·intro X l o o' hl _ _ _
  exact ⟨by rw [World.putObj_size]; exact Nat.le_refl _, fun k hk _ => World.putObj_heap_other (by omega)⟩
 ·rintro pre X Y row ⟨h1, h2, γ1, φ1, O1, S1⟩ hg hr
  exact ⟨h1, turnM h2 S1.kept.size hg hr, γ1, φ1, O1, S1.turn (stR_simple ..) hg hr⟩
 ·rintro c pre X Y row ⟨hc, pre', p, h1, h2, h3, h4, γ1, φ1, O1, S1⟩ hg hr
  exact ⟨hc, pre', p, h1, h2, h3, turnM h4 S1.kept.size hg hr, γ1, φ1, O1, S1.turn (stR_simple ..) hg hr⟩
 ·exact ⟨fun _ h => (List.not_mem_nil h).elim, hM, γ, φ, O, Sb⟩
 ·rintro x a' _ X Y row ⟨h1, γ1, φ1, O1, S1⟩ hg hr
  exact ⟨h1, γ1, φ1, O1, S1.turn (stA_simple ..) hg hr⟩
 ·-- the element comes
  rintro l pre x X K ⟨hpre, hm, γ1, φ1, O1, S1⟩ hK
  have ht : ((#[21, 22] : Array Tmp).zip (encB f.e x)).foldl (fun t (p, v) => t.setIfInBounds p v) a.tmps = (a.tmps.setIfInBounds 21 (.int .i64 (x.1 : Int))).setIfInBounds 22 (encV f.e x.2) := by simp [encB]
  rw [ht]
  have hsz : a.tmps.size = 37 := S.size.trans (C.hn _)
  have oth : ∀ j, j ≠ 21 → j ≠ 22 → ((a.tmps.setIfInBounds 21 (.int .i64 (x.1 : Int))).setIfInBounds 22 (encV f.e x.2)).getD j undef = a.tmps.getD j undef := fun j h1 h2 => by
   simp only [Array.getD_eq_getD_getElem?, Array.getElem?_setIfInBounds, if_neg (Ne.symm h1), if_neg (Ne.symm h2)]
  have at22 : ((a.tmps.setIfInBounds 21 (.int .i64 (x.1 : Int))).setIfInBounds 22 (encV f.e x.2)).getD 22 undef = encV f.e x.2 := by
   simp [Array.getD_eq_getD_getElem?, hsz]
  have S2 := S1.act (env' := E []) (a' := { tmps := (a.tmps.setIfInBounds 21 (.int .i64 (x.1 : Int))).setIfInBounds 22 (encV f.e x.2), defers := [] }) (by rw [C.hn, C.hn]) (by rw [C.hpin, C.hpin]) (by rw [C.hmk]) (by simp [hsz, C.hn])
   (same_else (l := L) (fun j hj => oth j (by rintro rfl; subst hLdef; simp at hj) (by rintro rfl; subst hLdef; simp at hj)) fun j hj => stR_slots f ch snap out i vs j (hLdef ▸ hj))
  have S3 := S2.know (d := 22) (s := .pv ⟨f.e, x.2⟩) (by rw [C.hn]; omega) (by dsimp only; rw [at22]; exact slotOk_enc ⟨f.e, x.2⟩ B.flat)
  obtain ⟨σ1, he, hk⟩ := C.e6 ch snap out i vs x.2
  refine wpIn_mono (execIn_step (C.hty _) (hF l) noLp C.t6 S3 he) ?_
  rintro ex a' Y ⟨⟨σ', γ', φ', O', S', hex⟩, Kp, hd⟩
  cases ex with
  | normal =>
   injection hex with hex
   subst hex
   obtain ⟨O'', S''⟩ := S'.keepAt hA 0
   rw [hk] at S''
   have hj : ∀ j ∈ L, a'.tmps.getD j undef = a.tmps.getD j undef := fun j hj => (hd j (C.n6 j (hLdef ▸ hj)).1).trans (oth j (by rintro rfl; subst hLdef; simp at hj) (by rintro rfl; subst hLdef; simp at hj))
   have hkf := S3.keepsFrom Kp 0
   exact hK a' Y ⟨hkf.size, fun k o _ => hkf.same k o (Nat.zero_le _)⟩ (kp S3 Kp) ⟨hpre, hm.keep hkf, back (X := X) S'' (stA_keep ..) hj⟩ ⟨hj, _, _, _, S''⟩
  | exit id => cases hex
  | ret => cases hex
  | goto l => exact hex.elim
  | panic ch => exact hex.elim
  | outgrown => exact hex.elim
 ·-- the round
  rintro l pre x a' X _ _ ⟨hpre, hm, _⟩ ⟨hj, γ1, φ1, O1, S1⟩ _
  cases hh : f.hit snap x.2 with
  | false =>
   obtain ⟨σ1, he, hk⟩ := C.e7 ch snap out i vs x.2 hh
   refine wpIn_mono (execIn_step (C.hty _) (hF l) noLp C.t7 S1 he) ?_
   rintro ex a'' Y ⟨⟨σ', γ', φ', O', S', hex⟩, Kp, hd⟩
   have hj' : ∀ j ∈ L, a''.tmps.getD j undef = a.tmps.getD j undef := fun j hm => (hd j (C.n6 j (hLdef ▸ hm)).2).trans (hj j hm)
   have hkf := S1.keepsFrom Kp 0
   cases ex with
   | normal =>
    injection hex with hex
    injection hex with _ hex
    subst hex
    refine ⟨⟨hkf.size, fun k o _ => hkf.same k o (Nat.zero_le _)⟩, kp S1 Kp, fun p hp => ?_, hm.keep hkf, back (X := X) S' hk hj'⟩
    rcases List.mem_append.1 hp with hp | hp
    ·exact hpre p hp
    ·rw [List.mem_singleton.1 hp]; exact hh
   | exit id => injection hex with hex; injection hex with hex _; omega
   | ret => cases hex
   | goto l => exact hex.elim
   | panic ch => exact hex.elim
   | outgrown => exact hex.elim
  | true =>
   obtain ⟨σ1, he, hk⟩ := C.e8 ch snap out i vs x.2 hh hout
   refine wpIn_mono (execIn_step (C.hty _) (hF l) noLp C.t7 S1 he) ?_
   rintro ex a'' Y ⟨⟨σ', γ', φ', O', S', hex⟩, Kp, hd⟩
   have hj' : ∀ j ∈ L, a''.tmps.getD j undef = a.tmps.getD j undef := fun j hm => (hd j (C.n6 j (hLdef ▸ hm)).2).trans (hj j hm)
   have hkf := S1.keepsFrom Kp 0
   cases ex with
   | normal => injection hex with hex; injection hex with hex _; cases hex
   | exit id =>
    injection hex with hex
    injection hex with hid hex
    subst hex
    have hid : id = 2 := by omega
    subst hid
    exact ⟨⟨hkf.size, fun k o _ => hkf.same k o (Nat.zero_le _)⟩, rfl, pre, x, rfl, hpre, hh, hm.keep hkf, back (X := X) S' hk hj'⟩
   | ret => cases hex
   | goto l => exact hex.elim
   | panic ch => exact hex.elim
   | outgrown => exact hex.elim
 ·-- none was met
  rintro D xs X hD hxs ⟨hno, hm, γ1, φ1, O1, S1⟩ hdef
  have hpick : f.pick snap vs = [] := by
   unfold SeenFun.pick
   rw [List.find?_eq_none.2 fun v hv => ?_]
   obtain ⟨k, hk, rfl⟩ := List.mem_iff_getElem.1 (List.mem_reverse.1 hv)
   have : (k, vs[k]) ∈ xs := by
    rw [hxs]
    unfold backL
    rw [List.mem_reverse, List.mem_map]
    exact ⟨(vs[k], k), List.mk_mem_zipIdx_iff_getElem?.2 (List.getElem?_eq_getElem hk), rfl⟩
   rw [hno _ this]
   simp
  have S2 := S.unbase (env' := E (rs.map markOf)) (by subst hWf; exact S1)
  refine (hQ D X γ1 φ1 O1 ?_ ⟨?_, fun r hr => ?_⟩).1
  ·rw [hpick, List.append_nil]
   exact S2.act (by rw [C.hn, C.hn]) (by rw [C.hpin, C.hpin]) (by rw [C.hmk, S.defers, C.hmk]; rfl) S2.size fun j => .inr rfl
  ·exact List.nodup_cons.2 ⟨fun hr => by have := hrs D hr; omega, hm.nodup⟩
  ·rcases List.mem_cons.1 hr with rfl | hr
   ·exact ⟨Nat.le_trans S.kept.size hD, hdef⟩
   ·exact hm.at' r hr
 ·-- one was met
  rintro D c pre X hD hpre ⟨rfl, pre', p, rfl, hno, hh, hm, γ1, φ1, O1, S1⟩ hdef
  have hpick : f.pick snap vs = f.add p.2 := by
   unfold SeenFun.pick
   have hrev : vs.reverse = (backL vs).map (·.2) := by
    unfold backL
    rw [List.map_reverse, List.map_map]
    congr 1
    exact (List.zipIdx_map_fst 0 vs).symm
   obtain ⟨rest, hr⟩ := hpre
   rw [hrev, ← hr]
   have : (List.map (·.2) (pre' ++ [p] ++ rest)).find? (f.hit snap) = some p.2 := by
    rw [List.append_assoc, List.map_append, List.find?_append, List.find?_eq_none.2 fun v hv => ?_]
    ·simp [hh]
    ·obtain ⟨q, hq, rfl⟩ := List.mem_map.1 hv
     rw [hno q hq]
     simp
   rw [this]
  have S2 := S.unbase (env' := E (rs.map markOf)) (by subst hWf; exact S1)
  refine wpIn_exit (hQ D X γ1 φ1 O1 ?_ ⟨?_, fun r hr => ?_⟩).2
  ·rw [hpick]
   exact S2.act (by rw [C.hn, C.hn]) (by rw [C.hpin, C.hpin]) (by rw [C.hmk, S.defers, C.hmk]; rfl) S2.size fun j => .inr rfl
  ·exact List.nodup_cons.2 ⟨fun hr => by have := hrs D hr; omega, hm.nodup⟩
  ·rcases List.mem_cons.1 hr with rfl | hr
   ·exact ⟨Nat.le_trans S.kept.size hD, hdef⟩
   ·exact hm.at' r hr
end Go.V

/- The whole function. No condition. -/
namespace Go.V
variable {α : Type}
variable {P : Program} {env : Env} {w₀ w w' : World} {O₀ W O O' U : Foot} {σ σ' : St} {γ γ' : Name → Src} {φ φ' : Name → Foot} {a a' : Act} {n : Nat} {F : Fence}
def slot14 (L : Nat) (a : Act) : Nat := match a.tmps.getD 14 undef with | .int _ i => (L - i).toNat | _ => 0
theorem stL_int {f : SeenFun} {ch : List f.tCh.den} {snap : Int} {out : List f.d.den} {i : Nat} (S : Sim P env w₀ O₀ W (f.stL ch snap out i) γ φ O a w) : a.tmps.getD 14 undef = .int .i64 (i : Int) := slot_int (S.slots 14)
set_option maxHeartbeats 1000000 in
theorem seen_ok {fS fM fB : FuncId} {f : SeenFun} {E : List Deferred → Env} {envB envM : Env} (C : SeenCode P fS fM fB f E) (B : BackCode P fB f.e envB) (M : MakeCode P fM fB f.e envM) (htyB : envB.TyOk P) (htyM : envM.TyOk P) (hfnM : envM.FnOk P)
  (hname : B.fn.name ≠ "runtime.NumGoroutine") : FreshOk P fS ⟨[.ro f.tC, .ro (.int .i64)], [(.slice f.d, .own .z)], f.fn⟩ := by
 refine ⟨⟨C.fn, C.hfn, by rw [C.hbody]; rfl, C.hname⟩, ?_⟩
 intro w O as vals r hO hA hr
 obtain ⟨v1, _, cs1, rfl, hv1, hr1, v2, _, cs2, rfl, hv2, hr2, rfl⟩ := hA
 obtain ⟨c, snap, ⟨⟩⟩ := as
 change Int at snap
 dsimp only at hr1 hr2
 unfold SeenFun.fn gd at hr
 dsimp only at hr
 split at hr
 case h_2 => cases hr
 case h_1 hlim =>
 injection hr with hr
 subst hr
 rw [Bool.and_eq_true, decide_eq_true_eq, List.all_eq_true] at hlim
 obtain ⟨hlen, hlens⟩ := hlim
 obtain ⟨ch, hch⟩ : ∃ ch, ch = f.chains c := ⟨_, rfl⟩
 have hlens : ∀ (i : Nat) x, ch[i]? = some x → (f.vers x).length ≤ lim := fun i x h => by
  have := hlens x (hch ▸ List.mem_of_getElem? h)
  simpa using this
 have hF : ∀ f, Fence.wide.fn f := fun _ => trivial
 refine (callsIn_wide (n := 5)).1 (callsIn_of_wp_marks C.hfn C.hbody trivial ?_ rfl)
 have S0 : Sim P (E []) w O Foot.none ⟨[(0, .pv ⟨f.tC, c⟩), (1, .pv ⟨.int .i64, snap⟩)], []⟩ (fun _ => .val []) (fun _ => Foot.none) O { tmps := [v1, v2].toArray ++ Array.replicate (C.fn.ntmps - [v1, v2].toArray.size) undef, defers := [] } w := by
  refine Sim.ofNone (env := E []) (C.hmk []).symm ?_ (C.hpin []) hO fun i => ?_
  ·simp [C.hn, C.hnt]
  rw [slot_cons]
  split
  ·rename_i e; subst e
   exact .pv _ _ cs1 (by simp only [Array.getD_eq_getD_getElem?]; rw [Array.getElem?_append_left (by simp)]; exact hv1) hr1
  ·rw [slot_cons]
   split
   ·rename_i e; subst e
    exact .pv _ _ cs2 (by simp only [Array.getD_eq_getD_getElem?]; rw [Array.getElem?_append_left (by simp)]; exact hv2) hr2
   ·exact .undef _
 obtain ⟨σ1, σ2, σ3, e1, e2, e3, hk3⟩ := C.e0 [] c snap hlen
 refine wpIn_seq (wpIn_mono (part (C.hty _) hF C.t0 S0 e1) ?_)
 rintro ex a1 w1 ⟨rfl, ⟨_, _, _, S1⟩, -⟩
 refine wpIn_seq (wpIn_mono (part (C.hty _) hF C.t1 S1 e2) ?_)
 rintro ex a2 w2 ⟨rfl, ⟨_, _, _, S2⟩, -⟩
 refine wpIn_seq (wpIn_seq (wpIn_mono (part (C.hty _) hF C.t2 S2 e3) ?_))
 rintro ex a3 w3 ⟨rfl, ⟨γ3, φ3, O3, S3⟩, -⟩
 obtain ⟨O3', S3'⟩ := S3.keepAt hL 0
 rw [hk3, ← hch] at S3'
 refine wpIn_block (wpIn_loop (fun a x => ∃ i rs γ φ O', i ≤ ch.length ∧ Sim P (E (rs.map markOf)) w O Foot.none (f.stL ch snap (f.all snap (ch.take i)) i) γ φ O' a x ∧ MarksOk w x rs) (fun a _ => slot14 ch.length a)
  ⟨0, [], γ3, φ3, O3', Nat.zero_le _, S3', ⟨List.nodup_nil, fun _ h => (List.not_mem_nil h).elim⟩⟩ ?_)
 clear S3' S3 S2 S1 S0 e1 e2 e3 hk3
 rintro a x ⟨i, rs, γ0, φ0, O0, hi, S0, hm⟩
 obtain ⟨σ1, e1, i15, hk1⟩ := C.e3 (rs.map markOf) ch snap (f.all snap (ch.take i)) i
 refine wpIn_seq (wpIn_mono (part (C.hty _) hF C.t3 S0 e1) ?_)
 rintro ex a1 x1 ⟨rfl, ⟨γ1, φ1, O1, S1⟩, k1⟩
 have v15 := S1.slots 15
 rw [i15] at v15
 replace v15 := slot_bool v15
 obtain ⟨O1', S1'⟩ := S1.keepAt hL 0
 rw [hk1] at S1'
 replace hm := hm.keep k1
 refine wpIn_seq (wpIn_cond (t := decide ((i : Int) < (ch.length : Int))) v15 ?_)
 by_cases hlt : i < ch.length
 case neg =>
  have : i = ch.length := by omega
  subst this
  rw [decide_eq_false (by omega)]
  refine wpIn_exit ?_
  simp only [Exit.then, Exit.inBlock, if_true]
  rw [List.take_length] at S1'
  obtain ⟨σ4, e4, hg⟩ := C.e11 (rs.map markOf) ch snap (f.all snap ch) ch.length
  refine wpIn_seq (wpIn_mono (part (C.hty _) hF C.t11 S1' e4) ?_)
  rintro ex a4 x4 ⟨rfl, ⟨γ4, φ4, O4, S4⟩, k4⟩
  refine wpIn_ret ?_
  show LeavesInM _ _ _ _ _ _ _ _ _
  rw [S4.defers, C.hmk]
  replace hm := hm.keep k4
  obtain ⟨y, σ5, cs, Fy, G, hy, hval, hrep, S5, hFG, hG⟩ := give_ok S4 (S4.slots 4) (by simp) hg
  injection hy with hy
  subst hy
  refine leaves_marks hm fun x5 hst hkept => ⟨_, results_tmp C.hres _ _ _, a4.tmps.getD 4 undef, [], cs, Fy, rfl, hkept _ S4.kept, fun b hb => (hG b (hFG b hb)).2.resolve_right fun h => h, hval, ?_, rfl⟩
  have := hst.rep hrep
  rw [← hch]
  exact Rep.frame (Nat.le_refl _) (fun _ _ _ => rfl) (fun _ _ => rfl) (fun b _ hn h => hn (h.elim (fun h => (S4.own b).2 (.inl h)) fun h => (hrep.owned b h).1)) (fun b hb _ => .inr hb) this
 case pos =>
 rw [decide_eq_true (by omega)]
 refine wpIn_skip ?_
 show (Code.seq _ _).wpIn _ _ _ _ _ _
 obtain ⟨cv, hcv⟩ : ∃ cv, ch[i]? = some cv := ⟨_, List.getElem?_eq_getElem hlt⟩
 have hout : (f.all snap (ch.take i)).length + 1 ≤ lim := by
  have := f.all_length snap (ch.take i)
  rw [List.length_take] at this
  have hl : ch.length ≤ lim := hch ▸ hlen
  omega
 obtain ⟨σ2, σ3, e2, e3, hk3⟩ := C.e4 (rs.map markOf) ch snap (f.all snap (ch.take i)) i cv hcv
 refine wpIn_seq (wpIn_block (wpIn_seq (wpIn_mono (part (C.hty _) hF C.t4 S1' e2) ?_)))
 rintro ex a2 x2 ⟨rfl, ⟨γ2, φ2, O2, S2⟩, k2⟩
 replace hm := hm.keep k2
 refine wpIn_seq (wpIn_region ?_)
 rw [C.sz5, show List.range 3 = [0, 1] ++ [2] from by decide]
 refine opsIn_app (C.hty _) hF [0, 1] [2] S2.rebase e3 (fun j hj o ho => C.t5 j hj o ho) ?_
 intro σ3' γ3 φ3 O3 a3 x3 S3 hk _
 injection hk with hk
 subst hk
 replace hm := hm.keep (S2.keepsFrom S3.kept 0)
 replace S3 := S2.unbase S3
 obtain ⟨O3', S3'⟩ := S3.keepAt hR 0
 rw [hk3] at S3'
 unfold wpOpsIn
 rw [C.g2.1]
 dsimp only
 rw [show Region.wanted C.o2 (yielded C.ops5 a3.tmps) = true by simp [Region.wanted, C.g2.2.2.2.2.2], if_pos rfl]
 refine ⟨fun f _ => hF f, ?_⟩
 have v19 : SlotOk P x3 O3' (f.stR ch snap (f.all snap (ch.take i)) i (f.vers cv)) γ3 (.pv ⟨.slice f.e, f.vers cv⟩) (a3.tmps.getD 19 undef) := S3'.slots 19
 have hr19 : Rep x3 O3' (.slice f.e) .z (f.vers cv) [a3.tmps.getD 19 undef] Foot.none := by
  generalize a3.tmps.getD 19 undef = u at v19
  cases v19 with
  | pv _ _ cs hv hr => rw [show cs = [u] from hv] at hr; exact hr
 rw [Oper.semAt_plain Fence.wide _ _ (fun c e => by rw [C.g2.2.1] at e; cases e), run_call_fn C.g2.2.1 C.g2.2.2.1 rfl ⟨M.fn, M.hfn, by rw [M.hbody]; rfl, M.hname⟩ x3, Oper.uponIn_enter]
 refine ⟨fun h => (by cases h), ?_⟩
 have hargs : C.c2.args.map a3.eval ++ #[] = #[a3.tmps.getD 19 undef] := by rw [C.g2.2.2.2.1]; simp only [List.map_toArray, List.map_cons, List.map_nil, Array.append_empty]; rfl
 rw [hargs]
 refine callsIn_wide.2 ((make_ok M htyM hfnM S3'.bound hr19).mono ?_)
 rintro ed x4 ⟨b, off, rfl, K4, hb, hB⟩
 show (Code.block 2 _).wpIn _ _ _ _ _ _
 have hsz : a3.tmps.size = 37 := S3'.size.trans (C.hn _)
 rw [C.g2.2.2.2.2.1]
 have S4 := (S3'.grow K4).act (env' := E (rs.map markOf)) (a' := a3.put (some 20) (.func (.func fB) #[] #[.pointer (some ⟨b, off, none⟩)])) rfl rfl ((put_defers' _ _ _).trans S3'.defers) ((put_size' _ _ _).trans S3'.size)
  fun j => by
   by_cases hj : j = 20
   ·subst hj; exact .inl rfl
   ·exact .inr (Act.put_other fun h => hj h)
 have hm4 : MarksOk w x4 rs := ⟨hm.nodup, fun r hr => ⟨(hm.at' r hr).1, (K4.block r (hm.lt r hr) fun h => h).trans (hm.at' r hr).2⟩⟩
 refine wpIn_block (range_ok C B htyB hname (hlens i cv hcv) hout S4 hB hm4 (put_at' (by omega)) (by omega) ?_)
 intro D x5 γ5 φ5 O5 S5 hm5
 have fin : ∀ Q : Exit → Act → World → Prop, (∀ a6 x6 γ6 φ6 O6, Sim P (E ((D :: rs).map markOf)) w O Foot.none (f.stL ch snap (f.all snap (ch.take (i + 1))) (i + 1)) γ6 φ6 O6 a6 x6 → MarksOk w x6 (D :: rs) → Q .normal a6 x6) →
   C.r10.wpIn Fence.wide 5 P Q { a3.put (some 20) (.func (.func fB) #[] #[.pointer (some ⟨b, off, none⟩)]) with defers := markOf D :: (a3.put (some 20) (.func (.func fB) #[] #[.pointer (some ⟨b, off, none⟩)])).defers } x5 := by
  intro Q hQ
  obtain ⟨O5', S5'⟩ := S5.keepAt hL 0
  rw [stR_keep, ← f.all_take snap hcv] at S5'
  obtain ⟨σ6, e6, hk6⟩ := C.e10 ((D :: rs).map markOf) ch snap (f.all snap (ch.take (i + 1))) i (Nat.lt_of_lt_of_le hlt (hch ▸ hlen))
  refine wpIn_mono (part (C.hty _) hF C.t10 S5' e6) ?_
  rintro ex a6 x6 ⟨rfl, ⟨γ6, φ6, O6, S6⟩, k6⟩
  obtain ⟨O6', S6'⟩ := S6.keepAt hL 0
  rw [hk6] at S6'
  exact hQ a6 x6 γ6 φ6 O6' S6' (hm5.keep k6)
 have meas : ∀ {a6 : Act} {x6 : World} {γ6 φ6 O6}, Sim P (E ((D :: rs).map markOf)) w O Foot.none (f.stL ch snap (f.all snap (ch.take (i + 1))) (i + 1)) γ6 φ6 O6 a6 x6 → slot14 ch.length a6 < slot14 ch.length a := by
  intro a6 x6 γ6 φ6 O6 S6
  unfold slot14
  rw [stL_int S6, stL_int S0]
  dsimp only
  omega
 constructor
 ·exact fin _ fun a6 x6 γ6 φ6 O6 S6 hm6 => ⟨⟨i + 1, D :: rs, γ6, φ6, O6, hlt, S6, hm6⟩, meas S6⟩
 ·simp only [Exit.inBlock, if_true]
  exact fin _ fun a6 x6 γ6 φ6 O6 S6 hm6 => ⟨⟨i + 1, D :: rs, γ6, φ6, O6, hlt, S6, hm6⟩, meas S6⟩
end Go.V

/- Parts of a code, found by number; a function that hands back what it owns, as one that only computes. No condition. -/
namespace Go.V
variable {α : Type}
variable {P : Program} {env : Env} {w₀ w w' : World} {O₀ W O O' U : Foot}
def findReg : Code → Nat → Option (Array Oper)
 | .region id ops _, k => match Nat.beq id k with | true => some ops | false => none
 | .seq a b, k => match findReg a k with | some x => some x | none => findReg b k
 | .cond _ a b, k => match findReg a k with | some x => some x | none => findReg b k
 | .block _ c, k => findReg c k
 | .loop c, k => findReg c k
 | .rangeFunc _ _ a b, k => match findReg a k with | some x => some x | none => findReg b k
 | _, _ => none
def opsOf (c : Code) (k : Nat) : Array Oper := (findReg c k).getD #[]
def findRange : Code → Option (Code × Code)
 | .seq a b => match findRange a with | some x => some x | none => findRange b
 | .cond _ a b => match findRange a with | some x => some x | none => findRange b
 | .block _ c => findRange c
 | .loop c => findRange c
 | .rangeFunc _ _ a b => some (a, b)
 | _ => none
def asgOf (c : Code) : Code := match findRange c with | some x => x.1 | none => .skip
def bodOf (c : Code) : Code := match findRange c with | some x => x.2 | none => .skip
def operAt (ops : Array Oper) (i : Nat) : Oper := (ops[i]?).getD { dst := none, op := .move (.const undef), type := 0, pos := default, after := #[], guard := none }
def callOf (o : Oper) : Call := match o.op with | .call c => c | _ => { callee := .builtin .len, args := #[], argTypes := #[] }
def okOps (ops : Array Oper) (l bad : List Nat) : Bool := l.all fun i => match ops[i]? with
 | some o => tameOp o && bad.all fun d => match o.dst with | some e => !Nat.beq e d | none => true
 | none => true
theorem okOps_ok {ops : Array Oper} {l bad : List Nat} (h : okOps ops l bad = true) : ∀ i ∈ l, ∀ o, ops[i]? = some o → tameOp o = true ∧ ∀ d ∈ bad, o.dst ≠ some d := by
 intro i hi o ho
 unfold okOps at h
 rw [List.all_eq_true] at h
 have := h i hi
 rw [ho] at this
 dsimp only at this
 rw [Bool.and_eq_true, List.all_eq_true] at this
 refine ⟨this.1, fun d hd e => ?_⟩
 have := this.2 d hd
 rw [e] at this
 simp at this
def stOf (x : Option St) : St := x.getD ⟨[], []⟩
def stOf3 (x : Option (Nat × St)) : St := (x.getD (0, ⟨[], []⟩)).2
theorem quiet_of_fresh {f : FuncId} {ps : List PM} {t : Ty} {sh : Sh} {G : Args ps → Option (Tup ([t] ++ ios ps))} (hsh : sh.whole = true) (h : FreshOk P f ⟨ps, [(t, sh)], G⟩) : QuietOk P f ⟨ps, [(t, .z)], G⟩ := by
 refine ⟨h.1, fun w O as vs r hO hA hr => (h.2 w O as vs r hO hA hr).mono ?_⟩
 rintro e w' ⟨v, rv, cs, F, he, K, hF, hv, hrep, hrv⟩
 refine ⟨v :: rv, he, K, v, rv, cs, rfl, hv, ?_, ?_⟩
 ·exact Rep.freeze (fun b _ hn ho => hn (.inl ho)) hsh (fun b hb ho => by have := hF b hb; have := hO b ho; omega) hrep
 ·have : rv = [] := hrv
  subst this
  rfl
theorem wrapX (z : Int) (h1 : -9223372036854775808 ≤ z) (h2 : z < 9223372036854775808) : IntKind.wrap .i64 z = z := by
 simp only [IntKind.wrap, IntKind.bits, IntKind.signed]
 by_cases h : z % 18446744073709551616 ≥ 9223372036854775808
 ·simp [h]; omega
 ·simp [h]; omega
end Go.V
