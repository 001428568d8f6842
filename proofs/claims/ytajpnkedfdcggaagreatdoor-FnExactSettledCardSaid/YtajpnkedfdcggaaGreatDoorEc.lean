/- An evaluator over the code of the model, on data without memory, and the proof that it is right. No condition. -/
import Derived.Test.YtajpnkedfdcggaaGreatDoorEb
import GoSem.ClaimChange
import Derived.ChangeReads
import Derived.WideShapes
import Derived.ChangeFn
import Derived.Handed
import Derived.ChangeShapes
import Derived.RowKit
/- Loops by summaries: shapes of states, rounds, fuel. No condition. -/
namespace Go.V
variable {β : Type}

inductive PS where
  | l | r | at
  deriving DecidableEq

/-- What a slot looks like, without its data. -/
inductive Shape where
  | undef
  | pv (t : Ty)
  | ref (t : Ty) (n : Name) (p : List PS)
  | vw (e : Ty) (n : Name) (p : List PS)
  | ptr (n : Name) (p : List PS)
  | fptr (t : Ty)
  | fnA (a b : Ty)
  | clo (f : FuncId) (l : List Shape)
  | nilS

/-- The data of a path, ahead of other data. -/
def PS.dn : List PS → Type → Type
  | [], R => R
  | .l :: p, R => PS.dn p R
  | .r :: p, R => PS.dn p R
  | .at :: p, R => Nat × PS.dn p R

def PS.mk {R : Type} : (p : List PS) → PS.dn p R → Path × R
  | [], x => ([], x)
  | .l :: p, x => let q := PS.mk p x; (.l :: q.1, q.2)
  | .r :: p, x => let q := PS.mk p x; (.r :: q.1, q.2)
  | .at :: p, x => let q := PS.mk p x.2; (.at x.1 :: q.1, q.2)

def PS.un {R : Type} : (p : List PS) → Path → R → (PS.dn p R → Option β) → Option β
  | [], [], x, k => k x
  | .l :: p, .l :: q, x, k => PS.un p q x k
  | .r :: p, .r :: q, x, k => PS.un p q x k
  | .at :: p, .at n :: q, x, k => PS.un p q x fun y => k (n, y)
  | _, _, _, _ => none

theorem PS.un_some {R : Type} : ∀ (p : List PS) (q : Path) (x : R) {k : PS.dn p R → Option β} {o : β}, PS.un p q x k = some o → ∃ y, PS.mk p y = (q, x) ∧ k y = some o
  | [], [], x, k, o, h => ⟨x, rfl, h⟩
  | .l :: p, .l :: q, x, k, o, h => by
    obtain ⟨y, h1, h2⟩ := PS.un_some p q x h
    exact ⟨y, by simp only [PS.mk, h1], h2⟩
  | .r :: p, .r :: q, x, k, o, h => by
    obtain ⟨y, h1, h2⟩ := PS.un_some p q x h
    exact ⟨y, by simp only [PS.mk, h1], h2⟩
  | .at :: p, .at n :: q, x, k, o, h => by
    obtain ⟨y, h1, h2⟩ := PS.un_some p q x (k := fun y => k (n, y)) h
    exact ⟨(n, y), by simp only [PS.mk, h1], h2⟩
  | [], _ :: _, x, k, o, h => by simp [PS.un] at h
  | .l :: _, [], x, k, o, h => by simp [PS.un] at h
  | .r :: _, [], x, k, o, h => by simp [PS.un] at h
  | .at :: _, [], x, k, o, h => by simp [PS.un] at h
  | .l :: _, .r :: _, x, k, o, h => by simp [PS.un] at h
  | .l :: _, .at _ :: _, x, k, o, h => by simp [PS.un] at h
  | .r :: _, .l :: _, x, k, o, h => by simp [PS.un] at h
  | .r :: _, .at _ :: _, x, k, o, h => by simp [PS.un] at h
  | .at :: _, .l :: _, x, k, o, h => by simp [PS.un] at h
  | .at :: _, .r :: _, x, k, o, h => by simp [PS.un] at h

mutual
def Shape.dn : Shape → Type → Type
  | .undef, R => R
  | .pv t, R => t.den × R
  | .ref _ _ p, R => PS.dn p R
  | .vw _ _ p, R => Nat × Nat × PS.dn p R
  | .ptr _ p, R => PS.dn p R
  | .fptr t, R => t.den × R
  | .fnA a b, R => (a.den → Option b.den) × R
  | .clo _ l, R => Shape.dnL l R
  | .nilS, R => R
def Shape.dnL : List Shape → Type → Type
  | [], R => R
  | s :: l, R => Shape.dn s (Shape.dnL l R)
end

mutual
def Shape.mk {R : Type} : (s : Shape) → Shape.dn s R → Slot × R
  | .undef, x => (.undef, x)
  | .pv t, x => (.pv ⟨t, x.1⟩, x.2)
  | .ref t n p, x => let q := PS.mk p x; (.ref t ⟨n, q.1⟩, q.2)
  | .vw e n p, x => let q := PS.mk p x.2.2; (.vw e ⟨n, q.1⟩ x.1 x.2.1, q.2)
  | .ptr n p, x => let q := PS.mk p x; (.ptr ⟨n, q.1⟩, q.2)
  | .fptr t, x => (.fptr ⟨t, x.1⟩, x.2)
  | .fnA a b, x => (.fnA a b x.1, x.2)
  | .clo f l, x => let q := Shape.mkL l x; (.clo f q.1, q.2)
  | .nilS, x => (.nilS, x)
def Shape.mkL {R : Type} : (l : List Shape) → Shape.dnL l R → List Slot × R
  | [], x => ([], x)
  | s :: l, x => let q := Shape.mk s x; let q' := Shape.mkL l q.2; (q.1 :: q'.1, q'.2)
end

mutual
def Shape.un {R : Type} : (s : Shape) → Slot → R → (Shape.dn s R → Option β) → Option β
  | .undef, .undef, x, k => k x
  | .pv t, .pv d, x, k => castK (t' := t) d.x fun y => k (y, x)
  | .ref t n p, .ref t' q, x, k => match decide (t' = t) && Nat.beq q.name n with
    | true => PS.un p q.path x k
    | false => none
  | .vw e n p, .vw e' q lo hi, x, k => match decide (e' = e) && Nat.beq q.name n with
    | true => PS.un p q.path x fun y => k (lo, hi, y)
    | false => none
  | .ptr n p, .ptr q, x, k => match Nat.beq q.name n with
    | true => PS.un p q.path x k
    | false => none
  | .fptr t, .fptr d, x, k => castK (t' := t) d.x fun y => k (y, x)
  | .fnA a b, .fnA a' b' φ, x, k => if h : a' = a ∧ b' = b then k (h.1 ▸ h.2 ▸ φ, x) else none
  | .clo f l, .clo f' l', x, k => match Nat.beq f' f with
    | true => Shape.unL l l' x k
    | false => none
  | .nilS, .nilS, x, k => k x
  | _, _, _, _ => none
def Shape.unL {R : Type} : (l : List Shape) → List Slot → R → (Shape.dnL l R → Option β) → Option β
  | [], [], x, k => k x
  | s :: l, s' :: l', x, k => Shape.unL l l' x fun y => Shape.un s s' y k
  | _, _, _, _ => none
end

mutual
theorem Shape.un_some {R : Type} : ∀ (s : Shape) (sl : Slot) (x : R) {k : Shape.dn s R → Option β} {r : β}, Shape.un s sl x k = some r → ∃ y, Shape.mk s y = (sl, x) ∧ k y = some r
  | .undef, sl, x, k, r, h => by
    cases sl <;> simp only [Shape.un] at h <;> try (cases h; done)
    exact ⟨x, rfl, h⟩
  | .nilS, sl, x, k, r, h => by
    cases sl <;> simp only [Shape.un] at h <;> try (cases h; done)
    exact ⟨x, rfl, h⟩
  | .pv t, sl, x, k, r, h => by
    cases sl <;> simp only [Shape.un] at h <;> try (cases h; done)
    rename_i d
    obtain ⟨e, h⟩ := castK_some h
    subst e
    exact ⟨(d.x, x), rfl, h⟩
  | .fptr t, sl, x, k, r, h => by
    cases sl <;> simp only [Shape.un] at h <;> try (cases h; done)
    rename_i d
    obtain ⟨e, h⟩ := castK_some h
    subst e
    exact ⟨(d.x, x), rfl, h⟩
  | .fnA a b, sl, x, k, r, h => by
    cases sl <;> simp only [Shape.un] at h <;> try (cases h; done)
    split at h
    · rename_i e
      obtain ⟨rfl, rfl⟩ := e
      exact ⟨(_, x), rfl, h⟩
    · cases h
  | .ref t n p, sl, x, k, r, h => by
    cases sl <;> simp only [Shape.un] at h <;> try (cases h; done)
    rename_i t' q
    split at h
    · rename_i e
      simp only [Bool.and_eq_true, decide_eq_true_eq] at e
      obtain ⟨rfl, e⟩ := e
      obtain ⟨y, h1, h2⟩ := PS.un_some p q.path x h
      obtain ⟨qn, qp⟩ := q
      exact ⟨y, by simp only [Shape.mk, h1]; rw [← Nat.eq_of_beq_eq_true e], h2⟩
    · cases h
  | .vw t n p, sl, x, k, r, h => by
    cases sl <;> simp only [Shape.un] at h <;> try (cases h; done)
    rename_i t' q lo hi
    split at h
    · rename_i e
      simp only [Bool.and_eq_true, decide_eq_true_eq] at e
      obtain ⟨rfl, e⟩ := e
      obtain ⟨y, h1, h2⟩ := PS.un_some p q.path x (k := fun y => k (lo, hi, y)) h
      obtain ⟨qn, qp⟩ := q
      exact ⟨(lo, hi, y), by simp only [Shape.mk, h1]; rw [← Nat.eq_of_beq_eq_true e], h2⟩
    · cases h
  | .ptr n p, sl, x, k, r, h => by
    cases sl <;> simp only [Shape.un] at h <;> try (cases h; done)
    rename_i q
    split at h
    · rename_i e
      obtain ⟨y, h1, h2⟩ := PS.un_some p q.path x h
      obtain ⟨qn, qp⟩ := q
      exact ⟨y, by simp only [Shape.mk, h1]; rw [← Nat.eq_of_beq_eq_true e], h2⟩
    · cases h
  | .clo f l, sl, x, k, r, h => by
    cases sl <;> simp only [Shape.un] at h <;> try (cases h; done)
    rename_i f' l'
    split at h
    · rename_i e
      obtain ⟨y, h1, h2⟩ := Shape.unL_some l l' x h
      exact ⟨y, by simp only [Shape.mk, h1]; rw [← Nat.eq_of_beq_eq_true e], h2⟩
    · cases h
theorem Shape.unL_some {R : Type} : ∀ (l : List Shape) (sl : List Slot) (x : R) {k : Shape.dnL l R → Option β} {r : β}, Shape.unL l sl x k = some r → ∃ y, Shape.mkL l y = (sl, x) ∧ k y = some r
  | [], [], x, k, r, h => ⟨x, rfl, h⟩
  | [], _ :: _, x, k, r, h => by simp [Shape.unL] at h
  | _ :: _, [], x, k, r, h => by simp [Shape.unL] at h
  | s :: l, s' :: l', x, k, r, h => by
    simp only [Shape.unL] at h
    obtain ⟨y, h1, h⟩ := Shape.unL_some l l' x h
    obtain ⟨z, h2, h⟩ := Shape.un_some s s' y h
    exact ⟨z, by simp only [Shape.mkL, h2, h1], h⟩
end

/-- What a root looks like. -/
inductive RSh where
  | data (boxed : Bool) (t : Ty) (sh : Sh)
  | held (s : Shape)

def RSh.dn : RSh → Type → Type
  | .data _ t _, R => t.den × R
  | .held s, R => s.dn R

def RSh.mk {R : Type} : (s : RSh) → s.dn R → Root × R
  | .data b t sh, x => (.data b ⟨t, x.1⟩ sh, x.2)
  | .held s, x => let q := s.mk x; (.held q.1, q.2)

def RSh.un {R : Type} : (s : RSh) → Root → R → (s.dn R → Option β) → Option β
  | .data b t sh, .data b' d sh', x, k => match (b == b') && decide (sh' = sh) with
    | true => castK (t' := t) d.x fun y => k (y, x)
    | false => none
  | .held s, .held s', x, k => s.un s' x k
  | _, _, _, _ => none

theorem RSh.un_some {R : Type} : ∀ (s : RSh) (ro : Root) (x : R) {k : s.dn R → Option β} {r : β}, s.un ro x k = some r → ∃ y, s.mk y = (ro, x) ∧ k y = some r
  | .held s, ro, x, k, r, h => by
    cases ro <;> simp only [RSh.un] at h <;> try (cases h; done)
    obtain ⟨y, h1, h2⟩ := s.un_some _ x h
    exact ⟨y, by simp only [RSh.mk, h1], h2⟩
  | .data b t sh, ro, x, k, r, h => by
    cases ro <;> simp only [RSh.un] at h <;> try (cases h; done)
    rename_i b' d sh'
    split at h
    · rename_i e
      simp only [Bool.and_eq_true, decide_eq_true_eq, beq_iff_eq] at e
      obtain ⟨rfl, rfl⟩ := e
      obtain ⟨e, h⟩ := castK_some h
      subst e
      exact ⟨(d.x, x), rfl, h⟩
    · cases h

def slotsDn : List (Nat × Shape) → Type → Type
  | [], R => R
  | s :: l, R => s.2.dn (slotsDn l R)
def slotsMk {R : Type} : (l : List (Nat × Shape)) → slotsDn l R → List (Nat × Slot) × R
  | [], x => ([], x)
  | s :: l, x => let q := s.2.mk x; let q' := slotsMk l q.2; ((s.1, q.1) :: q'.1, q'.2)
def slotsUn {R : Type} : (l : List (Nat × Shape)) → List (Nat × Slot) → R → (slotsDn l R → Option β) → Option β
  | [], [], x, k => k x
  | s :: l, s' :: l', x, k => match Nat.beq s'.1 s.1 with
    | true => slotsUn l l' x fun y => s.2.un s'.2 y k
    | false => none
  | _, _, _, _ => none

theorem slotsUn_some {R : Type} : ∀ (l : List (Nat × Shape)) (l' : List (Nat × Slot)) (x : R) {k : slotsDn l R → Option β} {r : β}, slotsUn l l' x k = some r → ∃ y, slotsMk l y = (l', x) ∧ k y = some r
  | [], [], x, k, r, h => ⟨x, rfl, h⟩
  | [], _ :: _, x, k, r, h => by simp [slotsUn] at h
  | _ :: _, [], x, k, r, h => by simp [slotsUn] at h
  | (i, s) :: l, (j, s') :: l', x, k, r, h => by
    simp only [slotsUn] at h
    split at h
    · rename_i e
      obtain ⟨y, h1, h⟩ := slotsUn_some l l' x h
      obtain ⟨z, h2, h⟩ := s.un_some s' y h
      exact ⟨z, by simp only [slotsMk, h2, h1]; rw [← Nat.eq_of_beq_eq_true e], h⟩
    · cases h

def memDn : List (Name × RSh) → Type → Type
  | [], R => R
  | s :: l, R => s.2.dn (memDn l R)
def memMk {R : Type} : (l : List (Name × RSh)) → memDn l R → List (Name × Root) × R
  | [], x => ([], x)
  | s :: l, x => let q := s.2.mk x; let q' := memMk l q.2; ((s.1, q.1) :: q'.1, q'.2)
def memUn {R : Type} : (l : List (Name × RSh)) → List (Name × Root) → R → (memDn l R → Option β) → Option β
  | [], [], x, k => k x
  | s :: l, s' :: l', x, k => match Nat.beq s'.1 s.1 with
    | true => memUn l l' x fun y => s.2.un s'.2 y k
    | false => none
  | _, _, _, _ => none

theorem memUn_some {R : Type} : ∀ (l : List (Name × RSh)) (l' : List (Name × Root)) (x : R) {k : memDn l R → Option β} {r : β}, memUn l l' x k = some r → ∃ y, memMk l y = (l', x) ∧ k y = some r
  | [], [], x, k, r, h => ⟨x, rfl, h⟩
  | [], _ :: _, x, k, r, h => by simp [memUn] at h
  | _ :: _, [], x, k, r, h => by simp [memUn] at h
  | (i, s) :: l, (j, s') :: l', x, k, r, h => by
    simp only [memUn] at h
    split at h
    · rename_i e
      obtain ⟨y, h1, h⟩ := memUn_some l l' x h
      obtain ⟨z, h2, h⟩ := s.un_some s' y h
      exact ⟨z, by simp only [memMk, h2, h1]; rw [← Nat.eq_of_beq_eq_true e], h⟩
    · cases h

/-- What a state looks like. -/
structure SSh where
  slots : List (Nat × Shape)
  mem : List (Name × RSh)

def SSh.den (S : SSh) : Type := slotsDn S.slots (memDn S.mem Unit)
def SSh.mk' (S : SSh) (x : S.den) : St := let q := slotsMk S.slots x; ⟨q.1, (memMk S.mem q.2).1⟩
def SSh.un (S : SSh) (σ : St) (k : S.den → Option β) : Option β :=
  memUn S.mem σ.mem () fun y => slotsUn S.slots σ.slots y k

theorem SSh.un_some (S : SSh) (σ : St) {k : S.den → Option β} {r : β} (h : S.un σ k = some r) : ∃ x, S.mk' x = σ ∧ k x = some r := by
  obtain ⟨y, h1, h⟩ := memUn_some S.mem σ.mem () h
  obtain ⟨x, h2, h⟩ := slotsUn_some S.slots σ.slots y h
  exact ⟨x, by simp only [SSh.mk', h2, h1], h⟩

/-- So many rounds. -/
def iter {X : Type} (R : (X → Option β) → X → Option β) : Nat → X → Option β
  | 0, _ => none
  | k + 1, x => R (iter R k) x

/-- More rounds than any loop makes. -/
noncomputable def fuel : Nat := Classical.choose (⟨18446744073709551616, rfl⟩ : ∃ n, n = 18446744073709551616)

theorem fuel_eq : fuel = 18446744073709551616 := Classical.choose_spec (⟨18446744073709551616, rfl⟩ : ∃ n, n = 18446744073709551616)

/-- A loop's summary: the number of its first region, the state at its head, a round. -/
structure LoopS (β : Type) where
  id : Nat
  sh : SSh
  R : Kont β → (sh.den → Option β) → sh.den → Option β

def findL : List (LoopS β) → Nat → Option (LoopS β)
  | [], _ => none
  | L :: l, i => match Nat.beq L.id i with | true => some L | false => findL l i

noncomputable def lpOf (tbl : List (LoopS β)) (i : Nat) (κ : Kont β) (σ : St) : Option β :=
  match findL tbl i with
  | some L => L.sh.un σ fun x => iter (L.R κ) fuel x
  | none => none

/-- The loops' bodies in a code. -/
def loopsOf : Code → List Code
  | .seq a b => loopsOf a ++ loopsOf b
  | .cond _ a b => loopsOf a ++ loopsOf b
  | .block _ c => loopsOf c
  | .loop c => c :: loopsOf c
  | _ => []

/-- A body's round is what the table says. -/
def RoundOk (env : Env) (tbl : List (LoopS β)) (c : Code) : Prop :=
  findL tbl (headId c) = none ∨ ∃ L, findL tbl (headId c) = some L ∧ ∀ (κ : Kont β) (N : St → Option β) (x : L.sh.den),
    execK env (lpOf tbl) c { κ with normal := fun σ => N (σ.keepAt env.hints (headId c)) } (L.sh.mk' x) = L.R κ (fun x => N (L.sh.mk' x)) x

theorem loop_sum {env : Env} {tbl : List (LoopS β)} {c : Code} {L : LoopS β}
    (h : ∀ (κ : Kont β) (N : St → Option β) (x : L.sh.den), execK env (lpOf tbl) c { κ with normal := fun σ => N (σ.keepAt env.hints (headId c)) } (L.sh.mk' x) = L.R κ (fun x => N (L.sh.mk' x)) x)
    (κ : Kont β) : ∀ k x, loopN env.hints (headId c) (execK env (lpOf tbl) c) κ k (L.sh.mk' x) = iter (L.R κ) k x
  | 0, _ => rfl
  | k + 1, x => by
    refine (h κ (loopN env.hints (headId c) (execK env (lpOf tbl) c) κ k) x).trans ?_
    exact congrArg (fun f => L.R κ f x) (funext fun y => loop_sum h κ k y)

theorem loopsOk {env : Env} {tbl : List (LoopS β)} : ∀ {c : Code}, (∀ b, b ∈ loopsOf c → RoundOk env tbl b) → LoopsOk env (lpOf tbl) c := by
  intro c
  induction c with
  | seq a b iha ihb => intro h; exact ⟨iha fun x hx => h x (List.mem_append.2 (.inl hx)), ihb fun x hx => h x (List.mem_append.2 (.inr hx))⟩
  | cond v a b iha ihb => intro h; exact ⟨iha fun x hx => h x (List.mem_append.2 (.inl hx)), ihb fun x hx => h x (List.mem_append.2 (.inr hx))⟩
  | block id c ih => intro h; exact ih h
  | loop c ih =>
    intro h
    refine ⟨ih fun x hx => h x (List.mem_cons_of_mem _ hx), ?_⟩
    intro κ σ r hr
    rcases h c (List.mem_cons_self ..) with hN | ⟨L, hL, hR⟩
    · unfold lpOf at hr
      rw [hN] at hr
      cases hr
    unfold lpOf at hr
    rw [hL] at hr
    dsimp only at hr
    obtain ⟨x, hx, hq⟩ := L.sh.un_some σ hr
    exact ⟨fuel, by rw [← hx]; exact (loop_sum hR κ fuel x).trans hq⟩
  | _ => intro _; trivial

end Go.V

/- Types, checked against the program's table. No condition. -/
namespace Go.V

/-- The cells of the zero value. -/
def Ty.zcells : Ty → List Value
  | .int k => [.int k 0]
  | .bool => [.bool false]
  | .str => [.string ⟨#[]⟩]
  | .unit => []
  | .pair a b => a.zcells ++ b.zcells
  | .slice _ => [.slice none 0 0]

theorem rep_zero_flat {w : World} {O : Foot} : ∀ (t : Ty) (sh : Sh), t.flat = true → Rep w O t sh t.zero t.zcells Foot.none
  | .int k, _, _ => ⟨rfl, fun _ h => h⟩
  | .bool, _, _ => ⟨rfl, fun _ h => h⟩
  | .str, _, _ => ⟨rfl, fun _ h => h⟩
  | .unit, _, _ => ⟨rfl, fun _ h => h⟩
  | .pair a b, sh, h => by
    simp only [Ty.flat, Bool.and_eq_true] at h
    exact ⟨a.zcells, b.zcells, Foot.none, Foot.none, rfl, rep_zero_flat a sh.l h.1, rep_zero_flat b sh.r h.2, fun b => ⟨.inl, fun h => h.elim id id⟩, fun _ h => h.1⟩
  | .slice _, _, h => by simp [Ty.flat] at h

theorem rep_zero {w : World} {O : Foot} : ∀ (t : Ty), Rep w O t t.ownAll t.zero t.zcells Foot.none
  | .int k => ⟨rfl, fun _ h => h⟩
  | .bool => ⟨rfl, fun _ h => h⟩
  | .str => ⟨rfl, fun _ h => h⟩
  | .unit => ⟨rfl, fun _ h => h⟩
  | .slice _ => .inl ⟨rfl, rfl, fun _ h => h⟩
  | .pair a b => by
    cases hf : (Ty.pair a b).flat with
    | true => exact rep_zero_flat _ _ hf
    | false =>
      simp only [Ty.flat] at hf
      have e : (Ty.pair a b).ownAll = .pr a.ownAll b.ownAll := by simp only [Ty.ownAll, hf, Bool.false_eq_true, if_false]
      rw [e]
      exact ⟨a.zcells, b.zcells, Foot.none, Foot.none, rfl, rep_zero a, rep_zero b, fun b => ⟨.inl, fun h => h.elim id id⟩, fun _ h => h.1⟩

def sameCell : Value → Value → Bool
  | .int k n, .int k' n' => decide (k = k') && decide (n = n')
  | .bool a, .bool b => a == b
  | .string a, .string b => a.data.toList.isEmpty && b.data.toList.isEmpty
  | .slice none 0 0, .slice none 0 0 => true
  | _, _ => false

theorem sameCell_eq {a b : Value} (h : sameCell a b = true) : a = b := by
  unfold sameCell at h
  split at h
  · simp only [Bool.and_eq_true, decide_eq_true_eq] at h; rw [h.1, h.2]
  · simp only [beq_iff_eq] at h; rw [h]
  · rename_i a b
    simp only [Bool.and_eq_true, List.isEmpty_iff] at h
    obtain ⟨⟨a⟩⟩ := a
    obtain ⟨⟨b⟩⟩ := b
    simp only at h
    rw [h.1, h.2]
  · rfl
  · cases h

def sameCells : List Value → List Value → Bool
  | [], [] => true
  | a :: l, b :: m => sameCell a b && sameCells l m
  | _, _ => false

theorem sameCells_eq : ∀ {l m : List Value}, sameCells l m = true → l = m
  | [], [], _ => rfl
  | a :: l, b :: m, h => by
    simp only [sameCells, Bool.and_eq_true] at h
    rw [sameCell_eq h.1, sameCells_eq h.2]
  | [], _ :: _, h => by simp [sameCells] at h
  | _ :: _, [], h => by simp [sameCells] at h

def zeroC (t : Ty) (z : Option Value) : Bool :=
  match z with
  | some v => match t.agg with
    | true => match v with
      | .agg cs => sameCells cs.toList t.zcells
      | _ => false
    | false => sameCells [v] t.zcells
  | none => false

theorem zeroC_ok {t : Ty} {z : Option Value} (h : zeroC t z = true) : ∃ v cs, z = some v ∧ Val t v cs ∧ ∀ w O, Rep w O t t.ownAll t.zero cs Foot.none := by
  unfold zeroC at h
  split at h
  case h_2 => cases h
  case h_1 v =>
    refine ⟨v, t.zcells, rfl, ?_, fun w O => rep_zero t⟩
    unfold Val
    split at h
    · rename_i ha
      rw [ha]
      split at h
      · rw [← sameCells_eq h]
      · cases h
    · rename_i ha
      rw [ha]
      exact (sameCells_eq h).symm

def infoC (P : Program) (t : Ty) (i : TypeId) : Bool :=
  match P.info? i with
  | some f => Nat.beq f.size t.size && (Nat.ble f.bytes 32768 && zeroC t f.zero)
  | none => false

theorem infoC_ok {P : Program} {t : Ty} {i : TypeId} (h : infoC P t i = true) :
    ∃ f, P.info? i = some f ∧ f.size = t.size ∧ f.bytes ≤ 32768 ∧ ∃ z cs, f.zero = some z ∧ Val t z cs ∧ ∀ w O, Rep w O t t.ownAll t.zero cs Foot.none := by
  unfold infoC at h
  split at h
  · rename_i f hf
    simp only [Bool.and_eq_true] at h
    exact ⟨f, hf, Nat.eq_of_beq_eq_true h.1, Nat.le_of_ble_eq_true h.2.1, zeroC_ok h.2.2⟩
  · cases h

def tyC (P : Program) : Ty → (TypeId → Bool) × (List Field → Nat → Bool)
  | .int k => (fun i => match P.underlying i with | some (.int k') => decide (k' = k) | _ => false, fun _ _ => false)
  | .bool => (fun i => match P.underlying i with | some .bool => true | _ => false, fun _ _ => false)
  | .str => (fun i => match P.underlying i with | some .string => true | _ => false, fun _ _ => false)
  | .slice e => (fun i => match P.underlying i with | some (.slice j) => (tyC P e).1 j && infoC P e j | _ => false, fun _ _ => false)
  | .unit => (fun i => match P.underlying i with | some (.struct fs) => !P.stoodInHeld i && fs.toList.isEmpty | _ => false, fun fs _ => fs.isEmpty)
  | .pair a b =>
    let q : List Field → Nat → Bool := fun fs off => match fs with
      | f :: r => Nat.beq f.offset off && (!(f.name == "_") && ((tyC P a).1 f.type && ((match P.info? f.type with | some i => Nat.beq i.size a.size | none => false) && (tyC P b).2 r (off + a.size))))
      | [] => false
    (fun i => match P.underlying i with | some (.struct fs) => !P.stoodInHeld i && q fs.toList 0 | _ => false, q)

theorem tyC_ok {P : Program} : ∀ {t : Ty}, (∀ {i : TypeId}, (tyC P t).1 i = true → (TyInfo P t).1 i) ∧ (∀ {fs : List Field} {off : Nat}, (tyC P t).2 fs off = true → (TyInfo P t).2 fs off) := by
  intro t
  induction t with
  | int k =>
    refine ⟨fun {i} h => ?_, fun h => by simp [tyC] at h⟩
    simp only [tyC] at h
    split at h
    · rename_i k' hk
      simp only [decide_eq_true_eq] at h
      subst h
      exact hk
    · cases h
  | bool =>
    refine ⟨fun {i} h => ?_, fun h => by simp [tyC] at h⟩
    simp only [tyC] at h
    split at h
    · rename_i hk; exact hk
    · cases h
  | str =>
    refine ⟨fun {i} h => ?_, fun h => by simp [tyC] at h⟩
    simp only [tyC] at h
    split at h
    · rename_i hk; exact hk
    · cases h
  | slice e ih =>
    refine ⟨fun {i} h => ?_, fun h => by simp [tyC] at h⟩
    simp only [tyC] at h
    split at h
    · rename_i j hj
      simp only [Bool.and_eq_true] at h
      exact ⟨j, hj, ih.1 h.1, infoC_ok h.2⟩
    · cases h
  | unit =>
    refine ⟨fun {i} h => ?_, fun {fs off} h => ?_⟩
    · simp only [tyC] at h
      split at h
      · rename_i fs hk
        simp only [Bool.and_eq_true, Bool.not_eq_true', List.isEmpty_iff] at h
        exact ⟨fs, hk, h.1, h.2⟩
      · cases h
    · simp only [tyC, List.isEmpty_iff] at h
      exact h
  | pair a b iha ihb =>
    have hq : ∀ {fs : List Field} {off : Nat}, (tyC P (.pair a b)).2 fs off = true → (TyInfo P (.pair a b)).2 fs off := by
      intro fs off h
      simp only [tyC] at h
      split at h
      · rename_i f r
        simp only [Bool.and_eq_true, Bool.not_eq_true'] at h
        obtain ⟨h1, h2, h3, h4, h5⟩ := h
        refine ⟨f, r, rfl, Nat.eq_of_beq_eq_true h1, ?_, iha.1 h3, ?_, ihb.2 h5⟩
        · intro e; rw [e] at h2; simp at h2
        · split at h4
          · rename_i i hi; exact ⟨i, hi, Nat.eq_of_beq_eq_true h4⟩
          · cases h4
      · cases h
    refine ⟨fun {i} h => ?_, hq⟩
    simp only [tyC] at h
    split at h
    · rename_i fs hk
      rw [Bool.and_eq_true, Bool.not_eq_true'] at h
      exact ⟨fs, hk, h.1, hq (by simp only [tyC]; exact h.2)⟩
    · cases h

def tyOkC (P : Program) (i : TypeId) (t : Ty) : Bool :=
  (tyC P t).1 i && ((!t.flat || !(P.eqGuardType P.depth i)) && (Nat.ble t.dep 10000 && infoC P t i))

theorem tyOkC_ok {P : Program} {i : TypeId} {t : Ty} (h : tyOkC P i t = true) : V.TyOk P i t := by
  unfold tyOkC at h
  simp only [Bool.and_eq_true] at h
  obtain ⟨h1, h2, h3, h4⟩ := h
  obtain ⟨f, hf, hs, hb, hz⟩ := infoC_ok h4
  refine ⟨tyC_ok.1 h1, fun hfl => ?_, Nat.le_of_ble_eq_true h3, f, hf, hs, hb, hz⟩
  rw [hfl] at h2
  simpa using h2

/-- A type of one cell that is no data. -/
def oneC (P : Program) (i : TypeId) : Bool :=
  (match P.underlying i with | some (.pointer _) | some (.func _ _ _) => true | _ => false) &&
  match P.info? i with
  | some f => Nat.beq f.size 1 && (match f.zero with | some (.agg _) => false | some _ => true | none => false)
  | none => false

theorem oneC_ok {P : Program} {i : TypeId} (h : oneC P i = true) : (∀ w, (isAgg i).run P w = .ok false w) ∧ ∃ f, P.info? i = some f ∧ f.size = 1 ∧ ∃ z, f.zero = some z ∧ ∀ cs, z ≠ .agg cs := by
  unfold oneC at h
  rw [Bool.and_eq_true] at h
  obtain ⟨h1, h2⟩ := h
  constructor
  · intro w
    unfold isAgg
    split at h1
    · rename_i hu; simp [run_underlying hu]
    · rename_i hu; simp [run_underlying hu]
    · cases h1
  · split at h2
    · rename_i f hf
      rw [Bool.and_eq_true] at h2
      refine ⟨f, hf, Nat.eq_of_beq_eq_true h2.1, ?_⟩
      have h3 := h2.2
      split at h3
      · cases h3
      · rename_i z hz hn; exact ⟨_, hn, fun cs e => hz cs e⟩
      · cases h3
    · cases h2

/-- A table of types. -/
def tyTab (l : List (TypeId × Ty)) (i : TypeId) : Option Ty := look l i

theorem lookT_mem {α : Type} : ∀ {l : List (Nat × α)} {i : Nat} {a : α}, look l i = some a → (i, a) ∈ l
  | [], i, a, h => by simp [look] at h
  | (j, b) :: l, i, a, h => by
    simp only [look] at h
    split at h
    · rename_i e
      injection h with h
      rw [h, Nat.eq_of_beq_eq_true e]; exact List.mem_cons_self ..
    · exact List.mem_cons_of_mem _ (lookT_mem h)

def oneTab (m : List TypeId) (i : TypeId) : Bool := m.any (Nat.beq i)

def tysC (P : Program) (l : List (TypeId × Ty)) (m : List TypeId) : Bool := l.all (fun x => tyOkC P x.1 x.2) && m.all (oneC P)

theorem tysC_ok {P : Program} {l : List (TypeId × Ty)} {m : List TypeId} (h : tysC P l m = true) {env : Env} (h1 : env.ty = tyTab l) (h2 : env.one = oneTab m) : env.TyOk P := by
  unfold tysC at h
  rw [Bool.and_eq_true, List.all_eq_true, List.all_eq_true] at h
  constructor
  · intro i t hi
    rw [h1] at hi
    exact tyOkC_ok (h.1 _ (lookT_mem hi))
  · intro i hi
    rw [h2] at hi
    simp only [oneTab, List.any_eq_true] at hi
    obtain ⟨j, hj, e⟩ := hi
    rw [Nat.eq_of_beq_eq_true e]
    exact oneC_ok (h.2 _ hj)

/-- A table of contracts. -/
def fnTab (l : List (FuncId × Fun)) (f : FuncId) : Option Fun := look l f


/-- The contracts of a table, one by one. -/
inductive Told (P : Program) : List (FuncId × Fun) → Prop where
  | nil : Told P []
  | cons {f : FuncId} {fu : Fun} {l : List (FuncId × Fun)} (h : QuietOk P f fu) (r : Told P l) (hq : fu.quiet = true := by rfl) : Told P ((f, fu) :: l)
  | consIo {f : FuncId} {fu : Fun} {l : List (FuncId × Fun)} (h : IoOk P f fu) (r : Told P l) (hq : fu.quiet = false := by rfl) : Told P ((f, fu) :: l)

theorem Told.mem {P : Program} {l : List (FuncId × Fun)} (h : Told P l) : ∀ {f fu}, (f, fu) ∈ l → (fu.quiet = true → QuietOk P f fu) ∧ (fu.quiet = false → IoOk P f fu) := by
  induction h with
  | nil => intro f fu h; cases h
  | cons hq _ hqq ih =>
    intro f fu h
    cases h with
    | head => exact ⟨fun _ => hq, fun e => by rw [hqq] at e; cases e⟩
    | tail _ h => exact ih h
  | consIo hq _ hqq ih =>
    intro f fu h
    cases h with
    | head => exact ⟨fun e => (by rw [hqq] at e; cases e), fun _ => hq⟩
    | tail _ h => exact ih h

/-- Contracts of the machine's own functions. -/
inductive ToldX (P : Program) : List (FuncId × Fun) → Prop where
  | nil : ToldX P []
  | cons {f : FuncId} {fu : Fun} {l : List (FuncId × Fun)} (h : ExtOk P f fu) (r : ToldX P l) : ToldX P ((f, fu) :: l)

theorem ToldX.mem {P : Program} {l : List (FuncId × Fun)} (h : ToldX P l) : ∀ {f fu}, (f, fu) ∈ l → ExtOk P f fu := by
  induction h with
  | nil => intro f fu h; cases h
  | cons hq _ ih =>
    intro f fu h
    cases h with
    | head => exact hq
    | tail _ h => exact ih h

theorem Told.fnOk {P : Program} {l : List (FuncId × Fun)} (h : Told P l) {env : Env} (he : env.fn = fnTab l) (hx : ToldX P env.ext := by exact .nil) : env.FnOk P := by
  refine ⟨?_, fun f fu hf => hx.mem (lookT_mem hf)⟩
  intro f fu hf
  rw [he] at hf
  exact h.mem (lookT_mem hf)

end Go.V

/- Functions, told from their rounds. No condition. -/
namespace Go.V
variable {α β : Type}

/-- A check, and what comes behind it. -/
def gd (c : Bool) (k : Option α) : Option α := match c with | true => k | false => none

@[simp] theorem gd_true (k : Option α) : gd true k = k := rfl
@[simp] theorem gd_false (k : Option α) : gd false k = none := rfl

/-- The rounds of loops, one by one. -/
inductive RoundsOk (env : Env) (tbl : List (LoopS β)) : List Code → Prop where
  | nil : RoundsOk env tbl []
  | cons {c : Code} {l : List Code} (L : LoopS β) (hL : findL tbl (headId c) = some L)
      (h : ∀ (κ : Kont β) (N : St → Option β) (x : L.sh.den), execK env (lpOf tbl) c { κ with normal := fun σ => N (σ.keepAt env.hints (headId c)) } (L.sh.mk' x) = L.R κ (fun x => N (L.sh.mk' x)) x)
      (r : RoundsOk env tbl l) : RoundsOk env tbl (c :: l)
  /-- a loop that is not told of -/
  | skip {c : Code} {l : List Code} (hL : findL tbl (headId c) = none) (r : RoundsOk env tbl l) : RoundsOk env tbl (c :: l)

theorem RoundsOk.all {env : Env} {tbl : List (LoopS β)} {l : List Code} (h : RoundsOk env tbl l) : ∀ b, b ∈ l → RoundOk env tbl b := by
  induction h with
  | nil => intro b hb; cases hb
  | cons L hL hr _ ih =>
    intro b hb
    cases hb with
    | head => exact .inr ⟨L, hL, hr⟩
    | tail _ h => exact ih b h
  | skip hL _ ih =>
    intro b hb
    cases hb with
    | head => exact .inl hL
    | tail _ h => exact ih b h

def nthLoop (c : Code) (k : Nat) : Code := ((loopsOf c)[k]?).getD .skip

/-- FROM THE BODY TO THE CONTRACT, in one step. -/
theorem told {P : Program} {env : Env} {f : FuncId} {fn : Func} {c : Code} {ps : List PM} {rs : List (Ty × Sh)} {F : Args ps → Option (Tup (rs.map (·.1) ++ ios ps))}
    {tbl : List (LoopS (Tup (rs.map (·.1) ++ ios ps)))} {ls : List Code} {vars : List ResultVar}
    (hf : P.funcs[f]? = some fn) (hty : env.TyOk P) (hfn : env.FnOk P)
    (hb : fn.body = some c) (hname : fn.name ≠ "runtime.NumGoroutine")
    (hn : env.n = fn.ntmps) (hps : ps.length ≤ fn.ntmps) (hio : ios ps = []) (hrs : (rs.all fun x => decide (x.2 = .z)) = true)
    (hv : fn.results.toList = vars)
    (hls : loopsOf c = ls) (hlp : RoundsOk env tbl ls)
    (he : runF env ps rs (lpOf tbl) c vars = F) : QuietOk P f ⟨ps, rs, F⟩ := by
  subst he
  subst hv
  exact quiet_fn hf hb hname hty hfn hn ps rs hps hio hrs (lpOf tbl) (loopsOk (by rw [hls]; exact hlp.all))

/-- The same, for a function that writes what its first argument leads to. -/
theorem toldIo {P : Program} {env : Env} {f : FuncId} {fn : Func} {c : Code} {t : Ty} {ps : List PM} {rs : List (Ty × Sh)} {F : Args (.io t .z :: ps) → Option (Tup (rs.map (·.1) ++ ios (.io t .z :: ps)))}
    {tbl : List (LoopS (Tup (rs.map (·.1) ++ ios (.io t .z :: ps))))} {ls : List Code} {vars : List ResultVar}
    (hf : P.funcs[f]? = some fn) (hty : env.TyOk P) (hfn : env.FnOk P)
    (hb : fn.body = some c) (hname : fn.name ≠ "runtime.NumGoroutine")
    (hn : env.n = fn.ntmps) (hps : ps.length + 1 ≤ fn.ntmps) (hfl : t.flat = true) (hno : noIo ps = true) (hrs : (rs.all fun x => x.1.flat && decide (x.2 = .z)) = true)
    (hv : fn.results.toList = vars)
    (hls : loopsOf c = ls) (hlp : ∀ p, RoundsOk { env with pin := p } tbl ls)
    (he : ∀ p, runF { env with pin := p } (.io t .z :: ps) rs (lpOf tbl) c vars = F) : IoOk P f ⟨.io t .z :: ps, rs, F⟩ := by
  subst hv
  exact io_fn hf hb hname hty hfn hn t ps rs hps hfl hno hrs F (lpOf tbl) (fun p => loopsOk (by rw [hls]; exact (hlp p).all)) he

theorem QuietOk.none {P : Program} {f : FuncId} {fn : Func} {fu : Fun} (hf : P.funcs[f]? = some fn) (hb : fn.body.isSome = true) (hname : fn.name ≠ "runtime.NumGoroutine") (h : ∀ x, fu.F x = .none) : QuietOk P f fu := by
  refine ⟨⟨fn, hf, hb, hname⟩, ?_⟩
  intro w O as vs r _ _ hr
  rw [h] at hr
  cases hr

end Go.V

/- What a row reads as data is data of the evaluator. No condition. -/
namespace Go.V

/-- Is it what a Go value of this kind may be? -/
def Wf : (t : Ty) → t.den → Prop
  | .int k, n => (Lit.int k n).wf = true
  | .bool, _ => True
  | .str, l => (asS l).length ≤ maxLen
  | .unit, _ => True
  | .pair a b, x => Wf a x.1 ∧ Wf b x.2
  | .slice e, l => (asL l).length ≤ maxLen ∧ ∀ y, y ∈ asL l → Wf e y

/-- Are all elements of slices of some size? -/
def Ty.pos : Ty → Bool
  | .slice e => Nat.blt 0 e.size && e.pos
  | .pair a b => a.pos && b.pos
  | _ => true

variable {H : Type} {enc : TypeId × Value → H} {P : Program} {w : World} {spare : Nat → Bool} {held : Bool}

theorem mapM_each {α β : Type} {f : α → Option β} : ∀ {l : List α} {ys : List β}, l.mapM f = some ys → ∀ x, x ∈ l → ∃ y, f x = some y
  | [], _, _, x, hx => by cases hx
  | a :: l, ys, h, x, hx => by
    rw [List.mapM_cons] at h
    cases h1 : f a with
    | none => rw [h1] at h; cases h
    | some y =>
      rw [h1] at h
      cases h2 : l.mapM f with
      | none => simp [h2] at h
      | some zs =>
        cases hx with
        | head => exact ⟨y, h1⟩
        | tail _ hx => exact mapM_each h2 x hx

/-- Elements that lie one behind the other. -/
theorem els_of {e : Ty} {n : Nat} {a : Addr} {Q : e.den → Prop} : ∀ (m s : Nat), (∀ k, s ≤ k → k < s + m → ∃ x cs, Rep w Foot.none e .z x cs Foot.none ∧ Q x ∧ cs.length = n ∧ ∀ i, i < n → w.cell? ((a.add (k * n)).add i) = cs[i]?) →
    ∃ (xs : List e.den) (cl : List Value), xs.length = m ∧ Els (Rep w Foot.none e .z) xs cl Foot.none ∧ (∀ y, y ∈ xs → Q y) ∧ cl.length = m * n ∧ ∀ i, i < m * n → w.cell? (a.add (s * n + i)) = cl[i]?
  | 0, s, _ => ⟨[], [], rfl, ⟨rfl, fun _ h => h⟩, fun _ h => (by cases h), (by simp), fun i hi => (by omega)⟩
  | m + 1, s, h => by
    obtain ⟨x, cs, hr, hq, hl, hc⟩ := h s (Nat.le_refl _) (by omega)
    obtain ⟨xs, cl, g1, g2, g3, g4, g5⟩ := els_of (a := a) (Q := Q) m (s + 1) fun k h1 h2 => h k (by omega) (by omega)
    have add_add : ∀ p q : Nat, (a.add p).add q = a.add (p + q) ∨ (p = 0 ∧ q = 0) := by
      intro p q
      unfold Addr.add
      by_cases hp : p = 0
      · by_cases hq : q = 0
        · exact .inr ⟨hp, hq⟩
        · left; simp [hp, hq]
      · left
        by_cases hq : q = 0
        · simp [hp, hq]
        · simp [hp, hq, Nat.add_assoc]
    refine ⟨x :: xs, cs ++ cl, by simp [g1], ⟨cs, cl, Foot.none, Foot.none, rfl, hr, g2, fun b => ⟨.inl, fun h => h.elim id id⟩, fun _ h => h.1⟩, ?_, ?_, ?_⟩
    · intro y hy
      cases hy with
      | head => exact hq
      | tail _ hy => exact g3 y hy
    · rw [List.length_append, hl, g4, Nat.succ_mul]; omega
    · intro i hi
      by_cases hin : i < n
      · rw [List.getElem?_append_left (by rw [hl]; exact hin), ← hc i hin]
        rcases add_add (s * n) i with h | ⟨h1, h2⟩
        · rw [h]
        · rw [h1, h2]; rfl
      · rw [List.getElem?_append_right (by rw [hl]; omega), hl, ← g5 (i - n) (by rw [Nat.succ_mul] at hi; omega)]
        congr 2
        rw [Nat.succ_mul]; omega

/-- From what is read to what lies there. -/
theorem trod_rep : ∀ (t : Ty), t.pos = true →
    (∀ {i fuel : Nat} {cs : List Value} {d : DataW H} {ps : List MemPlace}, (TyInfo P t).1 i → DataW.trod enc P w 0 spare held fuel i cs = some (d, ps) → P.cellsOf i = t.size → ∃ x : t.den, Rep w Foot.none t .z x cs Foot.none ∧ Wf t x) ∧
    (∀ {fs : List Field} {off fuel : Nat} {cs : List Value} {xs : List (DataW H × List MemPlace)}, (TyInfo P t).2 fs off → cs.length = off + t.size →
      (fs.mapM fun f => DataW.trod enc P w 0 spare held fuel f.type ((cs.drop f.offset).take (P.cellsOf f.type))) = some xs → ∃ x : t.den, Rep w Foot.none t .z x (cs.drop off) Foot.none ∧ Wf t x) := by
  intro t
  induction t with
  | int k =>
    intro _
    refine ⟨fun {i fuel cs d ps} hi h _ => ?_, fun h => h.elim⟩
    have hi : P.underlying i = some (.int k) := hi
    cases fuel with
    | zero => simp [DataW.trod] at h
    | succ fuel =>
      unfold DataW.trod at h
      split at h <;> rename_i h1 <;> rw [hi] at h1 <;> try (cases h1; done)
      · injection h1 with h1
        injection h1 with h1
        subst h1
        split at h
        · rename_i hc
          obtain ⟨rfl, hw⟩ := hc
          exact ⟨_, ⟨rfl, fun _ h => h⟩, hw⟩
        · cases h
      all_goals cases h
  | bool =>
    intro _
    refine ⟨fun {i fuel cs d ps} hi h _ => ?_, fun h => h.elim⟩
    have hi : P.underlying i = some .bool := hi
    cases fuel with
    | zero => simp [DataW.trod] at h
    | succ fuel =>
      unfold DataW.trod at h
      split at h <;> rename_i h1 <;> rw [hi] at h1 <;> try (cases h1; done)
      · exact ⟨_, ⟨rfl, fun _ h => h⟩, trivial⟩
      all_goals cases h
  | str =>
    intro _
    refine ⟨fun {i fuel cs d ps} hi h _ => ?_, fun h => h.elim⟩
    have hi : P.underlying i = some .string := hi
    cases fuel with
    | zero => simp [DataW.trod] at h
    | succ fuel =>
      unfold DataW.trod at h
      split at h <;> rename_i h1 <;> rw [hi] at h1 <;> try (cases h1; done)
      · rename_i s
        split at h
        · rename_i hs
          refine ⟨s.data.toList, ⟨by obtain ⟨⟨l⟩⟩ := s; rfl, fun _ h => h⟩, ?_⟩
          obtain ⟨⟨l⟩⟩ := s
          exact hs
        · cases h
      all_goals cases h
  | unit =>
    intro _
    refine ⟨fun {i fuel cs d ps} hi h hsz => ?_, fun {fs off fuel cs xs} _ hl _ => ?_⟩
    · obtain ⟨fs, hi, _, hfs⟩ := hi
      cases fuel with
      | zero => simp [DataW.trod] at h
      | succ fuel =>
        unfold DataW.trod at h
        split at h <;> rename_i h1 <;> rw [hi] at h1 <;> try (cases h1; done)
        · split at h
          · rename_i hlen
            rw [hsz] at hlen
            exact ⟨(), ⟨List.eq_nil_of_length_eq_zero hlen, fun _ h => h⟩, trivial⟩
          · cases h
        all_goals cases h
    · exact ⟨(), ⟨List.drop_eq_nil_of_le (by rw [hl]; exact Nat.le_refl _), fun _ h => h⟩, trivial⟩
  | pair a b iha ihb =>
    intro hpos
    simp only [Ty.pos, Bool.and_eq_true] at hpos
    have second : ∀ {fs : List Field} {off fuel : Nat} {cs : List Value} {xs : List (DataW H × List MemPlace)}, (TyInfo P (.pair a b)).2 fs off → cs.length = off + (Ty.pair a b).size →
        (fs.mapM fun f => DataW.trod enc P w 0 spare held fuel f.type ((cs.drop f.offset).take (P.cellsOf f.type))) = some xs → ∃ x : (Ty.pair a b).den, Rep w Foot.none (.pair a b) .z x (cs.drop off) Foot.none ∧ Wf (.pair a b) x := by
      intro fs off fuel cs xs hq hl hx
      obtain ⟨f, r, rfl, hoff, _, hta, ⟨ii, hii, his⟩, htb⟩ := hq
      rw [List.mapM_cons] at hx
      cases h1 : DataW.trod enc P w 0 spare held fuel f.type ((cs.drop f.offset).take (P.cellsOf f.type)) with
      | none => rw [h1] at hx; cases hx
      | some y =>
        rw [h1] at hx
        cases h2 : (r.mapM fun f => DataW.trod enc P w 0 spare held fuel f.type ((cs.drop f.offset).take (P.cellsOf f.type))) with
        | none => simp [h2] at hx
        | some ys =>
          have hca : P.cellsOf f.type = a.size := by unfold Program.cellsOf; rw [hii]; exact his
          obtain ⟨x, hrx, hwx⟩ := (iha hpos.1).1 hta (d := y.1) (ps := y.2) h1 hca
          obtain ⟨z, hrz, hwz⟩ := (ihb hpos.2).2 htb (by rw [hl]; simp only [Ty.size]; omega) h2
          refine ⟨(x, z), ⟨_, _, Foot.none, Foot.none, ?_, hrx, hrz, fun b => ⟨.inl, fun h => h.elim id id⟩, fun _ h => h.1⟩, hwx, hwz⟩
          rw [hoff, hca, ← List.drop_drop, List.take_append_drop]
    refine ⟨fun {i fuel cs d ps} hi h hsz => ?_, fun hq hl hx => second hq hl hx⟩
    obtain ⟨fs, hi, _, hq⟩ := hi
    cases fuel with
    | zero => simp [DataW.trod] at h
    | succ fuel =>
      unfold DataW.trod at h
      split at h <;> rename_i h1 <;> rw [hi] at h1 <;> try (cases h1; done)
      · injection h1 with h1
        injection h1 with h1
        subst h1
        split at h
        · rename_i hlen
          rw [hsz] at hlen
          rw [Option.map_eq_some_iff] at h
          obtain ⟨xs, hxs, _⟩ := h
          have := second (off := 0) hq (by rw [hlen]; omega) hxs
          rwa [List.drop_zero] at this
        · cases h
      all_goals cases h
  | slice e ih =>
    intro hpos
    simp only [Ty.pos, Bool.and_eq_true] at hpos
    have hsz0 : 0 < e.size := by simpa using hpos.1
    refine ⟨fun {i fuel cs d ps} hi h _ => ?_, fun h => h.elim⟩
    obtain ⟨j, hi, hj, ⟨f, hf, hfs, _⟩⟩ := hi
    have hcells : P.cellsOf j = e.size := by unfold Program.cellsOf; rw [hf]; exact hfs
    cases fuel with
    | zero => simp [DataW.trod] at h
    | succ fuel =>
      unfold DataW.trod at h
      split at h <;> rename_i h1 <;> rw [hi] at h1 <;> try (cases h1; done)
      · exact ⟨[], ⟨fun _ h => h, none, 0, rfl, Nat.le_refl _, fun _ => rfl, fun _ h => (by cases h), .inl rfl⟩, Nat.zero_le _, fun _ h => (by cases h)⟩
      · rename_i ad len cap
        injection h1 with h1
        injection h1 with h1
        subst h1
        dsimp only at h
        split at h
        case isFalse => cases h
        case isTrue hc =>
          obtain ⟨_, hlc, hcm⟩ := hc
          cases hm : ((List.range len).mapM fun i => (w.cells? 0 (ad.add (i * P.cellsOf j)) (P.cellsOf j)).bind (DataW.trod enc P w 0 spare held fuel j)) with
          | none => rw [hm] at h; cases h
          | some elems =>
            obtain ⟨xs, cl, g1, g2, g3, g4, g5⟩ := els_of (w := w) (e := e) (n := e.size) (a := ad) (Q := Wf e) len 0 fun k _ hk => by
              obtain ⟨y, hy⟩ := mapM_each hm k (by simpa using hk)
              rw [hcells] at hy
              cases hcs : w.cells? 0 (ad.add (k * e.size)) e.size with
              | none => rw [hcs] at hy; cases hy
              | some cs =>
                rw [hcs] at hy
                obtain ⟨_, hl, hcc⟩ := World.cells?_some hcs
                obtain ⟨x, hr, hw⟩ := (ih hpos.2).1 hj (d := y.1) (ps := y.2) hy hcells
                exact ⟨x, cs, hr, hw, hl, hcc⟩
            have hsp : 0 < len → ad.spot = none ∧ ad.block < w.heap.size := by
              intro h0
              have hpos' : 0 < len * e.size := Nat.mul_pos h0 hsz0
              have hc0 := g5 0 hpos'
              rw [List.getElem?_eq_getElem (by omega)] at hc0
              have ha : ad.add (0 * e.size + 0) = ad := by simp [Addr.add]
              rw [ha] at hc0
              unfold World.cell? at hc0
              split at hc0
              · rename_i C _ _ hb
                refine ⟨?_, (Array.getElem?_eq_some_iff.1 hb).1⟩
                cases hs : ad.spot with
                | none => rfl
                | some _ => rw [hs] at hc0; simp at hc0
              · cases hc0
            refine ⟨xs, ⟨fun _ h => h, some ad, cap, by rw [← g1], by rw [← g1] at hlc; exact hlc, fun h => (by cases h), ?_, ?_⟩, ?_, g3⟩
            · intro _ _; rfl
            · by_cases h0 : len = 0
              · exact .inl (List.eq_nil_of_length_eq_zero (g1.trans h0))
              · right
                obtain ⟨hs, hb⟩ := hsp (Nat.pos_of_ne_zero h0)
                obtain ⟨b, off, sp⟩ := ad
                dsimp only at hs hb
                subst hs
                refine ⟨b, off, cl, rfl, hb, fun h => h, g2, fun i hi => ?_⟩
                rw [← g5 i (by omega)]
                congr 1
                unfold Addr.add
                by_cases hi0 : i = 0
                · subst hi0; simp
                · simp [hi0]
            · rw [show (asL xs).length = len from g1]; omega
      all_goals cases h

end Go.V

/- From the row's reading to the call, and back. No condition. -/
namespace Go.V
variable {H : Type} {enc : TypeId × Value → H} {P : Program} {w w' : World} {held : Bool} {sp : Nat → Bool}

theorem cells_row {a : Addr} {n : Nat} {cs : List Value} (h : w.cells? 0 a n = some cs) (hs : ∀ p ∈ MemPlace.row a n, w.sameAt w' p) : w'.cells? 0 a n = some cs :=
  World.cells?_carry h hs

theorem mapM_len {α β : Type} {f : α → Option β} : ∀ {l : List α} {r : List β}, l.mapM f = some r → r.length = l.length
  | [], r, h => by
    rw [List.mapM_nil] at h
    injection h with h
    subst h; rfl
  | a :: l, r, h => by
    rw [List.mapM_cons] at h
    cases h1 : f a with
    | none => rw [h1] at h; cases h
    | some y =>
      rw [h1] at h
      cases h2 : l.mapM f with
      | none => simp [h2] at h
      | some ys =>
        simp only [h2, Option.bind_eq_bind, Option.bind_some, Option.pure_def, Option.some.injEq] at h
        subst h
        simp [mapM_len h2]

/-- What is read is read again where nothing of it has turned. -/
theorem trod_again : ∀ (t : Ty), t.pos = true →
    (∀ {i fuel : Nat} {cs : List Value} {d : DataW H} {ps : List MemPlace}, (TyInfo P t).1 i → P.cellsOf i = t.size → DataW.trod enc P w 0 (fun _ => true) held fuel i cs = some (d, ps) →
      (∀ p ∈ ps, w.sameAt w' p) → (∀ p ∈ ps, sp p.block = true) → DataW.trod enc P w' 0 sp held fuel i cs = some (d, ps)) ∧
    (∀ {fs : List Field} {off fuel : Nat} {cs : List Value} {xs : List (DataW H × List MemPlace)}, (TyInfo P t).2 fs off →
      (fs.mapM fun f => DataW.trod enc P w 0 (fun _ => true) held fuel f.type ((cs.drop f.offset).take (P.cellsOf f.type))) = some xs →
      (∀ p ∈ xs.flatMap (·.2), w.sameAt w' p) → (∀ p ∈ xs.flatMap (·.2), sp p.block = true) →
      (fs.mapM fun f => DataW.trod enc P w' 0 sp held fuel f.type ((cs.drop f.offset).take (P.cellsOf f.type))) = some xs) := by
  intro t
  induction t with
  | int k =>
    intro _
    refine ⟨fun {i fuel cs d ps} hi _ h _ _ => ?_, fun h => h.elim⟩
    have hi : P.underlying i = some (.int k) := hi
    cases fuel with
    | zero => simp [DataW.trod] at h
    | succ fuel =>
      unfold DataW.trod at h
      split at h <;> rename_i h1 <;> rw [hi] at h1 <;> try (cases h1; done)
      · injection h1 with h1
        injection h1 with h1
        subst h1
        unfold DataW.trod
        rw [hi]
        exact h
      all_goals cases h
  | bool =>
    intro _
    refine ⟨fun {i fuel cs d ps} hi _ h _ _ => ?_, fun h => h.elim⟩
    have hi : P.underlying i = some .bool := hi
    cases fuel with
    | zero => simp [DataW.trod] at h
    | succ fuel =>
      unfold DataW.trod at h
      split at h <;> rename_i h1 <;> rw [hi] at h1 <;> try (cases h1; done)
      · unfold DataW.trod
        rw [hi]
        exact h
      all_goals cases h
  | str =>
    intro _
    refine ⟨fun {i fuel cs d ps} hi _ h _ _ => ?_, fun h => h.elim⟩
    have hi : P.underlying i = some .string := hi
    cases fuel with
    | zero => simp [DataW.trod] at h
    | succ fuel =>
      unfold DataW.trod at h
      split at h <;> rename_i h1 <;> rw [hi] at h1 <;> try (cases h1; done)
      · unfold DataW.trod
        rw [hi]
        exact h
      all_goals cases h
  | unit =>
    intro _
    refine ⟨fun {i fuel cs d ps} hi _ h hs hq => ?_, fun {fs off fuel cs xs} hf h _ _ => ?_⟩
    · obtain ⟨fs, hi, _, hfs⟩ := hi
      cases fuel with
      | zero => simp [DataW.trod] at h
      | succ fuel =>
        unfold DataW.trod at h ⊢
        rw [hi] at h ⊢
        dsimp only at h ⊢
        rw [hfs] at h ⊢
        exact h
    · have hf : fs = [] := hf
      subst hf
      exact h
  | pair a b iha ihb =>
    intro hpos
    simp only [Ty.pos, Bool.and_eq_true] at hpos
    have second : ∀ {fs : List Field} {off fuel : Nat} {cs : List Value} {xs : List (DataW H × List MemPlace)}, (TyInfo P (.pair a b)).2 fs off →
        (fs.mapM fun f => DataW.trod enc P w 0 (fun _ => true) held fuel f.type ((cs.drop f.offset).take (P.cellsOf f.type))) = some xs →
        (∀ p ∈ xs.flatMap (·.2), w.sameAt w' p) → (∀ p ∈ xs.flatMap (·.2), sp p.block = true) →
        (fs.mapM fun f => DataW.trod enc P w' 0 sp held fuel f.type ((cs.drop f.offset).take (P.cellsOf f.type))) = some xs := by
      intro fs off fuel cs xs hq hx hs hsp
      obtain ⟨f, r, rfl, hoff, _, hta, ⟨ii, hii, his⟩, htb⟩ := hq
      rw [List.mapM_cons] at hx ⊢
      cases h1 : DataW.trod enc P w 0 (fun _ => true) held fuel f.type ((cs.drop f.offset).take (P.cellsOf f.type)) with
      | none => rw [h1] at hx; cases hx
      | some y =>
        rw [h1] at hx
        cases h2 : (r.mapM fun f => DataW.trod enc P w 0 (fun _ => true) held fuel f.type ((cs.drop f.offset).take (P.cellsOf f.type))) with
        | none => simp [h2] at hx
        | some ys =>
          simp only [h2, Option.bind_eq_bind, Option.bind_some, Option.pure_def, Option.some.injEq] at hx
          subst hx
          have hca : P.cellsOf f.type = a.size := by unfold Program.cellsOf; rw [hii]; exact his
          have g1 := (iha hpos.1).1 hta hca (d := y.1) (ps := y.2) h1 (fun p hp => hs p (by simp [hp])) (fun p hp => hsp p (by simp [hp]))
          have g2 := (ihb hpos.2).2 htb h2 (fun p hp => hs p (by simp only [List.flatMap_cons, List.mem_append]; exact .inr hp)) (fun p hp => hsp p (by simp only [List.flatMap_cons, List.mem_append]; exact .inr hp))
          rw [g1, g2]
          rfl
    refine ⟨fun {i fuel cs d ps} hi hsz h hs hq => ?_, fun hq hx h1 h2 => second hq hx h1 h2⟩
    obtain ⟨fs, hi, _, hq'⟩ := hi
    cases fuel with
    | zero => simp [DataW.trod] at h
    | succ fuel =>
      unfold DataW.trod at h ⊢
      rw [hi] at h ⊢
      dsimp only at h ⊢
      split at h
      · rename_i hlen
        rw [if_pos hlen]
        rw [Option.map_eq_some_iff] at h
        obtain ⟨xs, hxs, he⟩ := h
        injection he with he1 he2
        subst he1; subst he2
        rw [second (off := 0) hq' hxs hs hq]
        rfl
      · cases h
  | slice e ih =>
    intro hpos
    simp only [Ty.pos, Bool.and_eq_true] at hpos
    have hsz0 : 0 < e.size := by simpa using hpos.1
    refine ⟨fun {i fuel cs d ps} hi _ h hs hq => ?_, fun h => h.elim⟩
    obtain ⟨j, hi, hj, ⟨f, hf, hfs, _⟩⟩ := hi
    have hcells : P.cellsOf j = e.size := by unfold Program.cellsOf; rw [hf]; exact hfs
    cases fuel with
    | zero => simp [DataW.trod] at h
    | succ fuel =>
      unfold DataW.trod at h
      split at h <;> rename_i h1 <;> rw [hi] at h1 <;> try (cases h1; done)
      · unfold DataW.trod
        rw [hi]
        exact h
      · rename_i ad len cap
        injection h1 with h1
        injection h1 with h1
        subst h1
        dsimp only at h
        split at h
        case isFalse => cases h
        case isTrue hc =>
          unfold DataW.trod
          rw [hi]
          dsimp only
          rw [if_pos hc]
          simp only [if_true] at h
          cases hm : ((List.range len).mapM fun i => (w.cells? 0 (ad.add (i * P.cellsOf j)) (P.cellsOf j)).bind (DataW.trod enc P w 0 (fun _ => true) held fuel j)) with
          | none => rw [hm] at h; cases h
          | some elems =>
            rw [hm, Option.bind_some] at h
            cases hr : ((List.range (cap - len)).mapM fun k => (w.cells? 0 (ad.add ((len + k) * P.cellsOf j)) (P.cellsOf j)).bind (DataW.trod enc P w 0 (fun _ => true) held fuel j)) with
            | none => rw [hr] at h; cases h
            | some rest =>
              rw [hr, Option.map_some] at h
              injection h with h
              injection h with h2 h3
              subst h2; subst h3
              have l1 := mapM_len hm
              have l2 := mapM_len hr
              rw [List.length_range] at l1 l2
              have one : ∀ (k : Nat) (y : DataW H × List MemPlace), k < elems.length + rest.length → (∀ p ∈ y.2, p ∈ (elems ++ rest).flatMap (·.2)) →
                  ((w.cells? 0 (ad.add (k * P.cellsOf j)) (P.cellsOf j)).bind (DataW.trod enc P w 0 (fun _ => true) held fuel j)) = some y →
                  ((w'.cells? 0 (ad.add (k * P.cellsOf j)) (P.cellsOf j)).bind (DataW.trod enc P w' 0 sp held fuel j)) = some y := by
                intro k y hk hy hh
                cases hcs : w.cells? 0 (ad.add (k * P.cellsOf j)) (P.cellsOf j) with
                | none => rw [hcs] at hh; cases hh
                | some cs =>
                  rw [hcs, Option.bind_some] at hh
                  have hrow : ∀ p ∈ MemPlace.row (ad.add (k * P.cellsOf j)) (P.cellsOf j), p ∈ MemPlace.row ad ((elems.length + rest.length) * P.cellsOf j) := by
                    intro p hp
                    simp only [MemPlace.row, List.mem_map, List.mem_range] at hp ⊢
                    obtain ⟨q, hq1, rfl⟩ := hp
                    have hb : (ad.add (k * P.cellsOf j)).block = ad.block := by unfold Addr.add; split <;> rfl
                    have ho : (ad.add (k * P.cellsOf j)).off = ad.off + k * P.cellsOf j := by
                      unfold Addr.add
                      split
                      · rename_i h0; rw [h0]; rfl
                      · rfl
                    refine ⟨k * P.cellsOf j + q, ?_, by rw [hb, ho, Nat.add_assoc]⟩
                    have : (k + 1) * P.cellsOf j ≤ (elems.length + rest.length) * P.cellsOf j := Nat.mul_le_mul_right _ hk
                    rw [Nat.succ_mul] at this
                    omega
                  rw [cells_row hcs (fun p hp => hs p (by simp only [List.mem_append]; exact .inl (hrow p hp))), Option.bind_some]
                  exact (ih hpos.2).1 hj hcells (d := y.1) (ps := y.2) hh (fun p hp => hs p (by simp only [List.mem_append]; exact .inr (hy p hp))) (fun p hp => hq p (by simp only [List.mem_append]; exact .inr (hy p hp)))
              rw [mapM_carry hm fun k y hk hy hh => one k y (by have : k < len := (by simpa using hk); omega) (fun p hp => List.mem_flatMap.2 ⟨y, List.mem_append_left _ hy, hp⟩) hh, Option.bind_some]
              have hrest : ∀ k y, k ∈ List.range (cap - len) → y ∈ rest → ((w.cells? 0 (ad.add ((len + k) * P.cellsOf j)) (P.cellsOf j)).bind (DataW.trod enc P w 0 (fun _ => true) held fuel j)) = some y →
                  ((w'.cells? 0 (ad.add ((len + k) * P.cellsOf j)) (P.cellsOf j)).bind (DataW.trod enc P w' 0 sp held fuel j)) = some y := fun k y hk hy hh =>
                one (len + k) y (by have : k < cap - len := (by simpa using hk); omega) (fun p hp => List.mem_flatMap.2 ⟨y, List.mem_append_right _ hy, hp⟩) hh
              by_cases hlc : cap - len = 0
              · rw [hlc] at hr
                have : rest = [] := by rw [hlc] at l2; exact List.eq_nil_of_length_eq_zero l2
                subst this
                cases sp ad.block
                · rfl
                · rw [hlc]; rfl
              · have hsp : sp ad.block = true := by
                  refine hq (.cell ad.block ad.off) ?_
                  simp only [List.mem_append]
                  left
                  simp only [MemPlace.row, List.mem_map, List.mem_range]
                  refine ⟨0, ?_, rfl⟩
                  rw [hcells]
                  exact Nat.mul_pos (by omega) hsz0
                rw [hsp, if_pos rfl, mapM_carry hr hrest]
                rfl
      all_goals cases h

theorem kept_but (h : Kept Foot.none w w') (may : MemPlace → Prop) : w.keptBut w' may := by
  refine ⟨h.os, h.output, fun i hi => ?_⟩
  rw [h.block i hi fun hf => hf]
  cases w.heap[i]? with
  | none => rfl
  | some o => cases o <;> first | rfl | exact ⟨rfl, rfl, rfl, fun _ _ => rfl⟩ | exact .inr ⟨rfl, rfl⟩

theorem kept_same (h : Kept Foot.none w w') {p : MemPlace} (hp : p.block < w.heap.size) : w.sameAt w' p := by
  cases p with
  | cell b off =>
    show w'.cell? _ = w.cell? _
    unfold World.cell?
    rw [h.block b hp fun hf => hf]
  | map b => exact h.block b hp fun hf => hf

theorem val_cells {t : Ty} {i : TypeId} {v : Value} {r : Reach} {base : Nat} (h : (TyInfo P t).1 i) (hv : Value.okWide P w r base i v) : Val t v v.cells.toList := by
  cases t with
  | int k => obtain ⟨n, rfl⟩ := WideShapes.okWide_int (show P.underlying i = some (.int k) from h) hv; rfl
  | bool => obtain ⟨n, rfl⟩ := WideShapes.okWide_bool (show P.underlying i = some .bool from h) hv; rfl
  | str => obtain ⟨n, rfl⟩ := WideShapes.okWide_string (show P.underlying i = some .string from h) hv; rfl
  | slice e => obtain ⟨j, hj, _⟩ := h; obtain ⟨a, l, c, rfl⟩ := WideShapes.okWide_slice hj hv; rfl
  | unit => obtain ⟨fs, hj, _⟩ := h; obtain ⟨cs, rfl, _⟩ := WideShapes.okWide_struct hj hv; simp [Val, Ty.agg, Value.cells]
  | pair a b => obtain ⟨fs, hj, _⟩ := h; obtain ⟨cs, rfl, _⟩ := WideShapes.okWide_struct hj hv; simp [Val, Ty.agg, Value.cells]

/-- Parameters that are only read. -/
def roAll : List Ty → List PM
  | [] => []
  | t :: ts => .ro t :: roAll ts
def WfAll : (ts : List Ty) → Args (roAll ts) → Prop
  | [], _ => True
  | t :: ts, as => Wf t as.1 ∧ WfAll ts as.2
def TyAll (P : Program) : List Ty → List TypeId → Prop
  | [], [] => True
  | t :: ts, i :: is => TyOk P i t ∧ t.pos = true ∧ TyAll P ts is
  | _, _ => False

theorem args_read : ∀ (ts : List Ty) (is : List TypeId) (vs : List Value) (ds : List (DataW H)) (ps : List MemPlace) {r : Reach} {base : Nat}, TyAll P ts is →
    (∀ (j : Nat) t v, is[j]? = some t → vs[j]? = some v → Value.okWide P w r base t v) → DataW.TrodAll enc P w 0 (fun _ => true) held is vs ds ps →
    ∃ as : Args (roAll ts), ArgsOk P w Foot.none (roAll ts) as vs ∧ WfAll ts as ∧ ds.length = ts.length ∧
      ∀ (w' : World) (sp : Nat → Bool), (∀ p ∈ ps, w.sameAt w' p) → (∀ p ∈ ps, sp p.block = true) → DataW.TrodAll enc P w' 0 sp held is vs ds ps
  | [], [], vs, ds, ps, r, base, _, _, h => by
    match vs, ds, h with
    | [], [], h => exact ⟨(), rfl, trivial, rfl, fun _ _ _ _ => h⟩
  | t :: ts, i :: is, vs, ds, ps, r, base, ht, hok, h => by
    match vs, ds, h with
    | v :: vs, d :: ds, ⟨p, q, ⟨fuel, hd⟩, hrest, e⟩ =>
      subst e
      obtain ⟨hty, hpos, hts⟩ := ht
      obtain ⟨as, g1, g2, g3, g4⟩ := args_read ts is vs ds q hts (fun j t v h1 h2 => hok (j + 1) t v (by simpa using h1) (by simpa using h2)) hrest
      obtain ⟨h1, _, _, f, hf, hfs, _⟩ := hty
      have hc : P.cellsOf i = t.size := by unfold Program.cellsOf; rw [hf]; exact hfs
      obtain ⟨x, hx, hw⟩ := (trod_rep t hpos).1 h1 hd hc
      refine ⟨(x, as), ⟨v, vs, _, rfl, val_cells h1 (hok 0 i v rfl rfl), hx, g1⟩, ⟨hw, g2⟩, by simp [g3], fun w' sp hs hq => ?_⟩
      exact ⟨p, q, ⟨fuel, (trod_again t hpos).1 h1 hc hd (fun x hx => hs x (List.mem_append_left _ hx)) (fun x hx => hq x (List.mem_append_left _ hx))⟩, g4 w' sp (fun x hx => hs x (List.mem_append_right _ hx)) (fun x hx => hq x (List.mem_append_right _ hx)), rfl⟩

/-- THE ROW's CONTRACT: a law that the evaluator answers with 'true' on all that can be read. -/
theorem law_contract {f : FuncId} {fn : Func} {s : ChangeSpec} {ts : List Ty} {F : Args (roAll ts) → Option (Tup ([(Ty.bool, Sh.z)].map (·.1) ++ ios (roAll ts)))} {tb : TypeId}
    (hq : QuietOk P f ⟨roAll ts, [(.bool, .z)], F⟩) (law : ∀ as, WfAll ts as → ∃ r, F as = some r ∧ r.1 = true) (hty : TyAll P ts fn.params.toList)
    (hres : fn.resultTypes = #[tb]) (htb : P.underlying tb = some .bool) (hvars : s.vars = [])
    (hspec : ∀ (ds : List (DataW H)), ds.length = ts.length → s.fn H ds = { results := [.lit (.bool true)], args := ds })
    {fresh handsOn apart : Bool} (W : World) (base : Nat) (args : Array Value) (ds gs : List (DataW H)) (before : List MemPlace)
    (hval : ∀ (j : Nat) t v, fn.params[j]? = some t → args[j]? = some v → Value.okWide P W .any base t v)
    (hW : DataW.Whole enc P fn.params.toList s.vars apart W args.toList ds gs before) :
    Calls P f args W fun e W' => ∃ v, e = .returned v ∧ s.post enc P fn apart fresh handsOn false W args v W' := by
  have hW' := hW
  have hlt := hW.lt
  obtain ⟨p, q, hA, hV, rfl, hfz, hnd⟩ := hW
  rw [hvars] at hV
  obtain ⟨rfl, rfl⟩ : gs = [] ∧ q = [] := by
    cases gs with
    | nil => exact ⟨rfl, hV⟩
    | cons g r => exact absurd hV (by intro h; cases h)
  obtain ⟨as, g1, g2, g3, g4⟩ := args_read ts fn.params.toList args.toList ds p hty (fun j t v h1 h2 => hval j t v (by simpa using h1) (by simpa using h2)) hA
  obtain ⟨r, hr, hr1⟩ := law as g2
  have hc := hq.2 W Foot.none as args.toList r (fun _ h => h.elim) g1 hr
  rw [Array.toArray_toList] at hc
  refine hc.mono fun e W' ⟨rv, he, hk, hrv⟩ => ?_
  obtain ⟨v, vs', cs, rfl, hv, hrep, h3⟩ := hrv
  have h3 : vs' = [] := h3
  subst h3
  have h1 : cs = [v] := hv
  have h2 : cs = [.bool r.1] := hrep.1
  rw [h1] at h2
  injection h2 with h2 _
  subst h2
  have hsame : ∀ x ∈ p, W.sameAt W' x := fun x hx => kept_same hk (hlt x (by simpa using hx))
  have hold : ∀ x ∈ p, (fun b => decide (b < W.heap.size)) x.block = true := fun x hx => by simpa using hlt x (by simpa using hx)
  refine ⟨_, he, ds, [], p ++ [], [], p, [], hW', ?_, ?_, ?_, kept_but hk _, fun h => by cases h⟩
  · rw [List.append_nil, hspec ds g3, hres, hr1]
    exact ChangeShapes.trodAll_mk1 (RowKit.shut_bool htb true)
  · rw [List.append_nil, hspec ds g3]
    exact g4 W' _ hsame hold
  · rw [List.append_nil, hspec ds g3, hvars]; rfl

end Go.V
