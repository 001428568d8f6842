/- An evaluator over the code of the model, on data without memory, and the proof that it is right. No condition. -/
import Derived.Test.YtaggmkdoelocbaaGreatDoorEb
import GoSem.ClaimChange
import Derived.ChangeReads
import Derived.WideShapes
import Derived.ChangeFn
import Derived.Handed
import Derived.ChangeShapes
import Derived.RowKit
import Derived.Calls
import Derived.RunT
import Derived.Shelf.SlSortCmp.NoneTotal
namespace Go.V
variable {α β:Type}
variable {P:Program} {env:Env} {w₀ w w':World} {O₀ O₁ W O O':Foot} {σ σ₀ σ' σ₁ σ₂:St} {γ γ':Name→Src} {φ φ':Name→Foot} {a a':Act} {n:Name} {B:Nat→Bool} {T:List Name} {dst:Option Nat}
theorem look_mapK (f:Nat→Slot→Slot):∀ (l:List (Nat×Slot)) (j:Nat),look (l.map fun x=>(x.1,f x.1 x.2)) j=(look l j).map (f j)
 |[],_=>rfl
 |(i,s)::l,j=>by
  simp only [List.map_cons,look]
  split
  ·rename_i h;rw [Nat.eq_of_beq_eq_true h];rfl
  ·exact look_mapK f l j
theorem without_mapK (f:Nat→Slot→Slot):∀ (l:List (Nat×Slot)) (j:Nat),without (l.map fun x=>(x.1,f x.1 x.2)) j=(without l j).map fun x=>(x.1,f x.1 x.2)
 |[],_=>rfl
 |(i,s)::l,j=>by
  simp only [List.map_cons,without]
  split
  ·exact without_mapK f l j
  ·rw [without_mapK f l j];rfl
def blk (B:Nat→Bool) (i:Nat) (s:Slot):Slot:=match B i with | true=>.undef | false=>s
theorem blank_eq:σ.blank B={slots:=σ.slots.map fun x=>(x.1,blk B x.1 x.2),mem:=σ.mem}:=rfl
theorem slot_blank (i:Nat):(σ.blank B).slot i=blk B i (σ.slot i):=by
 rw [blank_eq]
 unfold St.slot
 rw [look_mapK]
 cases look σ.slots i with
 |none=>unfold blk;simp only [Option.map_none,Option.getD_none];split<;>rfl
 |some s=>rfl
theorem root_blank (n:Name):(σ.blank B).root n=σ.root n:=rfl
theorem blk_kill (n:Name) (i:Nat) (s:Slot):(blk B i s).kill n=blk B i (s.kill n):=by
 unfold blk
 split
 ·rfl
 ·rfl
theorem blank_lay (n:Name) (R:Root):(σ.blank B).lay n R=(σ.lay n R).blank B:=by
 unfold St.lay
 rw [blank_eq,blank_eq]
 simp only [List.map_map]
 congr 1
 refine List.map_congr_left fun x _=>?_
 simp only [Function.comp]
 rw [blk_kill]
theorem blank_drop (n:Name):(σ.blank B).drop n=(σ.drop n).blank B:=by
 unfold St.drop
 rw [blank_eq,blank_eq]
 simp only [List.map_map]
 congr 1
 refine List.map_congr_left fun x _=>?_
 simp only [Function.comp]
 rw [blk_kill]
theorem blank_set {d:Nat} (hd:B d=false) (s:Slot):(σ.blank B).set d s=(σ.set d s).blank B:=by
 unfold St.set
 rw [blank_eq,blank_eq]
 simp only [List.map_cons]
 rw [without_mapK]
 congr 1
 unfold blk
 rw [hd]
def Root.men (m:Name):Root→Bool
 |.held s=>s.men m
 |_=>false
theorem Root.kill_of {m:Name} {R:Root} (h:R.men m=false):R.kill m=R:=by
 cases R with
 |data b d sh=>rfl
 |held s=>exact congrArg Root.held (Slot.kill_of h)
structure Chg (T:List Name) (dst:Option Nat) (σ σ':St):Prop where
 root:∀ n,n∉T→∀ R,σ.root n=some R→(∀ m∈T,R.men m=false)→σ'.root n=some R
 slot:∀ x,dst≠some x→(∀ m∈T,(σ.slot x).men m=false)→σ'.slot x=σ.slot x
theorem Chg.refl (T:List Name) (dst:Option Nat) (σ:St):Chg T dst σ σ:=⟨fun _ _ _ h _=>h,fun _ _ _=>rfl⟩
theorem Chg.trans (h:Chg T dst σ σ₁) (h':Chg T dst σ₁ σ₂):Chg T dst σ σ₂:=
 ⟨fun n hn R hr hm=>h'.root n hn R (h.root n hn R hr hm) hm,fun x hx hm=>(h'.slot x hx (by rw [h.slot x hx hm];exact hm)).trans (h.slot x hx hm)⟩
theorem Chg.drop (hn:n∈T):Chg T dst σ (σ.drop n):=
 ⟨fun m hm R hr hR=>by rw [St.root_drop,if_neg (fun e:m=n=>hm (e▸hn)),hr];exact congrArg some (Root.kill_of (hR n hn)),fun x _ hx=>by rw [St.slot_drop];exact Slot.kill_of (hx n hn)⟩
theorem Chg.lay (hn:n∈T) (R:Root):Chg T dst σ (σ.lay n R):=
 ⟨fun m hm R hr hR=>by rw [St.root_lay,if_neg (fun e:m=n=>hm (e▸hn)),hr];exact congrArg some (Root.kill_of (hR n hn)),fun x _ hx=>by rw [St.slot_lay];exact Slot.kill_of (hx n hn)⟩
theorem Chg.set (d:Nat) (s:Slot):Chg T (some d) σ (σ.set d s):=
 ⟨fun _ _ _ hr _=>hr,fun x hx _=>by rw [St.slot_set,if_neg (fun e=>hx (by rw [e]))]⟩
def Takes (T:List Name) (s:Slot):Prop:=∀ u n,s = .ref u ⟨n,[]⟩→n∈T
theorem castK_self {t:Ty} (x:t.den) (k:t.den→Option α):castK x k=k x:=by unfold castK;rw [dif_pos rfl]
theorem takeK_tr {t:Ty} {s:Slot} {K:t.den→Sh→St→Option α} {K':t.den→Sh→St→Option β} {r:α} {r':β} (h:takeK σ t s K=some r) (hT:Takes T s)
  (hK:∀ y sh σ',K y sh σ'=some r→Chg T dst σ σ' →K' y sh (σ'.blank B)=some r'):takeK (σ.blank B) t s K'=some r' :=by
 unfold takeK at h ⊢
 split at h
 ·obtain ⟨e,h⟩:=castK_some h
  subst e
  try dsimp only
  rw [castK_self]
  exact hK _ _ _ h (Chg.refl _ _ _)
 ·cases t<;>try (cases h;done)
  exact hK _ _ _ h (Chg.refl _ _ _)
 ·rename_i u n
  try dsimp only
  rw [root_blank]
  split at h
  ·rename_i d sh hr
   try rw [hr]
   try dsimp only
   split at h
   case h_2=>cases h
   case h_1 hw=>
    try rw [hw]
    obtain ⟨e,h⟩:=castK_some h
    subst e
    try dsimp only
    rw [castK_self,blank_drop]
    exact hK _ _ _ h (Chg.drop (hT u n rfl))
  ·cases h
 ·cases h
theorem takeV_tr {t:Ty} {s:Slot} {K:t.den→Sh→St→Option α} {K':t.den→Sh→St→Option β} {r:α} {r':β} (h:takeV σ t s K=some r) (hT:Takes T s)
  (hK:∀ y sh σ',K y sh σ'=some r→Chg T dst σ σ' →K' y sh (σ'.blank B)=some r'):takeV (σ.blank B) t s K'=some r' :=by
 unfold takeV at h ⊢
 split at h
 ·rename_i u n
  try dsimp only
  rw [root_blank]
  split at h
  ·rename_i d sh hr
   try rw [hr]
   try dsimp only
   split at h
   case h_2=>cases h
   case h_1 hw=>
    try rw [hw]
    obtain ⟨e,h⟩:=castK_some h
    subst e
    try dsimp only
    rw [castK_self,blank_drop]
    exact hK _ _ _ h (Chg.drop (hT u n rfl))
  ·exact takeK_tr (B:=B) h hT hK
 ·exact takeK_tr (B:=B) h hT hK
theorem blank_lose (n:Name) (q:Path):(σ.blank B).lose n q=(σ.lose n q).blank B:=by
 unfold St.lose
 rw [blank_eq,blank_eq]
 simp only [List.map_map]
 congr 1
 refine List.map_congr_left fun x _=>?_
 simp only [Function.comp]
 congr 1
 unfold blk
 split<;>rfl
theorem Chg.put (hn:n∈T) (R:Root):Chg T dst σ (σ.put n R):=
 ⟨fun m hm R hr _=>by rw [St.root_put,if_neg (fun e:m=n=>hm (e▸hn)),hr],fun _ _ _=>rfl⟩
theorem Chg.lose (hn:n∈T) (q:Path):Chg T dst σ (σ.lose n q):=
 ⟨fun m hm R hr hR=>by
  rw [St.root_lose,hr]
  refine congrArg some ?_
  cases R with
  |data b d sh=>rfl
  |held s=>exact congrArg Root.held (men_lose (hR n hn)),fun x _ hx=>by
  have:(σ.lose n q).slot x=(σ.slot x).lose n q:=by
   unfold St.slot St.lose
   rw [look_map]
   cases look σ.slots x<;>rfl
  rw [this,men_lose (hx n hn)]⟩
theorem asK_blank {t:Ty} (s:Slot) (k:t.den→Option α):asK (σ.blank B) t s k=asK σ t s k:=by
 unfold asK
 cases s<;>rfl
def Names (T:List Name) (s:Slot):Prop:=∀ t p,s = .ref t p→p.name∈T
theorem appSrcZ_tr {e u:Ty} {s:Slot} {K:List e.den→St→Option α} {K':List e.den→St→Option β} {r:α} {r':β} (h:appSrcZ σ e u s K=some r) (hT:Names T s)
  (hK:∀ ys σ',K ys σ'=some r→Chg T dst σ σ' →(σ'=σ∨∃ m,σ'=σ.drop m)→K' ys (σ'.blank B)=some r'):appSrcZ (σ.blank B) e u s K'=some r' :=by
 unfold appSrcZ at h ⊢
 cases u with
 |str=>
  dsimp only at h ⊢
  split at h
  ·obtain ⟨e',h⟩:=castK_some h
   injection e' with e'
   subst e'
   try dsimp only
   unfold castK
   rw [dif_pos rfl]
   exact hK _ _ h (Chg.refl _ _ _) (.inl rfl)
  ·cases h
 |slice eu=>
  dsimp only at h ⊢
  split at h
  ·try dsimp only
   split at h
   case h_2=>cases h
   case h_1 t0 m hl0=>
    try dsimp only
    rw [root_blank]
    split at h
    case h_2=>cases h
    case h_1 d sh hr=>
     try rw [hr]
     try dsimp only
     split at h
     case h_2=>cases h
     case h_1 hw=>
      try rw [hw]
      obtain ⟨e',h⟩:=castK_some h
      obtain ⟨dt,dx⟩:=d
      dsimp only at e'
      subst e'
      try dsimp only
      rw [castK_self (t:=.slice e),blank_drop]
      exact hK _ _ h (Chg.drop (hT _ _ rfl)) (.inr ⟨_,rfl⟩)
  ·try dsimp only
   rw [asK_bind] at h
   rw [asK_blank,asK_bind]
   cases ha:asK σ (.slice e) s some with
   |none=>rw [ha] at h;cases h
   |some ys=>rw [ha] at h;exact hK _ _ h (Chg.refl _ _ _) (.inl rfl)
 |int _=>cases h
 |bool=>cases h
 |unit=>cases h
 |pair _ _=>cases h
theorem appSrcK_tr {e u:Ty} {se:Sh} {s:Slot} {K:List e.den→St→Option α} {K':List e.den→St→Option β} {r:α} {r':β} (h:appSrcK σ e u se s K=some r) (hT:Names T s)
  (hK:∀ ys σ',K ys σ'=some r→Chg T dst σ σ' →(σ'=σ∨∃ m,σ'=σ.drop m)→K' ys (σ'.blank B)=some r'):appSrcK (σ.blank B) e u se s K'=some r' :=by
 unfold appSrcK at h ⊢
 split at h
 ·exact appSrcZ_tr h hT hK
 ·split at h
  case h_2=>cases h
  case h_1 eu=>
   try dsimp only
   split at h
   case h_2=>cases h
   case h_1 t0 m=>
    try dsimp only
    rw [root_blank]
    split at h
    case h_2=>cases h
    case h_1 d sh hr=>
     try rw [hr]
     try dsimp only
     split at h
     case h_2=>cases h
     case h_1 hw=>
      try rw [hw]
      obtain ⟨e',h⟩:=castK_some h
      obtain ⟨dt,dx⟩:=d
      dsimp only at e'
      subst e'
      try dsimp only
      rw [castK_self (t:=.slice e),blank_drop]
      exact hK _ _ h (Chg.drop (hT _ _ rfl)) (.inr ⟨_,rfl⟩)
theorem rootK_tr {s:Slot} {e:Ty} {se:Sh} {nm:Name} {K:List e.den→Name→St→Option α} {K':List e.den→Name→St→Option β} {r:α} {r':β} (h:rootK σ s e se nm K=some r) (hT:Names T s) (hnm:nm∈T)
  (hK:∀ xs n σ',K xs n σ'=some r→n∈T→Chg T dst σ σ' →K' xs n (σ'.blank B)=some r'):rootK (σ.blank B) s e se nm K'=some r' :=by
 unfold rootK at h ⊢
 split at h
 ·try dsimp only
  rw [blank_lay]
  exact hK _ _ _ h hnm (Chg.lay hnm _)
 ·rename_i t0 p
  have hp:p.name∈T:=hT _ _ rfl
  try dsimp only
  rw [root_blank]
  split at h
  case h_2=>cases h
  case h_1 b d sh hr=>
   try rw [hr]
   try dsimp only
   split at h
   case h_2=>cases h
   case h_1 hc=>
    try rw [hc]
    try dsimp only
    obtain ⟨y,hget,h⟩:=getP_some h
    rw [getP_bind,hget]
    simp only [Option.bind_some]
    obtain ⟨e',h⟩:=castK_some h
    obtain ⟨yt,yx⟩:=y
    dsimp only at e'
    subst e'
    try dsimp only
    rw [castK_self (t:=.slice e)]
    split at h
    ·try dsimp only
     split at h
     case h_2=>cases h
     case h_1 sh' hsh=>
      try rw [hsh]
      try dsimp only
      rw [show (σ.blank B).put p.name (.data b d sh')=(σ.put p.name (.data b d sh')).blank B from rfl,blank_lay]
      exact hK _ _ _ h hnm ((Chg.put hp _).trans (Chg.lay hnm _))
    ·try dsimp only
     split at h
     case h_2=>cases h
     case h_1 hpath=>
      try dsimp only
      split at h
      ·rename_i h4
       try rw [h4]
       try dsimp only
       rw [blank_drop,blank_lay]
       exact hK _ _ _ h hnm ((Chg.drop hp).trans (Chg.lay hnm _))
      ·rename_i h4
       try rw [h4]
       exact hK _ _ _ h hp (Chg.refl _ _ _)
 ·cases h
theorem ref_names:∀ {l:List Slot} {s:Slot},s∈l→∀ t p,s = .ref t p→p.name∈Slot.namesL l
 |s'::l,s,h,t,p,e=>by
  unfold Slot.namesL
  rcases List.mem_cons.1 h with h | h
  ·subst h;subst e;simp
  ·exact List.mem_append.2 (.inr (ref_names h t p e))
theorem elemsK_tr {e:Ty} {deep:Bool} {r:α} {r':β}:∀ (l:List (Nat×Slot)) (i:Nat) {σ:St} {K:List e.den→St→Option α} {K':List e.den→St→Option β},elemsK e deep i l σ K=some r→(∀ p∈l,Takes T p.2)→
  (∀ xs σ',K xs σ'=some r→Chg T dst σ σ' →K' xs (σ'.blank B)=some r')→elemsK e deep i l (σ.blank B) K'=some r'
 |[],i,σ,K,K',h,_,hK=>hK _ _ h (Chg.refl _ _ _)
 |(j,s)::l,i,σ,K,K',h,hT,hK=>by
  unfold elemsK at h ⊢
  split at h
  case h_2=>cases h
  case h_1 hj=>
   try rw [hj]
   refine takeV_tr (dst:=dst) h (hT (j,s) (by simp)) fun y shy σ₁ h1 c1=>?_
   try dsimp only at h1 ⊢
   split at h1
   case h_1=>cases h1
   case h_2 hd=>
    try rw [hd]
    exact elemsK_tr l (i+1) h1 (fun p hp=>hT p (by simp [hp])) fun xs σ₂ h2 c2=>hK _ _ h2 (c1.trans c2)
theorem partsK_tr {t:Ty} {r:α} {r':β}:∀ (l:List (Nat×Slot)) (x:t.den) (sh:Sh) {σ:St} {K:t.den→Sh→St→Option α} {K':t.den→Sh→St→Option β},partsK t l x sh σ K=some r→(∀ p∈l,Takes T p.2)→
  (∀ y sh σ',K y sh σ'=some r→Chg T dst σ σ' →K' y sh (σ'.blank B)=some r')→partsK t l x sh (σ.blank B) K'=some r'
 |[],x,sh,σ,K,K',h,_,hK=>hK _ _ _ h (Chg.refl _ _ _)
 |(i,s)::l,x,sh,σ,K,K',h,hT,hK=>by
  unfold partsK at h ⊢
  split at h
  case h_2=>cases h
  case h_1 t' ht' =>
   try rw [ht']
   try dsimp only
   refine takeK_tr (dst:=dst) h (hT (i,s) (by simp)) fun y shy σ₁ h1 c1=>?_
   try dsimp only at h1 ⊢
   obtain ⟨x',hset,h1⟩:=setP_some h1
   rw [setP_bind,hset]
   simp only [Option.bind_some]
   split at h1
   case h_2=>cases h1
   case h_1 sh' hsh=>
    try rw [hsh]
    exact partsK_tr l x' sh' h1 (fun p hp=>hT p (by simp [hp])) fun y sh σ₂ h2 c2=>hK _ _ _ h2 (c1.trans c2)
theorem namesL_mem:∀ {l:List Slot} {u:Ty} {n:Name},Slot.ref u ⟨n,[]⟩∈l→n∈Slot.namesL l
 |s::l,u,n,h=>by
  unfold Slot.namesL
  rcases List.mem_cons.1 h with h | h
  ·subst h;simp
  ·exact List.mem_append.2 (.inr (namesL_mem h))
theorem parts_takes {ps:List (Nat×Slot)} {m:Name}:∀ p∈ps,Takes (m::Slot.namesL (ps.map (·.2))) p.2:=by
 intro p hp u n e
 exact List.mem_cons_of_mem _ (namesL_mem (u:=u) (by rw [←e];exact List.mem_map_of_mem hp))
theorem tf_in {σ τ:St} {ps:List PM} (hio:ios ps=[]) (l:List Operand) (c:Bool) (hτ:τ=σ.blank B) (hl:∀ y∈l,(σ.blank B).val y=σ.val y) (G:Args ps→Option α) (G':Args ps→Option β) {r:α} {r':β}
  (h:(match (!(Slot.lentL (l.map σ.val))||c) with | true=>argsK env σ ps (l.map σ.val) G | false=>none)=some r) (hG:∀ az,G az=some r→G' az=some r') :
  (match (!(Slot.lentL (l.map τ.val))||c) with | true=>argsK env τ ps (l.map τ.val) G' | false=>none)=some r' :=by
 subst hτ
 rw [show l.map (σ.blank B).val=l.map σ.val from List.map_congr_left hl]
 split at h
 case h_2=>cases h
 case h_1 hc=>
  rw [argsK_bind] at h
  rw [argsK_congr (σ₁:=σ.blank B) (σ₂:=σ) rfl ps hio,argsK_bind]
  cases ha:argsK env σ ps (l.map σ.val) (some:Args ps→Option (Args ps)) with
  |none=>rw [ha] at h;cases h
  |some az=>
   rw [ha] at h
   exact hG az h
theorem tfCall_tr {f:Fun} {nm:Name} {args:List Operand} {K:Slot→St→Option α} {K':Slot→St→Option β} {r:α} {r':β} (h:tfCallK env σ nm f args K=some r) (hv:∀ y∈args,∀ τ:St,(τ.blank B).val y=τ.val y)
  (hT:∀ y∈args,Names T (σ.val y)) (hnm:nm∈T) (hK:∀ s σ',K s σ'=some r→Chg T dst σ σ' →K' s (σ'.blank B)=some r'):tfCallK env (σ.blank B) nm f args K'=some r' :=by
 unfold tfCallK at h ⊢
 split at h
 case h_2=>cases h
 case h_1 e se ps u su rs F y ys=>
  dsimp only
  split at h
  case h_2=>cases h
  case h_1 hno=>
   rw [Bool.and_eq_true] at hno
   refine Eq.trans (congrArg (fun z=>rootK (σ.blank B) z e se nm _) (hv y (by simp) σ)) (rootK_tr (dst:=dst) h (hT y (by simp)) hnm fun xs n σ₁ h1 hn c1=>?_)
   refine tf_in (σ:=σ₁.drop n) (noIo_ios hno.1) ys _ (blank_drop n) (fun x hx=>hv x (by simp [hx]) _) _ _ h1 fun az ha=>?_
   dsimp only at ha ⊢
   split at ha
   case h_2=>cases ha
   case h_1 res hres=>
    try rw [hres]
    exact (congrArg (K' _) (blank_lay n _)).trans (hK _ _ ha (c1.trans (Chg.lay hn _)))
theorem oper_tr {o:Oper} (ht:touched env σ o=some T) {K:St→Option α} {K':St→Option β} {r:α} {r':β} (h:operK env o σ K=some r) (hB:∀ x,Operand.tmp x∈o.op.operands→B x=false)
  (hd:∀ d,o.dst=some d→B d=false) (hK:∀ σ',K σ'=some r→Chg T o.dst σ σ' →K' (σ'.blank B)=some r'):operK env o (σ.blank B) K'=some r' :=by
 have hv:∀ y∈o.op.operands,(σ.blank B).val y=σ.val y:=by
  intro y hy
  cases y with
  |tmp x=>
   show (σ.blank B).slot x=σ.slot x
   rw [slot_blank]
   unfold blk
   rw [hB x hy]
  |const _=>rfl
  |func _=>rfl
  |global _=>rfl
 have fin:∀ s σ',finK env o.dst K s σ'=some r→Chg T o.dst σ σ' →finK env o.dst K' s (σ'.blank B)=some r' :=by
  intro s σ' h c
  unfold finK at h ⊢
  cases hdst:o.dst with
  |none=>rw [hdst] at h;dsimp only at h ⊢;rw [hdst] at hK c;exact hK _ h c
  |some d=>
   rw [hdst] at h
   dsimp only at h ⊢
   split at h
   case h_2=>cases h
   case h_1 hlt=>
    try rw [hlt]
    rw [blank_set (hd d hdst)]
    rw [hdst] at hK c
    exact hK _ h (c.trans (Chg.set d s))
 have parts:∀ (ps:Array (Nat×Operand)),(∀ x∈ps.toList,x.2∈o.op.operands)→(ps.toList.map fun x=>(x.1,(σ.blank B).val x.2))=ps.toList.map fun x=>(x.1,σ.val x.2):=
  fun ps hps=>List.map_congr_left fun x hx=>by rw [hv x.2 (hps x hx)]
 have names:∀ (ps:Array (Nat×Operand)),((ps.toList.map fun x=>(x.1,σ.val x.2)).map (·.2))=ps.toList.map fun x=>σ.val x.2:=fun ps=>by rw [List.map_map];rfl
 unfold touched at ht
 split at ht
 ·rename_i t ps ho
  injection ht with ht
  subst ht
  have hl:(loud o||toBytes env o.op)=true:=by simp [loud,ho]
  unfold operK at h ⊢
  rw [hl] at h ⊢
  dsimp only at h ⊢
  unfold loudK at h ⊢
  rw [ho] at h ⊢
  dsimp only at h ⊢
  rw [parts ps fun x hx=>by rw [ho];simp only [Op.operands,List.mem_toArray,List.mem_map];exact ⟨x,hx,rfl⟩]
  split at h
  case h_2=>cases h
  case h_1 t' hty=>
   split at h
   case h_2=>cases h
   case h_1 hag=>
    try dsimp only
    try rw [hag]
    try dsimp only
    refine partsK_tr (dst:=o.dst) _ _ _ h (fun p hp=>by have:=parts_takes (m:=nameOf o) p hp;rw [names] at this;exact this) fun y sh σ₁ h1 c1=>?_
    try dsimp only at h1 ⊢
    split at h1
    ·rename_i hf;(try rw [hf]);exact fin _ _ h1 c1
    ·rename_i hf;(try rw [hf]);rw [blank_lay];exact fin _ _ h1 (c1.trans (Chg.lay (by simp) _))
 ·rename_i t m ps ho
  injection ht with ht
  subst ht
  have hl:(loud o||toBytes env o.op)=true:=by simp [loud,ho]
  unfold operK at h ⊢
  rw [hl] at h ⊢
  dsimp only at h ⊢
  unfold loudK at h ⊢
  rw [ho] at h ⊢
  dsimp only at h ⊢
  rw [parts ps fun x hx=>by rw [ho];simp only [Op.operands,List.mem_toArray,List.mem_map];exact ⟨x,hx,rfl⟩]
  split at h
  case h_2=>cases h
  case h_1 e hty=>
   split at h
   case h_2=>cases h
   case h_1 hc=>
    try dsimp only
    try rw [hc]
    try dsimp only
    refine elemsK_tr (dst:=o.dst) _ _ h (fun p hp=>by have:=parts_takes (m:=nameOf o) p hp;rw [names] at this;exact this) fun xs σ₁ h1 c1=>?_
    try dsimp only at h1 ⊢
    split at h1
    ·rename_i hf;(try rw [hf]);exact fin _ _ h1 c1
    ·rename_i hf;(try rw [hf]);rw [blank_lay];exact fin _ _ h1 (c1.trans (Chg.lay (by simp) _))
 ·rename_i t ho
  injection ht with ht
  subst ht
  have hl:(loud o||toBytes env o.op)=true:=by simp [loud,ho]
  unfold operK at h ⊢
  rw [hl] at h ⊢
  dsimp only at h ⊢
  unfold loudK at h ⊢
  rw [ho] at h ⊢
  dsimp only at h ⊢
  split at h
  ·rw [blank_lay];exact fin _ _ h (Chg.lay (by simp) _)
  ·try dsimp only
   split at h
   ·rw [blank_lay];exact fin _ _ h (Chg.lay (by simp) _)
   ·cases h
 ·rename_i t a x ho
  injection ht with ht
  subst ht
  have hl:(loud o||toBytes env o.op)=true:=by simp [loud,ho]
  have hva:(σ.blank B).val a=σ.val a:=hv a (by rw [ho];simp [Op.operands])
  have hvx:(σ.blank B).val x=σ.val x:=hv x (by rw [ho];simp [Op.operands])
  unfold operK at h ⊢
  rw [hl] at h ⊢
  dsimp only at h ⊢
  unfold loudK at h ⊢
  rw [ho] at h ⊢
  dsimp only at h ⊢
  rw [hva,hvx]
  have hTx:∀ t p,σ.val x = .ref t p→p.name∈Slot.namesL [σ.val a,σ.val x]:=ref_names (by simp)
  have hTa:∀ p,σ.val a = .ptr p→p.name∈Slot.namesL [σ.val a,σ.val x]:=fun p e=>by unfold Slot.namesL;rw [e];simp
  generalize Slot.namesL [σ.val a,σ.val x]=T at hTx hTa hK fin
  split at h
  case h_2=>cases h
  case h_1 p hp=>
   have hpT:=hTa p hp
   try rw [hp]
   try dsimp only
   rw [root_blank]
   split at h
   case h_2=>cases h
   case h_1 b d sh hr=>
    try rw [hr]
    try dsimp only
    split at h
    case h_2=>cases h
    case h_1 t' htp=>
     try rw [htp]
     try dsimp only
     split at h
     case h_2=>cases h
     case h_1 hdec=>
      try rw [hdec]
      try dsimp only
      refine takeV_tr (dst:=o.dst) h (fun u n e=>hTx u ⟨n,[]⟩ e) fun y shy σ₁ h1 c1=>?_
      try dsimp only at h1 ⊢
      rw [root_blank]
      split at h1
      case h_2=>cases h1
      case h_1 hr1=>
       try rw [hr1]
       try dsimp only
       obtain ⟨x',hset,h1⟩:=setP_some h1
       rw [setP_bind,hset]
       simp only [Option.bind_some]
       split at h1
       ·rename_i hsh
        try rw [hsh]
        try dsimp only
        rw [blank_lose]
        exact fin _ _ h1 (c1.trans ((Chg.lose hpT _).trans (Chg.put hpT _)))
       ·rename_i hsh
        try rw [hsh]
        try dsimp only
        split at h1
        ·rename_i hsh2
         try rw [hsh2]
         try dsimp only
         rw [blank_lose]
         exact fin _ _ h1 (c1.trans ((Chg.lose hpT _).trans (Chg.put hpT _)))
        ·cases h1
 ·rename_i c ho
  have hl:(loud o||toBytes env o.op)=true:=by simp [loud,ho]
  have callee:∀ g,c.callee = .value g→(σ.blank B).val g=σ.val g:=fun g hg=>hv g (by rw [ho];simp [Op.operands,Call.operands,hg])
  have quiet:callE env σ c (fun s=>finK env o.dst K s σ)=some r→T=[]→callE env (σ.blank B) c (fun s=>finK env o.dst K' s (σ.blank B))=some r' :=by
   intro h hT
   subst hT
   rw [callE_bind] at h
   rw [callE_congr (σ₁:=σ.blank B) (σ₂:=σ) rfl c (by rw [ho] at hv;exact hv),callE_bind]
   cases hq:callE env σ c some with
   |none=>rw [hq] at h;cases h
   |some s=>
    rw [hq] at h
    simp only [Option.bind_some] at h ⊢
    exact fin _ _ h (Chg.refl _ _ _)
  unfold operK at h ⊢
  rw [hl] at h ⊢
  dsimp only at h ⊢
  unfold loudK at h ⊢
  rw [ho] at h ⊢
  dsimp only at h ⊢
  cases hc:c.callee with
  |builtin b=>
   (try rw [hc] at ht);(try rw [hc] at h);(try rw [hc])
   by_cases hb:b = .append
   ·subst hb
    dsimp only at ht h ⊢
    injection ht with ht
    split at h
    case h_2=>cases h
    case h_1 s x t tx hargs htys=>
     have hin:∀ y∈c.args.toList,y∈o.op.operands:=fun y hy=>by
      have:y∈c.args:=by simpa using hy
      rw [ho];simp [Op.operands,Call.operands,hc,this]
     have hvx:(σ.blank B).val x=σ.val x:=hv x (hin x (by rw [hargs];simp))
     have hvs:∀ τ:St,(τ.blank B).val s=τ.val s:=fun τ=>by
      cases s with
      |tmp i=>show (τ.blank B).slot i=τ.slot i;rw [slot_blank];unfold blk;rw [hB i (hin _ (by rw [hargs];simp))]
      |const _=>rfl
      |func _=>rfl
      |global _=>rfl
     have hTs:Names T (σ.val s):=by rw [←ht];exact fun t p e=>List.mem_cons_of_mem _ (ref_names (l:=c.args.toList.map fun x=>(σ.val x).noVw) (s:=.ref t p) (List.mem_map.2 ⟨s,by rw [hargs];simp,by rw [e];rfl⟩) t p rfl)
     have hTx:Names T (σ.val x):=by rw [←ht];exact fun t p e=>List.mem_cons_of_mem _ (ref_names (l:=c.args.toList.map fun x=>(σ.val x).noVw) (s:=.ref t p) (List.mem_map.2 ⟨x,by rw [hargs];simp,by rw [e];rfl⟩) t p rfl)
     have hnm:nameOf o∈T:=by rw [←ht];simp
     try dsimp only
     split at h
     case h_2=>cases h
     case h_1 e u hte htu=>
      try dsimp only at h ⊢
      rw [hvs,hvx,show tgtSh env (σ.blank B) e (σ.val s)=tgtSh env σ e (σ.val s) from rfl]
      refine appSrcK_tr (dst:=o.dst) h hTx fun ys σ₁ h1 c1 d1=>?_
      try dsimp only at h1 ⊢
      rw [hvs]
      have hTs1:Names T (σ₁.val s):=by
       rcases d1 with rfl | ⟨m,rfl⟩
       ·exact hTs
       ·intro t p e
        have:(σ.drop m).val s=(σ.val s).kill m∨(σ.drop m).val s=σ.val s:=by
         cases s with
         |tmp i=>exact .inl (St.slot_drop σ m i)
         |const _=>exact .inr rfl
         |func _=>exact .inr rfl
         |global _=>exact .inr rfl
        rcases this with e' | e'
        ·rw [e'] at e
         unfold Slot.kill at e
         split at e
         ·cases e
         ·exact hTs t p e
        ·rw [e'] at e;exact hTs t p e
      refine rootK_tr (dst:=o.dst) h1 hTs1 hnm fun xs n σ₂ h2 hn c2=>?_
      try dsimp only at h2 ⊢
      split at h2
      case h_2=>cases h2
      case h_1 hlim=>
       try rw [hlim]
       try dsimp only
       rw [blank_lay]
       exact fin _ _ h2 (c1.trans (c2.trans (Chg.lay hn _)))
   ·cases b<;>first | (exact (hb rfl).elim) | (dsimp only at ht;cases ht;done) | (dsimp only at ht h ⊢;injection ht with ht;exact quiet h ht.symm)
  |value g=>
   (try rw [hc] at ht);(try rw [hc] at h);(try rw [hc])
   dsimp only at ht h ⊢
   have hio:∀ x,ioOf env σ g=x→ioOf env (σ.blank B) g=x:=fun x hx=>by unfold ioOf at hx ⊢;rw [callee g hc];exact hx
   have hfr:∀ x,isFresh env σ g=x→isFresh env (σ.blank B) g=x:=fun x hx=>by unfold isFresh at hx ⊢;rw [callee g hc];exact hx
   split at ht
   ·rename_i fu h0
    split at ht
    case h_2=>cases ht
    case h_1 htf=>
     injection ht with ht
     rw [hio _ h0]
     rw [h0] at h
     dsimp only at h ⊢
     unfold callIoK at h ⊢
     rw [htf] at h ⊢
     dsimp only at h ⊢
     have hin:∀ y∈c.args.toList,y∈o.op.operands:=fun y hy=>by
      have:y∈c.args:=by simpa using hy
      rw [ho];simp [Op.operands,Call.operands,hc,this]
     refine tfCall_tr (dst:=o.dst) h (fun y hy τ=>?_) (fun y hy t p e=>?_) (by rw [←ht];simp) fun s σ' h' c' =>fin s σ' h' c'
     ·cases y with
      |tmp i=>show (τ.blank B).slot i=τ.slot i;rw [slot_blank];unfold blk;rw [hB i (hin _ hy)]
      |const _=>rfl
      |func _=>rfl
      |global _=>rfl
     ·rw [←ht]
      exact List.mem_cons_of_mem _ (ref_names (l:=c.args.toList.map σ.val) (List.mem_map.2 ⟨y,hy,rfl⟩) t p e)
   ·rename_i h0
    rw [hio _ h0]
    rw [h0] at h
    dsimp only at h ⊢
    split at ht
    ·rename_i h1
     injection ht with ht
     rw [hfr _ h1]
     rw [h1] at h
     dsimp only at h ⊢
     rw [freshK_bind] at h
     rw [freshK_congr (σ₁:=σ.blank B) (σ₂:=σ) rfl o hv,freshK_bind]
     cases hf:freshK env σ o (fun R s=>some (R,s)) with
     |none=>rw [hf] at h;cases h
     |some p=>
      rw [hf] at h
      simp only [Option.bind_some] at h ⊢
      rw [blank_lay]
      exact fin _ _ h (Chg.lay (by rw [←ht];simp) _)
    ·rename_i h1
     injection ht with ht
     rw [hfr _ h1]
     rw [h1] at h
     dsimp only at h ⊢
     exact quiet h ht.symm
  |invoke _ _=>(try rw [hc] at ht);cases ht
 ·rename_i h1 h2 h3
  split at ht
  case h_1=>cases ht
  case h_2 hl=>
   injection ht with ht
   subst ht
   have hl:(loud o||toBytes env o.op)=false:=hl
   unfold operK at h ⊢
   rw [hl] at h ⊢
   dsimp only at h ⊢
   rw [quietK_bind] at h
   rw [quietK_congr (σ₁:=σ.blank B) (σ₂:=σ) rfl o.op hv,quietK_bind]
   cases hq:quietK env σ o.op some with
   |none=>rw [hq] at h;cases h
   |some s=>
    rw [hq] at h
    simp only [Option.bind_some] at h ⊢
    exact fin _ _ h (Chg.refl _ _ _)
theorem const_ref {v:Value} {t:Ty} {p:Place} (e:ofConst v = .ref t p):False:=by
 unfold ofConst at e
 split at e<;>cases e
theorem const_vw {v:Value} {t:Ty} {p:Place} {l h:Nat} (e:ofConst v = .vw t p l h):False:=by
 unfold ofConst at e
 split at e<;>cases e
theorem early_stay {o:Oper} (he:earlyOp o=true) (hc:Chg T dst σ σ') {s:Slot} (h:evalK env σ o some=some s) (hx:∀ x,Operand.tmp x∈o.op.operands→dst≠some x∧∀ m∈T,(σ.slot x).men m=false)
  (hs:∀ m∈T,s.men m=false):evalK env σ' o some=some s:=by
 have slot:∀ x,Operand.tmp x∈o.op.operands→σ'.slot x=σ.slot x:=fun x hm=>hc.slot x (hx x hm).1 (hx x hm).2
 have away:∀ x p,Operand.tmp x∈o.op.operands→σ.slot x = .ptr p→p.name∉T:=by
  intro x p hm e hT
  have:=(hx x hm).2 p.name hT
  rw [e] at this
  simp [Slot.men] at this
 have awayR:∀ x t p,Operand.tmp x∈o.op.operands→σ.slot x = .ref t p→p.name∉T:=by
  intro x t p hm e hT
  have:=(hx x hm).2 p.name hT
  rw [e] at this
  simp [Slot.men] at this
 have placeR:∀ (p:Place),p.name∉T→∀ (k:Dyn→Option Slot) s,placeK σ p k=some s→placeK σ' p k=some s:=by
  intro p hp k s hk
  unfold placeK at hk ⊢
  split at hk
  ·rename_i b d sh hr
   rw [hc.root p.name hp _ hr (fun _ _=>rfl)]
   exact hk
  ·cases hk
 have awayV:∀ x e p l h,Operand.tmp x∈o.op.operands→σ.slot x = .vw e p l h→p.name∉T:=by
  intro x e' p l h hm e hT
  have:=(hx x hm).2 p.name hT
  rw [e] at this
  simp [Slot.men] at this
 have val:∀ y∈o.op.operands,σ'.val y=σ.val y:=fun y hy=>by
  cases y with
  |tmp i=>exact slot i hy
  |_=>rfl
 have asR:∀ x,x∈o.op.operands→∀ (t:Ty) (k:t.den→Option Slot) s,asK σ t (σ.val x) k=some s→asK σ' t (σ.val x) k=some s:=by
  intro x hm t k s h
  have p1:∀ t p,σ.val x = .ref t p→p.name∉T:=fun t p e=>by
   cases x with
   |tmp i=>exact awayR i t p hm e
   |const v=>exact (const_ref e).elim
   |func f=>cases e
   |global g=>cases e
  have p2:∀ e p l u,σ.val x = .vw e p l u→p.name∉T:=fun e p l u e' =>by
   cases x with
   |tmp i=>exact awayV i e p l u hm e'
   |const v=>exact (const_vw e').elim
   |func f=>cases e'
   |global g=>cases e'
  generalize σ.val x=sx at h p1 p2 ⊢
  unfold asK at h ⊢
  split at h
  ·exact h
  ·exact placeR _ (p1 _ _ rfl) _ _ h
  all_goals first
   |exact h
   |(split at h;exact placeR _ (p2 _ _ _ _ rfl) _ _ h;cases h)
   |exact placeR _ (p2 _ _ _ _ rfl) _ _ h
   |cases h
 unfold earlyOp at he
 split at he
 ·rename_i x ho
  unfold evalK at h ⊢
  rw [ho] at h ⊢
  dsimp only [quietK] at h ⊢
  rw [show σ'.val (.tmp x)=σ.val (.tmp x) from slot x (by rw [ho];simp [Op.operands])]
  exact h
 ·rename_i x ho
  unfold evalK at h ⊢
  rw [ho] at h ⊢
  dsimp only [quietK] at h ⊢
  rw [show σ'.val (.tmp x)=σ.val (.tmp x) from slot x (by rw [ho];simp [Op.operands])]
  exact h
 ·rename_i t x ho
  have hm:Operand.tmp x∈o.op.operands:=by rw [ho];simp [Op.operands]
  unfold evalK at h ⊢
  rw [ho] at h ⊢
  dsimp only [quietK] at h ⊢
  rw [show σ'.val (.tmp x)=σ.val (.tmp x) from slot x hm]
  have aw:=away x
  rw [show σ.slot x=σ.val (.tmp x) from rfl] at aw
  generalize σ.val (.tmp x)=sl at h aw ⊢
  split at h
  ·rename_i t' hty
   split at h
   ·rename_i p
    split at h
    case h_2=>cases h
    case h_1 b d sh hr=>
     try dsimp only
     rw [hc.root p.name (aw p hm rfl) _ hr (fun _ _=>rfl)]
     exact h
   ·exact h
   ·cases h
  ·rename_i hty
   split at h
   case h_2=>cases h
   case h_1 hone=>
    split at h
    case h_2=>cases h
    case h_1 m=>
     split at h
     case h_2=>cases h
     case h_1 s' hr=>
      injection h with h
      subst h
      rw [hc.root m (aw ⟨m,[]⟩ hm rfl) _ hr hs]
 ·rename_i t x f ho
  have hm:Operand.tmp x∈o.op.operands:=by rw [ho];simp [Op.operands]
  unfold evalK at h ⊢
  rw [ho] at h ⊢
  dsimp only [quietK] at h ⊢
  rw [show σ'.val (.tmp x)=σ.val (.tmp x) from slot x hm]
  have aw:=away x
  rw [show σ.slot x=σ.val (.tmp x) from rfl] at aw
  generalize σ.val (.tmp x)=sl at h aw ⊢
  split at h
  case h_2=>cases h
  case h_1 ts hty=>
   split at h
   case h_2=>cases h
   case h_1 tf htf=>
    split at h
    case h_1=>cases h
    case h_2 hsz=>
     split at h
     ·rename_i p
      split at h
      case h_2=>cases h
      case h_1 b d sh hr=>
       rw [hc.root p.name (aw p hm rfl) _ hr (fun _ _=>rfl)]
       exact h
     ·exact h
     ·cases h
 ·rename_i t x lo hi ho
  have hm:Operand.tmp x∈o.op.operands:=by rw [ho];simp [Op.operands]
  have val:∀ y∈o.op.operands,σ'.val y=σ.val y:=fun y hy=>by
   cases y with
   |tmp i=>exact slot i hy
   |_=>rfl
  have hlo:∀ d (k:Int→Option Slot),bound σ' lo d k=bound σ lo d k:=by
   intro d k
   cases lo with
   |none=>rfl
   |some y=>unfold bound;dsimp only;rw [val y (by rw [ho];simp [Op.operands])]
  have hhi:∀ d (k:Int→Option Slot),bound σ' hi d k=bound σ hi d k:=by
   intro d k
   cases hi with
   |none=>rfl
   |some y=>unfold bound;dsimp only;rw [val y (by rw [ho];simp [Op.operands])]
  unfold evalK at h ⊢
  rw [ho] at h ⊢
  dsimp only [quietK] at h ⊢
  rw [val _ hm]
  have aw:=fun t p=>awayR x t p hm
  rw [show σ.slot x=σ.val (.tmp x) from rfl] at aw
  generalize σ.val (.tmp x)=sl at h aw ⊢
  simp only [hlo,hhi]
  cases hty:env.ty t with
  |none=>rw [hty] at h;cases h
  |some ty=>
   rw [hty] at h
   cases sl with
   |ref t' p=>
    cases ty with
    |slice e=>
     cases t' with
     |slice e' =>
      dsimp only at h ⊢
      split at h
      case isFalse=>cases h
      case isTrue he=>
       rw [if_pos he]
       exact placeR p (aw _ p rfl) _ _ h
     |_=>cases h
    |_=>cases t'<;>exact h
   |pv d=>
    obtain ⟨dt,dx⟩:=d
    cases ty<;>cases dt<;>exact h
   |_=>cases ty<;>exact h
 ·rename_i t x ix ho
  have hm:Operand.tmp x∈o.op.operands:=by rw [ho];simp [Op.operands]
  have val:∀ y∈o.op.operands,σ'.val y=σ.val y:=fun y hy=>by
   cases y with
   |tmp i=>exact slot i hy
   |_=>rfl
  unfold evalK at h ⊢
  rw [ho] at h ⊢
  dsimp only [quietK] at h ⊢
  rw [val _ hm,val ix (by rw [ho];simp [Op.operands])]
  have aw:=fun t p=>awayR x t p hm
  rw [show σ.slot x=σ.val (.tmp x) from rfl] at aw
  generalize σ.val (.tmp x)=sl at h aw ⊢
  generalize σ.val ix=si at h ⊢
  split at h
  case h_2=>cases h
  case h_1 kk i=>
   try dsimp only
   split at h
   ·exact h
   ·rename_i e p
    try dsimp only
    split at h
    case h_2=>cases h
    case h_1 hd=>
     try rw [hd]
     exact placeR p (aw _ p rfl) _ _ h
   ·cases h
 ·rename_i t n parts ho
  have val:∀ y∈o.op.operands,σ'.val y=σ.val y:=fun y hy=>by
   cases y with
   |tmp i=>exact slot i hy
   |_=>rfl
  have hp:(parts.toList.map fun x=>(x.1,σ'.val x.2))=parts.toList.map fun x=>(x.1,σ.val x.2):=List.map_congr_left fun x hx=>by
   rw [val x.2 (by rw [ho];unfold Op.operands;simp only [List.mem_toArray,List.mem_map];exact ⟨x,hx,rfl⟩)]
  unfold evalK at h ⊢
  rw [ho] at h ⊢
  dsimp only at h ⊢
  unfold stillK at h ⊢
  rw [hp]
  exact h
 ·rename_i op t x y z ho
  unfold evalK at h ⊢
  rw [ho] at h ⊢
  dsimp only [quietK] at h ⊢
  rw [val x (by rw [ho];simp [Op.operands]),val y (by rw [ho];simp [Op.operands])]
  unfold eqlK at h ⊢
  split at h
  ·split at h
   ·exact asR x (by rw [ho];simp [Op.operands]) _ _ _ h
   ·cases h
  ·exact h
 ·rename_i src dst' x ho
  unfold evalK at h ⊢
  rw [ho] at h ⊢
  dsimp only [quietK] at h ⊢
  have vx:=val x (by rw [ho];simp [Op.operands])
  have ax:=asR x (by rw [ho];simp [Op.operands])
  rw [vx]
  split at h
  ·exact h
  ·exact h
  ·exact ax _ _ _ h
  ·cases h
 ·rename_i f first caps ho
  have hz:first.size=0:=Nat.eq_of_beq_eq_true he
  have hf:first.toList=[]:=by
   have:first.toList.length=0:=by simpa using hz
   exact List.eq_nil_of_length_eq_zero this
  unfold evalK at h ⊢
  rw [ho] at h ⊢
  dsimp only at h ⊢
  rw [hf] at h ⊢
  dsimp only [quietK] at h ⊢
  rw [hz] at h ⊢
  try dsimp only at h ⊢
  rw [show caps.toList.map σ'.val=caps.toList.map σ.val from List.map_congr_left fun y hy=>val y (by
   have:y∈caps:=by simpa using hy
   rw [ho];simp [Op.operands,this])]
  exact h
 ·rename_i c ho
  split at he
  case h_2=>cases he
  case h_1 hc=>
   unfold evalK at h ⊢
   rw [ho] at h ⊢
   dsimp only at h ⊢
   unfold callE at h ⊢
   rw [hc] at h ⊢
   dsimp only at h ⊢
   split at h
   case h_2=>cases h
   case h_1 x t hx ht=>
    have hm:x∈o.op.operands:=by
     rw [ho]
     have:x∈c.args:=by rw [←Array.mem_toList_iff,hx];simp
     simp [Op.operands,Call.operands,hc,this]
    rw [val x hm]
    have aw:∀ i t p,x = .tmp i→σ.slot i = .ref t p→p.name∉T:=fun i t p e=>awayR i t p (e▸hm)
    have awv:∀ i e p l u,x = .tmp i→σ.slot i = .vw e p l u→p.name∉T:=fun i e p l u e' =>awayV i e p l u (e'▸hm)
    have p1:∀ t p,σ.val x = .ref t p→p.name∉T:=fun t p e=>by
     cases x with
     |tmp i=>exact aw i t p rfl e
     |const v=>exact (const_ref e).elim
     |func f=>cases e
     |global g=>cases e
    have p2:∀ e p l u,σ.val x = .vw e p l u→p.name∉T:=fun e p l u e' =>by
     cases x with
     |tmp i=>exact awv i e p l u rfl e'
     |const v=>exact (const_vw e').elim
     |func f=>cases e'
     |global g=>cases e'
    generalize σ.val x=sx at h p1 p2 ⊢
    unfold lenK at h ⊢
    split at h
    ·exact h
    ·split at h
     ·exact h
     ·exact placeR _ (p1 _ _ rfl) _ _ h
     ·exact placeR _ (p2 _ _ _ _ rfl) _ _ h
     ·exact h
     ·cases h
    ·cases h
 ·cases he
theorem any_mem {Q:List Nat} {i:Nat}:Q.any (Nat.beq i)=true↔i∈Q:=by
 rw [List.any_eq_true]
 exact ⟨fun ⟨x,hx,h⟩=>by rw [Nat.eq_of_beq_eq_true h];exact hx,fun h=>⟨i,h,by simp⟩⟩
theorem incr_spec:∀ {l:List Nat} {i:Nat},incr (i::l)=true→(∀ j∈l,i<j)∧incr l=true
 |[],_,_=>⟨fun _ h=>(by cases h),rfl⟩
 |j::l,i,h=>by
  unfold incr at h
  rw [Bool.and_eq_true] at h
  obtain ⟨h1,h2⟩:=h
  have hij:i<j:=by simpa using h1
  obtain ⟨g1,g2⟩:=incr_spec h2
  exact ⟨fun k hk=>(List.mem_cons.1 hk).elim (fun e=>e▸hij) fun h=>Nat.lt_trans hij (g1 k h),h2⟩
theorem chained_anc {ops:Array Oper}:∀ {l:List Nat},chained ops l=true→∀ (c c':Nat) (h:c<c') (hc:c'<l.length),l[c]'(Nat.lt_trans h hc)=l[c']∨Anc ops (l[c]'(Nat.lt_trans h hc)) l[c']
 |[],_,_,_,_,hc=>by simp at hc
 |[i],_,c,c',h,hc=>by simp at hc;omega
 |i::j::l,hch,c,c',h,hc=>by
  unfold chained at hch
  rw [Bool.and_eq_true,any_mem] at hch
  have a:=ancOf_ok j [j] (fun k hk=>.inl (by simpa using hk)) i hch.1
  have ih:=chained_anc hch.2
  cases c' with
  |zero=>omega
  |succ c' =>
   cases c with
   |succ c=>exact ih c c' (by omega) (by simpa using hc)
   |zero=>
    simp only [List.getElem_cons_zero,List.getElem_cons_succ]
    cases c' with
    |zero=>exact a
    |succ c' =>
     have:=ih 0 (c'+1) (by omega) (by simpa using hc)
     simp only [List.getElem_cons_zero] at this
     rcases a with a | a
     ·rw [a];exact this
     ·rcases this with t | t
      ·rw [←t];exact .inr a
      ·exact .inr (.trans _ _ _ a t)
structure DrawM (n:Nat) (ops:Array Oper) (Q:List Nat):Prop where
 inc:incr Q=true
 rank:∀ md,∃ rk:Nat→Nat,∀ (i:Nat) o,ops[i]? = some o→∀ e∈o.after,Region.binds md e=true→e.on<ops.size∧rk e.on<rk i
 inc':incr (tailOf ops Q)=true
 chain:chained ops (midOf ops Q)=true
 tail:∀ (i:Nat) o,ops[i]? = some o→i∈tailOf ops Q→(∃ d,o.dst=some d)∧(∀ q∈Q,q≠i→Anc ops q i)∧(∀ q∈midOf ops Q,q≠i→Anc ops q i)∧∀ x∈o.looksAt ops,∀ (j:Nat) o',ops[j]? = some o' →o'.dst=some x→j∈tailOf ops Q→j<i∧∃ e∈o.after,e.on=j∧∀ md,Region.binds md e=true
 guard:∀ (i:Nat) o,ops[i]? = some o→o.guard=none
 dst:∀ (i:Nat) o d,ops[i]? = some o→o.dst=some d→d<n
 early:∀ (i:Nat) o,ops[i]? = some o→i∈Q→earlyOp o=true∧(∃ d,o.dst=some d)∧∀ x∈o.looksAt ops,∀ (j:Nat) o',ops[j]? = some o' →o'.dst=some x→(j∈Q∧j<i∧∃ e∈o.after,e.on=j∧∀ md,Region.binds md e=true)∨(j∉Q∧i<j∧∃ e∈o'.after,e.on=i∧∀ md,Region.binds md e=true)
 late:∀ (i:Nat) o,ops[i]? = some o→i∉Q→∀ x∈o.looksAt ops,∀ (j:Nat) o',ops[j]? = some o' →o'.dst=some x→j∈Q→∃ e∈o.after,e.on=j∧∀ md,Region.binds md e=true
 one:∀ (i j:Nat) o o' d,ops[i]? = some o→ops[j]? = some o' →o.dst=some d→o'.dst=some d→i=j
theorem drawMOk_spec {n:Nat} {ops:Array Oper} {Q:List Nat} (h:drawMOk n ops Q=true):DrawM n ops Q:=by
 unfold drawMOk at h
 simp only [Bool.and_eq_true] at h
 obtain ⟨⟨hinc,hinc'⟩,hrank,hch,htail,hall⟩:=h
 rw [List.all_eq_true] at hall
 have mem:∀ (i:Nat) o,ops[i]? = some o→(o,i)∈ops.toList.zipIdx:=by
  intro i o ho
  rw [List.mem_zipIdx_iff_getElem?,Array.getElem?_toList]
  exact ho
 have all:∀ (i:Nat) o,ops[i]? = some o→_:=fun i o ho=>hall (o,i) (mem i o ho)
 simp only [Bool.and_eq_true] at all
 refine ⟨hinc,rank_spec hrank,hinc',hch,fun i o ho hi=>?_,fun i o ho=>?_,fun i o d ho hd=>?_,fun i o ho hQ=>?_,fun i o ho hQ x hx j o' ho' hd' =>?_,fun i j o o' d ho ho' hd hd' =>?_⟩
 ·rw [List.all_eq_true] at htail
  have:=htail i hi
  rw [ho] at this
  simp only [Bool.and_eq_true] at this
  obtain ⟨⟨h1,h2,h3⟩,h4⟩:=this
  rw [List.all_eq_true] at h2 h3 h4
  have anc:∀ q,(ancOf ops i [i]).any (Nat.beq q)=true→q≠i→Anc ops q i:=fun q hq hne=>(ancOf_ok i [i] (fun k hk=>.inl (by simpa using hk)) q (any_mem.1 hq)).resolve_left hne
  refine ⟨?_,fun q hq hne=>anc q (h2 q hq) hne,fun q hq hne=>anc q (h3 q hq) hne,fun x hx j o' ho' hd' hj=>?_⟩
  ·cases hd:o.dst with
   |none=>rw [hd] at h1;cases h1
   |some d=>exact ⟨d,rfl⟩
  ·have h5:=h4 x hx
   rw [List.all_eq_true] at h5
   have h6:=h5 (o',j) (mem j o' ho')
   dsimp only at h6
   rw [hd'] at h6
   simp only [Bool.or_eq_true,Bool.and_eq_true] at h6
   rcases h6 with h6 | h6 | ⟨h6,h7⟩
   ·simp at h6
   ·rw [any_mem.2 hj] at h6;cases h6
   ·exact ⟨by simpa using h7,onEdge_some h6⟩
 ·have:=(all i o ho).1
  cases hg:o.guard with
  |none=>rfl
  |some _=>rw [hg] at this;cases this
 ·have:=(all i o ho).2.1
  rw [hd] at this
  simpa using this
 ·have:=(all i o ho).2.2.1
  rw [any_mem.2 hQ] at this
  simp only [Bool.and_eq_true] at this
  obtain ⟨h1,h2,h3⟩:=this
  refine ⟨h1,?_,fun x hx j o' ho' hd' =>?_⟩
  ·cases hd:o.dst with
   |none=>rw [hd] at h2;cases h2
   |some d=>exact ⟨d,rfl⟩
  ·rw [List.all_eq_true] at h3
   have h4:=h3 x hx
   unfold madeBy at h4
   rw [List.all_eq_true] at h4
   have h5:=h4 (o',j) (mem j o' ho')
   dsimp only at h5
   rw [hd'] at h5
   simp only [Bool.or_eq_true,Bool.and_eq_true,Bool.not_eq_true'] at h5
   rcases h5 with h5 | ⟨h5,h6,h7⟩ | ⟨h5,h6,h7⟩
   ·simp at h5
   ·exact .inl ⟨any_mem.1 h5,by simpa using h7,onEdge_some h6⟩
   ·exact .inr ⟨fun h=>(by rw [any_mem.2 h] at h5;cases h5),by simpa using h7,onEdge_some h6⟩
 ·have:=(all i o ho).2.2.1
  rw [show Q.any (Nat.beq i)=false by rw [Bool.eq_false_iff];exact fun h=>hQ (any_mem.1 h)] at this
  dsimp only at this
  rw [List.all_eq_true] at this
  have h4:=this x hx
  rw [List.all_eq_true] at h4
  have h5:=h4 (o',j) (mem j o' ho')
  dsimp only at h5
  rw [hd',Bool.or_eq_true,Bool.or_eq_true] at h5
  intro hj
  rcases h5 with h5 | h5 | h5
  ·simp at h5
  ·rw [any_mem.2 hj] at h5;cases h5
  ·exact onEdge_some h5
 ·have:=(all i o ho).2.2.2
  rw [List.all_eq_true] at this
  have h5:=this (o',j) (mem j o' ho')
  dsimp only at h5
  rw [hd,hd',Bool.or_eq_true] at h5
  rcases h5 with h5 | h5
  ·exact Nat.eq_of_beq_eq_true h5
  ·simp at h5
theorem early_ok {ops:Array Oper} {Q:List Nat} (one:∀ (i j:Nat) o o' d,ops[i]? = some o→ops[j]? = some o' →o.dst=some d→o'.dst=some d→i=j)
  (dep:∀ (i:Nat) o,ops[i]? = some o→i∈Q→(∃ d,o.dst=some d)∧∀ x∈o.looksAt ops,∀ (j:Nat) o',ops[j]? = some o' →o'.dst=some x→j∈Q→j<i) {k:St→Option α} {r:α}:∀ (l:List Nat) {σ:St},incr l=true→(∀ q∈l,q∈Q)→earlyK env ops l σ k=some r→
  ∃ τ,k τ=some r∧τ.mem=σ.mem∧(∀ x,(∀ q∈l,∀ o,ops[q]? = some o→o.dst≠some x)→τ.slot x=σ.slot x)∧
   ∀ q∈l,∃ o d,ops[q]? = some o∧o.dst=some d∧evalK env τ o some=some (τ.slot d)
 |[],σ,_,_,h=>⟨σ,h,rfl,fun _ _=>rfl,fun q hq=>by cases hq⟩
 |q::l,σ,hi,hl,h=>by
  obtain ⟨hlt,hi'⟩:=incr_spec hi
  unfold earlyK at h
  cases ho:ops[q]? with
  |none=>rw [ho] at h;cases h
  |some o=>
   rw [ho] at h
   dsimp only at h
   rw [evalK_bind] at h
   cases hev:evalK env σ o some with
   |none=>rw [hev] at h;cases h
   |some s=>
    rw [hev] at h
    simp only [Option.bind_some] at h
    obtain ⟨⟨d,hd⟩,hdep⟩:=dep q o ho (hl q (by simp))
    rw [hd] at h
    dsimp only at h
    obtain ⟨τ,h1,h2,h3,h4⟩:=early_ok one dep l hi' (fun q hq=>hl q (by simp [hq])) h
    have later:∀ x,(∀ q' ∈l,∀ o',ops[q']? = some o' →o'.dst≠some x)→x≠d→τ.slot x=σ.slot x:=fun x hx hxd=>by rw [h3 x hx,St.slot_set,if_neg hxd]
    refine ⟨τ,h1,h2,fun x hx=>later x (fun q' hq' =>hx q' (by simp [hq'])) (fun e=>hx q (by simp) o ho (by rw [hd,e])),fun q' hq' =>?_⟩
    rcases List.mem_cons.1 hq' with e | hq'
    ·subst e
     refine ⟨o,d,ho,hd,?_⟩
     have hs:τ.slot d=s:=by
      rw [h3 d fun q₂ hq₂ o₂ ho₂ hd₂=>by have:=one q₂ q' o₂ o d ho₂ ho hd₂ hd;have:=hlt q₂ hq₂;omega,St.slot_set,if_pos rfl]
     rw [hs,←hev]
     refine evalK_congr (σ₁:=τ) (σ₂:=σ) (ops:=ops) h2 o (fun x hx=>?_) some
     refine later x (fun q₂ hq₂ o₂ ho₂ hd₂=>?_) fun e=>?_
     ·have:=hdep x hx q₂ o₂ ho₂ hd₂ (hl q₂ (by simp [hq₂]))
      have:=hlt q₂ hq₂
      omega
     ·subst e
      have:=hdep x hx q' o ho hd (hl q' (by simp))
      omega
    ·exact h4 q' hq'
theorem Sim.less (S:Sim P env w₀ O₀ W σ γ φ O a w) (hr:∀ n,σ'.root n=σ.root n) (hs:∀ i,σ'.slot i=σ.slot i∨σ'.slot i = .undef):Sim P env w₀ O₀ W σ' γ φ O a w:=by
 have S' :=S.congr (σ' :={slots:=σ.slots,mem:=σ'.mem}) hr fun _=>rfl
 refine ⟨S'.defers,S'.size,S'.kept,fun n r h=>RootOk.congr (σ:={slots:=σ.slots,mem:=σ'.mem}) (σ' :=σ') (fun _=>rfl) (S'.roots n r h),S'.apart,S'.fresh,S'.own,S'.old,fun i=>?_,S'.pin⟩
 rcases hs i with h | h
 ·rw [h];exact SlotOk.congr (σ:={slots:=σ.slots,mem:=σ'.mem}) (σ' :=σ') (fun _=>rfl) (S'.slots i)
 ·rw [h];exact .undef _
def pendB (ops:Array Oper) (Q:List Nat) (L:Array Bool) (x:Nat):Bool:=
 Q.any fun q=>!(L.getD q false)&&match ops[q]? with
  |some o=>match o.dst with
   |some d=>Nat.beq d x
   |none=>false
  |none=>false
theorem pendB_iff {ops:Array Oper} {Q:List Nat} {L:Array Bool} {x:Nat}:pendB ops Q L x=true↔∃ q o,q∈Q∧L.getD q false=false∧ops[q]? = some o∧o.dst=some x:=by
 unfold pendB
 rw [List.any_eq_true]
 constructor
 ·rintro ⟨q,hq,h⟩
  rw [Bool.and_eq_true,Bool.not_eq_true'] at h
  obtain ⟨h1,h2⟩:=h
  split at h2
  case h_2=>cases h2
  case h_1 o ho=>
   split at h2
   case h_2=>cases h2
   case h_1 d hd=>exact ⟨q,o,hq,h1,ho,by rw [hd,Nat.eq_of_beq_eq_true h2]⟩
 ·rintro ⟨q,o,hq,h1,ho,hd⟩
  refine ⟨q,hq,?_⟩
  rw [h1,ho]
  dsimp only
  rw [hd]
  simp
theorem pend_step {ops:Array Oper} {Qs:List Nat} {L:Array Bool} {i d:Nat} {o:Oper} {τ:St} (one:∀ (i j:Nat) o o' d,ops[i]? = some o→ops[j]? = some o' →o.dst=some d→o'.dst=some d→i=j) (g2:ops[i]? = some o) (hd:o.dst=some d)
  (hset:∀ j,j≠i→(L.setIfInBounds i true).getD j false=L.getD j false) (hset':(L.setIfInBounds i true).getD i false=true) (x:Nat) :
  (τ.blank (pendB ops Qs (L.setIfInBounds i true))).slot x=((τ.blank (pendB ops Qs L)).set d (τ.slot d)).slot x:=by
 rw [slot_blank,St.slot_set,slot_blank]
 by_cases hx:x=d
 ·subst hx
  rw [if_pos rfl]
  unfold blk
  rw [show pendB ops Qs (L.setIfInBounds i true) x=false by
   rw [Bool.eq_false_iff]
   intro hb
   obtain ⟨q,oq,hq,hl,hoq,hdq⟩:=pendB_iff.1 hb
   have:q=i:=one q i oq o x hoq g2 hdq hd
   rw [this,hset'] at hl
   cases hl]
 ·rw [if_neg hx]
  have:pendB ops Qs (L.setIfInBounds i true) x=pendB ops Qs L x:=by
   rw [Bool.eq_iff_iff,pendB_iff,pendB_iff]
   constructor
   ·rintro ⟨q,oq,hq,hl,hoq,hdq⟩
    have hqi:q≠i:=fun e=>by rw [e,hset'] at hl;cases hl
    exact ⟨q,oq,hq,by rwa [hset q hqi] at hl,hoq,hdq⟩
   ·rintro ⟨q,oq,hq,hl,hoq,hdq⟩
    have hqi:q≠i:=fun e=>by
     subst e
     rw [g2] at hoq
     injection hoq with hoq
     subst hoq
     rw [hd] at hdq
     injection hdq with hdq
     exact hx hdq.symm
    exact ⟨q,oq,hq,by rwa [hset q hqi],hoq,hdq⟩
  unfold blk
  rw [this]
theorem drawM_ok (S:Sim P env w₀ O₀ W σ γ φ O a w) (hty:env.TyOk P) (hfn:env.FnOk P) {id:Nat} {ops:Array Oper} {Qs:List Nat} {k:St→Option α} {r:α}
  (h:drawM env ops Qs σ k=some r) {Q:Exit→Act→World→Prop}
  (hQ:∀ σ' γ' φ' O' a' w',Sim P env w₀ O₀ W σ' γ' φ' O' a' w' →k σ'=some r→Q .normal a' w'):(Code.region id ops true).wp P Q a w:=by
 unfold drawM at h
 split at h
 case h_2=>cases h
 case h_1 hok=>
 have D:=drawMOk_spec hok
 obtain ⟨τ₀,h,hm₀,hs₀,hf₀⟩:=early_ok D.one (Q:=Qs) (fun i o ho hi=>⟨(D.early i o ho hi).2.1,fun x hx j o' ho' hd' hj=>((D.early i o ho hi).2.2 x hx j o' ho' hd').elim (fun h=>h.2.1) fun h=>(h.1 hj).elim⟩) Qs D.inc (fun _ h=>h) h
 obtain ⟨late,hlate⟩:∃ late,midOf ops Qs=late:=⟨_,rfl⟩
 obtain ⟨R,hR⟩:∃ R,tailOf ops Qs=R:=⟨_,rfl⟩
 have hch:=D.chain
 rw [hlate,hR] at h
 rw [hlate] at hch
 have hLR:late++R=lateOf ops Qs:=by
  rw [←hlate,←hR]
  unfold midOf tailOf
  rw [←List.reverse_append,List.takeWhile_append_dropWhile,List.reverse_reverse]
 have lmem':∀ i,i∈late++R↔i<ops.size∧i∉Qs:=by
  intro i
  rw [hLR]
  unfold lateOf
  rw [List.mem_filter,List.mem_range,Bool.not_eq_true',Bool.eq_false_iff,Ne,any_mem]
 have lnd':(late++R).Nodup:=by
  rw [hLR]
  exact List.Nodup.sublist List.filter_sublist List.nodup_range
 have lmem:∀ i∈late,i<ops.size∧i∉Qs:=fun i hi=>(lmem' i).1 (List.mem_append.2 (.inl hi))
 have rmem:∀ i∈R,i<ops.size∧i∉Qs∧i∉late:=fun i hi=>
  ⟨((lmem' i).1 (List.mem_append.2 (.inr hi))).1,((lmem' i).1 (List.mem_append.2 (.inr hi))).2,fun h=>(List.nodup_append.1 lnd').2.2 i h i hi rfl⟩
 have lnd:late.Nodup:=(List.nodup_append.1 lnd').1
 have tailD:∀ (i:Nat) o,ops[i]? = some o→i∈R→(∃ d,o.dst=some d)∧(∀ q∈Qs,Anc ops q i)∧(∀ q∈late,Anc ops q i)∧∀ x∈o.looksAt ops,∀ (j:Nat) o',ops[j]? = some o' →o'.dst=some x→j∈R→j<i∧∃ e∈o.after,e.on=j∧∀ md,Region.binds md e=true:=by
  intro i o ho hi
  obtain ⟨h1,h2,h3,h4⟩:=D.tail i o ho (by rw [hR];exact hi)
  rw [hR] at h4
  rw [hlate] at h3
  exact ⟨h1,fun q hq=>h2 q hq fun e=>(rmem i hi).2.1 (e▸hq),fun q hq=>h3 q hq fun e=>(rmem i hi).2.2 (e▸hq),h4⟩
 let Cl:Region.Mode→Array Bool→Prop:=fun md L=>∀ (j':Nat) o,L.getD j' false=true→ops[j']? = some o→∀ e∈o.after,Region.binds md e=true→L.getD e.on false=true
 let InvA:Array Bool→Act→World→Prop:=fun L a w=>(∀ i∈R,L.getD i false=false)∧
  ∃ p τ γ' φ' O',p≤late.length∧(∀ (c:Nat) (hc:c<late.length),L.getD late[c] false=true↔c<p)∧lateK env ops Qs (late.drop p) τ (fun σ=>earlyK env ops R σ k)=some r∧
   Sim P env w₀ O₀ W (τ.blank (pendB ops Qs L)) γ' φ' O' a w∧∀ q∈Qs,L.getD q false=false→∀ o d,ops[q]? = some o→o.dst=some d→evalK env τ o some=some (τ.slot d)
 let InvB:Array Bool→Act→World→Prop:=fun L a w=>(∀ i∈Qs,i<ops.size→L.getD i false=true)∧(∀ i∈late,L.getD i false=true)∧
  ∃ τ γ' φ' O',k τ=some r∧Sim P env w₀ O₀ W (τ.blank (pendB ops R L)) γ' φ' O' a w∧∀ q∈R,L.getD q false=false→∀ o d,ops[q]? = some o→o.dst=some d→evalK env τ o some=some (τ.slot d)
 let Inv:Region.Mode→Array Bool→Act→World→Prop:=fun md L a w=>Cl md L∧(InvA L a w∨InvB L a w)
 have noPendOf:∀ {S:List Nat} {L:Array Bool},(∀ i∈S,i<ops.size→L.getD i false=true)→∀ x,pendB ops S L x=false:=by
  intro S L hS x
  rw [Bool.eq_false_iff]
  intro hb
  obtain ⟨q,o,hqS,hq,ho,_⟩:=pendB_iff.1 hb
  rw [hS q hqS (Array.getElem?_eq_some_iff.1 ho).1] at hq
  cases hq
 have toB:∀ {L:Array Bool} {a:Act} {w:World},InvA L a w→(∀ i∈Qs,i<ops.size→L.getD i false=true)→(∀ i∈late,L.getD i false=true)→InvB L a w:=by
  rintro L a w ⟨hno,p,τ,γ',φ',O',hp,hlis,hk,S',_⟩ hQl hLl
  have hpl:p=late.length:=by
   rcases Nat.lt_or_ge p late.length with hlt | hge
   ·have:=(hlis p hlt).1 (hLl _ (List.getElem_mem hlt))
    omega
   ·omega
  rw [hpl,List.drop_length] at hk
  obtain ⟨τ',h1,h2,h3,h4⟩:=early_ok D.one (Q:=R) (fun i o ho hi=>⟨(tailD i o ho hi).1,fun x hx j o' ho' hd' hj=>((tailD i o ho hi).2.2.2 x hx j o' ho' hd' hj).1⟩) R (by rw [←hR];exact D.inc') (fun _ h=>h) hk
  refine ⟨hQl,hLl,τ',γ',φ',O',h1,S'.less (fun n=>root_of_mem h2 n) fun x=>?_,fun q hq _ o d ho hd=>?_⟩
  ·rw [slot_blank,slot_blank]
   unfold blk
   rw [noPendOf hQl x]
   cases hb:pendB ops R L x with
   |true=>exact .inr rfl
   |false=>
    refine .inl (h3 x fun q hq o ho hd=>?_)
    rw [pendB_iff.2 ⟨q,o,hq,hno q hq,ho,hd⟩] at hb
    cases hb
  ·obtain ⟨o',d',ho',hd',he⟩:=h4 q hq
   rw [ho] at ho'
   injection ho' with ho'
   subst ho'
   rw [hd] at hd'
   injection hd' with hd'
   subst hd'
   exact he
 have done:∀ md L a w,L.size=ops.size→Inv md L a w→(∀ i,i<ops.size→L.getD i true=true)→Q .normal a w:=by
  rintro md L a w hL ⟨_,hAB⟩ hall
  have listed:∀ i,i<ops.size→L.getD i false=true:=by
   intro i hi
   have:=hall i hi
   have hi':i<L.size:=by rw [hL];exact hi
   simpa [hi'] using this
  have hB:InvB L a w:=hAB.elim (fun h=>toB h (fun i _ hi=>listed i hi) fun i hi=>listed i (lmem i hi).1) fun h=>h
  obtain ⟨_,_,τ,γ',φ',O',hk,S',_⟩:=hB
  refine hQ τ γ' φ' O' a w (S'.congr (fun _=>rfl) fun x=>?_) hk
  rw [slot_blank]
  unfold blk
  rw [noPendOf (fun i _ hi=>listed i hi) x]
 have any:∀ (md:Region.Mode) (fuel:Nat) (L:Array Bool) (a:Act) (w:World),L.size=ops.size→left L ops.size≤fuel→Inv md L a w→wpAny P md ops Q fuel L a w:=by
  intro md fuel
  induction fuel with
  |zero=>
   intro L a w hL hleft hI
   have hall:=left_zero (L:=L) ops.size (by omega)
   refine ⟨?_,done md L a w hL hI hall⟩
   cases hr:Region.ready md ops L with
   |nil=>rfl
   |cons i l=>
    have hi:i∈Region.ready md ops L:=by rw [hr];simp
    obtain ⟨g1,o,g2,_⟩:=mem_ready.1 hi
    rw [hall i (Array.getElem?_eq_some_iff.1 g2).1] at g1
    cases g1
  |succ fuel ih=>
   intro L a w hL hleft hI
   refine ⟨fun hnil=>done md L a w hL hI ?_,fun i hi=>?_⟩
   ·obtain ⟨rk,hrk⟩:=D.rank md
    have:∀ m i,rk i≤m→i<ops.size→L.getD i true=true:=by
     intro m
     induction m using Nat.strongRecOn with
     |ind m ihm=>
      intro i him hi
      have hlow:∀ j,rk j<rk i→j<ops.size→L.getD j true=true:=fun j hj hjs=>ihm (rk j) (by omega) j (Nat.le_refl _) hjs
      by_cases hu:L.getD i true=true
      ·exact hu
      ·have hmem:i∈Region.ready md ops L:=by
        refine mem_ready.2 ⟨by simpa using hu,ops[i],Array.getElem?_eq_getElem hi,fun e he hbd=>?_⟩
        obtain ⟨hes,hb⟩:=hrk i _ (Array.getElem?_eq_getElem hi) e he hbd
        have:=hlow e.on hb hes
        have hs:e.on<L.size:=by rw [hL];exact hes
        simpa [hs] using this
       rw [hnil] at hmem
       cases hmem
    exact fun i hi=>this (rk i) i (Nat.le_refl _) hi
   ·obtain ⟨g1,o,g2,g3⟩:=mem_ready.1 hi
    have hin:=(Array.getElem?_eq_some_iff.1 g2).1
    obtain ⟨hcl,hAB⟩:=hI
    have hsi:i<L.size:=by rw [hL];exact hin
    have hni:L.getD i false=false:=by simpa [hsi] using g1
    have hset:∀ j,j≠i→(L.setIfInBounds i true).getD j false=L.getD j false:=fun j hj=>getD_set_ne false (fun e=>hj e.symm)
    have hset':(L.setIfInBounds i true).getD i false=true:=by simp [hsi]
    have hcl':∀ (j':Nat) o,(L.setIfInBounds i true).getD j' false=true→ops[j']? = some o→∀ e∈o.after,Region.binds md e=true→(L.setIfInBounds i true).getD e.on false=true:=by
     intro j' o' hj' ho' e he hbd
     by_cases hji:i=j'
     ·subst hji
      rw [g2] at ho'
      injection ho' with ho'
      subst ho'
      exact getD_set_true (g3 e he hbd)
     ·rw [getD_set_ne false hji] at hj'
      exact getD_set_true (hcl j' o' hj' ho' e he hbd)
    have before:∀ j,Anc ops j i→j≠i→L.getD j false=true:=by
     intro j ha hj
     have:=ha.done (L:=fun j=>(L.setIfInBounds i true).getD j false) hcl' hset'
     rwa [hset j hj] at this
    have hleft':left (L.setIfInBounds i true) ops.size≤fuel:=by
     have:=left_set ops.size g1
     rw [if_pos hin] at this
     omega
    by_cases hiR:i∈R
    ·have hQl:∀ j∈Qs,j<ops.size→L.getD j false=true:=fun j hj _=>before j ((tailD i o g2 hiR).2.1 j hj) fun e=>(rmem i hiR).2.1 (e▸hj)
     have hLl:∀ j∈late,L.getD j false=true:=fun j hj=>before j ((tailD i o g2 hiR).2.2.1 j hj) fun e=>(rmem i hiR).2.2 (e▸hj)
     obtain ⟨_,_,τ,γ',φ',O',hk,S',hfacts⟩:InvB L a w:=hAB.elim (fun h=>toB h hQl hLl) fun h=>h
     obtain ⟨d,hd⟩:=(tailD i o g2 hiR).1
     have hev:evalK env (τ.blank (pendB ops R L)) o some=some (τ.slot d):=by
      rw [←hfacts i hiR hni o d g2 hd]
      refine evalK_congr (σ₁:=τ.blank (pendB ops R L)) (σ₂:=τ) (ops:=ops) rfl o (fun x hx=>?_) some
      rw [slot_blank]
      unfold blk
      rw [show pendB ops R L x=false by
       rw [Bool.eq_false_iff]
       intro hb
       obtain ⟨q,oq,hq,hl,hoq,hdq⟩:=pendB_iff.1 hb
       obtain ⟨_,e,he,heq,hbd⟩:=(tailD i o g2 hiR).2.2.2 x hx q oq hoq hdq hq
       have:=g3 e he (hbd md)
       rw [heq,hl] at this
       cases this]
     have hg:guardE env ops o (τ.blank (pendB ops R L)) some=some (τ.slot d):=by
      unfold guardE
      rw [D.guard i o g2]
      exact hev
     refine guardE_ok S' hty hfn g2 hd (D.dst i o d g2 hd) hg fun a' w' γ'' φ'' O'' S'' _ _=>ih (L.setIfInBounds i true) a' w' (by simpa using hL) hleft' ⟨hcl',.inr ⟨fun j hj hjs=>?_,fun j hj=>?_,τ,γ'',φ'',O'',hk,S''.congr (fun _=>rfl) fun x=>?_,fun q hq hl o' d' ho' hd' =>?_⟩⟩
     ·rw [hset j fun e=>(rmem i hiR).2.1 (e▸hj)];exact hQl j hj hjs
     ·rw [hset j fun e=>(rmem i hiR).2.2 (e▸hj)];exact hLl j hj
     ·exact pend_step D.one g2 hd hset hset' x
     ·have hqi:q≠i:=fun e=>by rw [e,hset'] at hl;cases hl
      exact hfacts q hq (by rwa [hset q hqi] at hl) o' d' ho' hd'
    have hAB':InvA L a w:=by
     rcases hAB with h | ⟨hQl,hLl,_⟩
     ·exact h
     ·exfalso
      by_cases hiQ:i∈Qs
      ·rw [hQl i hiQ hin] at hni;cases hni
      ·rcases List.mem_append.1 ((lmem' i).2 ⟨hin,hiQ⟩) with h | h
       ·rw [hLl i h] at hni;cases hni
       ·exact hiR h
    obtain ⟨hnoR,p,τ,γ',φ',O',hp,hlis,hk,S',hfacts⟩:=hAB'
    have hnoR':∀ j∈R,(L.setIfInBounds i true).getD j false=false:=fun j hj=>by rw [hset j fun e=>hiR (e▸hj)];exact hnoR j hj
    have noPend:∀ x∈o.looksAt ops,pendB ops Qs L x=false:=by
     intro x hx
     rw [Bool.eq_false_iff]
     intro hb
     obtain ⟨q,oq,hq,hl,hoq,hdq⟩:=pendB_iff.1 hb
     have:∃ e∈o.after,e.on=q∧∀ md,Region.binds md e=true:=by
      by_cases hiQ:i∈Qs
      ·rcases (D.early i o g2 hiQ).2.2 x hx q oq hoq hdq with h | h
       ·exact h.2.2
       ·exact (h.1 hq).elim
      ·exact D.late i o g2 hiQ x hx q oq hoq hdq hq
     obtain ⟨e,he,heq,hbd⟩:=this
     have:=g3 e he (hbd md)
     rw [heq,hl] at this
     cases this
    by_cases hiQ:i∈Qs
    ·-- one that looks alone
     obtain ⟨hearly,⟨d,hd⟩,_⟩:=D.early i o g2 hiQ
     have hev:evalK env (τ.blank (pendB ops Qs L)) o some=some (τ.slot d):=by
      rw [←hfacts i hiQ hni o d g2 hd]
      refine evalK_congr (σ₁:=τ.blank (pendB ops Qs L)) (σ₂:=τ) (ops:=ops) rfl o (fun x hx=>?_) some
      rw [slot_blank]
      unfold blk
      rw [noPend x hx]
     have hg:guardE env ops o (τ.blank (pendB ops Qs L)) some=some (τ.slot d):=by
      unfold guardE
      rw [D.guard i o g2]
      exact hev
     refine guardE_ok S' hty hfn g2 hd (D.dst i o d g2 hd) hg fun a' w' γ'' φ'' O'' S'' _ _=>ih (L.setIfInBounds i true) a' w' (by simpa using hL) hleft' ⟨hcl',.inl ⟨hnoR',p,τ,γ'',φ'',O'',hp,fun c hc=>?_,hk,S''.congr (fun _=>rfl) fun x=>?_,fun q hq hl o' d' ho' hd' =>?_⟩⟩
     ·rw [hset _ fun e=>(lmem _ (List.getElem_mem hc)).2 (by rw [e];exact hiQ)]
      exact hlis c hc
     ·exact pend_step D.one g2 hd hset hset' x
     ·have hqi:q≠i:=fun e=>by rw [e,hset'] at hl;cases hl
      exact hfacts q hq (by rwa [hset q hqi] at hl) o' d' ho' hd'
    ·-- the next of the others
     obtain ⟨c,hc,hci⟩:=List.getElem_of_mem ((List.mem_append.1 ((lmem' i).2 ⟨hin,hiQ⟩)).resolve_right hiR)
     have hcp:p≤c:=by
      rcases Nat.lt_or_ge c p with hlt | hge
      ·have:=(hlis c hc).2 hlt
       rw [hci,hni] at this
       cases this
      ·exact hge
     have hpc:p=c:=by
      rcases Nat.lt_or_ge p c with hlt | hge
      ·have hpl:p<late.length:=Nat.lt_trans hlt hc
       have hne:late[p]≠i:=by
        rw [←hci]
        intro e
        have:=(List.getElem_inj lnd).1 e
        omega
       rcases chained_anc hch p c hlt hc with e | a
       ·exact (hne (by rw [e,hci])).elim
       ·have:=(hlis p hpl).1 (before _ (by rw [hci] at a;exact a) hne)
        omega
      ·omega
     subst hpc
     rw [List.drop_eq_getElem_cons hc,hci] at hk
     unfold lateK at hk
     rw [g2] at hk
     dsimp only at hk
     split at hk
     case h_2=>cases hk
     case h_1 hstay=>
     unfold stayOk at hstay
     rw [List.all_eq_true] at hstay
     have hB:∀ x,pendB ops Qs (L.setIfInBounds i true) x=pendB ops Qs L x:=by
      intro x
      rw [Bool.eq_iff_iff,pendB_iff,pendB_iff]
      constructor
      ·rintro ⟨q,oq,hq,hl,hoq,hdq⟩
       have hqi:q≠i:=fun e=>hiQ (e▸hq)
       exact ⟨q,oq,hq,by rwa [hset q hqi] at hl,hoq,hdq⟩
      ·rintro ⟨q,oq,hq,hl,hoq,hdq⟩
       have hqi:q≠i:=fun e=>hiQ (e▸hq)
       exact ⟨q,oq,hq,by rwa [hset q hqi],hoq,hdq⟩
     have hlis':∀ (c:Nat) (hc:c<late.length),(L.setIfInBounds i true).getD late[c] false=true↔c<p+1:=by
      intro c' hc'
      by_cases hcc:c'=p
      ·subst hcc
       rw [hci,hset']
       exact ⟨fun _=>by omega,fun _=>rfl⟩
      ·rw [hset _ (by rw [←hci];intro e;exact hcc ((List.getElem_inj lnd).1 e)),hlis c' hc']
       omega
     have fin:∀ {τ' γ'' φ'' O'' a' w'},Sim P env w₀ O₀ W (τ'.blank (pendB ops Qs L)) γ'' φ'' O'' a' w' →lateK env ops Qs (late.drop (p+1)) τ' (fun σ=>earlyK env ops R σ k)=some r→
       (∀ q∈Qs,L.getD q false=false→∀ o d,ops[q]? = some o→o.dst=some d→evalK env τ' o some=some (τ'.slot d))→wpAny P md ops Q fuel (L.setIfInBounds i true) a' w' :=by
      intro τ' γ'' φ'' O'' a' w' S'' hk' hf'
      refine ih (L.setIfInBounds i true) a' w' (by simpa using hL) hleft' ⟨hcl',.inl ⟨hnoR',p+1,τ',γ'',φ'',O'',hc,hlis',hk',S''.congr (fun _=>rfl) fun x=>?_,fun q hq hl o' d' ho' hd' =>?_⟩⟩
      ·rw [slot_blank,slot_blank];unfold blk;rw [hB]
      ·have hqi:q≠i:=fun e=>hiQ (e▸hq)
       exact hf' q hq (by rwa [hset q hqi] at hl) o' d' ho' hd'
     unfold wpOp
     rw [g2]
     dsimp only
     rw [show Region.wanted o (yielded ops a.tmps)=true by simp [Region.wanted,D.guard i o g2],if_pos rfl]
     left
     by_cases hpend:∃ q∈Qs,L.getD q false=false
     ·obtain ⟨q₀,hq₀,hl₀⟩:=hpend
      have pendAway:∀ q∈Qs,L.getD q false=false→∃ T oq,touched env τ o=some T∧ops[q]? = some oq∧awayFrom ops τ T oq=true:=by
       intro q hq hl
       have:=hstay q hq
       rw [Bool.or_eq_true] at this
       rcases this with h1 | h1
       ·have hqi:q≠i:=fun e=>hiQ (e▸hq)
        rcases ancOf_ok i [i] (fun k hk=>.inl (by simpa using hk)) q (any_mem.1 h1) with e | a
        ·exact (hqi e).elim
        ·rw [before q a hqi] at hl;cases hl
       ·split at h1
        ·rename_i T oq hT hoq;exact ⟨T,oq,hT,hoq,h1⟩
        ·cases h1
      obtain ⟨T,_,hT,_⟩:=pendAway q₀ hq₀ hl₀
      let K':St→Option Unit:=fun τ'' =>open Classical in if ∃ τ',τ''=τ'.blank (pendB ops Qs L)∧lateK env ops Qs (late.drop (p+1)) τ' (fun σ=>earlyK env ops R σ k)=some r∧Chg T o.dst τ τ' then some () else none
      have htr:operK env o (τ.blank (pendB ops Qs L)) K'=some ():=by
       refine oper_tr hT hk (fun x hx=>noPend x (mem_looksAt hx)) (fun d hd=>?_) fun τ' h1 c1=>?_
       ·rw [Bool.eq_false_iff]
        intro hb
        obtain ⟨q,oq,hq,hl,hoq,hdq⟩:=pendB_iff.1 hb
        have:q=i:=D.one q i oq o d hoq g2 hdq hd
        exact hiQ (this▸hq)
       ·exact if_pos ⟨τ',rfl,h1,c1⟩
      refine oper_ok S' hty hfn htr fun τ'' γ'' φ'' O'' a' w' S'' hk'' =>?_
      have:∃ τ',τ''=τ'.blank (pendB ops Qs L)∧lateK env ops Qs (late.drop (p+1)) τ' (fun σ=>earlyK env ops R σ k)=some r∧Chg T o.dst τ τ' :=by
       by_cases hex:∃ τ',τ''=τ'.blank (pendB ops Qs L)∧lateK env ops Qs (late.drop (p+1)) τ' (fun σ=>earlyK env ops R σ k)=some r∧Chg T o.dst τ τ'
       ·exact hex
       ·rw [show K' τ''=none from if_neg hex] at hk'';cases hk''
      obtain ⟨τ',rfl,h1,c1⟩:=this
      refine fin S'' h1 fun q hq hl oq d hoq hd=>?_
      obtain ⟨T',oq',hT',hoq',haw⟩:=pendAway q hq hl
      rw [hT] at hT'
      injection hT' with hT'
      subst hT'
      rw [hoq] at hoq'
      injection hoq' with hoq'
      subst hoq'
      unfold awayFrom at haw
      rw [List.all_eq_true] at haw
      rw [hd] at haw
      simp only [Bool.and_eq_true,Bool.not_eq_true',List.all_eq_true] at haw
      have hqd:o.dst≠some d:=fun e=>hiQ (by rw [←D.one q i oq o d hoq g2 hd e];exact hq)
      have hsd:τ'.slot d=τ.slot d:=c1.slot d hqd fun m hm=>(haw m hm).1
      rw [hsd]
      refine early_stay (D.early q oq hoq hq).1 c1 (hfacts q hq hl oq d hoq hd) (fun x hx=>⟨fun e=>?_,fun m hm=>(haw m hm).2 x (mem_looksAt hx)⟩) fun m hm=>(haw m hm).1
      rcases (D.early q oq hoq hq).2.2 x (mem_looksAt hx) i o g2 e with h | ⟨_,_,e',he',heq,hbd⟩
      ·exact hiQ h.1
      ·have:=g3 e' he' (hbd md)
       rw [heq,hl] at this
       cases this
     ·have hnp:∀ x,pendB ops Qs L x=false:=by
       intro x
       rw [Bool.eq_false_iff]
       intro hb
       obtain ⟨q,oq,hq,hl,_⟩:=pendB_iff.1 hb
       exact hpend ⟨q,hq,hl⟩
      have St:=S'.congr (σ' :=τ) (fun _=>rfl) fun x=>by
       rw [slot_blank]
       unfold blk
       rw [hnp x]
      refine oper_ok St hty hfn hk fun τ' γ'' φ'' O'' a' w' S'' hk'' =>?_
      refine fin (S''.congr (fun _=>rfl) fun x=>?_) hk'' fun q hq hl=>(hpend ⟨q,hq,hl⟩).elim
      rw [slot_blank]
      unfold blk
      rw [hnp x]
 have start:∀ md w',Kept Foot.none w w' →Inv md (Array.replicate ops.size false) a w' :=by
  intro md w' K
  have nol:∀ j,(Array.replicate ops.size false).getD j false=false:=fun j=>by by_cases hj:j<ops.size<;>simp [hj]
  refine ⟨fun j' o' hj' =>(by rw [nol] at hj';cases hj'),.inl ⟨fun i _=>nol i,0,τ₀,γ,φ,O,Nat.zero_le _,fun c hc=>?_,h,(S.grow K).less (fun n=>root_of_mem hm₀ n) fun x=>?_,fun q hq _ o d ho hd=>?_⟩⟩
  ·rw [nol];exact ⟨fun h=>(by cases h),fun h=>(by omega)⟩
  ·rw [slot_blank]
   unfold blk
   cases hb:pendB ops Qs (Array.replicate ops.size false) x with
   |true=>exact .inr rfl
   |false=>
    refine .inl (hs₀ x fun q hq o ho hd=>?_)
    rw [pendB_iff.2 ⟨q,o,hq,nol q,ho,hd⟩] at hb
    cases hb
  ·obtain ⟨o',d',ho',hd',he⟩:=hf₀ q hq
   rw [ho] at ho'
   injection ho' with ho'
   subst ho'
   rw [hd] at hd'
   injection hd' with hd'
   subst hd'
   exact he
 refine wp_region_draw fun t=>?_
 have K:Kept Foot.none w {w with drawn:=w.drawn+1}:=⟨rfl,rfl,rfl,Nat.le_refl _,fun _ _ _=>rfl⟩
 have hl:left (Array.replicate ops.size false) ops.size≤ops.size:=by rw [left_all _ _ (Nat.le_refl _)];exact Nat.le_refl _
 unfold Region.schedule
 split
 ·exact wpAny_sound ops.size t _ a _ (any .any ops.size _ a _ (by simp) hl (start _ _ K))
 ·exact wpAny_sound ops.size (t / 2) _ a _ (any _ ops.size _ a _ (by simp) hl (start _ _ K))
end Go.V
namespace Go.V
variable {α:Type}
variable {P:Program} {env:Env} {w₀ w w':World} {O₀ O₁ W O O':Foot} {σ σ₀ σ':St} {γ γ':Name→Src} {φ φ':Name→Foot} {a a':Act} {n:Name}
theorem exec_ok (hty:env.TyOk P) (hfn:env.FnOk P) (lp:Nat→Kont α→St→Option α):∀ (c:Code),LoopsOk env lp c→∀ {κ:Kont α} {σ:St} {γ:Name→Src} {φ:Name→Foot} {O:Foot} {a:Act} {w:World} {r:α},
  Sim P env w₀ O₀ W σ γ φ O a w→execK env lp c κ σ=some r→c.wp P (Goes P env w₀ O₀ W κ r) a w:=by
 intro c
 induction c with
 |skip=>intro hlp κ σ γ φ O a w r S h;exact wp_skip ⟨σ,γ,φ,O,S,h⟩
 |region id ops draw=>
  intro hlp κ σ γ φ O a w r S h
  unfold execK at h
  obtain ⟨_,_,O',S'⟩:=S.keepAt env.hints id
  cases draw with
  |false=>exact wp_region (ops_ok hty hfn _ S' h fun σ' γ' φ' O' a' w' S'' hk=>⟨σ',γ',φ',O',S'',hk⟩)
  |true=>
   dsimp only at h
   split at h
   ·split at h
    ·rename_i hst
     rw [Bool.and_eq_true] at hst
     exact draw_ok S' hty hfn hst.1 h fun σ' γ' φ' O' a' w' S'' hk=>⟨σ',γ',φ',O',S'',hk⟩
    ·exact drawM_ok S' hty hfn h fun σ' γ' φ' O' a' w' S'' hk=>⟨σ',γ',φ',O',S'',hk⟩
   ·rename_i m _
    split at h
    ·rename_i hst
     rw [Bool.and_eq_true] at hst
     exact drawE_ok S' hty hfn (fun j d t e=>pendAt_some e) hst.1 h fun σ' γ' φ' O' a' w' S'' hk=>⟨σ',γ',φ',O',S'',hk⟩
    ·exact drawM_ok S' hty hfn h fun σ' γ' φ' O' a' w' S'' hk=>⟨σ',γ',φ',O',S'',hk⟩
 |seq x y ihx ihy=>
  intro hlp κ σ γ φ O a w r S h
  unfold execK at h
  refine wp_seq (wp_mono (ihx hlp.1 S h) ?_)
  rintro e a' w' ⟨σ',γ',φ',O',S',hk⟩
  cases e with
  |normal=>exact ihy hlp.2 S' hk
  |exit id=>exact ⟨σ',γ',φ',O',S',hk⟩
  |ret=>exact ⟨σ',γ',φ',O',S',hk⟩
  |goto l=>exact hk.elim
  |panic ch=>exact hk.elim
  |outgrown=>exact hk.elim
 |cond c x y ihx ihy=>
  intro hlp κ σ γ φ O a w r S h
  unfold execK at h
  split at h
  ·rename_i b hs
   have hv:=S.val c
   rw [hs] at hv
   refine wp_cond (slot_bool hv) ?_
   split at h
   ·rename_i hb
    rw [show (b:Bool)=true from hb]
    exact ihx hlp.1 S h
   ·rename_i hb
    rw [show (b:Bool)=false from hb]
    exact ihy hlp.2 S h
  ·rename_i e hs
   have hv:=S.val c
   rw [hs] at hv
   generalize hvv:a.eval c=v at hv
   cases hv with
   |may _ b hb=>
    refine wp_cond hvv ?_
    cases b with
    |true=>
     rw [hb rfl] at h
     exact ihx hlp.1 S (both_some h).1
    |false=>
     split at h
     ·exact ihy hlp.2 S (both_some h).2
     ·exact ihy hlp.2 S h
  ·cases h
 |block id c ih=>
  intro hlp κ σ γ φ O a w r S h
  unfold execK at h
  refine wp_block (wp_mono (ih hlp S h) ?_)
  rintro e a' w' ⟨σ',γ',φ',O',S',hk⟩
  cases e with
  |normal=>
   obtain ⟨_,_,O'',S''⟩:=S'.keepAt env.hints (id+100000)
   exact ⟨_,_,_,O'',S'',hk⟩
  |exit id' =>
   simp only [Exit.inBlock]
   dsimp only at hk
   split at hk
   ·rename_i hb
    rw [if_pos (Nat.eq_of_beq_eq_true hb)]
    exact ⟨σ',γ',φ',O',S',hk⟩
   ·rename_i hb
    rw [if_neg (fun e=>by rw [e] at hb;simp at hb)]
    exact ⟨σ',γ',φ',O',S',hk⟩
  |ret=>exact ⟨σ',γ',φ',O',S',hk⟩
  |goto l=>exact hk.elim
  |panic ch=>exact hk.elim
  |outgrown=>exact hk.elim
 |loop c ih=>
  intro hlp κ σ γ φ O a w r S h
  unfold execK at h
  obtain ⟨_,_,O',S⟩:=S.keepAt env.hints (headId c)
  obtain ⟨n,h⟩:=hlp.2 _ _ _ h
  let Inv:Nat→Act→World→Prop:=fun k a w=>∃ σ γ φ O,Sim P env w₀ O₀ W σ γ φ O a w∧loopN env.hints (headId c) (execK env lp c) κ k σ=some r
  refine wp_loop_count Inv ?_ ?_ (show Inv n a w from ⟨_,_,_,O',S,h⟩)
  ·rintro a w ⟨σ,γ,φ,O,S,h⟩
   simp [loopN] at h
  ·rintro k a w ⟨σ,γ,φ,O,S,h⟩
   simp only [loopN] at h
   refine wp_mono (ih hlp.1 S h) ?_
   rintro e a' w' ⟨σ',γ',φ',O',S',hk'⟩
   cases e with
   |normal=>
    obtain ⟨_,_,O'',S''⟩:=S'.keepAt env.hints (headId c)
    exact ⟨_,_,_,O'',S'',hk'⟩
   |exit id=>exact ⟨σ',γ',φ',O',S',hk'⟩
   |ret=>exact ⟨σ',γ',φ',O',S',hk'⟩
   |goto l=>exact hk'.elim
   |panic ch=>exact hk'.elim
   |outgrown=>exact hk'.elim
 |exit id=>
  intro hlp κ σ γ φ O a w r S h
  unfold execK at h
  obtain ⟨_,_,O'',S''⟩:=S.keepAt env.hints (id+100000)
  exact wp_exit ⟨_,_,_,O'',S'',h⟩
 |ret=>
  intro hlp κ σ γ φ O a w r S h
  unfold execK at h
  obtain ⟨_,_,O'',S''⟩:=S.keepAt env.hints 99999
  exact wp_ret ⟨_,_,_,O'',S'',h⟩
 |rangeFunc f params assign body=>intro hlp κ σ γ φ O a w r S h;simp [execK] at h
 |scope body=>intro hlp κ σ γ φ O a w r S h;simp [execK] at h
 |label l=>intro hlp κ σ γ φ O a w r S h;simp [execK] at h
 |goto l=>intro hlp κ σ γ φ O a w r S h;simp [execK] at h
 |refuse why=>intro hlp κ σ γ φ O a w r S h;simp [execK] at h
end Go.V
namespace Go.V
variable {α:Type}
variable {P:Program} {env:Env} {w₀ w w':World} {O₀ O₁ W O O':Foot} {σ σ₀ σ' σ₁ σ₂:St} {γ γ':Name→Src} {φ φ':Name→Foot} {a a':Act} {n:Name}
theorem Sim.content₀ (S:Sim P env w₀ O₀ W σ γ φ O a w) {t:Ty} {s:Slot} {v:Value} (hs:SlotOk P w O σ γ s v) {k:t.den→Option α} {r:α} (h:asK σ t s k=some r) :
  ∃ x,k x=some r∧∃ cs,Val t v cs∧Rep w O₀ t .z x cs Foot.none:=by
 obtain ⟨x,hk,cs,hv,hr,_⟩:=S.content hs h
 exact ⟨x,hk,cs,hv,hr⟩
theorem clos_ok:∀ {ts:List Ty} {x:Tup ts} {cv:List Value},PtrsOk w O ts x cv→cv.length=(clos ts x).length∧∀ (i:Nat) s v,(clos ts x)[i]? = some s→cv[i]? = some v→∀ {P σ γ},SlotOk P w O σ γ s v
 |[],_,cv,h=>by rw [show cv=[] from h];exact ⟨rfl,fun i s v h=>by simp [clos] at h⟩
 |t::ts,x,cv,⟨v,vs',e,⟨b,off,cs,hv,h1,h2,h3,h4⟩,h⟩=>by
  subst e
  obtain ⟨hl,hs⟩:=clos_ok h
  refine ⟨by simp [clos,hl],fun i s u hi hu=>?_⟩
  cases i with
  |zero=>
   simp only [clos,List.getElem?_cons_zero,Option.some.injEq] at hi hu
   subst hi hu
   intro P σ γ
   rw [hv]
   exact .fptr ⟨t,x.1⟩ b off cs h1 h2 h3 h4
  |succ i=>exact hs i s u (by simpa [clos] using hi) (by simpa using hu)
theorem init_slots {vs₀:List Value}:∀ (ps:List PM) (az:Args ps) (i:Nat) (vs:List Value),ArgsOk P w O ps az vs→(∀ j v,vs[j]? = some v→vs₀[i+j]? = some v)→
  (initSt ps az i).mem=[]∧∀ m,(initSt ps az i).slot m = .undef∨(i≤m∧∃ v,vs₀[m]? = some v∧∀ σ γ,SlotOk P w O σ γ ((initSt ps az i).slot m) v)
 |[],az,i,vs,h,hv=>⟨rfl,fun m=>.inl rfl⟩
 |.ro t::ps,az,i,vs,⟨v,vs',cs,e,hval,hrep,h⟩,hv=>by
  subst e
  obtain ⟨h1,h2⟩:=init_slots ps az.2 (i+1) vs' h fun j x hj=>by have:=hv (j+1) x (by simpa using hj);rw [←this];congr 1;omega
  refine ⟨h1,fun m=>?_⟩
  simp only [initSt,St.slot,look]
  by_cases hm:i=m
  ·subst hm
   simp only [beq_self,Option.getD_some]
   exact .inr ⟨Nat.le_refl _,v,by simpa using hv 0 v rfl,fun σ γ=>.pv ⟨t,az.1⟩ v cs hval hrep⟩
  ·simp only [beq_ne hm]
   exact (h2 m).imp id fun ⟨g1,g2⟩=>⟨by omega,g2⟩
 |.rp t::ps,az,i,vs,⟨v,vs',e,⟨b,off,cs,hval,hb,hO,hrep,hcell⟩,h⟩,hv=>by
  subst e
  obtain ⟨h1,h2⟩:=init_slots ps az.2 (i+1) vs' h fun j x hj=>by have:=hv (j+1) x (by simpa using hj);rw [←this];congr 1;omega
  refine ⟨h1,fun m=>?_⟩
  simp only [initSt,St.slot,look]
  by_cases hm:i=m
  ·subst hm
   simp only [beq_self,Option.getD_some]
   refine .inr ⟨Nat.le_refl _,v,by simpa using hv 0 v rfl,fun σ γ=>?_⟩
   rw [hval]
   exact .fptr ⟨t,az.1⟩ b off cs hb hO hrep hcell
  ·simp only [beq_ne hm]
   exact (h2 m).imp id fun ⟨g1,g2⟩=>⟨by omega,g2⟩
 |.fn t u::ps,az,i,vs,⟨v,vs',e,hfl,hfn,h⟩,hv=>by
  subst e
  obtain ⟨h1,h2⟩:=init_slots ps az.2 (i+1) vs' h fun j x hj=>by have:=hv (j+1) x (by simpa using hj);rw [←this];congr 1;omega
  refine ⟨h1,fun m=>?_⟩
  simp only [initSt,St.slot,look]
  by_cases hm:i=m
  ·subst hm
   simp only [beq_self,Option.getD_some]
   exact .inr ⟨Nat.le_refl _,v,by simpa using hv 0 v rfl,fun σ γ=>.fnA t u az.1 v w O hfl (Kept.refl _ _) (fun _ _ h=>h) hfn⟩
  ·simp only [beq_ne hm]
   exact (h2 m).imp id fun ⟨g1,g2⟩=>⟨by omega,g2⟩
 |.io t sh::ps,az,i,vs,h,hv=>h.elim
 |.tk t sh::ps,az,i,vs,h,hv=>h.elim
 |.st f ts::ps,az,i,vs,⟨cv,vs',e,hp,h⟩,hv=>by
  subst e
  obtain ⟨h1,h2⟩:=init_slots ps az.2 (i+1) vs' h fun j x hj=>by have:=hv (j+1) x (by simpa using hj);rw [←this];congr 1;omega
  refine ⟨h1,fun m=>?_⟩
  simp only [initSt,St.slot,look]
  by_cases hm:i=m
  ·subst hm
   simp only [beq_self,Option.getD_some]
   exact .inr ⟨Nat.le_refl _,.func (.func f) #[] cv.toArray,by simpa using hv 0 _ rfl,fun σ γ=>.clo f (clos ts az.1) cv.toArray (by simpa using (clos_ok hp).1) (fun j s v h1 h2=>(clos_ok hp).2 j s v h1 (by simpa using h2))⟩
  ·simp only [beq_ne hm]
   exact (h2 m).imp id fun ⟨g1,g2⟩=>⟨by omega,g2⟩
theorem load_ptr {t:TypeId} {x:Operand} {k:Slot→Option α} {r:α} {v:Value} (h:quietK env σ (.load t x) k=some r) (hv:SlotOk P w O σ γ (σ.val x) v):∃ b off,v = .pointer (some ⟨b,off,none⟩):=by
 unfold quietK at h
 dsimp only at h
 split at h
 ·split at h
  ·rename_i p hp
   rw [hp] at hv
   cases hv with
   |ptr _ t₂ b off _=>exact ⟨b,off,rfl⟩
   |ptrH m s b off _ _=>exact ⟨b,off,rfl⟩
  ·rename_i d hp
   rw [hp] at hv
   cases hv with
   |fptr _ b off cs _ _ _ _=>exact ⟨b,off,rfl⟩
  ·cases h
 ·split at h
  ·split at h
   ·rename_i n hp
    rw [hp] at hv
    cases hv with
    |ptr _ t₂ b off _=>exact ⟨b,off,rfl⟩
    |ptrH m s b off _ _=>exact ⟨b,off,rfl⟩
   ·cases h
  ·cases h
def resultOf (a:Act):ResultVar→Sem Value
 |.tmp t=>pure (a.tmps.getD t undef)
 |.cell c t=>do loadVar t (←asAddr (a.tmps.getD c undef))
theorem resultSlot_ok (S:Sim P env w₀ O₀ W σ γ φ O a w) (hty:env.TyOk P) {rv:ResultVar} {k:Slot→Option α} {r:α} (h:resultSlot env σ rv k=some r) :
  ∃ s v,k s=some r∧SlotOk P w O σ γ s v∧(resultOf a rv).run P w = .ok v w:=by
 cases rv with
 |tmp t=>exact ⟨_,_,h,S.slots t,rfl⟩
 |cell c ty=>
  obtain ⟨b,off,hp⟩:=load_ptr (x:=.tmp c) h (S.val (.tmp c))
  obtain ⟨s,v,hrun,hs,hk⟩:=load_ok S hty (x:=.tmp c) h
  refine ⟨s,v,hk,hs,?_⟩
  rw [hp] at hrun
  have hp':a.tmps.getD c undef = .pointer (some ⟨b,off,none⟩):=hp
  unfold resultOf
  dsimp only
  rw [hp']
  exact hrun
theorem out_ok (S:Sim P env w₀ O₀ W σ γ φ O a w) (hty:env.TyOk P) (ps:List PM) (hio:ios ps=[]) {β:Type}:∀ (rs:List (Ty×Sh)) (vars:List ResultVar) {k:Tup (rs.map (·.1)++ios ps)→Option β} {r:β},
  (rs.all fun x=>decide (x.2 = .z))=true→outK env rs ps vars σ k=some r→
  ∃ q rv,k q=some r∧(vars.mapM (resultOf a)).run P w = .ok rv w∧rv.length=rs.length∧ResVals w O₀ rs (ios ps) q rv
 |[],[],k,r,_,h=>by
  unfold outK at h
  have key:∀ (ps:List PM) (i:Nat) {k:Tup (ios ps)→Option β},ios ps=[]→iosK ps i σ k=some r→∃ q,k q=some r:=by
   intro ps
   induction ps with
   |nil=>intro i k _ h;exact ⟨_,h⟩
   |cons p ps ih=>
    intro i k hi h
    cases p with
    |ro t=>exact ih (i+1) hi h
    |rp t=>exact ih (i+1) hi h
    |fn t u=>exact ih (i+1) hi h
    |st f ts=>exact ih (i+1) hi h
    |io t sh=>simp [ios] at hi
    |tk t sh=>exact ih (i+1) hi h
  obtain ⟨q,hq⟩:=key ps 0 hio h
  exact ⟨q,[],hq,rfl,rfl,rfl⟩
 |[],_::_,k,r,_,h=>by simp [outK] at h
 |_::_,[],k,r,_,h=>by simp [outK] at h
 |(t,sh)::rs,v::vars,k,r,hz,h=>by
  simp only [List.all_cons,Bool.and_eq_true,decide_eq_true_eq] at hz
  obtain ⟨hz1,hz2⟩:=hz
  subst hz1
  unfold outK at h
  obtain ⟨s,va,h2,hs,hrun⟩:=resultSlot_ok S hty h
  unfold giveK at h2
  obtain ⟨x,h3,cs,hval,hrep⟩:=S.content₀ hs h2
  obtain ⟨q,rv,h4,h5,h6,h7⟩:=out_ok S hty ps hio rs vars (by simpa using hz2) h3
  refine ⟨(x,q),va::rv,h4,?_,by simp [h6],va,rv,cs,rfl,hval,hrep,h7⟩
  simp [List.mapM_cons,hrun,h5]
end Go.V
namespace Go.V
variable {P:Program} {env:Env} {w w':World}
theorem oneVal (rv:List Value):(if h:rv.toArray.size=1 then rv.toArray[0] else .tuple rv.toArray)=valOf rv:=by
 match rv with
 |[]=>rfl
 |[v]=>rfl
 |_::_::_=>simp [valOf]
theorem quiet_fn {f : FuncId} {fn : Func} {c : Code} (hf : P.funcs[f]? = some fn) (hb : fn.body = some c) (hname : fn.name ≠ "runtime.NumGoroutine") (hty : env.TyOk P) (hfn : env.FnOk P) (hmk : env.marks = [])
  (hn:env.n=fn.ntmps) (ps:List PM) (rs:List (Ty×Sh)) (hps:ps.length≤fn.ntmps) (hio:ios ps=[]) (hrs:(rs.all fun x=>decide (x.2 = .z))=true)
  (lp:Nat→Kont (Tup (rs.map (·.1)++ios ps))→St→Option (Tup (rs.map (·.1)++ios ps))) (hlp:LoopsOk env lp c):QuietOk P f ⟨ps,rs,runF env ps rs lp c fn.results.toList⟩:=by
 refine ⟨⟨fn,hf,by rw [hb];rfl,hname⟩,?_⟩
 intro w O az vs r hO hargs hF
 dsimp only at hF hargs ⊢
 refine calls_of_wp hf hb ?_
 have hlen:∀ (ps:List PM) (az:Args ps) (vs:List Value),ArgsOk P w O ps az vs→vs.length=ps.length:=by
  intro ps
  induction ps with
  |nil=>intro az vs h;rw [show vs=[] from h];rfl
  |cons p ps ih=>
   intro az vs h
   cases p with
   |ro t=>obtain ⟨v,vs',cs,e,_,_,h⟩:=h;rw [e];simp [ih _ _ h]
   |rp t=>obtain ⟨v,vs',e,_,h⟩:=h;rw [e];simp [ih _ _ h]
   |fn a b=>obtain ⟨v,vs',e,_,_,h⟩:=h;rw [e];simp [ih _ _ h]
   |st f ts=>obtain ⟨cv,vs',e,_,h⟩:=h;rw [e];simp [ih _ _ h]
   |io t sh=>exact h.elim
   |tk t sh=>exact h.elim
 have hl:=hlen ps az vs hargs
 obtain ⟨hmem,hslots⟩:=init_slots (vs₀:=vs) ps az 0 vs hargs (fun j v h=>by rw [Nat.zero_add];exact h)
 have hroot:∀ n,(initSt ps az 0).root n=none:=fun n=>by unfold St.root;rw [hmem];rfl
 have S:Sim P env w O Foot.none (initSt ps az 0) (fun _=>.val []) (fun _=>Foot.none) O {tmps:=vs.toArray++Array.replicate (fn.ntmps-vs.toArray.size) undef,defers:=[]} w:=by
  refine ⟨hmk.symm,?_,Kept.refl _ _,?_,?_,?_,?_,hO,?_,fun b hb bx d sh h=>by rw [hroot] at h;cases h⟩
  ·simp only [Array.size_append,Array.size_replicate,List.size_toArray,hn];omega
  ·intro n r h;rw [hroot] at h;cases h
  ·intro n m r r' h;rw [hroot] at h;cases h
  ·intro n r h;rw [hroot] at h;cases h
  ·intro b
   constructor
   ·exact .inl
   ·rintro (h | ⟨n,r,h,_⟩)
    ·exact h
    ·rw [hroot] at h;cases h
  ·intro i
   rcases hslots i with h | ⟨_,v,hv,h⟩
   ·rw [h];exact .undef _
   ·have hi:=(List.getElem?_eq_some_iff.1 hv).1
    have:(vs.toArray++Array.replicate (fn.ntmps-vs.toArray.size) undef).getD i undef=v:=by
     rw [Array.getD_eq_getD_getElem?,Array.getElem?_append_left (by simpa using hi),List.getElem?_toArray,hv];rfl
    dsimp only
    rw [this]
    exact h _ _
 unfold runF at hF
 dsimp only at hF
 refine wp_mono (exec_ok hty hfn lp c hlp S hF) ?_
 have fin:∀ {σ' γ' φ' O'} {a':Act} {w':World},Sim P env w O Foot.none σ' γ' φ' O' a' w' →outK env rs ps fn.results.toList σ' (fun r=>some r)=some r→
   a'.defers=[]∧∃ v,(results fn a'.tmps).run P w' = .ok v w' ∧∃ rv,Ending.returned v = .returned (valOf rv)∧Kept Foot.none w w' ∧ResVals w' O rs (ios ps) r rv:=by
  intro σ' γ' φ' O' a' w' S' hk
  obtain ⟨q,rv,h1,h2,h3,h4⟩:=out_ok S' hty ps hio rs fn.results.toList hrs hk
  injection h1 with h1
  subst h1
  refine ⟨S'.defers.trans hmk,valOf rv,?_,rv,rfl,S'.kept,h4⟩
  have hm:(fn.results.mapM (resultOf a')).run P w' = .ok rv.toArray w' :=by
   rw [Array.mapM_eq_mapM_toList]
   simp only [Sem.run_map,h2]
   rfl
  unfold results
  have e:(fn.results.mapM fun | .tmp t=>(pure (a'.tmps.getD t undef):Sem Value) | .cell a t=>do loadVar t (←asAddr (a'.tmps.getD a undef)))=fn.results.mapM (resultOf a'):=by
   rfl
  rw [Sem.run_bind]
  refine (congrArg (fun m=>(Sem.run P m w').andThen _) e).trans ?_
  rw [hm]
  simp only [Result.andThen_ok,Sem.run_pure,oneVal]
 rintro e a' w' ⟨σ',γ',φ',O',S',hk⟩
 cases e with
 |normal=>exact fin S' hk
 |ret=>exact fin S' hk
 |exit id=>cases hk
 |goto l=>exact hk.elim
 |panic ch=>exact hk.elim
 |outgrown=>exact hk.elim
theorem give_ok {α:Type} {w₀:World} {O₀ W O:Foot} {σ:St} {γ:Name→Src} {φ:Name→Foot} {a:Act} (S:Sim P env w₀ O₀ W σ γ φ O a w) {t:Ty} {sh:Sh} {s:Slot} {v:Value} (hs:SlotOk P w O σ γ s v) (hsh:sh≠.z) {k:t.den→St→Option α} {r:α} (h:giveK σ t sh s k=some r) :
  ∃ x σ₁ cs,∃ F G:Foot,k x σ₁=some r∧Val t v cs∧Rep w O t sh x cs F∧Sim P env w₀ (fun b=>O₀ b∨G b) W σ₁ γ φ O a w∧(∀ b,F b→G b)∧∀ b,G b→¬O₀ b∧(w₀.heap.size≤b∨W b):=by
 replace h:ownK σ t sh s k=some r:=by
  unfold giveK at h
  cases sh with
  |z=>exact (hsh rfl).elim
  |pr _ _=>exact h
  |own _=>exact h
  |gone=>exact h
 unfold ownK at h
 split at h
 ·rename_i e' n hi
  split at h
  case h_2=>cases h
  case h_1 d hr=>
   split at h
   case h_2=>cases h
   case h_1 hd=>
    have hd:=of_decide_eq_true hd
    subst hd
    obtain ⟨e,h⟩:=castK_some h
    obtain ⟨dt,x⟩:=d
    dsimp only at e
    subst e
    obtain ⟨cs,hγ,hrep⟩:=S.roots n _ hr
    have hlive:Live σ ⟨n,[]⟩:=⟨false,⟨dt,x⟩,.own .z,⟨dt,x⟩,hr,rfl,rfl⟩
    cases hs with
    |vw _ _ _ _ src an m cp hp' hl h1 h2=>
     obtain ⟨bx,d',sh',hr',htp,hg⟩:=hp'
     rw [hr] at hr'
     injection hr' with hr'
     injection hr' with _ e2' _
     subst e2'
     have hg:=hg hlive
     simp only [goto] at hg
     injection hg with hg
     injection hg with e3 e4
     have hcs:=hl hlive
     rw [←e4,hγ] at hcs
     simp only [cellsAt] at hcs
     injection hcs with hcs
     subst hcs
     have e3:dt = .slice e' :=e3
     subst e3
     dsimp only at h
     refine ⟨_,_,_,φ n,φ n,h,rfl,?_,S.drop hr,fun _ h=>h,fun b hb=>⟨(S.fresh n _ hr b hb).2,(S.fresh n _ hr b hb).1⟩⟩
     rcases hrep with ⟨e5,e6,e7⟩ | ⟨b,off,cap,C,tid,fr,F',e5,hcap,hb,hfr,hsz,hel,hU,hnb,hOb⟩
     ·injection e5 with e5 _
      injection e5 with e6' e7' e8'
      subst e6' e7' e8'
      have:hi=0:=by omega
      subst this
      exact .inl ⟨rfl,rfl,e7⟩
     ·injection e5 with e5 _
      injection e5 with e6 e7 e8
      subst e6 e7 e8
      have hcap:List.length (α:=e'.den) x≤cp:=hcap
      have h2:hi≤List.length (α:=e'.den) x:=h2
      have hlen:(asL (pre (.slice e') x hi)).length=hi:=by
       show (List.take hi (asL x)).length=hi
       rw [List.length_take]
       exact Nat.min_eq_left h2
      have hel:Els (Rep w O e' .z) (asL x) ((C.toList.drop off).take ((asL x).length*e'.size)) F' :=hel
      have hF':∀ b,¬F' b:=els_free hel
      refine .inr ⟨b,off,cp,C,tid,fr,Foot.none,?_,by rw [hlen];omega,hb,hfr,hsz,?_,fun k=>⟨fun h=>.inl (((hU k).1 h).resolve_right (hF' k)),fun h=>(hU k).2 (.inl (h.resolve_right id))⟩,id,hOb⟩
      ·rw [hlen]
       simp only [Nat.zero_mul,Nat.sub_zero]
       congr 2
       split
       ·rfl
       ·simp [addr_add]
      ·rw [hlen]
       have A:=Els.take (n:=hi) (fun (x:e'.den) (c:List Value) (F:Foot) (h:Rep w O e' .z x c F)=>h.len) Rep.zN hel
       rw [List.take_take,Nat.min_eq_left (Nat.mul_le_mul_right _ h2)] at A
       exact A
 ·rename_i t₀ n
  split at h
  case h_2=>cases h
  case h_1 b d sh' hr=>
   split at h
   case h_2=>cases h
   case h_1 hd=>
    have hd:=of_decide_eq_true hd
    subst hd
    obtain ⟨e,h⟩:=castK_some h
    obtain ⟨dt,x⟩:=d
    dsimp only at e
    subst e
    obtain ⟨cs,F₁,hrep,hcs,hblk,hFφ,hblkφ,hφ,hclear⟩:=S.rootRep hr
    have hv:Val dt v cs:=ref_cells hs (p:=⟨n,[]⟩) hr rfl (d' :=⟨dt,x⟩) rfl (src:=γ n) rfl hcs
    exact ⟨x,_,cs,F₁,φ n,h,hv,hrep,S.drop hr,hFφ,fun b hb=>⟨(S.fresh n _ hr b hb).2,(S.fresh n _ hr b hb).1⟩⟩
 ·obtain ⟨x,sh₁,σ₁,cs,F,h4,hwh,hval,hrep,S₁,_,hFy⟩:=take_ok S (Left.refl σ) hs h
  split at h4
  case h_2=>cases h4
  case h_1 hd=>
   have hd:=of_decide_eq_true hd
   subst hd
   exact ⟨x,σ₁,cs,F,F,h4,hval,hrep,S₁,fun _ h=>h,hFy⟩
theorem ResVals.less {O O':Foot} (hO:∀ b,O' b→O b):∀ (rs:List (Ty×Sh)) (io:List Ty) (r:Tup (rs.map (·.1)++io)) (rv:List Value),ResVals w O rs io r rv→ResVals w O' rs io r rv
 |[],_,_,_,h=>h
 |(_,_)::rs,io,r,_,⟨v,vs',cs,hrv,hv,hr,h⟩=>
  ⟨v,vs',cs,hrv,hv,Rep.frame (Nat.le_refl _) (fun _ _ _=>rfl) (fun _ h=>h.elim) (fun b _ hn ho=>hn (hO b ho)) (fun _ h=>h.elim) hr,ResVals.less hO rs io r.2 vs' h⟩
theorem fresh_fn {f : FuncId} {fn : Func} {c : Code} (hf : P.funcs[f]? = some fn) (hb : fn.body = some c) (hname : fn.name ≠ "runtime.NumGoroutine") (hty : env.TyOk P) (hfn : env.FnOk P) (hmk : env.marks = [])
  (hn:env.n=fn.ntmps) (ps:List PM) (t:Ty) (sh:Sh) (rs:List (Ty×Sh)) (hps:ps.length≤fn.ntmps) (hio:ios ps=[]) (hsh:sh≠.z) (hrs:(rs.all fun x=>decide (x.2 = .z))=true)
  (lp:Nat→Kont (Tup (((t,sh)::rs).map (·.1)++ios ps))→St→Option (Tup (((t,sh)::rs).map (·.1)++ios ps))) (hlp:LoopsOk env lp c):FreshOk P f ⟨ps,(t,sh)::rs,runF env ps ((t,sh)::rs) lp c fn.results.toList⟩:=by
 refine ⟨⟨fn,hf,by rw [hb];rfl,hname⟩,?_⟩
 intro w O az vs r hO hargs hF
 dsimp only at hF hargs ⊢
 refine calls_of_wp hf hb ?_
 have hlen:∀ (ps:List PM) (az:Args ps) (vs:List Value),ArgsOk P w O ps az vs→vs.length=ps.length:=by
  intro ps
  induction ps with
  |nil=>intro az vs h;rw [show vs=[] from h];rfl
  |cons p ps ih=>
   intro az vs h
   cases p with
   |ro t=>obtain ⟨v,vs',cs,e,_,_,h⟩:=h;rw [e];simp [ih _ _ h]
   |rp t=>obtain ⟨v,vs',e,_,h⟩:=h;rw [e];simp [ih _ _ h]
   |fn a b=>obtain ⟨v,vs',e,_,_,h⟩:=h;rw [e];simp [ih _ _ h]
   |st f ts=>obtain ⟨cv,vs',e,_,h⟩:=h;rw [e];simp [ih _ _ h]
   |io t sh=>exact h.elim
   |tk t sh=>exact h.elim
 have hl:=hlen ps az vs hargs
 obtain ⟨hmem,hslots⟩:=init_slots (vs₀:=vs) ps az 0 vs hargs (fun j v h=>by rw [Nat.zero_add];exact h)
 have hroot:∀ n,(initSt ps az 0).root n=none:=fun n=>by unfold St.root;rw [hmem];rfl
 have S:Sim P env w O Foot.none (initSt ps az 0) (fun _=>.val []) (fun _=>Foot.none) O {tmps:=vs.toArray++Array.replicate (fn.ntmps-vs.toArray.size) undef,defers:=[]} w:=by
  refine ⟨hmk.symm,?_,Kept.refl _ _,?_,?_,?_,?_,hO,?_,fun b hb bx d sh h=>by rw [hroot] at h;cases h⟩
  ·simp only [Array.size_append,Array.size_replicate,List.size_toArray,hn];omega
  ·intro n r h;rw [hroot] at h;cases h
  ·intro n m r r' h;rw [hroot] at h;cases h
  ·intro n r h;rw [hroot] at h;cases h
  ·intro b
   constructor
   ·exact .inl
   ·rintro (h | ⟨n,r,h,_⟩)
    ·exact h
    ·rw [hroot] at h;cases h
  ·intro i
   rcases hslots i with h | ⟨_,v,hv,h⟩
   ·rw [h];exact .undef _
   ·have hi:=(List.getElem?_eq_some_iff.1 hv).1
    have:(vs.toArray++Array.replicate (fn.ntmps-vs.toArray.size) undef).getD i undef=v:=by
     rw [Array.getD_eq_getD_getElem?,Array.getElem?_append_left (by simpa using hi),List.getElem?_toArray,hv];rfl
    dsimp only
    rw [this]
    exact h _ _
 unfold runF at hF
 dsimp only at hF
 refine wp_mono (exec_ok hty hfn lp c hlp S hF) ?_
 have fin:∀ {σ' γ' φ' O'} {a':Act} {w':World},Sim P env w O Foot.none σ' γ' φ' O' a' w' →outK env ((t,sh)::rs) ps fn.results.toList σ' (fun r=>some r)=some r→
   a'.defers=[]∧∃ v,(results fn a'.tmps).run P w' = .ok v w' ∧∃ v' rv cs G,Ending.returned v = .returned (valOf (v'::rv))∧Kept Foot.none w w' ∧(∀ b,G b→w.heap.size≤b)∧Val t v' cs∧
    Rep w' (fun b=>O b∨G b) t sh r.1 cs G∧ResVals w' (fun b=>O b∨G b) rs (ios ps) r.2 rv:=by
  intro σ' γ' φ' O' a' w' S' hk
  cases hv:fn.results.toList with
  |nil=>rw [hv] at hk;simp [outK] at hk
  |cons v vars=>
   rw [hv] at hk
   unfold outK at hk
   obtain ⟨s,va,h2,hs,hrun⟩:=resultSlot_ok S' hty hk
   obtain ⟨x,σ₁,cs,F,G,h4,hval,hrep,S₁,hFG,hG⟩:=give_ok S' hs hsh h2
   ·obtain ⟨q,rv,h5,h6,h7,h8⟩:=out_ok S₁ hty ps hio rs vars hrs h4
    injection h5 with h5
    subst h5
    refine ⟨S'.defers.trans hmk,valOf (va::rv),?_,va,rv,cs,F,rfl,S'.kept,fun b hb=>(hG b (hFG b hb)).2.resolve_right fun h=>h,hval,
     Rep.frame (Nat.le_refl _) (fun _ _ _=>rfl) (fun _ _=>rfl) (fun b _ hn h=>hn (h.elim (fun h=>(S'.own b).2 (.inl h)) fun h=>(hrep.owned b h).1)) (fun b hb _=>.inr hb) hrep,ResVals.less (fun b hb=>hb.imp id (hFG b)) _ _ _ _ h8⟩
    have hm:(fn.results.mapM (resultOf a')).run P w' = .ok (va::rv).toArray w' :=by
     rw [Array.mapM_eq_mapM_toList,hv]
     simp only [Sem.run_map,List.mapM_cons,Sem.run_bind,hrun,Result.andThen_ok,h6,Sem.run_pure]
    unfold results
    have e:(fn.results.mapM fun | .tmp t=>(pure (a'.tmps.getD t undef):Sem Value) | .cell a t=>do loadVar t (←asAddr (a'.tmps.getD a undef)))=fn.results.mapM (resultOf a'):=by
     rfl
    rw [Sem.run_bind]
    refine (congrArg (fun m=>(Sem.run P m w').andThen _) e).trans ?_
    rw [hm]
    simp only [Result.andThen_ok,Sem.run_pure,oneVal]
 rintro e a' w' ⟨σ',γ',φ',O',S',hk⟩
 cases e with
 |normal=>exact fin S' hk
 |ret=>exact fin S' hk
 |exit id=>cases hk
 |goto l=>exact hk.elim
 |panic ch=>exact hk.elim
 |outgrown=>exact hk.elim
end Go.V
namespace Go.V
variable {P:Program} {env:Env} {w₀ w w':World} {O₀ W O:Foot} {σ:St} {γ:Name→Src} {φ:Name→Foot} {a:Act}
theorem ios_some {t:Ty}:∀ (ps:List PM) (i:Nat) {σ:St} {β:Type} {k:Tup (ios ps)→Option β} {r:β},noIo ps=true→iosK ps i σ k=some r→∃ q,k q=some r
 |[],i,σ,β,k,r,_,h=>⟨_,h⟩
 |.ro _::ps,i,σ,β,k,r,hn,h=>ios_some (t:=t) ps (i+1) hn h
 |.rp _::ps,i,σ,β,k,r,hn,h=>ios_some (t:=t) ps (i+1) hn h
 |.fn _ _::ps,i,σ,β,k,r,hn,h=>ios_some (t:=t) ps (i+1) hn h
 |.st _ _::ps,i,σ,β,k,r,hn,h=>ios_some (t:=t) ps (i+1) hn h
 |.io _ _::_,i,σ,β,k,r,hn,h=>by cases hn
 |.tk _ _::_,i,σ,β,k,r,hn,h=>by cases hn
theorem out_io (S:Sim P env w₀ O₀ W σ γ φ O a w) (hty:env.TyOk P) (t:Ty) (sh:Sh) (ps:List PM) (hno:noIo ps=true) {β:Type}:∀ (rs:List (Ty×Sh)) (vars:List ResultVar) {k:Tup (rs.map (·.1)++(t::ios ps))→Option β} {r:β},
  (rs.all fun x=>x.1.flat&&decide (x.2 = .z))=true→outK env rs (.io t sh::ps) vars σ k=some r→
  ∃ q rv,k q=some r∧(vars.mapM (resultOf a)).run P w = .ok rv w∧rv.length=rs.length∧PvAll P w (ioSplit rs t (ios ps) q).1 rv∧σ.root 4=some (.data (decide (sh = .z)) ⟨t,(ioSplit rs t (ios ps) q).2⟩ sh)
 |[],[],k,r,_,h=>by
  replace h:(match σ.root 4 with
   |some (.data b d sh')=>match decide (sh'=sh∧b=decide (sh = .z)) with
    |true=>castK (t' :=t) d.x fun x=>iosK ps (0+1) σ fun r=>k (x,r)
    |false=>none
   |_=>none)=some r:=h
  split at h
  case h_2=>cases h
  case h_1 b d sh' hr=>
   split at h
   case h_2=>cases h
   case h_1 hs=>
    obtain ⟨h1,h2⟩:=of_decide_eq_true hs
    subst h1 h2
    obtain ⟨e,h⟩:=castK_some h
    obtain ⟨dt,x⟩:=d
    dsimp only at e
    subst e
    obtain ⟨q,hq⟩:=ios_some (t:=.bool) ps (0+1) hno h
    exact ⟨(x,q),[],hq,rfl,rfl,trivial,hr⟩
 |[],_::_,k,r,_,h=>by simp [outK] at h
 |_::_,[],k,r,_,h=>by simp [outK] at h
 |(u,sh₁)::rs,v::vars,k,r,hz,h=>by
  simp only [List.all_cons,Bool.and_eq_true,decide_eq_true_eq] at hz
  obtain ⟨⟨hu,hz1⟩,hz2⟩:=hz
  subst hz1
  have h:resultSlot env σ v (fun s=>giveK σ u .z s fun x σ=>outK env rs (.io t sh::ps) vars σ fun r=>k (x,r))=some r:=h
  obtain ⟨s,va,h2,hs,hrun⟩:=resultSlot_ok S hty h
  unfold giveK at h2
  obtain ⟨x,h3,cs,hval,hrep⟩:=S.content₀ hs h2
  obtain ⟨q,rv,h4,h5,h6,h7,h8⟩:=out_io S hty t sh ps hno rs vars (by simpa using hz2) h3
  refine ⟨(x,q),va::rv,h4,?_,by simp [h6],⟨fun O' σ' γ' =>.pv ⟨u,x⟩ va cs hval (hrep.flat hu),h7⟩,h8⟩
  simp [List.mapM_cons,hrun,h5]
theorem ArgsOk.length:∀ (ps:List PM) (az:Args ps) (vs:List Value),ArgsOk P w O ps az vs→vs.length=ps.length:=by
 intro ps
 induction ps with
 |nil=>intro az vs h;rw [show vs=[] from h];rfl
 |cons p ps ih=>
  intro az vs h
  cases p with
  |ro t=>obtain ⟨v,vs',cs,e,_,_,h⟩:=h;rw [e];simp [ih _ _ h]
  |rp t=>obtain ⟨v,vs',e,_,h⟩:=h;rw [e];simp [ih _ _ h]
  |fn a b=>obtain ⟨v,vs',e,_,_,h⟩:=h;rw [e];simp [ih _ _ h]
  |st f ts=>obtain ⟨cv,vs',e,_,h⟩:=h;rw [e];simp [ih _ _ h]
  |io t sh=>exact h.elim
  |tk t sh=>exact h.elim
theorem io_fn {f : FuncId} {fn : Func} {c : Code} (hf : P.funcs[f]? = some fn) (hb : fn.body = some c) (hname : fn.name ≠ "runtime.NumGoroutine") (hty : env.TyOk P) (hfn : env.FnOk P) (hmk : env.marks = [])
  (hn:env.n=fn.ntmps) (t:Ty) (ps:List PM) (rs:List (Ty×Sh)) (hps:ps.length+1≤fn.ntmps) (hno:noIo ps=true) (hrs:(rs.all fun x=>x.1.flat&&decide (x.2 = .z))=true)
  (F:Args (.io t .z::ps)→Option (Tup (rs.map (·.1)++ios (.io t .z::ps))))
  (lp:Nat→Kont (Tup (rs.map (·.1)++ios (.io t .z::ps)))→St→Option (Tup (rs.map (·.1)++ios (.io t .z::ps)))) (hlp:∀ p,LoopsOk {env with pin:=p} lp c)
  (he:∀ p,runF {env with pin:=p} (.io t .z::ps) rs lp c fn.results.toList=F):IoOk P f ⟨.io t .z::ps,rs,F⟩:=by
 refine ⟨⟨fn,hf,by rw [hb];rfl,hname⟩,?_⟩
 intro w O b off x az vs r hO hOb hio hargs hF
 have hF:runF {env with pin:=some (.mem b off)} (.io t .z::ps) rs lp c fn.results.toList (x,az)=some r:=by rw [he];exact hF
 refine calls_of_wp hf hb ?_
 have hty':Env.TyOk {env with pin:=some (.mem b off)} P:=hty
 have hfn':Env.FnOk {env with pin:=some (.mem b off)} P:=hfn
 have hl:=ArgsOk.length ps az vs hargs
 let pv:Value:=.pointer (some ⟨b,off,none⟩)
 obtain ⟨hmem,hslots⟩:=init_slots (vs₀:=pv::vs) ps az 1 vs hargs (fun j v h=>by rw [Nat.add_comm];simpa using h)
 let σ₀:St:=initSt (.io t .z::ps) (x,az) 0
 have hroot:∀ n,σ₀.root n=if n=4 then some (.data true ⟨t,x⟩ .z) else none:=by
  intro n
  show look ((4,Root.data true ⟨t,x⟩ .z)::(initSt ps az (0+1)).mem) n=_
  rw [hmem]
  simp only [look]
  by_cases hn4:n=4
  ·subst hn4;rw [beq_self,if_pos rfl]
  ·rw [beq_ne (fun e=>hn4 e.symm),if_neg hn4]
 have root4:∀ {n r},σ₀.root n=some r→n=4∧r = .data true ⟨t,x⟩ .z:=by
  intro n r h
  rw [hroot] at h
  split at h
  ·rename_i e;injection h with h;exact ⟨e,h.symm⟩
  ·cases h
 let γ₀:Name→Src:=fun _=>.mem b off
 let φ₀:Name→Foot:=fun n c=>n=4∧c=b
 have hh4:σ₀.root 4=some (.data true ⟨t,x⟩ .z):=by rw [hroot,if_pos rfl]
 have S:Sim P {env with pin:=some (.mem b off)} w (fun c=>O c∧c≠b) (fun c=>c=b) σ₀ γ₀ φ₀ O {tmps:=(pv::vs).toArray++Array.replicate (fn.ntmps-(pv::vs).toArray.size) undef,defers:=[]} w:=by
  refine ⟨hmk.symm,?_,Kept.refl _ _,?_,?_,?_,?_,fun c h=>hO c h.1,?_,?_⟩
  ·simp only [Array.size_append,Array.size_replicate,List.size_toArray,List.length_cons,hn];omega
  ·intro n r h
   obtain ⟨rfl,rfl⟩:=root4 h
   obtain ⟨C,tid,fr,cs,h1,h2,h3,h4⟩:=hio
   exact ⟨b,off,C,tid,fr,cs,Foot.none,rfl,h1,h2,h3,h4,fun h=>h,hOb,fun k=>⟨fun h=>.inl h.2,fun h=>h.elim (fun h=>⟨rfl,h⟩) fun h=>h.elim⟩⟩
  ·intro n m r r' h h' hnm
   exact (hnm ((root4 h).1.trans (root4 h').1.symm)).elim
  ·rintro n r h c ⟨_,rfl⟩
   exact ⟨.inr rfl,fun h=>h.2 rfl⟩
  ·intro c
   constructor
   ·intro h
    by_cases hc:c=b
    ·exact .inr ⟨4,_,hh4,rfl,hc⟩
    ·exact .inl ⟨h,hc⟩
   ·rintro (h | ⟨n,r,_,_,rfl⟩)
    ·exact h.1
    ·exact hOb
  ·intro i
   have hsl:σ₀.slot i=if i=0 then .ptr ⟨4,[]⟩ else (initSt ps az 1).slot i:=by
    show (look ((0,Slot.ptr ⟨ioName 0,[]⟩)::(initSt ps az (0+1)).slots) i).getD .undef=_
    simp only [look]
    by_cases hi:i=0
    ·subst hi;rw [beq_self,if_pos rfl];rfl
    ·rw [beq_ne (fun e=>hi e.symm),if_neg hi];rfl
   have hval:∀ v,(pv::vs)[i]? = some v→({tmps:=(pv::vs).toArray++Array.replicate (fn.ntmps-(pv::vs).toArray.size) undef,defers:=[]}:Act).tmps.getD i undef=v:=by
    intro v hv
    have hi:=(List.getElem?_eq_some_iff.1 hv).1
    rw [Array.getD_eq_getD_getElem?,Array.getElem?_append_left (by simpa using hi),List.getElem?_toArray,hv];rfl
   rw [hsl]
   split
   ·rename_i hi
    subst hi
    rw [hval pv rfl]
    exact .ptr ⟨4,[]⟩ t b off ⟨true,⟨t,x⟩,.z,hh4,rfl,fun _=>rfl⟩
   ·rcases hslots i with h | ⟨_,v,hv,h⟩
    ·rw [h];exact .undef _
    ·rw [hval v hv];exact h _ _
  ·intro s h bx d sh _
   injection h with h
 unfold runF at hF
 dsimp only at hF
 refine wp_mono (exec_ok hty' hfn' lp c (hlp _) S hF) ?_
 have fin:∀ {σ' γ' φ' O'} {a':Act} {w':World},Sim P {env with pin:=some (.mem b off)} w (fun c=>O c∧c≠b) (fun c=>c=b) σ' γ' φ' O' a' w' →
   outK {env with pin:=some (.mem b off)} rs (.io t .z::ps) fn.results.toList σ' (fun r=>some r)=some r→
   a'.defers=[]∧∃ v,(results fn a'.tmps).run P w' = .ok v w' ∧∃ rv,Ending.returned v = .returned (valOf rv)∧Kept (fun c=>c=b) w w' ∧
    IoAt w' O t b off (ioSplit rs t (ios ps) r).2∧PvAll P w' (ioSplit rs t (ios ps) r).1 rv:=by
  intro σ' γ' φ' O' a' w' S' hk
  obtain ⟨q,rv,h1,h2,h3,h4,h5⟩:=out_io S' hty' t .z ps hno rs fn.results.toList hrs hk
  injection h1 with h1
  subst h1
  have hat:IoAt w' O t b off (ioSplit rs t (ios ps) q).2:=by
   obtain ⟨b₁,off₁,C,tid,fr,cs,F',hsrc,hb,hfz,hcs,hrep,hF',hOb1,hU⟩:=S'.roots 4 _ h5
   have:=S'.pin _ rfl _ _ _ h5
   rw [hsrc] at this
   injection this with e1 e2
   subst e1 e2
   refine ⟨C,tid,fr,cs,hb,hfz,hcs,Rep.freeze (fun c _ hn h=>hn ?_) rfl (fun c h=>(hrep.free c h).elim) hrep⟩
   by_cases hc:c=b₁
   ·rw [hc];exact hOb1
   ·exact (S'.own c).2 (.inl ⟨h,hc⟩)
  refine ⟨S'.defers.trans hmk,valOf rv,?_,rv,rfl,S'.kept,hat,h4⟩
  have hm:(fn.results.mapM (resultOf a')).run P w' = .ok rv.toArray w' :=by
   rw [Array.mapM_eq_mapM_toList]
   simp only [Sem.run_map,h2]
   rfl
  unfold results
  have e:(fn.results.mapM fun | .tmp t=>(pure (a'.tmps.getD t undef):Sem Value) | .cell a t=>do loadVar t (←asAddr (a'.tmps.getD a undef)))=fn.results.mapM (resultOf a'):=by
   rfl
  rw [Sem.run_bind]
  refine (congrArg (fun m=>(Sem.run P m w').andThen _) e).trans ?_
  rw [hm]
  simp only [Result.andThen_ok,Sem.run_pure,oneVal]
 rintro e a' w' ⟨σ',γ',φ',O',S',hk⟩
 cases e with
 |normal=>exact fin S' hk
 |ret=>exact fin S' hk
 |exit id=>cases hk
 |goto l=>exact hk.elim
 |panic ch=>exact hk.elim
 |outgrown=>exact hk.elim
theorem own_fn {f : FuncId} {fn : Func} {c : Code} (hf : P.funcs[f]? = some fn) (hb : fn.body = some c) (hname : fn.name ≠ "runtime.NumGoroutine") (hty : env.TyOk P) (hfn : env.FnOk P) (hmk : env.marks = [])
  (hn:env.n=fn.ntmps) (e:Ty) (s:Sh) (ps:List PM) (rs:List (Ty×Sh)) (hps:ps.length+1≤fn.ntmps) (hno:noIo ps=true) (hrs:(rs.all fun x=>x.1.flat&&decide (x.2 = .z))=true)
  (F:Args (.io (.slice e) (.own s)::ps)→Option (Tup (rs.map (·.1)++ios (.io (.slice e) (.own s)::ps))))
  (lp:Nat→Kont (Tup (rs.map (·.1)++ios (.io (.slice e) (.own s)::ps)))→St→Option (Tup (rs.map (·.1)++ios (.io (.slice e) (.own s)::ps)))) (hlp:∀ p,LoopsOk {env with pin:=p} lp c)
  (he:∀ p,runF {env with pin:=p} (.io (.slice e) (.own s)::ps) rs lp c fn.results.toList=F):IoOk P f ⟨.io (.slice e) (.own s)::ps,rs,F⟩:=by
 refine ⟨⟨fn,hf,by rw [hb];rfl,hname⟩,?_⟩
 intro w O x v G az vs r hO hrepx hargs hF
 have hF:runF {env with pin:=some (.val [v])} (.io (.slice e) (.own s)::ps) rs lp c fn.results.toList (x,az)=some r:=by rw [he];exact hF
 refine calls_of_wp hf hb ?_
 have hty':Env.TyOk {env with pin:=some (.val [v])} P:=hty
 have hfn':Env.FnOk {env with pin:=some (.val [v])} P:=hfn
 have hl:=ArgsOk.length ps az vs hargs
 obtain ⟨hmem,hslots⟩:=init_slots (vs₀:=v::vs) ps az 1 vs hargs (fun j v h=>by rw [Nat.add_comm];simpa using h)
 let σ₀:St:=initSt (.io (.slice e) (.own s)::ps) (x,az) 0
 have hroot:∀ n,σ₀.root n=if n=4 then some (.data false ⟨.slice e,x⟩ (.own s)) else none:=by
  intro n
  show look ((4,Root.data false ⟨.slice e,x⟩ (.own s))::(initSt ps az (0+1)).mem) n=_
  rw [hmem]
  simp only [look]
  by_cases hn4:n=4
  ·subst hn4;rw [beq_self,if_pos rfl]
  ·rw [beq_ne (fun e=>hn4 e.symm),if_neg hn4]
 have root4:∀ {n r},σ₀.root n=some r→n=4∧r = .data false ⟨.slice e,x⟩ (.own s):=by
  intro n r h
  rw [hroot] at h
  split at h
  ·rename_i e;injection h with h;exact ⟨e,h.symm⟩
  ·cases h
 let γ₀:Name→Src:=fun _=>.val [v]
 let φ₀:Name→Foot:=fun n c=>n=4∧G c
 have hh4:σ₀.root 4=some (.data false ⟨.slice e,x⟩ (.own s)):=by rw [hroot,if_pos rfl]
 have hGO:∀ c,G c→O c:=fun c hc=>(hrepx.owned c hc).1
 have S:Sim P {env with pin:=some (.val [v])} w (fun c=>O c∧¬G c) G σ₀ γ₀ φ₀ O {tmps:=(v::vs).toArray++Array.replicate (fn.ntmps-(v::vs).toArray.size) undef,defers:=[]} w:=by
  refine ⟨hmk.symm,?_,Kept.refl _ _,?_,?_,?_,?_,fun c h=>hO c h.1,?_,?_⟩
  ·simp only [Array.size_append,Array.size_replicate,List.size_toArray,List.length_cons,hn];omega
  ·intro n r h
   obtain ⟨rfl,rfl⟩:=root4 h
   exact ⟨[v],rfl,hrepx.foot fun c=>⟨fun h=>h.2,fun h=>⟨rfl,h⟩⟩⟩
  ·intro n m r r' h h' hnm
   exact (hnm ((root4 h).1.trans (root4 h').1.symm)).elim
  ·rintro n r h c ⟨_,hc⟩
   exact ⟨.inr hc,fun h=>h.2 hc⟩
  ·intro c
   constructor
   ·intro h
    by_cases hc:G c
    ·exact .inr ⟨4,_,hh4,rfl,hc⟩
    ·exact .inl ⟨h,hc⟩
   ·rintro (h | ⟨n,r,_,_,hc⟩)
    ·exact h.1
    ·exact hGO c hc
  ·intro i
   have hsl:σ₀.slot i=if i=0 then .ref (.slice e) ⟨4,[]⟩ else (initSt ps az 1).slot i:=by
    show (look ((0,Slot.ref (.slice e) ⟨ioName 0,[]⟩)::(initSt ps az (0+1)).slots) i).getD .undef=_
    simp only [look]
    by_cases hi:i=0
    ·subst hi;rw [beq_self,if_pos rfl];rfl
    ·rw [beq_ne (fun e=>hi e.symm),if_neg hi];rfl
   have hval:∀ v',(v::vs)[i]? = some v' →({tmps:=(v::vs).toArray++Array.replicate (fn.ntmps-(v::vs).toArray.size) undef,defers:=[]}:Act).tmps.getD i undef=v' :=by
    intro v' hv
    have hi:=(List.getElem?_eq_some_iff.1 hv).1
    rw [Array.getD_eq_getD_getElem?,Array.getElem?_append_left (by simpa using hi),List.getElem?_toArray,hv];rfl
   rw [hsl]
   split
   ·rename_i hi
    subst hi
    rw [hval v rfl]
    exact .ref (.slice e) ⟨4,[]⟩ v (.val [v]) ⟨false,⟨.slice e,x⟩,.own s,hh4,rfl,fun _=>rfl⟩ fun _=>⟨[v],rfl,rfl⟩
   ·rcases hslots i with h | ⟨_,v',hv,h⟩
    ·rw [h];exact .undef _
    ·rw [hval v' hv];exact h _ _
  ·intro s h bx d sh _
   injection h with h
 unfold runF at hF
 dsimp only at hF
 refine wp_mono (exec_ok hty' hfn' lp c (hlp _) S hF) ?_
 have fin:∀ {σ' γ' φ' O'} {a':Act} {w':World},Sim P {env with pin:=some (.val [v])} w (fun c=>O c∧¬G c) G σ' γ' φ' O' a' w' →
   outK {env with pin:=some (.val [v])} rs (.io (.slice e) (.own s)::ps) fn.results.toList σ' (fun r=>some r)=some r→
   a'.defers=[]∧∃ v',(results fn a'.tmps).run P w' = .ok v' w' ∧∃ rv G',Ending.returned v' = .returned (valOf rv)∧Kept G w w' ∧(∀ b,G' b→G b∨w.heap.size≤b)∧
    Rep w' (fun b=>(O b∧¬G b)∨G' b) (.slice e) (.own s) (ioSplit rs (.slice e) (ios ps) r).2 [v] G' ∧PvAll P w' (ioSplit rs (.slice e) (ios ps) r).1 rv:=by
  intro σ' γ' φ' O' a' w' S' hk
  obtain ⟨q,rv,h1,h2,h3,h4,h5⟩:=out_io S' hty' (.slice e) (.own s) ps hno rs fn.results.toList hrs hk
  injection h1 with h1
  subst h1
  obtain ⟨cs,hsrc,hrep⟩:=S'.roots 4 _ h5
  have:=S'.pin _ rfl _ _ _ h5
  rw [hsrc] at this
  injection this with this
  subst this
  refine ⟨S'.defers.trans hmk,valOf rv,?_,rv,φ' 4,rfl,S'.kept,fun b hb=>(S'.fresh 4 _ h5 b hb).1.symm,?_,h4⟩
  ·have hm:(fn.results.mapM (resultOf a')).run P w' = .ok rv.toArray w' :=by
    rw [Array.mapM_eq_mapM_toList]
    simp only [Sem.run_map,h2]
    rfl
   unfold results
   have e:(fn.results.mapM fun | .tmp t=>(pure (a'.tmps.getD t undef):Sem Value) | .cell a t=>do loadVar t (←asAddr (a'.tmps.getD a undef)))=fn.results.mapM (resultOf a'):=by
    rfl
   rw [Sem.run_bind]
   refine (congrArg (fun m=>(Sem.run P m w').andThen _) e).trans ?_
   rw [hm]
   simp only [Result.andThen_ok,Sem.run_pure,oneVal]
  ·refine Rep.frame (Nat.le_refl _) (fun _ _ _=>rfl) (fun _ _=>rfl) (fun b _ hn h=>?_) (fun b hb _=>.inr hb) hrep
   rcases h with h | h
   ·exact hn ((S'.own b).2 (.inl h))
   ·exact hn ((S'.own b).2 (.inr ⟨4,_,h5,h⟩))
 rintro e a' w' ⟨σ',γ',φ',O',S',hk⟩
 cases e with
 |normal=>exact fin S' hk
 |ret=>exact fin S' hk
 |exit id=>cases hk
 |goto l=>exact hk.elim
 |panic ch=>exact hk.elim
 |outgrown=>exact hk.elim
theorem ResVals.pv:∀ (rs:List (Ty×Sh)) (io:List Ty) (r:Tup (rs.map (·.1)++io)) (rv:List Value),(rs.all fun x=>x.1.flat)=true→ResVals w O rs io r rv→PvAll P w (quietRes rs io r) rv
 |[],_,_,rv,_,h=>by rw [show rv=[] from h];trivial
 |(t,sh)::rs,io,r,rv,hf,⟨v,vs',cs,hrv,hv,hr,h⟩=>by
  simp only [List.all_cons,Bool.and_eq_true] at hf
  subst hrv
  exact ⟨fun O' σ' γ' =>.pv ⟨t,r.1⟩ v cs hv (hr.flat hf.1),ResVals.pv rs io r.2 vs' hf.2 h⟩
theorem IoOk.ofTk {f:FuncId} {t:Ty} {sh:Sh} {ps:List PM} {rs:List (Ty×Sh)} {F:Args (.tk t sh::ps)→Option (Tup (rs.map (·.1)++ios (.tk t sh::ps)))}
  (hrf:(rs.all fun x=>x.1.flat)=true) (h:TkOk P f t sh ps rs F):IoOk P f ⟨.tk t sh::ps,rs,F⟩:=by
 cases rs with
 |nil=>exact h
 |cons q rs=>
  obtain ⟨qt,qs⟩:=q
  cases qt with
  |slice u=>simp [Ty.flat] at hrf
  |_=>exact h
theorem tk_fn {f : FuncId} {fn : Func} {c : Code} (hf : P.funcs[f]? = some fn) (hb : fn.body = some c) (hname : fn.name ≠ "runtime.NumGoroutine") (hty : env.TyOk P) (hfn : env.FnOk P) (hmk : env.marks = [])
  (hn:env.n=fn.ntmps) (t:Ty) (sh:Sh) (ps:List PM) (rs:List (Ty×Sh)) (hps:ps.length+1≤fn.ntmps) (hno:noIo ps=true) (hrs:(rs.all fun x=>x.1.flat&&decide (x.2 = .z))=true)
  (lp:Nat→Kont (Tup (rs.map (·.1)++ios (.tk t sh::ps)))→St→Option (Tup (rs.map (·.1)++ios (.tk t sh::ps)))) (hlp:LoopsOk env lp c) (hp:env.pin=none) :
  IoOk P f ⟨.tk t sh::ps,rs,runF env (.tk t sh::ps) rs lp c fn.results.toList⟩:=by
 refine IoOk.ofTk (by
   rw [List.all_eq_true] at hrs ⊢
   intro y hy
   have:=hrs y hy
   simp only [Bool.and_eq_true] at this
   exact this.1) ?_
 refine ⟨⟨fn,hf,by rw [hb];rfl,hname⟩,?_⟩
 intro w O x v cs G az vs r hO hval₀ hrepx hargs hF
 refine calls_of_wp hf hb ?_
 have hl:=ArgsOk.length ps az vs hargs
 obtain ⟨hmem,hslots⟩:=init_slots (vs₀:=v::vs) ps az 1 vs hargs (fun j v h=>by rw [Nat.add_comm];simpa using h)
 let σ₀:St:=initSt (.tk t sh::ps) (x,az) 0
 have hroot:∀ n,σ₀.root n=if n=4 then some (.data false ⟨t,x⟩ sh) else none:=by
  intro n
  show look ((4,Root.data false ⟨t,x⟩ sh)::(initSt ps az (0+1)).mem) n=_
  rw [hmem]
  simp only [look]
  by_cases hn4:n=4
  ·subst hn4;rw [beq_self,if_pos rfl]
  ·rw [beq_ne (fun e=>hn4 e.symm),if_neg hn4]
 have root4:∀ {n r},σ₀.root n=some r→n=4∧r = .data false ⟨t,x⟩ sh:=by
  intro n r h
  rw [hroot] at h
  split at h
  ·rename_i e;injection h with h;exact ⟨e,h.symm⟩
  ·cases h
 let γ₀:Name→Src:=fun _=>.val cs
 let φ₀:Name→Foot:=fun n c=>n=4∧G c
 have hh4:σ₀.root 4=some (.data false ⟨t,x⟩ sh):=by rw [hroot,if_pos rfl]
 have hGO:∀ c,G c→O c:=fun c hc=>(hrepx.owned c hc).1
 have S:Sim P env w (fun c=>O c∧¬G c) G σ₀ γ₀ φ₀ O {tmps:=(v::vs).toArray++Array.replicate (fn.ntmps-(v::vs).toArray.size) undef,defers:=[]} w:=by
  refine ⟨hmk.symm,?_,Kept.refl _ _,?_,?_,?_,?_,fun c h=>hO c h.1,?_,?_⟩
  ·simp only [Array.size_append,Array.size_replicate,List.size_toArray,List.length_cons,hn];omega
  ·intro n r h
   obtain ⟨rfl,rfl⟩:=root4 h
   exact ⟨cs,rfl,hrepx.foot fun c=>⟨fun h=>h.2,fun h=>⟨rfl,h⟩⟩⟩
  ·intro n m r r' h h' hnm
   exact (hnm ((root4 h).1.trans (root4 h').1.symm)).elim
  ·rintro n r h c ⟨_,hc⟩
   exact ⟨.inr hc,fun h=>h.2 hc⟩
  ·intro c
   constructor
   ·intro h
    by_cases hc:G c
    ·exact .inr ⟨4,_,hh4,rfl,hc⟩
    ·exact .inl ⟨h,hc⟩
   ·rintro (h | ⟨n,r,_,_,hc⟩)
    ·exact h.1
    ·exact hGO c hc
  ·intro i
   have hsl:σ₀.slot i=if i=0 then .ref t ⟨4,[]⟩ else (initSt ps az 1).slot i:=by
    show (look ((0,Slot.ref t ⟨ioName 0,[]⟩)::(initSt ps az (0+1)).slots) i).getD .undef=_
    simp only [look]
    by_cases hi:i=0
    ·subst hi;rw [beq_self,if_pos rfl];rfl
    ·rw [beq_ne (fun e=>hi e.symm),if_neg hi];rfl
   have hval:∀ v',(v::vs)[i]? = some v' →({tmps:=(v::vs).toArray++Array.replicate (fn.ntmps-(v::vs).toArray.size) undef,defers:=[]}:Act).tmps.getD i undef=v' :=by
    intro v' hv
    have hi:=(List.getElem?_eq_some_iff.1 hv).1
    rw [Array.getD_eq_getD_getElem?,Array.getElem?_append_left (by simpa using hi),List.getElem?_toArray,hv];rfl
   rw [hsl]
   split
   ·rename_i hi
    subst hi
    rw [hval v rfl]
    exact .ref t ⟨4,[]⟩ v (.val cs) ⟨false,⟨t,x⟩,sh,hh4,rfl,fun _=>rfl⟩ fun _=>⟨cs,rfl,hval₀⟩
   ·rcases hslots i with h | ⟨_,v',hv,h⟩
    ·rw [h];exact .undef _
    ·rw [hval v' hv];exact h _ _
  ·intro s h bx d sh _
   rw [hp] at h
   cases h
 unfold runF at hF
 dsimp only at hF
 refine wp_mono (exec_ok hty hfn lp c hlp S hF) ?_
 have hio:ios (.tk t sh::ps)=[]:=(noIo_ios hno:ios ps=[])
 have fin:∀ {σ' γ' φ' O'} {a':Act} {w':World},Sim P env w (fun c=>O c∧¬G c) G σ' γ' φ' O' a' w' →
   outK env rs (.tk t sh::ps) fn.results.toList σ' (fun r=>some r)=some r→
   a'.defers=[]∧∃ v',(results fn a'.tmps).run P w' = .ok v' w' ∧∃ rv,Ending.returned v' = .returned (valOf rv)∧Kept G w w' ∧PvAll P w' (quietRes rs (ios ps) r) rv:=by
  intro σ' γ' φ' O' a' w' S' hk
  obtain ⟨q,rv,h1,h2,h3,h4⟩:=out_ok S' hty (.tk t sh::ps) hio rs fn.results.toList (by
   rw [List.all_eq_true] at hrs ⊢
   intro y hy
   have:=hrs y hy
   simp only [Bool.and_eq_true] at this
   exact this.2) hk
  injection h1 with h1
  subst h1
  refine ⟨S'.defers.trans hmk,valOf rv,?_,rv,rfl,S'.kept,ResVals.pv rs (ios (.tk t sh::ps)) q rv (by
   rw [List.all_eq_true] at hrs ⊢
   intro y hy
   have:=hrs y hy
   simp only [Bool.and_eq_true] at this
   exact this.1) h4⟩
  have hm:(fn.results.mapM (resultOf a')).run P w' = .ok rv.toArray w' :=by
   rw [Array.mapM_eq_mapM_toList]
   simp only [Sem.run_map,h2]
   rfl
  unfold results
  have e:(fn.results.mapM fun | .tmp t=>(pure (a'.tmps.getD t undef):Sem Value) | .cell a t=>do loadVar t (←asAddr (a'.tmps.getD a undef)))=fn.results.mapM (resultOf a'):=by
   rfl
  rw [Sem.run_bind]
  refine (congrArg (fun m=>(Sem.run P m w').andThen _) e).trans ?_
  rw [hm]
  simp only [Result.andThen_ok,Sem.run_pure,oneVal]
 rintro e a' w' ⟨σ',γ',φ',O',S',hk⟩
 cases e with
 |normal=>exact fin S' hk
 |ret=>exact fin S' hk
 |exit id=>cases hk
 |goto l=>exact hk.elim
 |panic ch=>exact hk.elim
 |outgrown=>exact hk.elim
theorem tf_fn {f : FuncId} {fn : Func} {c : Code} (hf : P.funcs[f]? = some fn) (hb : fn.body = some c) (hname : fn.name ≠ "runtime.NumGoroutine") (hty : env.TyOk P) (hfn : env.FnOk P) (hmk : env.marks = [])
  (hn:env.n=fn.ntmps) (t:Ty) (sh:Sh) (ps:List PM) (u:Ty) (su:Sh) (rs:List (Ty×Sh)) (hps:ps.length+1≤fn.ntmps) (hno:noIo ps=true) (hrs:(rs.all fun x=>x.1.flat&&decide (x.2 = .z))=true)
  (lp:Nat→Kont (Tup (((.slice u,.own su)::rs).map (·.1)++ios (.tk t sh::ps)))→St→Option (Tup (((.slice u,.own su)::rs).map (·.1)++ios (.tk t sh::ps)))) (hlp:LoopsOk env lp c) (hp:env.pin=none) :
  IoOk P f ⟨.tk t sh::ps,(.slice u,.own su)::rs,runF env (.tk t sh::ps) ((.slice u,.own su)::rs) lp c fn.results.toList⟩:=by
 refine ⟨⟨fn,hf,by rw [hb];rfl,hname⟩,?_⟩
 intro w O x v cs G az vs r hO hval₀ hrepx hargs hF
 refine calls_of_wp hf hb ?_
 have hl:=ArgsOk.length ps az vs hargs
 obtain ⟨hmem,hslots⟩:=init_slots (vs₀:=v::vs) ps az 1 vs hargs (fun j v h=>by rw [Nat.add_comm];simpa using h)
 let σ₀:St:=initSt (.tk t sh::ps) (x,az) 0
 have hroot:∀ n,σ₀.root n=if n=4 then some (.data false ⟨t,x⟩ sh) else none:=by
  intro n
  show look ((4,Root.data false ⟨t,x⟩ sh)::(initSt ps az (0+1)).mem) n=_
  rw [hmem]
  simp only [look]
  by_cases hn4:n=4
  ·subst hn4;rw [beq_self,if_pos rfl]
  ·rw [beq_ne (fun e=>hn4 e.symm),if_neg hn4]
 have root4:∀ {n r},σ₀.root n=some r→n=4∧r = .data false ⟨t,x⟩ sh:=by
  intro n r h
  rw [hroot] at h
  split at h
  ·rename_i e;injection h with h;exact ⟨e,h.symm⟩
  ·cases h
 let γ₀:Name→Src:=fun _=>.val cs
 let φ₀:Name→Foot:=fun n c=>n=4∧G c
 have hh4:σ₀.root 4=some (.data false ⟨t,x⟩ sh):=by rw [hroot,if_pos rfl]
 have hGO:∀ c,G c→O c:=fun c hc=>(hrepx.owned c hc).1
 have S:Sim P env w (fun c=>O c∧¬G c) G σ₀ γ₀ φ₀ O {tmps:=(v::vs).toArray++Array.replicate (fn.ntmps-(v::vs).toArray.size) undef,defers:=[]} w:=by
  refine ⟨hmk.symm,?_,Kept.refl _ _,?_,?_,?_,?_,fun c h=>hO c h.1,?_,?_⟩
  ·simp only [Array.size_append,Array.size_replicate,List.size_toArray,List.length_cons,hn];omega
  ·intro n r h
   obtain ⟨rfl,rfl⟩:=root4 h
   exact ⟨cs,rfl,hrepx.foot fun c=>⟨fun h=>h.2,fun h=>⟨rfl,h⟩⟩⟩
  ·intro n m r r' h h' hnm
   exact (hnm ((root4 h).1.trans (root4 h').1.symm)).elim
  ·rintro n r h c ⟨_,hc⟩
   exact ⟨.inr hc,fun h=>h.2 hc⟩
  ·intro c
   constructor
   ·intro h
    by_cases hc:G c
    ·exact .inr ⟨4,_,hh4,rfl,hc⟩
    ·exact .inl ⟨h,hc⟩
   ·rintro (h | ⟨n,r,_,_,hc⟩)
    ·exact h.1
    ·exact hGO c hc
  ·intro i
   have hsl:σ₀.slot i=if i=0 then .ref t ⟨4,[]⟩ else (initSt ps az 1).slot i:=by
    show (look ((0,Slot.ref t ⟨ioName 0,[]⟩)::(initSt ps az (0+1)).slots) i).getD .undef=_
    simp only [look]
    by_cases hi:i=0
    ·subst hi;rw [beq_self,if_pos rfl];rfl
    ·rw [beq_ne (fun e=>hi e.symm),if_neg hi];rfl
   have hval:∀ v',(v::vs)[i]? = some v' →({tmps:=(v::vs).toArray++Array.replicate (fn.ntmps-(v::vs).toArray.size) undef,defers:=[]}:Act).tmps.getD i undef=v' :=by
    intro v' hv
    have hi:=(List.getElem?_eq_some_iff.1 hv).1
    rw [Array.getD_eq_getD_getElem?,Array.getElem?_append_left (by simpa using hi),List.getElem?_toArray,hv];rfl
   rw [hsl]
   split
   ·rename_i hi
    subst hi
    rw [hval v rfl]
    exact .ref t ⟨4,[]⟩ v (.val cs) ⟨false,⟨t,x⟩,sh,hh4,rfl,fun _=>rfl⟩ fun _=>⟨cs,rfl,hval₀⟩
   ·rcases hslots i with h | ⟨_,v',hv,h⟩
    ·rw [h];exact .undef _
    ·rw [hval v' hv];exact h _ _
  ·intro s h bx d sh _
   rw [hp] at h
   cases h
 unfold runF at hF
 dsimp only at hF
 refine wp_mono (exec_ok hty hfn lp c hlp S hF) ?_
 have hio:ios (.tk t sh::ps)=[]:=(noIo_ios hno:ios ps=[])
 have fin:∀ {σ' γ' φ' O'} {a':Act} {w':World},Sim P env w (fun c=>O c∧¬G c) G σ' γ' φ' O' a' w' →
   outK env ((.slice u,.own su)::rs) (.tk t sh::ps) fn.results.toList σ' (fun r=>some r)=some r→
   a'.defers=[]∧∃ v',(results fn a'.tmps).run P w' = .ok v' w' ∧∃ v₁ rv G',Ending.returned v' = .returned (valOf (v₁::rv))∧Kept G w w' ∧(∀ b,G' b→G b∨w.heap.size≤b)∧
    Rep w' (fun b=>(O b∧¬G b)∨G' b) (.slice u) (.own su) r.1 [v₁] G' ∧PvAll P w' (quietRes rs (ios ps) r.2) rv:=by
  intro σ' γ' φ' O' a' w' S' hk
  cases hv:fn.results.toList with
  |nil=>rw [hv] at hk;simp [outK] at hk
  |cons v vars=>
   rw [hv] at hk
   unfold outK at hk
   obtain ⟨s,va,h2,hs,hrun⟩:=resultSlot_ok S' hty hk
   obtain ⟨x',σ₁,cs',F,G',h4,hval',hrep',S₁,hFG,hG⟩:=give_ok S' hs (by simp) h2
   have hcv:cs'=[va]:=hval'
   subst hcv
   obtain ⟨q,rv,h5,h6,h7,h8⟩:=out_ok S₁ hty (.tk t sh::ps) hio rs vars (by
    rw [List.all_eq_true] at hrs ⊢
    intro y hy
    have:=hrs y hy
    simp only [Bool.and_eq_true] at this
    exact this.2) h4
   injection h5 with h5
   subst h5
   refine ⟨S'.defers.trans hmk,valOf (va::rv),?_,va,rv,F,rfl,S'.kept,fun b hb=>(hG b (hFG b hb)).2.symm,
    Rep.frame (Nat.le_refl _) (fun _ _ _=>rfl) (fun _ _=>rfl) (fun b _ hn h=>hn (h.elim (fun h=>(S'.own b).2 (.inl h)) fun h=>(hrep'.owned b h).1)) (fun b hb _=>.inr hb) hrep',ResVals.pv rs (ios (.tk t sh::ps)) q rv (by
    rw [List.all_eq_true] at hrs ⊢
    intro y hy
    have:=hrs y hy
    simp only [Bool.and_eq_true] at this
    exact this.1) h8⟩
   have hm:(fn.results.mapM (resultOf a')).run P w' = .ok (va::rv).toArray w' :=by
    rw [Array.mapM_eq_mapM_toList,hv]
    simp only [Sem.run_map,List.mapM_cons,Sem.run_bind,hrun,Result.andThen_ok,h6,Sem.run_pure]
   unfold results
   have e:(fn.results.mapM fun | .tmp t=>(pure (a'.tmps.getD t undef):Sem Value) | .cell a t=>do loadVar t (←asAddr (a'.tmps.getD a undef)))=fn.results.mapM (resultOf a'):=by
    rfl
   rw [Sem.run_bind]
   refine (congrArg (fun m=>(Sem.run P m w').andThen _) e).trans ?_
   rw [hm]
   simp only [Result.andThen_ok,Sem.run_pure,oneVal]
 rintro e a' w' ⟨σ',γ',φ',O',S',hk⟩
 cases e with
 |normal=>exact fin S' hk
 |ret=>exact fin S' hk
 |exit id=>cases hk
 |goto l=>exact hk.elim
 |panic ch=>exact hk.elim
 |outgrown=>exact hk.elim
end Go.V
namespace Go.V
variable {β:Type}
inductive PS where
 |l | r | at
 deriving DecidableEq
inductive Shape where
 |undef
 |pv (t:Ty)
 |ref (t:Ty) (n:Name) (p:List PS)
 |vw (e:Ty) (n:Name) (p:List PS)
 |ptr (n:Name) (p:List PS)
 |fptr (t:Ty)
 |fnA (a b:Ty)
 |clo (f:FuncId) (l:List Shape)
 |nilS
def PS.dn:List PS→Type→Type
 |[],R=>R
 |.l::p,R=>PS.dn p R
 |.r::p,R=>PS.dn p R
 |.at::p,R=>Nat×PS.dn p R
def PS.mk {R:Type}:(p:List PS)→PS.dn p R→Path×R
 |[],x=>([],x)
 |.l::p,x=>let q:=PS.mk p x;(.l::q.1,q.2)
 |.r::p,x=>let q:=PS.mk p x;(.r::q.1,q.2)
 |.at::p,x=>let q:=PS.mk p x.2;(.at x.1::q.1,q.2)
def PS.un {R:Type}:(p:List PS)→Path→R→(PS.dn p R→Option β)→Option β
 |[],[],x,k=>k x
 |.l::p,.l::q,x,k=>PS.un p q x k
 |.r::p,.r::q,x,k=>PS.un p q x k
 |.at::p,.at n::q,x,k=>PS.un p q x fun y=>k (n,y)
 |_,_,_,_=>none
theorem PS.un_some {R:Type}:∀ (p:List PS) (q:Path) (x:R) {k:PS.dn p R→Option β} {o:β},PS.un p q x k=some o→∃ y,PS.mk p y=(q,x)∧k y=some o
 |[],[],x,k,o,h=>⟨x,rfl,h⟩
 |.l::p,.l::q,x,k,o,h=>by
  obtain ⟨y,h1,h2⟩:=PS.un_some p q x h
  exact ⟨y,by simp only [PS.mk,h1],h2⟩
 |.r::p,.r::q,x,k,o,h=>by
  obtain ⟨y,h1,h2⟩:=PS.un_some p q x h
  exact ⟨y,by simp only [PS.mk,h1],h2⟩
 |.at::p,.at n::q,x,k,o,h=>by
  obtain ⟨y,h1,h2⟩:=PS.un_some p q x (k:=fun y=>k (n,y)) h
  exact ⟨(n,y),by simp only [PS.mk,h1],h2⟩
 |[],_::_,x,k,o,h=>by simp [PS.un] at h
 |.l::_,[],x,k,o,h=>by simp [PS.un] at h
 |.r::_,[],x,k,o,h=>by simp [PS.un] at h
 |.at::_,[],x,k,o,h=>by simp [PS.un] at h
 |.l::_,.r::_,x,k,o,h=>by simp [PS.un] at h
 |.l::_,.at _::_,x,k,o,h=>by simp [PS.un] at h
 |.r::_,.l::_,x,k,o,h=>by simp [PS.un] at h
 |.r::_,.at _::_,x,k,o,h=>by simp [PS.un] at h
 |.at::_,.l::_,x,k,o,h=>by simp [PS.un] at h
 |.at::_,.r::_,x,k,o,h=>by simp [PS.un] at h
mutual
def Shape.dn:Shape→Type→Type
 |.undef,R=>R
 |.pv t,R=>t.den×R
 |.ref _ _ p,R=>PS.dn p R
 |.vw _ _ p,R=>Nat×Nat×PS.dn p R
 |.ptr _ p,R=>PS.dn p R
 |.fptr t,R=>t.den×R
 |.fnA a b,R=>(a.den→Option b.den)×R
 |.clo _ l,R=>Shape.dnL l R
 |.nilS,R=>R
def Shape.dnL:List Shape→Type→Type
 |[],R=>R
 |s::l,R=>Shape.dn s (Shape.dnL l R)
end
mutual
def Shape.mk {R:Type}:(s:Shape)→Shape.dn s R→Slot×R
 |.undef,x=>(.undef,x)
 |.pv t,x=>(.pv ⟨t,x.1⟩,x.2)
 |.ref t n p,x=>let q:=PS.mk p x;(.ref t ⟨n,q.1⟩,q.2)
 |.vw e n p,x=>let q:=PS.mk p x.2.2;(.vw e ⟨n,q.1⟩ x.1 x.2.1,q.2)
 |.ptr n p,x=>let q:=PS.mk p x;(.ptr ⟨n,q.1⟩,q.2)
 |.fptr t,x=>(.fptr ⟨t,x.1⟩,x.2)
 |.fnA a b,x=>(.fnA a b x.1,x.2)
 |.clo f l,x=>let q:=Shape.mkL l x;(.clo f q.1,q.2)
 |.nilS,x=>(.nilS,x)
def Shape.mkL {R:Type}:(l:List Shape)→Shape.dnL l R→List Slot×R
 |[],x=>([],x)
 |s::l,x=>let q:=Shape.mk s x;let q' :=Shape.mkL l q.2;(q.1::q'.1,q'.2)
end
mutual
def Shape.un {R:Type}:(s:Shape)→Slot→R→(Shape.dn s R→Option β)→Option β
 |.undef,.undef,x,k=>k x
 |.pv t,.pv d,x,k=>castK (t' :=t) d.x fun y=>k (y,x)
 |.ref t n p,.ref t' q,x,k=>match decide (t'=t)&&Nat.beq q.name n with
  |true=>PS.un p q.path x k
  |false=>none
 |.vw e n p,.vw e' q lo hi,x,k=>match decide (e'=e)&&Nat.beq q.name n with
  |true=>PS.un p q.path x fun y=>k (lo,hi,y)
  |false=>none
 |.ptr n p,.ptr q,x,k=>match Nat.beq q.name n with
  |true=>PS.un p q.path x k
  |false=>none
 |.fptr t,.fptr d,x,k=>castK (t' :=t) d.x fun y=>k (y,x)
 |.fnA a b,.fnA a' b' φ,x,k=>if h:a'=a∧b'=b then k (h.1▸h.2▸φ,x) else none
 |.clo f l,.clo f' l',x,k=>match Nat.beq f' f with
  |true=>Shape.unL l l' x k
  |false=>none
 |.nilS,.nilS,x,k=>k x
 |_,_,_,_=>none
def Shape.unL {R:Type}:(l:List Shape)→List Slot→R→(Shape.dnL l R→Option β)→Option β
 |[],[],x,k=>k x
 |s::l,s'::l',x,k=>Shape.unL l l' x fun y=>Shape.un s s' y k
 |_,_,_,_=>none
end
mutual
theorem Shape.un_some {R:Type}:∀ (s:Shape) (sl:Slot) (x:R) {k:Shape.dn s R→Option β} {r:β},Shape.un s sl x k=some r→∃ y,Shape.mk s y=(sl,x)∧k y=some r
 |.undef,sl,x,k,r,h=>by
  cases sl<;>simp only [Shape.un] at h<;>try (cases h;done)
  exact ⟨x,rfl,h⟩
 |.nilS,sl,x,k,r,h=>by
  cases sl<;>simp only [Shape.un] at h<;>try (cases h;done)
  exact ⟨x,rfl,h⟩
 |.pv t,sl,x,k,r,h=>by
  cases sl<;>simp only [Shape.un] at h<;>try (cases h;done)
  rename_i d
  obtain ⟨e,h⟩:=castK_some h
  subst e
  exact ⟨(d.x,x),rfl,h⟩
 |.fptr t,sl,x,k,r,h=>by
  cases sl<;>simp only [Shape.un] at h<;>try (cases h;done)
  rename_i d
  obtain ⟨e,h⟩:=castK_some h
  subst e
  exact ⟨(d.x,x),rfl,h⟩
 |.fnA a b,sl,x,k,r,h=>by
  cases sl<;>simp only [Shape.un] at h<;>try (cases h;done)
  split at h
  ·rename_i e
   obtain ⟨rfl,rfl⟩:=e
   exact ⟨(_,x),rfl,h⟩
  ·cases h
 |.ref t n p,sl,x,k,r,h=>by
  cases sl<;>simp only [Shape.un] at h<;>try (cases h;done)
  rename_i t' q
  split at h
  ·rename_i e
   simp only [Bool.and_eq_true,decide_eq_true_eq] at e
   obtain ⟨rfl,e⟩:=e
   obtain ⟨y,h1,h2⟩:=PS.un_some p q.path x h
   obtain ⟨qn,qp⟩:=q
   exact ⟨y,by simp only [Shape.mk,h1];rw [←Nat.eq_of_beq_eq_true e],h2⟩
  ·cases h
 |.vw t n p,sl,x,k,r,h=>by
  cases sl<;>simp only [Shape.un] at h<;>try (cases h;done)
  rename_i t' q lo hi
  split at h
  ·rename_i e
   simp only [Bool.and_eq_true,decide_eq_true_eq] at e
   obtain ⟨rfl,e⟩:=e
   obtain ⟨y,h1,h2⟩:=PS.un_some p q.path x (k:=fun y=>k (lo,hi,y)) h
   obtain ⟨qn,qp⟩:=q
   exact ⟨(lo,hi,y),by simp only [Shape.mk,h1];rw [←Nat.eq_of_beq_eq_true e],h2⟩
  ·cases h
 |.ptr n p,sl,x,k,r,h=>by
  cases sl<;>simp only [Shape.un] at h<;>try (cases h;done)
  rename_i q
  split at h
  ·rename_i e
   obtain ⟨y,h1,h2⟩:=PS.un_some p q.path x h
   obtain ⟨qn,qp⟩:=q
   exact ⟨y,by simp only [Shape.mk,h1];rw [←Nat.eq_of_beq_eq_true e],h2⟩
  ·cases h
 |.clo f l,sl,x,k,r,h=>by
  cases sl<;>simp only [Shape.un] at h<;>try (cases h;done)
  rename_i f' l'
  split at h
  ·rename_i e
   obtain ⟨y,h1,h2⟩:=Shape.unL_some l l' x h
   exact ⟨y,by simp only [Shape.mk,h1];rw [←Nat.eq_of_beq_eq_true e],h2⟩
  ·cases h
theorem Shape.unL_some {R:Type}:∀ (l:List Shape) (sl:List Slot) (x:R) {k:Shape.dnL l R→Option β} {r:β},Shape.unL l sl x k=some r→∃ y,Shape.mkL l y=(sl,x)∧k y=some r
 |[],[],x,k,r,h=>⟨x,rfl,h⟩
 |[],_::_,x,k,r,h=>by simp [Shape.unL] at h
 |_::_,[],x,k,r,h=>by simp [Shape.unL] at h
 |s::l,s'::l',x,k,r,h=>by
  simp only [Shape.unL] at h
  obtain ⟨y,h1,h⟩:=Shape.unL_some l l' x h
  obtain ⟨z,h2,h⟩:=Shape.un_some s s' y h
  exact ⟨z,by simp only [Shape.mkL,h2,h1],h⟩
end
inductive RSh where
 |data (boxed:Bool) (t:Ty) (sh:Sh)
 |held (s:Shape)
def RSh.dn:RSh→Type→Type
 |.data _ t _,R=>t.den×R
 |.held s,R=>s.dn R
def RSh.mk {R:Type}:(s:RSh)→s.dn R→Root×R
 |.data b t sh,x=>(.data b ⟨t,x.1⟩ sh,x.2)
 |.held s,x=>let q:=s.mk x;(.held q.1,q.2)
def RSh.un {R:Type}:(s:RSh)→Root→R→(s.dn R→Option β)→Option β
 |.data b t sh,.data b' d sh',x,k=>match (b==b')&&decide (sh'=sh) with
  |true=>castK (t' :=t) d.x fun y=>k (y,x)
  |false=>none
 |.held s,.held s',x,k=>s.un s' x k
 |_,_,_,_=>none
theorem RSh.un_some {R:Type}:∀ (s:RSh) (ro:Root) (x:R) {k:s.dn R→Option β} {r:β},s.un ro x k=some r→∃ y,s.mk y=(ro,x)∧k y=some r
 |.held s,ro,x,k,r,h=>by
  cases ro<;>simp only [RSh.un] at h<;>try (cases h;done)
  obtain ⟨y,h1,h2⟩:=s.un_some _ x h
  exact ⟨y,by simp only [RSh.mk,h1],h2⟩
 |.data b t sh,ro,x,k,r,h=>by
  cases ro<;>simp only [RSh.un] at h<;>try (cases h;done)
  rename_i b' d sh'
  split at h
  ·rename_i e
   simp only [Bool.and_eq_true,decide_eq_true_eq,beq_iff_eq] at e
   obtain ⟨rfl,rfl⟩:=e
   obtain ⟨e,h⟩:=castK_some h
   subst e
   exact ⟨(d.x,x),rfl,h⟩
  ·cases h
def slotsDn:List (Nat×Shape)→Type→Type
 |[],R=>R
 |s::l,R=>s.2.dn (slotsDn l R)
def slotsMk {R:Type}:(l:List (Nat×Shape))→slotsDn l R→List (Nat×Slot)×R
 |[],x=>([],x)
 |s::l,x=>let q:=s.2.mk x;let q' :=slotsMk l q.2;((s.1,q.1)::q'.1,q'.2)
def slotsUn {R:Type}:(l:List (Nat×Shape))→List (Nat×Slot)→R→(slotsDn l R→Option β)→Option β
 |[],[],x,k=>k x
 |s::l,s'::l',x,k=>match Nat.beq s'.1 s.1 with
  |true=>slotsUn l l' x fun y=>s.2.un s'.2 y k
  |false=>none
 |_,_,_,_=>none
theorem slotsUn_some {R:Type}:∀ (l:List (Nat×Shape)) (l':List (Nat×Slot)) (x:R) {k:slotsDn l R→Option β} {r:β},slotsUn l l' x k=some r→∃ y,slotsMk l y=(l',x)∧k y=some r
 |[],[],x,k,r,h=>⟨x,rfl,h⟩
 |[],_::_,x,k,r,h=>by simp [slotsUn] at h
 |_::_,[],x,k,r,h=>by simp [slotsUn] at h
 |(i,s)::l,(j,s')::l',x,k,r,h=>by
  simp only [slotsUn] at h
  split at h
  ·rename_i e
   obtain ⟨y,h1,h⟩:=slotsUn_some l l' x h
   obtain ⟨z,h2,h⟩:=s.un_some s' y h
   exact ⟨z,by simp only [slotsMk,h2,h1];rw [←Nat.eq_of_beq_eq_true e],h⟩
  ·cases h
def memDn:List (Name×RSh)→Type→Type
 |[],R=>R
 |s::l,R=>s.2.dn (memDn l R)
def memMk {R:Type}:(l:List (Name×RSh))→memDn l R→List (Name×Root)×R
 |[],x=>([],x)
 |s::l,x=>let q:=s.2.mk x;let q' :=memMk l q.2;((s.1,q.1)::q'.1,q'.2)
def memUn {R:Type}:(l:List (Name×RSh))→List (Name×Root)→R→(memDn l R→Option β)→Option β
 |[],[],x,k=>k x
 |s::l,s'::l',x,k=>match Nat.beq s'.1 s.1 with
  |true=>memUn l l' x fun y=>s.2.un s'.2 y k
  |false=>none
 |_,_,_,_=>none
theorem memUn_some {R:Type}:∀ (l:List (Name×RSh)) (l':List (Name×Root)) (x:R) {k:memDn l R→Option β} {r:β},memUn l l' x k=some r→∃ y,memMk l y=(l',x)∧k y=some r
 |[],[],x,k,r,h=>⟨x,rfl,h⟩
 |[],_::_,x,k,r,h=>by simp [memUn] at h
 |_::_,[],x,k,r,h=>by simp [memUn] at h
 |(i,s)::l,(j,s')::l',x,k,r,h=>by
  simp only [memUn] at h
  split at h
  ·rename_i e
   obtain ⟨y,h1,h⟩:=memUn_some l l' x h
   obtain ⟨z,h2,h⟩:=s.un_some s' y h
   exact ⟨z,by simp only [memMk,h2,h1];rw [←Nat.eq_of_beq_eq_true e],h⟩
  ·cases h
structure SSh where
 slots:List (Nat×Shape)
 mem:List (Name×RSh)
def SSh.den (S:SSh):Type:=slotsDn S.slots (memDn S.mem Unit)
def SSh.mk' (S:SSh) (x:S.den):St:=let q:=slotsMk S.slots x;⟨q.1,(memMk S.mem q.2).1⟩
def SSh.un (S:SSh) (σ:St) (k:S.den→Option β):Option β:=
 memUn S.mem σ.mem () fun y=>slotsUn S.slots σ.slots y k
theorem SSh.un_some (S:SSh) (σ:St) {k:S.den→Option β} {r:β} (h:S.un σ k=some r):∃ x,S.mk' x=σ∧k x=some r:=by
 obtain ⟨y,h1,h⟩:=memUn_some S.mem σ.mem () h
 obtain ⟨x,h2,h⟩:=slotsUn_some S.slots σ.slots y h
 exact ⟨x,by simp only [SSh.mk',h2,h1],h⟩
def iter {X:Type} (R:(X→Option β)→X→Option β):Nat→X→Option β
 |0,_=>none
 |k+1,x=>R (iter R k) x
noncomputable def fuel:Nat:=Classical.choose (⟨18446744073709551616,rfl⟩:∃ n,n=18446744073709551616)
theorem fuel_eq:fuel=18446744073709551616:=Classical.choose_spec (⟨18446744073709551616,rfl⟩:∃ n,n=18446744073709551616)
structure LoopS (β:Type) where
 id:Nat
 sh:SSh
 R:Kont β→(sh.den→Option β)→sh.den→Option β
def findL:List (LoopS β)→Nat→Option (LoopS β)
 |[],_=>none
 |L::l,i=>match Nat.beq L.id i with | true=>some L | false=>findL l i
noncomputable def lpOf (tbl:List (LoopS β)) (i:Nat) (κ:Kont β) (σ:St):Option β:=
 match findL tbl i with
 |some L=>L.sh.un σ fun x=>iter (L.R κ) fuel x
 |none=>none
def loopsOf:Code→List Code
 |.seq a b=>loopsOf a++loopsOf b
 |.cond _ a b=>loopsOf a++loopsOf b
 |.block _ c=>loopsOf c
 |.loop c=>c::loopsOf c
 |_=>[]
def RoundOk (env:Env) (tbl:List (LoopS β)) (c:Code):Prop:=
 findL tbl (headId c)=none∨∃ L,findL tbl (headId c)=some L∧∀ (κ:Kont β) (N:St→Option β) (x:L.sh.den),
  execK env (lpOf tbl) c {κ with normal:=fun σ=>N (σ.keepAt env.hints (headId c))} (L.sh.mk' x)=L.R κ (fun x=>N (L.sh.mk' x)) x
theorem loop_sum {env:Env} {tbl:List (LoopS β)} {c:Code} {L:LoopS β}
  (h:∀ (κ:Kont β) (N:St→Option β) (x:L.sh.den),execK env (lpOf tbl) c {κ with normal:=fun σ=>N (σ.keepAt env.hints (headId c))} (L.sh.mk' x)=L.R κ (fun x=>N (L.sh.mk' x)) x)
  (κ:Kont β):∀ k x,loopN env.hints (headId c) (execK env (lpOf tbl) c) κ k (L.sh.mk' x)=iter (L.R κ) k x
 |0,_=>rfl
 |k+1,x=>by
  refine (h κ (loopN env.hints (headId c) (execK env (lpOf tbl) c) κ k) x).trans ?_
  exact congrArg (fun f=>L.R κ f x) (funext fun y=>loop_sum h κ k y)
theorem loopsOk {env:Env} {tbl:List (LoopS β)}:∀ {c:Code},(∀ b,b∈loopsOf c→RoundOk env tbl b)→LoopsOk env (lpOf tbl) c:=by
 intro c
 induction c with
 |seq a b iha ihb=>intro h;exact ⟨iha fun x hx=>h x (List.mem_append.2 (.inl hx)),ihb fun x hx=>h x (List.mem_append.2 (.inr hx))⟩
 |cond v a b iha ihb=>intro h;exact ⟨iha fun x hx=>h x (List.mem_append.2 (.inl hx)),ihb fun x hx=>h x (List.mem_append.2 (.inr hx))⟩
 |block id c ih=>intro h;exact ih h
 |loop c ih=>
  intro h
  refine ⟨ih fun x hx=>h x (List.mem_cons_of_mem _ hx),?_⟩
  intro κ σ r hr
  rcases h c (List.mem_cons_self ..) with hN | ⟨L,hL,hR⟩
  ·unfold lpOf at hr
   rw [hN] at hr
   cases hr
  unfold lpOf at hr
  rw [hL] at hr
  dsimp only at hr
  obtain ⟨x,hx,hq⟩:=L.sh.un_some σ hr
  exact ⟨fuel,by rw [←hx];exact (loop_sum hR κ fuel x).trans hq⟩
 |_=>intro _;trivial
end Go.V
namespace Go.V
def Ty.zcells:Ty→List Value
 |.int k=>[.int k 0]
 |.bool=>[.bool false]
 |.str=>[.string ⟨#[]⟩]
 |.unit=>[]
 |.pair a b=>a.zcells++b.zcells
 |.slice _=>[.slice none 0 0]
theorem rep_zero_flat {w:World} {O:Foot}:∀ (t:Ty) (sh:Sh),t.flat=true→Rep w O t sh t.zero t.zcells Foot.none
 |.int k,_,_=>⟨rfl,fun _ h=>h⟩
 |.bool,_,_=>⟨rfl,fun _ h=>h⟩
 |.str,_,_=>⟨rfl,fun _ h=>h⟩
 |.unit,_,_=>⟨rfl,fun _ h=>h⟩
 |.pair a b,sh,h=>by
  simp only [Ty.flat,Bool.and_eq_true] at h
  exact ⟨a.zcells,b.zcells,Foot.none,Foot.none,rfl,rep_zero_flat a sh.l h.1,rep_zero_flat b sh.r h.2,fun b=>⟨.inl,fun h=>h.elim id id⟩,fun _ h=>h.1⟩
 |.slice _,_,h=>by simp [Ty.flat] at h
theorem rep_zero {w:World} {O:Foot}:∀ (t:Ty),Rep w O t t.ownAll t.zero t.zcells Foot.none
 |.int k=>⟨rfl,fun _ h=>h⟩
 |.bool=>⟨rfl,fun _ h=>h⟩
 |.str=>⟨rfl,fun _ h=>h⟩
 |.unit=>⟨rfl,fun _ h=>h⟩
 |.slice _=>.inl ⟨rfl,rfl,fun _ h=>h⟩
 |.pair a b=>by
  cases hf:(Ty.pair a b).flat with
  |true=>exact rep_zero_flat _ _ hf
  |false=>
   simp only [Ty.flat] at hf
   have e:(Ty.pair a b).ownAll = .pr a.ownAll b.ownAll:=by simp only [Ty.ownAll,hf,Bool.false_eq_true,if_false]
   rw [e]
   exact ⟨a.zcells,b.zcells,Foot.none,Foot.none,rfl,rep_zero a,rep_zero b,fun b=>⟨.inl,fun h=>h.elim id id⟩,fun _ h=>h.1⟩
def sameCell:Value→Value→Bool
 |.int k n,.int k' n' =>decide (k=k')&&decide (n=n')
 |.bool a,.bool b=>a==b
 |.string a,.string b=>a.data.toList.isEmpty&&b.data.toList.isEmpty
 |.slice none 0 0,.slice none 0 0=>true
 |_,_=>false
theorem sameCell_eq {a b:Value} (h:sameCell a b=true):a=b:=by
 unfold sameCell at h
 split at h
 ·simp only [Bool.and_eq_true,decide_eq_true_eq] at h;rw [h.1,h.2]
 ·simp only [beq_iff_eq] at h;rw [h]
 ·rename_i a b
  simp only [Bool.and_eq_true,List.isEmpty_iff] at h
  obtain ⟨⟨a⟩⟩:=a
  obtain ⟨⟨b⟩⟩:=b
  simp only at h
  rw [h.1,h.2]
 ·rfl
 ·cases h
def sameCells:List Value→List Value→Bool
 |[],[]=>true
 |a::l,b::m=>sameCell a b&&sameCells l m
 |_,_=>false
theorem sameCells_eq:∀ {l m:List Value},sameCells l m=true→l=m
 |[],[],_=>rfl
 |a::l,b::m,h=>by
  simp only [sameCells,Bool.and_eq_true] at h
  rw [sameCell_eq h.1,sameCells_eq h.2]
 |[],_::_,h=>by simp [sameCells] at h
 |_::_,[],h=>by simp [sameCells] at h
def zeroC (t:Ty) (z:Option Value):Bool:=
 match z with
 |some v=>match t.agg with
  |true=>match v with
   |.agg cs=>sameCells cs.toList t.zcells
   |_=>false
  |false=>sameCells [v] t.zcells
 |none=>false
theorem zeroC_ok {t:Ty} {z:Option Value} (h:zeroC t z=true):∃ v cs,z=some v∧Val t v cs∧∀ w O,Rep w O t t.ownAll t.zero cs Foot.none:=by
 unfold zeroC at h
 split at h
 case h_2=>cases h
 case h_1 v=>
  refine ⟨v,t.zcells,rfl,?_,fun w O=>rep_zero t⟩
  unfold Val
  split at h
  ·rename_i ha
   rw [ha]
   split at h
   ·rw [←sameCells_eq h]
   ·cases h
  ·rename_i ha
   rw [ha]
   exact (sameCells_eq h).symm
def infoC (P:Program) (t:Ty) (i:TypeId):Bool:=
 match P.info? i with
 |some f=>Nat.beq f.size t.size&&(Nat.ble f.bytes 32768&&zeroC t f.zero)
 |none=>false
theorem infoC_ok {P:Program} {t:Ty} {i:TypeId} (h:infoC P t i=true) :
  ∃ f,P.info? i=some f∧f.size=t.size∧f.bytes≤32768∧∃ z cs,f.zero=some z∧Val t z cs∧∀ w O,Rep w O t t.ownAll t.zero cs Foot.none:=by
 unfold infoC at h
 split at h
 ·rename_i f hf
  simp only [Bool.and_eq_true] at h
  exact ⟨f,hf,Nat.eq_of_beq_eq_true h.1,Nat.le_of_ble_eq_true h.2.1,zeroC_ok h.2.2⟩
 ·cases h
def tyC (P:Program):Ty→(TypeId→Bool)×(List Field→Nat→Bool)
 |.int k=>(fun i=>match P.underlying i with | some (.int k')=>decide (k'=k) | _=>false,fun _ _=>false)
 |.bool=>(fun i=>match P.underlying i with | some .bool=>true | _=>false,fun _ _=>false)
 |.str=>(fun i=>match P.underlying i with | some .string=>true | _=>false,fun _ _=>false)
 |.slice e=>(fun i=>match P.underlying i with | some (.slice j)=>(tyC P e).1 j&&infoC P e j | _=>false,fun _ _=>false)
 |.unit=>(fun i=>match P.underlying i with | some (.struct fs)=>!P.stoodInHeld i&&fs.toList.isEmpty | _=>false,fun fs _=>fs.isEmpty)
 |.pair a b=>
  let q:List Field→Nat→Bool:=fun fs off=>match fs with
   | f :: r => Nat.beq f.offset off && (!(f.name == "_") && ((tyC P a).1 f.type && ((match P.info? f.type with | some i => Nat.beq i.size a.size | none => false) && (tyC P b).2 r (off + a.size))))
   |[]=>false
  (fun i=>match P.underlying i with | some (.struct fs)=>!P.stoodInHeld i&&q fs.toList 0 | _=>false,q)
theorem tyC_ok {P:Program}:∀ {t:Ty},(∀ {i:TypeId},(tyC P t).1 i=true→(TyInfo P t).1 i)∧(∀ {fs:List Field} {off:Nat},(tyC P t).2 fs off=true→(TyInfo P t).2 fs off):=by
 intro t
 induction t with
 |int k=>
  refine ⟨fun {i} h=>?_,fun h=>by simp [tyC] at h⟩
  simp only [tyC] at h
  split at h
  ·rename_i k' hk
   simp only [decide_eq_true_eq] at h
   subst h
   exact hk
  ·cases h
 |bool=>
  refine ⟨fun {i} h=>?_,fun h=>by simp [tyC] at h⟩
  simp only [tyC] at h
  split at h
  ·rename_i hk;exact hk
  ·cases h
 |str=>
  refine ⟨fun {i} h=>?_,fun h=>by simp [tyC] at h⟩
  simp only [tyC] at h
  split at h
  ·rename_i hk;exact hk
  ·cases h
 |slice e ih=>
  refine ⟨fun {i} h=>?_,fun h=>by simp [tyC] at h⟩
  simp only [tyC] at h
  split at h
  ·rename_i j hj
   simp only [Bool.and_eq_true] at h
   exact ⟨j,hj,ih.1 h.1,infoC_ok h.2⟩
  ·cases h
 |unit=>
  refine ⟨fun {i} h=>?_,fun {fs off} h=>?_⟩
  ·simp only [tyC] at h
   split at h
   ·rename_i fs hk
    simp only [Bool.and_eq_true,Bool.not_eq_true',List.isEmpty_iff] at h
    exact ⟨fs,hk,h.1,h.2⟩
   ·cases h
  ·simp only [tyC,List.isEmpty_iff] at h
   exact h
 |pair a b iha ihb=>
  have hq:∀ {fs:List Field} {off:Nat},(tyC P (.pair a b)).2 fs off=true→(TyInfo P (.pair a b)).2 fs off:=by
   intro fs off h
   simp only [tyC] at h
   split at h
   ·rename_i f r
    simp only [Bool.and_eq_true,Bool.not_eq_true'] at h
    obtain ⟨h1,h2,h3,h4,h5⟩:=h
    refine ⟨f,r,rfl,Nat.eq_of_beq_eq_true h1,?_,iha.1 h3,?_,ihb.2 h5⟩
    ·intro e;rw [e] at h2;simp at h2
    ·split at h4
     ·rename_i i hi;exact ⟨i,hi,Nat.eq_of_beq_eq_true h4⟩
     ·cases h4
   ·cases h
  refine ⟨fun {i} h=>?_,hq⟩
  simp only [tyC] at h
  split at h
  ·rename_i fs hk
   rw [Bool.and_eq_true,Bool.not_eq_true'] at h
   exact ⟨fs,hk,h.1,hq (by simp only [tyC];exact h.2)⟩
  ·cases h
def tyOkC (P:Program) (i:TypeId) (t:Ty):Bool:=
 (tyC P t).1 i&&((!t.flat || !(P.eqGuardType P.depth i))&&(Nat.ble t.dep 10000&&infoC P t i))
theorem tyOkC_ok {P:Program} {i:TypeId} {t:Ty} (h:tyOkC P i t=true):V.TyOk P i t:=by
 unfold tyOkC at h
 simp only [Bool.and_eq_true] at h
 obtain ⟨h1,h2,h3,h4⟩:=h
 obtain ⟨f,hf,hs,hb,hz⟩:=infoC_ok h4
 refine ⟨tyC_ok.1 h1,fun hfl=>?_,Nat.le_of_ble_eq_true h3,f,hf,hs,hb,hz⟩
 rw [hfl] at h2
 simpa using h2
def oneC (P:Program) (i:TypeId):Bool:=
 (match P.underlying i with | some (.pointer _) | some (.func _ _ _)=>true | _=>false) &&
 match P.info? i with
 |some f=>Nat.beq f.size 1&&(match f.zero with | some (.agg _)=>false | some _=>true | none=>false)
 |none=>false
theorem oneC_ok {P:Program} {i:TypeId} (h:oneC P i=true):(∀ w,(isAgg i).run P w = .ok false w)∧∃ f,P.info? i=some f∧f.size=1∧∃ z,f.zero=some z∧∀ cs,z≠.agg cs:=by
 unfold oneC at h
 rw [Bool.and_eq_true] at h
 obtain ⟨h1,h2⟩:=h
 constructor
 ·intro w
  unfold isAgg
  split at h1
  ·rename_i hu;simp [run_underlying hu]
  ·rename_i hu;simp [run_underlying hu]
  ·cases h1
 ·split at h2
  ·rename_i f hf
   rw [Bool.and_eq_true] at h2
   refine ⟨f,hf,Nat.eq_of_beq_eq_true h2.1,?_⟩
   have h3:=h2.2
   split at h3
   ·cases h3
   ·rename_i z hz hn;exact ⟨_,hn,fun cs e=>hz cs e⟩
   ·cases h3
  ·cases h2
def tyTab (l:List (TypeId×Ty)) (i:TypeId):Option Ty:=look l i
theorem lookT_mem {α:Type}:∀ {l:List (Nat×α)} {i:Nat} {a:α},look l i=some a→(i,a)∈l
 |[],i,a,h=>by simp [look] at h
 |(j,b)::l,i,a,h=>by
  simp only [look] at h
  split at h
  ·rename_i e
   injection h with h
   rw [h,Nat.eq_of_beq_eq_true e];exact List.mem_cons_self ..
  ·exact List.mem_cons_of_mem _ (lookT_mem h)
def oneTab (m:List TypeId) (i:TypeId):Bool:=m.any (Nat.beq i)
def tysC (P:Program) (l:List (TypeId×Ty)) (m:List TypeId):Bool:=l.all (fun x=>tyOkC P x.1 x.2)&&m.all (oneC P)
theorem tysC_ok {P:Program} {l:List (TypeId×Ty)} {m:List TypeId} (h:tysC P l m=true) {env:Env} (h1:env.ty=tyTab l) (h2:env.one=oneTab m):env.TyOk P:=by
 unfold tysC at h
 rw [Bool.and_eq_true,List.all_eq_true,List.all_eq_true] at h
 constructor
 ·intro i t hi
  rw [h1] at hi
  exact tyOkC_ok (h.1 _ (lookT_mem hi))
 ·intro i hi
  rw [h2] at hi
  simp only [oneTab,List.any_eq_true] at hi
  obtain ⟨j,hj,e⟩:=hi
  rw [Nat.eq_of_beq_eq_true e]
  exact oneC_ok (h.2 _ hj)
def fnTab (l:List (FuncId×Fun)) (f:FuncId):Option Fun:=look l f
theorem Fun.not_both {f:Fun} (h:f.quiet=true):f.fresh=false:=by
 obtain ⟨ps,rs,F⟩:=f
 unfold Fun.quiet at h
 unfold Fun.fresh
 cases rs with
 |nil=>simp
 |cons x rs=>
  obtain ⟨t,sh⟩:=x
  simp only [Bool.and_eq_true,List.all_cons,decide_eq_true_eq] at h
  rw [h.1.2.1]
  simp
inductive Told (P:Program):List (FuncId×Fun)→Prop where
 |nil:Told P []
 |cons {f:FuncId} {fu:Fun} {l:List (FuncId×Fun)} (h:QuietOk P f fu) (r:Told P l) (hq:fu.quiet=true:=by rfl):Told P ((f,fu)::l)
 |consIo {f:FuncId} {fu:Fun} {l:List (FuncId×Fun)} (h:IoOk P f fu) (r:Told P l) (hq:fu.quiet=false:=by rfl) (hr:fu.fresh=false:=by rfl):Told P ((f,fu)::l)
 |consFr {f:FuncId} {fu:Fun} {l:List (FuncId×Fun)} (h:FreshOk P f fu) (r:Told P l) (hq:fu.quiet=false:=by rfl) (hr:fu.fresh=true:=by rfl):Told P ((f,fu)::l)
theorem Told.mem {P:Program} {l:List (FuncId×Fun)} (h:Told P l):∀ {f fu},(f,fu)∈l→(fu.quiet=true→QuietOk P f fu)∧(fu.quiet=false→fu.fresh=false→IoOk P f fu)∧(fu.fresh=true→FreshOk P f fu):=by
 induction h with
 |nil=>intro f fu h;cases h
 |cons hq _ hqq ih=>
  intro f fu h
  cases h with
  |head=>exact ⟨fun _=>hq,(fun e=>by rw [hqq] at e;cases e),fun e=>by rw [Fun.not_both hqq] at e;cases e⟩
  |tail _ h=>exact ih h
 |consIo hq _ hqq hr ih=>
  intro f fu h
  cases h with
  |head=>exact ⟨fun e=>(by rw [hqq] at e;cases e),fun _ _=>hq,fun e=>by rw [hr] at e;cases e⟩
  |tail _ h=>exact ih h
 |consFr hq _ hqq hr ih=>
  intro f fu h
  cases h with
  |head=>exact ⟨fun e=>(by rw [hqq] at e;cases e),fun _ e=>(by rw [hr] at e;cases e),fun _=>hq⟩
  |tail _ h=>exact ih h
inductive ToldX (P:Program):List (FuncId×Fun)→Prop where
 |nil:ToldX P []
 |cons {f:FuncId} {fu:Fun} {l:List (FuncId×Fun)} (h:ExtOk P f fu) (r:ToldX P l):ToldX P ((f,fu)::l)
theorem ToldX.mem {P:Program} {l:List (FuncId×Fun)} (h:ToldX P l):∀ {f fu},(f,fu)∈l→ExtOk P f fu:=by
 induction h with
 |nil=>intro f fu h;cases h
 |cons hq _ ih=>
  intro f fu h
  cases h with
  |head=>exact hq
  |tail _ h=>exact ih h
theorem Told.fnOk {P:Program} {l:List (FuncId×Fun)} (h:Told P l) {env:Env} (he:env.fn=fnTab l) (hx:ToldX P env.ext:=by exact .nil):env.FnOk P:=by
 refine ⟨?_,fun f fu hf=>hx.mem (lookT_mem hf)⟩
 intro f fu hf
 rw [he] at hf
 exact h.mem (lookT_mem hf)
end Go.V
namespace Go.V
variable {α β:Type}
def gd (c:Bool) (k:Option α):Option α:=match c with | true=>k | false=>none
@[simp] theorem gd_true (k:Option α):gd true k=k:=rfl
@[simp] theorem gd_false (k:Option α):gd false k=none:=rfl
inductive RoundsOk (env:Env) (tbl:List (LoopS β)):List Code→Prop where
 |nil:RoundsOk env tbl []
 |cons {c:Code} {l:List Code} (L:LoopS β) (hL:findL tbl (headId c)=some L)
   (h:∀ (κ:Kont β) (N:St→Option β) (x:L.sh.den),execK env (lpOf tbl) c {κ with normal:=fun σ=>N (σ.keepAt env.hints (headId c))} (L.sh.mk' x)=L.R κ (fun x=>N (L.sh.mk' x)) x)
   (r:RoundsOk env tbl l):RoundsOk env tbl (c::l)
 |skip {c:Code} {l:List Code} (hL:findL tbl (headId c)=none) (r:RoundsOk env tbl l):RoundsOk env tbl (c::l)
theorem RoundsOk.all {env:Env} {tbl:List (LoopS β)} {l:List Code} (h:RoundsOk env tbl l):∀ b,b∈l→RoundOk env tbl b:=by
 induction h with
 |nil=>intro b hb;cases hb
 |cons L hL hr _ ih=>
  intro b hb
  cases hb with
  |head=>exact .inr ⟨L,hL,hr⟩
  |tail _ h=>exact ih b h
 |skip hL _ ih=>
  intro b hb
  cases hb with
  |head=>exact .inl hL
  |tail _ h=>exact ih b h
def nthLoop (c:Code) (k:Nat):Code:=((loopsOf c)[k]?).getD .skip
theorem told {P:Program} {env:Env} {f:FuncId} {fn:Func} {c:Code} {ps:List PM} {rs:List (Ty×Sh)} {F:Args ps→Option (Tup (rs.map (·.1)++ios ps))}
  {tbl:List (LoopS (Tup (rs.map (·.1)++ios ps)))} {ls:List Code} {vars:List ResultVar}
  (hf:P.funcs[f]? = some fn) (hty:env.TyOk P) (hfn:env.FnOk P) (hmk:env.marks=[])
  (hb : fn.body = some c) (hname : fn.name ≠ "runtime.NumGoroutine")
  (hn:env.n=fn.ntmps) (hps:ps.length≤fn.ntmps) (hio:ios ps=[]) (hrs:(rs.all fun x=>decide (x.2 = .z))=true)
  (hv:fn.results.toList=vars)
  (hls:loopsOf c=ls) (hlp:RoundsOk env tbl ls)
  (he:runF env ps rs (lpOf tbl) c vars=F):QuietOk P f ⟨ps,rs,F⟩:=by
 subst he
 subst hv
 exact quiet_fn hf hb hname hty hfn hmk hn ps rs hps hio hrs (lpOf tbl) (loopsOk (by rw [hls];exact hlp.all))
theorem toldFr {P:Program} {env:Env} {f:FuncId} {fn:Func} {c:Code} {ps:List PM} {t:Ty} {sh:Sh} {rs:List (Ty×Sh)} {F:Args ps→Option (Tup (((t,sh)::rs).map (·.1)++ios ps))}
  {tbl:List (LoopS (Tup (((t,sh)::rs).map (·.1)++ios ps)))} {ls:List Code} {vars:List ResultVar}
  (hf:P.funcs[f]? = some fn) (hty:env.TyOk P) (hfn:env.FnOk P) (hmk:env.marks=[])
  (hb : fn.body = some c) (hname : fn.name ≠ "runtime.NumGoroutine")
  (hn:env.n=fn.ntmps) (hps:ps.length≤fn.ntmps) (hio:ios ps=[]) (hsh:sh≠.z) (hrs:(rs.all fun x=>decide (x.2 = .z))=true)
  (hv:fn.results.toList=vars)
  (hls:loopsOf c=ls) (hlp:RoundsOk env tbl ls)
  (he:runF env ps ((t,sh)::rs) (lpOf tbl) c vars=F):FreshOk P f ⟨ps,(t,sh)::rs,F⟩:=by
 subst he
 subst hv
 exact fresh_fn hf hb hname hty hfn hmk hn ps t sh rs hps hio hsh hrs (lpOf tbl) (loopsOk (by rw [hls];exact hlp.all))
theorem toldIo {P:Program} {env:Env} {f:FuncId} {fn:Func} {c:Code} {t:Ty} {ps:List PM} {rs:List (Ty×Sh)} {F:Args (.io t .z::ps)→Option (Tup (rs.map (·.1)++ios (.io t .z::ps)))}
  {tbl:List (LoopS (Tup (rs.map (·.1)++ios (.io t .z::ps))))} {ls:List Code} {vars:List ResultVar}
  (hf:P.funcs[f]? = some fn) (hty:env.TyOk P) (hfn:env.FnOk P) (hmk:env.marks=[])
  (hb : fn.body = some c) (hname : fn.name ≠ "runtime.NumGoroutine")
  (hn:env.n=fn.ntmps) (hps:ps.length+1≤fn.ntmps) (hno:noIo ps=true) (hrs:(rs.all fun x=>x.1.flat&&decide (x.2 = .z))=true)
  (hv:fn.results.toList=vars)
  (hls:loopsOf c=ls) (hlp:∀ p,RoundsOk {env with pin:=p} tbl ls)
  (he:∀ p,runF {env with pin:=p} (.io t .z::ps) rs (lpOf tbl) c vars=F):IoOk P f ⟨.io t .z::ps,rs,F⟩:=by
 subst hv
 exact io_fn hf hb hname hty hfn hmk hn t ps rs hps hno hrs F (lpOf tbl) (fun p=>loopsOk (by rw [hls];exact (hlp p).all)) he
theorem toldOwn {P:Program} {env:Env} {f:FuncId} {fn:Func} {c:Code} {e:Ty} {s:Sh} {ps:List PM} {rs:List (Ty×Sh)} {F:Args (.io (.slice e) (.own s)::ps)→Option (Tup (rs.map (·.1)++ios (.io (.slice e) (.own s)::ps)))}
  {tbl:List (LoopS (Tup (rs.map (·.1)++ios (.io (.slice e) (.own s)::ps))))} {ls:List Code} {vars:List ResultVar}
  (hf:P.funcs[f]? = some fn) (hty:env.TyOk P) (hfn:env.FnOk P) (hmk:env.marks=[])
  (hb : fn.body = some c) (hname : fn.name ≠ "runtime.NumGoroutine")
  (hn:env.n=fn.ntmps) (hps:ps.length+1≤fn.ntmps) (hno:noIo ps=true) (hrs:(rs.all fun x=>x.1.flat&&decide (x.2 = .z))=true)
  (hv:fn.results.toList=vars)
  (hls:loopsOf c=ls) (hlp:∀ p,RoundsOk {env with pin:=p} tbl ls)
  (he:∀ p,runF {env with pin:=p} (.io (.slice e) (.own s)::ps) rs (lpOf tbl) c vars=F):IoOk P f ⟨.io (.slice e) (.own s)::ps,rs,F⟩:=by
 subst hv
 exact own_fn hf hb hname hty hfn hmk hn e s ps rs hps hno hrs F (lpOf tbl) (fun p=>loopsOk (by rw [hls];exact (hlp p).all)) he
theorem toldTk {P:Program} {env:Env} {f:FuncId} {fn:Func} {c:Code} {t:Ty} {sh:Sh} {ps:List PM} {rs:List (Ty×Sh)} {F:Args (.tk t sh::ps)→Option (Tup (rs.map (·.1)++ios (.tk t sh::ps)))}
  {tbl:List (LoopS (Tup (rs.map (·.1)++ios (.tk t sh::ps))))} {ls:List Code} {vars:List ResultVar}
  (hf:P.funcs[f]? = some fn) (hty:env.TyOk P) (hfn:env.FnOk P) (hmk:env.marks=[])
  (hb : fn.body = some c) (hname : fn.name ≠ "runtime.NumGoroutine")
  (hn:env.n=fn.ntmps) (hps:ps.length+1≤fn.ntmps) (hno:noIo ps=true) (hrs:(rs.all fun x=>x.1.flat&&decide (x.2 = .z))=true)
  (hv:fn.results.toList=vars)
  (hls:loopsOf c=ls) (hlp:RoundsOk env tbl ls)
  (he:runF env (.tk t sh::ps) rs (lpOf tbl) c vars=F) (hp:env.pin = .none:=by rfl):IoOk P f ⟨.tk t sh::ps,rs,F⟩:=by
 subst he
 subst hv
 exact tk_fn hf hb hname hty hfn hmk hn t sh ps rs hps hno hrs (lpOf tbl) (loopsOk (by rw [hls];exact hlp.all)) hp
def RoundEq (env:Env) (tbl:List (LoopS β)) (L:LoopS β) (c:Code):Prop:=
 ∀ (κ:Kont β) (N:St→Option β) (x:L.sh.den),execK env (lpOf tbl) c {κ with normal:=fun σ=>N (σ.keepAt env.hints (headId c))} (L.sh.mk' x)=L.R κ (fun x=>N (L.sh.mk' x)) x
theorem tQ {P:Program} {f:FuncId} {fn:Func} {ps:List PM} {rs:List (Ty×Sh)} {F:Args ps→Option (Tup (rs.map (·.1)++ios ps))} {l:List (FuncId×Fun)} (env:Env) (tbl:List (LoopS (Tup (rs.map (·.1)++ios ps)))) (ls:List Code)
  (hf:P.funcs[f]? = some fn) (hty:env.TyOk P) (hl:Told P l) (hlp:RoundsOk env tbl ls) (hx:ToldX P env.ext:=by exact .nil) (he1:env.fn=fnTab l:=by rfl) (hmk:env.marks=[]:=by rfl)
  (hb : fn.body = some (codeOf fn) := by kernel_rfl) (hname : fn.name ≠ "runtime.NumGoroutine" := by decide) (hn : env.n = fn.ntmps := by rfl) (hps : ps.length ≤ fn.ntmps := by decide) (hio : ios ps = [] := by rfl)
  (hrs:(rs.all fun x=>decide (x.2 = .z))=true:=by rfl) (hls:loopsOf (codeOf fn)=ls:=by kernel_rfl) (he:runF env ps rs (lpOf tbl) (codeOf fn) fn.results.toList=F:=by kernel_rfl):QuietOk P f ⟨ps,rs,F⟩:=
 told hf hty (Told.fnOk hl he1 hx) hmk hb hname hn hps hio hrs rfl hls hlp he
theorem tF {P:Program} {f:FuncId} {fn:Func} {ps:List PM} {t:Ty} {sh:Sh} {rs:List (Ty×Sh)} {F:Args ps→Option (Tup (((t,sh)::rs).map (·.1)++ios ps))} {l:List (FuncId×Fun)} (env:Env) (tbl:List (LoopS (Tup (((t,sh)::rs).map (·.1)++ios ps)))) (ls:List Code)
  (hf:P.funcs[f]? = some fn) (hty:env.TyOk P) (hl:Told P l) (hlp:RoundsOk env tbl ls) (hx:ToldX P env.ext:=by exact .nil) (he1:env.fn=fnTab l:=by rfl) (hmk:env.marks=[]:=by rfl)
  (hb : fn.body = some (codeOf fn) := by kernel_rfl) (hname : fn.name ≠ "runtime.NumGoroutine" := by decide) (hn : env.n = fn.ntmps := by rfl) (hps : ps.length ≤ fn.ntmps := by decide) (hio : ios ps = [] := by rfl) (hsh : sh ≠ .z := by decide)
  (hrs:(rs.all fun x=>decide (x.2 = .z))=true:=by rfl) (hls:loopsOf (codeOf fn)=ls:=by kernel_rfl) (he:runF env ps ((t,sh)::rs) (lpOf tbl) (codeOf fn) fn.results.toList=F:=by kernel_rfl):FreshOk P f ⟨ps,(t,sh)::rs,F⟩:=
 toldFr hf hty (Told.fnOk hl he1 hx) hmk hb hname hn hps hio hsh hrs rfl hls hlp he
theorem tI {P:Program} {f:FuncId} {fn:Func} {t:Ty} {ps:List PM} {rs:List (Ty×Sh)} {F:Args (.io t .z::ps)→Option (Tup (rs.map (·.1)++ios (.io t .z::ps)))} {l:List (FuncId×Fun)} (env:Env) (tbl:List (LoopS (Tup (rs.map (·.1)++ios (.io t .z::ps))))) (ls:List Code)
  (hf:P.funcs[f]? = some fn) (hty:env.TyOk P) (hl:Told P l) (hlp:∀ p,RoundsOk {env with pin:=p} tbl ls) (hx:ToldX P env.ext:=by exact .nil) (he1:env.fn=fnTab l:=by rfl) (hmk:env.marks=[]:=by rfl)
  (hb : fn.body = some (codeOf fn) := by kernel_rfl) (hname : fn.name ≠ "runtime.NumGoroutine" := by decide) (hn : env.n = fn.ntmps := by rfl) (hps : ps.length + 1 ≤ fn.ntmps := by decide) (hno : noIo ps = true := by rfl)
  (hrs:(rs.all fun x=>x.1.flat&&decide (x.2 = .z))=true:=by rfl) (hls:loopsOf (codeOf fn)=ls:=by kernel_rfl) (he:∀ p,runF {env with pin:=p} (.io t .z::ps) rs (lpOf tbl) (codeOf fn) fn.results.toList=F:=by intro p;kernel_rfl):IoOk P f ⟨.io t .z::ps,rs,F⟩:=
 toldIo hf hty (Told.fnOk hl he1 hx) hmk hb hname hn hps hno hrs rfl hls hlp he
theorem tO {P:Program} {f:FuncId} {fn:Func} {e:Ty} {s:Sh} {ps:List PM} {rs:List (Ty×Sh)} {F:Args (.io (.slice e) (.own s)::ps)→Option (Tup (rs.map (·.1)++ios (.io (.slice e) (.own s)::ps)))} {l:List (FuncId×Fun)} (env:Env) (tbl:List (LoopS (Tup (rs.map (·.1)++ios (.io (.slice e) (.own s)::ps))))) (ls:List Code)
  (hf:P.funcs[f]? = some fn) (hty:env.TyOk P) (hl:Told P l) (hlp:∀ p,RoundsOk {env with pin:=p} tbl ls) (hx:ToldX P env.ext:=by exact .nil) (he1:env.fn=fnTab l:=by rfl) (hmk:env.marks=[]:=by rfl)
  (hb : fn.body = some (codeOf fn) := by kernel_rfl) (hname : fn.name ≠ "runtime.NumGoroutine" := by decide) (hn : env.n = fn.ntmps := by rfl) (hps : ps.length + 1 ≤ fn.ntmps := by decide) (hno : noIo ps = true := by rfl)
  (hrs:(rs.all fun x=>x.1.flat&&decide (x.2 = .z))=true:=by rfl) (hls:loopsOf (codeOf fn)=ls:=by kernel_rfl) (he:∀ p,runF {env with pin:=p} (.io (.slice e) (.own s)::ps) rs (lpOf tbl) (codeOf fn) fn.results.toList=F:=by intro p;kernel_rfl):IoOk P f ⟨.io (.slice e) (.own s)::ps,rs,F⟩:=
 toldOwn hf hty (Told.fnOk hl he1 hx) hmk hb hname hn hps hno hrs rfl hls hlp he
theorem tK {P:Program} {f:FuncId} {fn:Func} {t:Ty} {sh:Sh} {ps:List PM} {rs:List (Ty×Sh)} {F:Args (.tk t sh::ps)→Option (Tup (rs.map (·.1)++ios (.tk t sh::ps)))} {l:List (FuncId×Fun)} (env:Env) (tbl:List (LoopS (Tup (rs.map (·.1)++ios (.tk t sh::ps))))) (ls:List Code)
  (hf:P.funcs[f]? = some fn) (hty:env.TyOk P) (hl:Told P l) (hlp:RoundsOk env tbl ls) (hx:ToldX P env.ext:=by exact .nil) (he1:env.fn=fnTab l:=by rfl) (hmk:env.marks=[]:=by rfl)
  (hb : fn.body = some (codeOf fn) := by kernel_rfl) (hname : fn.name ≠ "runtime.NumGoroutine" := by decide) (hn : env.n = fn.ntmps := by rfl) (hps : ps.length + 1 ≤ fn.ntmps := by decide) (hno : noIo ps = true := by rfl)
  (hrs:(rs.all fun x=>x.1.flat&&decide (x.2 = .z))=true:=by rfl) (hls:loopsOf (codeOf fn)=ls:=by kernel_rfl) (he:runF env (.tk t sh::ps) rs (lpOf tbl) (codeOf fn) fn.results.toList=F:=by kernel_rfl) (hp:env.pin = .none:=by rfl):IoOk P f ⟨.tk t sh::ps,rs,F⟩:=
 toldTk hf hty (Told.fnOk hl he1 hx) hmk hb hname hn hps hno hrs rfl hls hlp he hp
theorem tT {P:Program} {f:FuncId} {fn:Func} {t u:Ty} {sh su:Sh} {ps:List PM} {rs:List (Ty×Sh)} {F:Args (.tk t sh::ps)→Option (Tup (((.slice u,.own su)::rs).map (·.1)++ios (.tk t sh::ps)))} {l:List (FuncId×Fun)} (env:Env) (tbl:List (LoopS (Tup (((.slice u,.own su)::rs).map (·.1)++ios (.tk t sh::ps))))) (ls:List Code)
  (hf:P.funcs[f]? = some fn) (hty:env.TyOk P) (hl:Told P l) (hlp:RoundsOk env tbl ls) (hx:ToldX P env.ext:=by exact .nil) (he1:env.fn=fnTab l:=by rfl) (hmk:env.marks=[]:=by rfl)
  (hb : fn.body = some (codeOf fn) := by kernel_rfl) (hname : fn.name ≠ "runtime.NumGoroutine" := by decide) (hn : env.n = fn.ntmps := by rfl) (hps : ps.length + 1 ≤ fn.ntmps := by decide) (hno : noIo ps = true := by rfl)
  (hrs:(rs.all fun x=>x.1.flat&&decide (x.2 = .z))=true:=by rfl) (hls:loopsOf (codeOf fn)=ls:=by kernel_rfl) (he:runF env (.tk t sh::ps) ((.slice u,.own su)::rs) (lpOf tbl) (codeOf fn) fn.results.toList=F:=by kernel_rfl) (hp:env.pin = .none:=by rfl):IoOk P f ⟨.tk t sh::ps,(.slice u,.own su)::rs,F⟩:=by
 subst he
 exact tf_fn hf hb hname hty (Told.fnOk hl he1 hx) hmk hn t sh ps u su rs hps hno hrs (lpOf tbl) (loopsOk (by rw [hls];exact hlp.all)) hp
theorem QuietOk.none {P : Program} {f : FuncId} {fn : Func} {fu : Fun} (hf : P.funcs[f]? = some fn) (hb : fn.body.isSome = true) (hname : fn.name ≠ "runtime.NumGoroutine") (h : ∀ x, fu.F x = .none) : QuietOk P f fu := by
 refine ⟨⟨fn,hf,hb,hname⟩,?_⟩
 intro w O az vs r _ _ hr
 rw [h] at hr
 cases hr
theorem FreshOk.none {P : Program} {f : FuncId} {fn : Func} {ps : List PM} {t : Ty} {sh : Sh} {rs : List (Ty × Sh)} {F : Args ps → Option (Tup (((t, sh) :: rs).map (·.1) ++ ios ps))} (hf : P.funcs[f]? = some fn) (hb : fn.body.isSome = true) (hname : fn.name ≠ "runtime.NumGoroutine") (h : ∀ x, F x = .none) :
  FreshOk P f ⟨ps,(t,sh)::rs,F⟩:=by
 refine ⟨⟨fn,hf,hb,hname⟩,?_⟩
 intro w O az vs r _ _ hr
 rw [h] at hr
 cases hr
end Go.V
namespace Go.V
def Wf:(t:Ty)→t.den→Prop
 |.int k,n=>(Lit.int k n).wf=true
 |.bool,_=>True
 |.str,l=>(asS l).length≤maxLen
 |.unit,_=>True
 |.pair a b,x=>Wf a x.1∧Wf b x.2
 |.slice e,l=>(asL l).length≤maxLen∧∀ y,y∈asL l→Wf e y
def Ty.pos:Ty→Bool
 |.slice e=>Nat.blt 0 e.size&&e.pos
 |.pair a b=>a.pos&&b.pos
 |_=>true
variable {H:Type} {enc:TypeId×Value→H} {P:Program} {w:World} {spare:Nat→Bool} {held:Bool}
theorem mapM_each {α β:Type} {f:α→Option β}:∀ {l:List α} {ys:List β},l.mapM f=some ys→∀ x,x∈l→∃ y,f x=some y
 |[],_,_,x,hx=>by cases hx
 |a::l,ys,h,x,hx=>by
  rw [List.mapM_cons] at h
  cases h1:f a with
  |none=>rw [h1] at h;cases h
  |some y=>
   rw [h1] at h
   cases h2:l.mapM f with
   |none=>simp [h2] at h
   |some zs=>
    cases hx with
    |head=>exact ⟨y,h1⟩
    |tail _ hx=>exact mapM_each h2 x hx
theorem els_of {e:Ty} {n:Nat} {a:Addr} {Q:e.den→Prop}:∀ (m s:Nat),(∀ k,s≤k→k<s+m→∃ x cs,Rep w Foot.none e .z x cs Foot.none∧Q x∧cs.length=n∧∀ i,i<n→w.cell? ((a.add (k*n)).add i)=cs[i]?)→
  ∃ (xs:List e.den) (cl:List Value),xs.length=m∧Els (Rep w Foot.none e .z) xs cl Foot.none∧(∀ y,y∈xs→Q y)∧cl.length=m*n∧∀ i,i<m*n→w.cell? (a.add (s*n+i))=cl[i]?
 |0,s,_=>⟨[],[],rfl,⟨rfl,fun _ h=>h⟩,fun _ h=>(by cases h),(by simp),fun i hi=>(by omega)⟩
 |m+1,s,h=>by
  obtain ⟨x,cs,hr,hq,hl,hc⟩:=h s (Nat.le_refl _) (by omega)
  obtain ⟨xs,cl,g1,g2,g3,g4,g5⟩:=els_of (a:=a) (Q:=Q) m (s+1) fun k h1 h2=>h k (by omega) (by omega)
  have add_add:∀ p q:Nat,(a.add p).add q=a.add (p+q)∨(p=0∧q=0):=by
   intro p q
   unfold Addr.add
   by_cases hp:p=0
   ·by_cases hq:q=0
    ·exact .inr ⟨hp,hq⟩
    ·left;simp [hp,hq]
   ·left
    by_cases hq:q=0
    ·simp [hp,hq]
    ·simp [hp,hq,Nat.add_assoc]
  refine ⟨x::xs,cs++cl,by simp [g1],⟨cs,cl,Foot.none,Foot.none,rfl,hr,g2,fun b=>⟨.inl,fun h=>h.elim id id⟩,fun _ h=>h.1⟩,?_,?_,?_⟩
  ·intro y hy
   cases hy with
   |head=>exact hq
   |tail _ hy=>exact g3 y hy
  ·rw [List.length_append,hl,g4,Nat.succ_mul];omega
  ·intro i hi
   by_cases hin:i<n
   ·rw [List.getElem?_append_left (by rw [hl];exact hin),←hc i hin]
    rcases add_add (s*n) i with h | ⟨h1,h2⟩
    ·rw [h]
    ·rw [h1,h2];rfl
   ·rw [List.getElem?_append_right (by rw [hl];omega),hl,←g5 (i-n) (by rw [Nat.succ_mul] at hi;omega)]
    congr 2
    rw [Nat.succ_mul];omega
theorem trod_rep:∀ (t:Ty),t.pos=true→
  (∀ {i fuel:Nat} {cs:List Value} {d:DataW H} {ps:List MemPlace},(TyInfo P t).1 i→DataW.trod enc P w 0 spare held fuel i cs=some (d,ps)→P.cellsOf i=t.size→∃ x:t.den,Rep w Foot.none t .z x cs Foot.none∧Wf t x)∧
  (∀ {fs:List Field} {off fuel:Nat} {cs:List Value} {xs:List (DataW H×List MemPlace)},(TyInfo P t).2 fs off→cs.length=off+t.size→
   (fs.mapM fun f=>DataW.trod enc P w 0 spare held fuel f.type ((cs.drop f.offset).take (P.cellsOf f.type)))=some xs→∃ x:t.den,Rep w Foot.none t .z x (cs.drop off) Foot.none∧Wf t x):=by
 intro t
 induction t with
 |int k=>
  intro _
  refine ⟨fun {i fuel cs d ps} hi h _=>?_,fun h=>h.elim⟩
  have hi:P.underlying i=some (.int k):=hi
  cases fuel with
  |zero=>simp [DataW.trod] at h
  |succ fuel=>
   unfold DataW.trod at h
   split at h<;>rename_i h1<;>rw [hi] at h1<;>try (cases h1;done)
   ·injection h1 with h1
    injection h1 with h1
    subst h1
    split at h
    ·rename_i hc
     obtain ⟨rfl,hw⟩:=hc
     exact ⟨_,⟨rfl,fun _ h=>h⟩,hw⟩
    ·cases h
   all_goals cases h
 |bool=>
  intro _
  refine ⟨fun {i fuel cs d ps} hi h _=>?_,fun h=>h.elim⟩
  have hi:P.underlying i=some .bool:=hi
  cases fuel with
  |zero=>simp [DataW.trod] at h
  |succ fuel=>
   unfold DataW.trod at h
   split at h<;>rename_i h1<;>rw [hi] at h1<;>try (cases h1;done)
   ·exact ⟨_,⟨rfl,fun _ h=>h⟩,trivial⟩
   all_goals cases h
 |str=>
  intro _
  refine ⟨fun {i fuel cs d ps} hi h _=>?_,fun h=>h.elim⟩
  have hi:P.underlying i=some .string:=hi
  cases fuel with
  |zero=>simp [DataW.trod] at h
  |succ fuel=>
   unfold DataW.trod at h
   split at h<;>rename_i h1<;>rw [hi] at h1<;>try (cases h1;done)
   ·rename_i s
    split at h
    ·rename_i hs
     refine ⟨s.data.toList,⟨by obtain ⟨⟨l⟩⟩:=s;rfl,fun _ h=>h⟩,?_⟩
     obtain ⟨⟨l⟩⟩:=s
     exact hs
    ·cases h
   all_goals cases h
 |unit=>
  intro _
  refine ⟨fun {i fuel cs d ps} hi h hsz=>?_,fun {fs off fuel cs xs} _ hl _=>?_⟩
  ·obtain ⟨fs,hi,_,hfs⟩:=hi
   cases fuel with
   |zero=>simp [DataW.trod] at h
   |succ fuel=>
    unfold DataW.trod at h
    split at h<;>rename_i h1<;>rw [hi] at h1<;>try (cases h1;done)
    ·split at h
     ·rename_i hlen
      rw [hsz] at hlen
      exact ⟨(),⟨List.eq_nil_of_length_eq_zero hlen,fun _ h=>h⟩,trivial⟩
     ·cases h
    all_goals cases h
  ·exact ⟨(),⟨List.drop_eq_nil_of_le (by rw [hl];exact Nat.le_refl _),fun _ h=>h⟩,trivial⟩
 |pair a b iha ihb=>
  intro hpos
  simp only [Ty.pos,Bool.and_eq_true] at hpos
  have second:∀ {fs:List Field} {off fuel:Nat} {cs:List Value} {xs:List (DataW H×List MemPlace)},(TyInfo P (.pair a b)).2 fs off→cs.length=off+(Ty.pair a b).size→
    (fs.mapM fun f=>DataW.trod enc P w 0 spare held fuel f.type ((cs.drop f.offset).take (P.cellsOf f.type)))=some xs→∃ x:(Ty.pair a b).den,Rep w Foot.none (.pair a b) .z x (cs.drop off) Foot.none∧Wf (.pair a b) x:=by
   intro fs off fuel cs xs hq hl hx
   obtain ⟨f,r,rfl,hoff,_,hta,⟨ii,hii,his⟩,htb⟩:=hq
   rw [List.mapM_cons] at hx
   cases h1:DataW.trod enc P w 0 spare held fuel f.type ((cs.drop f.offset).take (P.cellsOf f.type)) with
   |none=>rw [h1] at hx;cases hx
   |some y=>
    rw [h1] at hx
    cases h2:(r.mapM fun f=>DataW.trod enc P w 0 spare held fuel f.type ((cs.drop f.offset).take (P.cellsOf f.type))) with
    |none=>simp [h2] at hx
    |some ys=>
     have hca:P.cellsOf f.type=a.size:=by unfold Program.cellsOf;rw [hii];exact his
     obtain ⟨x,hrx,hwx⟩:=(iha hpos.1).1 hta (d:=y.1) (ps:=y.2) h1 hca
     obtain ⟨z,hrz,hwz⟩:=(ihb hpos.2).2 htb (by rw [hl];simp only [Ty.size];omega) h2
     refine ⟨(x,z),⟨_,_,Foot.none,Foot.none,?_,hrx,hrz,fun b=>⟨.inl,fun h=>h.elim id id⟩,fun _ h=>h.1⟩,hwx,hwz⟩
     rw [hoff,hca,←List.drop_drop,List.take_append_drop]
  refine ⟨fun {i fuel cs d ps} hi h hsz=>?_,fun hq hl hx=>second hq hl hx⟩
  obtain ⟨fs,hi,_,hq⟩:=hi
  cases fuel with
  |zero=>simp [DataW.trod] at h
  |succ fuel=>
   unfold DataW.trod at h
   split at h<;>rename_i h1<;>rw [hi] at h1<;>try (cases h1;done)
   ·injection h1 with h1
    injection h1 with h1
    subst h1
    split at h
    ·rename_i hlen
     rw [hsz] at hlen
     rw [Option.map_eq_some_iff] at h
     obtain ⟨xs,hxs,_⟩:=h
     have:=second (off:=0) hq (by rw [hlen];omega) hxs
     rwa [List.drop_zero] at this
    ·cases h
   all_goals cases h
 |slice e ih=>
  intro hpos
  simp only [Ty.pos,Bool.and_eq_true] at hpos
  have hsz0:0<e.size:=by simpa using hpos.1
  refine ⟨fun {i fuel cs d ps} hi h _=>?_,fun h=>h.elim⟩
  obtain ⟨j,hi,hj,⟨f,hf,hfs,_⟩⟩:=hi
  have hcells:P.cellsOf j=e.size:=by unfold Program.cellsOf;rw [hf];exact hfs
  cases fuel with
  |zero=>simp [DataW.trod] at h
  |succ fuel=>
   unfold DataW.trod at h
   split at h<;>rename_i h1<;>rw [hi] at h1<;>try (cases h1;done)
   ·exact ⟨[],⟨fun _ h=>h,none,0,rfl,Nat.le_refl _,fun _=>rfl,fun _ h=>(by cases h),.inl rfl⟩,Nat.zero_le _,fun _ h=>(by cases h)⟩
   ·rename_i ad len cap
    injection h1 with h1
    injection h1 with h1
    subst h1
    dsimp only at h
    split at h
    case isFalse=>cases h
    case isTrue hc=>
     obtain ⟨_,hlc,hcm⟩:=hc
     cases hm:((List.range len).mapM fun i=>(w.cells? 0 (ad.add (i*P.cellsOf j)) (P.cellsOf j)).bind (DataW.trod enc P w 0 spare held fuel j)) with
     |none=>rw [hm] at h;cases h
     |some elems=>
      obtain ⟨xs,cl,g1,g2,g3,g4,g5⟩:=els_of (w:=w) (e:=e) (n:=e.size) (a:=ad) (Q:=Wf e) len 0 fun k _ hk=>by
       obtain ⟨y,hy⟩:=mapM_each hm k (by simpa using hk)
       rw [hcells] at hy
       cases hcs:w.cells? 0 (ad.add (k*e.size)) e.size with
       |none=>rw [hcs] at hy;cases hy
       |some cs=>
        rw [hcs] at hy
        obtain ⟨_,hl,hcc⟩:=World.cells?_some hcs
        obtain ⟨x,hr,hw⟩:=(ih hpos.2).1 hj (d:=y.1) (ps:=y.2) hy hcells
        exact ⟨x,cs,hr,hw,hl,hcc⟩
      have hsp:0<len→ad.spot=none∧ad.block<w.heap.size:=by
       intro h0
       have hpos':0<len*e.size:=Nat.mul_pos h0 hsz0
       have hc0:=g5 0 hpos'
       rw [List.getElem?_eq_getElem (by omega)] at hc0
       have ha:ad.add (0*e.size+0)=ad:=by simp [Addr.add]
       rw [ha] at hc0
       unfold World.cell? at hc0
       split at hc0
       ·rename_i C _ _ hb
        refine ⟨?_,(Array.getElem?_eq_some_iff.1 hb).1⟩
        cases hs:ad.spot with
        |none=>rfl
        |some _=>rw [hs] at hc0;simp at hc0
       ·cases hc0
      refine ⟨xs,⟨fun _ h=>h,some ad,cap,by rw [←g1],by rw [←g1] at hlc;exact hlc,fun h=>(by cases h),?_,?_⟩,?_,g3⟩
      ·intro _ _;rfl
      ·by_cases h0:len=0
       ·exact .inl (List.eq_nil_of_length_eq_zero (g1.trans h0))
       ·right
        obtain ⟨hs,hb⟩:=hsp (Nat.pos_of_ne_zero h0)
        obtain ⟨b,off,sp⟩:=ad
        dsimp only at hs hb
        subst hs
        refine ⟨b,off,cl,rfl,hb,fun h=>h,g2,fun i hi=>?_⟩
        rw [←g5 i (by omega)]
        congr 1
        unfold Addr.add
        by_cases hi0:i=0
        ·subst hi0;simp
        ·simp [hi0]
      ·rw [show (asL xs).length=len from g1];omega
   all_goals cases h
end Go.V
namespace Go.V
variable {H:Type} {enc:TypeId×Value→H} {P:Program} {w w':World} {held:Bool} {sp:Nat→Bool}
theorem cells_row {a:Addr} {n:Nat} {cs:List Value} (h:w.cells? 0 a n=some cs) (hs:∀ p∈MemPlace.row a n,w.sameAt w' p):w'.cells? 0 a n=some cs:=
 World.cells?_carry h hs
theorem mapM_len {α β:Type} {f:α→Option β}:∀ {l:List α} {r:List β},l.mapM f=some r→r.length=l.length
 |[],r,h=>by
  rw [List.mapM_nil] at h
  injection h with h
  subst h;rfl
 |a::l,r,h=>by
  rw [List.mapM_cons] at h
  cases h1:f a with
  |none=>rw [h1] at h;cases h
  |some y=>
   rw [h1] at h
   cases h2:l.mapM f with
   |none=>simp [h2] at h
   |some ys=>
    simp only [h2,Option.bind_eq_bind,Option.bind_some,Option.pure_def,Option.some.injEq] at h
    subst h
    simp [mapM_len h2]
theorem trod_again:∀ (t:Ty),t.pos=true→
  (∀ {i fuel:Nat} {cs:List Value} {d:DataW H} {ps:List MemPlace},(TyInfo P t).1 i→P.cellsOf i=t.size→DataW.trod enc P w 0 (fun _=>true) held fuel i cs=some (d,ps)→
   (∀ p∈ps,w.sameAt w' p)→(∀ p∈ps,sp p.block=true)→DataW.trod enc P w' 0 sp held fuel i cs=some (d,ps))∧
  (∀ {fs:List Field} {off fuel:Nat} {cs:List Value} {xs:List (DataW H×List MemPlace)},(TyInfo P t).2 fs off→
   (fs.mapM fun f=>DataW.trod enc P w 0 (fun _=>true) held fuel f.type ((cs.drop f.offset).take (P.cellsOf f.type)))=some xs→
   (∀ p∈xs.flatMap (·.2),w.sameAt w' p)→(∀ p∈xs.flatMap (·.2),sp p.block=true)→
   (fs.mapM fun f=>DataW.trod enc P w' 0 sp held fuel f.type ((cs.drop f.offset).take (P.cellsOf f.type)))=some xs):=by
 intro t
 induction t with
 |int k=>
  intro _
  refine ⟨fun {i fuel cs d ps} hi _ h _ _=>?_,fun h=>h.elim⟩
  have hi:P.underlying i=some (.int k):=hi
  cases fuel with
  |zero=>simp [DataW.trod] at h
  |succ fuel=>
   unfold DataW.trod at h
   split at h<;>rename_i h1<;>rw [hi] at h1<;>try (cases h1;done)
   ·injection h1 with h1
    injection h1 with h1
    subst h1
    unfold DataW.trod
    rw [hi]
    exact h
   all_goals cases h
 |bool=>
  intro _
  refine ⟨fun {i fuel cs d ps} hi _ h _ _=>?_,fun h=>h.elim⟩
  have hi:P.underlying i=some .bool:=hi
  cases fuel with
  |zero=>simp [DataW.trod] at h
  |succ fuel=>
   unfold DataW.trod at h
   split at h<;>rename_i h1<;>rw [hi] at h1<;>try (cases h1;done)
   ·unfold DataW.trod
    rw [hi]
    exact h
   all_goals cases h
 |str=>
  intro _
  refine ⟨fun {i fuel cs d ps} hi _ h _ _=>?_,fun h=>h.elim⟩
  have hi:P.underlying i=some .string:=hi
  cases fuel with
  |zero=>simp [DataW.trod] at h
  |succ fuel=>
   unfold DataW.trod at h
   split at h<;>rename_i h1<;>rw [hi] at h1<;>try (cases h1;done)
   ·unfold DataW.trod
    rw [hi]
    exact h
   all_goals cases h
 |unit=>
  intro _
  refine ⟨fun {i fuel cs d ps} hi _ h hs hq=>?_,fun {fs off fuel cs xs} hf h _ _=>?_⟩
  ·obtain ⟨fs,hi,_,hfs⟩:=hi
   cases fuel with
   |zero=>simp [DataW.trod] at h
   |succ fuel=>
    unfold DataW.trod at h ⊢
    rw [hi] at h ⊢
    dsimp only at h ⊢
    rw [hfs] at h ⊢
    exact h
  ·have hf:fs=[]:=hf
   subst hf
   exact h
 |pair a b iha ihb=>
  intro hpos
  simp only [Ty.pos,Bool.and_eq_true] at hpos
  have second:∀ {fs:List Field} {off fuel:Nat} {cs:List Value} {xs:List (DataW H×List MemPlace)},(TyInfo P (.pair a b)).2 fs off→
    (fs.mapM fun f=>DataW.trod enc P w 0 (fun _=>true) held fuel f.type ((cs.drop f.offset).take (P.cellsOf f.type)))=some xs→
    (∀ p∈xs.flatMap (·.2),w.sameAt w' p)→(∀ p∈xs.flatMap (·.2),sp p.block=true)→
    (fs.mapM fun f=>DataW.trod enc P w' 0 sp held fuel f.type ((cs.drop f.offset).take (P.cellsOf f.type)))=some xs:=by
   intro fs off fuel cs xs hq hx hs hsp
   obtain ⟨f,r,rfl,hoff,_,hta,⟨ii,hii,his⟩,htb⟩:=hq
   rw [List.mapM_cons] at hx ⊢
   cases h1:DataW.trod enc P w 0 (fun _=>true) held fuel f.type ((cs.drop f.offset).take (P.cellsOf f.type)) with
   |none=>rw [h1] at hx;cases hx
   |some y=>
    rw [h1] at hx
    cases h2:(r.mapM fun f=>DataW.trod enc P w 0 (fun _=>true) held fuel f.type ((cs.drop f.offset).take (P.cellsOf f.type))) with
    |none=>simp [h2] at hx
    |some ys=>
     simp only [h2,Option.bind_eq_bind,Option.bind_some,Option.pure_def,Option.some.injEq] at hx
     subst hx
     have hca:P.cellsOf f.type=a.size:=by unfold Program.cellsOf;rw [hii];exact his
     have g1:=(iha hpos.1).1 hta hca (d:=y.1) (ps:=y.2) h1 (fun p hp=>hs p (by simp [hp])) (fun p hp=>hsp p (by simp [hp]))
     have g2:=(ihb hpos.2).2 htb h2 (fun p hp=>hs p (by simp only [List.flatMap_cons,List.mem_append];exact .inr hp)) (fun p hp=>hsp p (by simp only [List.flatMap_cons,List.mem_append];exact .inr hp))
     rw [g1,g2]
     rfl
  refine ⟨fun {i fuel cs d ps} hi hsz h hs hq=>?_,fun hq hx h1 h2=>second hq hx h1 h2⟩
  obtain ⟨fs,hi,_,hq'⟩:=hi
  cases fuel with
  |zero=>simp [DataW.trod] at h
  |succ fuel=>
   unfold DataW.trod at h ⊢
   rw [hi] at h ⊢
   dsimp only at h ⊢
   split at h
   ·rename_i hlen
    rw [if_pos hlen]
    rw [Option.map_eq_some_iff] at h
    obtain ⟨xs,hxs,he⟩:=h
    injection he with he1 he2
    subst he1;subst he2
    rw [second (off:=0) hq' hxs hs hq]
    rfl
   ·cases h
 |slice e ih=>
  intro hpos
  simp only [Ty.pos,Bool.and_eq_true] at hpos
  have hsz0:0<e.size:=by simpa using hpos.1
  refine ⟨fun {i fuel cs d ps} hi _ h hs hq=>?_,fun h=>h.elim⟩
  obtain ⟨j,hi,hj,⟨f,hf,hfs,_⟩⟩:=hi
  have hcells:P.cellsOf j=e.size:=by unfold Program.cellsOf;rw [hf];exact hfs
  cases fuel with
  |zero=>simp [DataW.trod] at h
  |succ fuel=>
   unfold DataW.trod at h
   split at h<;>rename_i h1<;>rw [hi] at h1<;>try (cases h1;done)
   ·unfold DataW.trod
    rw [hi]
    exact h
   ·rename_i ad len cap
    injection h1 with h1
    injection h1 with h1
    subst h1
    dsimp only at h
    split at h
    case isFalse=>cases h
    case isTrue hc=>
     unfold DataW.trod
     rw [hi]
     dsimp only
     rw [if_pos hc]
     simp only [if_true] at h
     cases hm:((List.range len).mapM fun i=>(w.cells? 0 (ad.add (i*P.cellsOf j)) (P.cellsOf j)).bind (DataW.trod enc P w 0 (fun _=>true) held fuel j)) with
     |none=>rw [hm] at h;cases h
     |some elems=>
      rw [hm,Option.bind_some] at h
      cases hr:((List.range (cap-len)).mapM fun k=>(w.cells? 0 (ad.add ((len+k)*P.cellsOf j)) (P.cellsOf j)).bind (DataW.trod enc P w 0 (fun _=>true) held fuel j)) with
      |none=>rw [hr] at h;cases h
      |some rest=>
       rw [hr,Option.map_some] at h
       injection h with h
       injection h with h2 h3
       subst h2;subst h3
       have l1:=mapM_len hm
       have l2:=mapM_len hr
       rw [List.length_range] at l1 l2
       have one:∀ (k:Nat) (y:DataW H×List MemPlace),k<elems.length+rest.length→(∀ p∈y.2,p∈(elems++rest).flatMap (·.2))→
         ((w.cells? 0 (ad.add (k*P.cellsOf j)) (P.cellsOf j)).bind (DataW.trod enc P w 0 (fun _=>true) held fuel j))=some y→
         ((w'.cells? 0 (ad.add (k*P.cellsOf j)) (P.cellsOf j)).bind (DataW.trod enc P w' 0 sp held fuel j))=some y:=by
        intro k y hk hy hh
        cases hcs:w.cells? 0 (ad.add (k*P.cellsOf j)) (P.cellsOf j) with
        |none=>rw [hcs] at hh;cases hh
        |some cs=>
         rw [hcs,Option.bind_some] at hh
         have hrow:∀ p∈MemPlace.row (ad.add (k*P.cellsOf j)) (P.cellsOf j),p∈MemPlace.row ad ((elems.length+rest.length)*P.cellsOf j):=by
          intro p hp
          simp only [MemPlace.row,List.mem_map,List.mem_range] at hp ⊢
          obtain ⟨q,hq1,rfl⟩:=hp
          have hb:(ad.add (k*P.cellsOf j)).block=ad.block:=by unfold Addr.add;split<;>rfl
          have ho:(ad.add (k*P.cellsOf j)).off=ad.off+k*P.cellsOf j:=by
           unfold Addr.add
           split
           ·rename_i h0;rw [h0];rfl
           ·rfl
          refine ⟨k*P.cellsOf j+q,?_,by rw [hb,ho,Nat.add_assoc]⟩
          have:(k+1)*P.cellsOf j≤(elems.length+rest.length)*P.cellsOf j:=Nat.mul_le_mul_right _ hk
          rw [Nat.succ_mul] at this
          omega
         rw [cells_row hcs (fun p hp=>hs p (by simp only [List.mem_append];exact .inl (hrow p hp))),Option.bind_some]
         exact (ih hpos.2).1 hj hcells (d:=y.1) (ps:=y.2) hh (fun p hp=>hs p (by simp only [List.mem_append];exact .inr (hy p hp))) (fun p hp=>hq p (by simp only [List.mem_append];exact .inr (hy p hp)))
       rw [mapM_carry hm fun k y hk hy hh=>one k y (by have:k<len:=(by simpa using hk);omega) (fun p hp=>List.mem_flatMap.2 ⟨y,List.mem_append_left _ hy,hp⟩) hh,Option.bind_some]
       have hrest:∀ k y,k∈List.range (cap-len)→y∈rest→((w.cells? 0 (ad.add ((len+k)*P.cellsOf j)) (P.cellsOf j)).bind (DataW.trod enc P w 0 (fun _=>true) held fuel j))=some y→
         ((w'.cells? 0 (ad.add ((len+k)*P.cellsOf j)) (P.cellsOf j)).bind (DataW.trod enc P w' 0 sp held fuel j))=some y:=fun k y hk hy hh=>
        one (len+k) y (by have:k<cap-len:=(by simpa using hk);omega) (fun p hp=>List.mem_flatMap.2 ⟨y,List.mem_append_right _ hy,hp⟩) hh
       by_cases hlc:cap-len=0
       ·rw [hlc] at hr
        have:rest=[]:=by rw [hlc] at l2;exact List.eq_nil_of_length_eq_zero l2
        subst this
        cases sp ad.block
        ·rfl
        ·rw [hlc];rfl
       ·have hsp:sp ad.block=true:=by
         refine hq (.cell ad.block ad.off) ?_
         simp only [List.mem_append]
         left
         simp only [MemPlace.row,List.mem_map,List.mem_range]
         refine ⟨0,?_,rfl⟩
         rw [hcells]
         exact Nat.mul_pos (by omega) hsz0
        rw [hsp,if_pos rfl,mapM_carry hr hrest]
        rfl
   all_goals cases h
theorem kept_but (h:Kept Foot.none w w') (may:MemPlace→Prop):w.keptBut w' may:=by
 refine ⟨h.os,h.output,fun i hi=>?_⟩
 rw [h.block i hi fun hf=>hf]
 cases w.heap[i]? with
 |none=>rfl
 |some o=>cases o<;>first | rfl | exact ⟨rfl,rfl,rfl,fun _ _=>rfl⟩ | exact .inr ⟨rfl,rfl⟩
theorem kept_same (h:Kept Foot.none w w') {p:MemPlace} (hp:p.block<w.heap.size):w.sameAt w' p:=by
 cases p with
 |cell b off=>
  show w'.cell? _=w.cell? _
  unfold World.cell?
  rw [h.block b hp fun hf=>hf]
 |map b=>exact h.block b hp fun hf=>hf
theorem val_cells {t:Ty} {i:TypeId} {v:Value} {r:Reach} {base:Nat} (h:(TyInfo P t).1 i) (hv:Value.okWide P w r base i v):Val t v v.cells.toList:=by
 cases t with
 |int k=>obtain ⟨n,rfl⟩:=WideShapes.okWide_int (show P.underlying i=some (.int k) from h) hv;rfl
 |bool=>obtain ⟨n,rfl⟩:=WideShapes.okWide_bool (show P.underlying i=some .bool from h) hv;rfl
 |str=>obtain ⟨n,rfl⟩:=WideShapes.okWide_string (show P.underlying i=some .string from h) hv;rfl
 |slice e=>obtain ⟨j,hj,_⟩:=h;obtain ⟨a,l,c,rfl⟩:=WideShapes.okWide_slice hj hv;rfl
 |unit=>obtain ⟨fs,hj,_⟩:=h;obtain ⟨cs,rfl,_⟩:=WideShapes.okWide_struct hj hv;simp [Val,Ty.agg,Value.cells]
 |pair a b=>obtain ⟨fs,hj,_⟩:=h;obtain ⟨cs,rfl,_⟩:=WideShapes.okWide_struct hj hv;simp [Val,Ty.agg,Value.cells]
def roAll:List Ty→List PM
 |[]=>[]
 |t::ts=>.ro t::roAll ts
def WfAll:(ts:List Ty)→Args (roAll ts)→Prop
 |[],_=>True
 |t::ts,az=>Wf t az.1∧WfAll ts az.2
def TyAll (P:Program):List Ty→List TypeId→Prop
 |[],[]=>True
 |t::ts,i::is=>TyOk P i t∧t.pos=true∧TyAll P ts is
 |_,_=>False
theorem args_read:∀ (ts:List Ty) (is:List TypeId) (vs:List Value) (ds:List (DataW H)) (ps:List MemPlace) {r:Reach} {base:Nat},TyAll P ts is→
  (∀ (j:Nat) t v,is[j]? = some t→vs[j]? = some v→Value.okWide P w r base t v)→DataW.TrodAll enc P w 0 (fun _=>true) held is vs ds ps→
  ∃ az:Args (roAll ts),ArgsOk P w Foot.none (roAll ts) az vs∧WfAll ts az∧ds.length=ts.length∧
   ∀ (w':World) (sp:Nat→Bool),(∀ p∈ps,w.sameAt w' p)→(∀ p∈ps,sp p.block=true)→DataW.TrodAll enc P w' 0 sp held is vs ds ps
 |[],[],vs,ds,ps,r,base,_,_,h=>by
  match vs,ds,h with
  |[],[],h=>exact ⟨(),rfl,trivial,rfl,fun _ _ _ _=>h⟩
 |t::ts,i::is,vs,ds,ps,r,base,ht,hok,h=>by
  match vs,ds,h with
  |v::vs,d::ds,⟨p,q,⟨fuel,hd⟩,hrest,e⟩=>
   subst e
   obtain ⟨hty,hpos,hts⟩:=ht
   obtain ⟨az,g1,g2,g3,g4⟩:=args_read ts is vs ds q hts (fun j t v h1 h2=>hok (j+1) t v (by simpa using h1) (by simpa using h2)) hrest
   obtain ⟨h1,_,_,f,hf,hfs,_⟩:=hty
   have hc:P.cellsOf i=t.size:=by unfold Program.cellsOf;rw [hf];exact hfs
   obtain ⟨x,hx,hw⟩:=(trod_rep t hpos).1 h1 hd hc
   refine ⟨(x,az),⟨v,vs,_,rfl,val_cells h1 (hok 0 i v rfl rfl),hx,g1⟩,⟨hw,g2⟩,by simp [g3],fun w' sp hs hq=>?_⟩
   exact ⟨p,q,⟨fuel,(trod_again t hpos).1 h1 hc hd (fun x hx=>hs x (List.mem_append_left _ hx)) (fun x hx=>hq x (List.mem_append_left _ hx))⟩,g4 w' sp (fun x hx=>hs x (List.mem_append_right _ hx)) (fun x hx=>hq x (List.mem_append_right _ hx)),rfl⟩
theorem law_contract {f:FuncId} {fn:Func} {s:ChangeSpec} {ts:List Ty} {F:Args (roAll ts)→Option (Tup ([(Ty.bool,Sh.z)].map (·.1)++ios (roAll ts)))} {tb:TypeId}
  (hq:QuietOk P f ⟨roAll ts,[(.bool,.z)],F⟩) (law:∀ az,WfAll ts az→∃ r,F az=some r∧r.1=true) (hty:TyAll P ts fn.params.toList)
  (hres:fn.resultTypes = #[tb]) (htb:P.underlying tb=some .bool) (hvars:s.vars=[])
  (hspec:∀ (ds:List (DataW H)),ds.length=ts.length→s.fn H ds={results:=[.lit (.bool true)],args:=ds})
  {fresh handsOn apart:Bool} (W:World) (base:Nat) (args:Array Value) (ds gs:List (DataW H)) (before:List MemPlace)
  (hval:∀ (j:Nat) t v,fn.params[j]? = some t→args[j]? = some v→Value.okWide P W .any base t v)
  (hW:DataW.Whole enc P fn.params.toList s.vars apart W args.toList ds gs before) :
  Calls P f args W fun e W' =>∃ v,e = .returned v∧s.post enc P fn apart fresh handsOn false W args v W' :=by
 have hW' :=hW
 have hlt:=hW.lt
 obtain ⟨p,q,hA,hV,rfl,hfz,hnd⟩:=hW
 rw [hvars] at hV
 obtain ⟨rfl,rfl⟩:gs=[]∧q=[]:=by
  cases gs with
  |nil=>exact ⟨rfl,hV⟩
  |cons g r=>exact absurd hV (by intro h;cases h)
 obtain ⟨az,g1,g2,g3,g4⟩:=args_read ts fn.params.toList args.toList ds p hty (fun j t v h1 h2=>hval j t v (by simpa using h1) (by simpa using h2)) hA
 obtain ⟨r,hr,hr1⟩:=law az g2
 have hc:=hq.2 W Foot.none az args.toList r (fun _ h=>h.elim) g1 hr
 rw [Array.toArray_toList] at hc
 refine hc.mono fun e W' ⟨rv,he,hk,hrv⟩=>?_
 obtain ⟨v,vs',cs,rfl,hv,hrep,h3⟩:=hrv
 have h3:vs'=[]:=h3
 subst h3
 have h1:cs=[v]:=hv
 have h2:cs=[.bool r.1]:=hrep.1
 rw [h1] at h2
 injection h2 with h2 _
 subst h2
 have hsame:∀ x∈p,W.sameAt W' x:=fun x hx=>kept_same hk (hlt x (by simpa using hx))
 have hold:∀ x∈p,(fun b=>decide (b<W.heap.size)) x.block=true:=fun x hx=>by simpa using hlt x (by simpa using hx)
 refine ⟨_,he,ds,[],p++[],[],p,[],hW',?_,?_,?_,kept_but hk _,fun h=>by cases h⟩
 ·rw [List.append_nil,hspec ds g3,hres,hr1]
  exact ChangeShapes.trodAll_mk1 (RowKit.shut_bool htb true)
 ·rw [List.append_nil,hspec ds g3]
  exact g4 W' _ hsame hold
 ·rw [List.append_nil,hspec ds g3,hvars];rfl
end Go.V
namespace Go.V
set_option linter.unusedVariables false
set_option linter.unusedSimpArgs false
def ResUp {α:Type} (d:Nat):Result α→Prop
 |.ok _ w=>d≤w.drawn
 |.halt _ w=>d≤w.drawn
def GUp (d:Nat):GStep→Prop
 |.go _ w _ | .comm _ _ _ _ w _ | .spawn _ _ w _ | .count _ w _ | .timer _ _ w _ | .alone _ _ w _ | .newcoro _ _ _ w _ | .coroswitch _ _ _ w _ | .collect _ w _ | .watch _ w _=>d≤w.drawn
 |.ended ..=>True
def SUp (d:Nat):Stepped→Prop
 |.next m=>d≤m.world.drawn
 |.ended ..=>True
def MUp (d:Nat):Move→Prop
 |.goroutine m _=>d≤m.world.drawn
 |.machine s _=>SUp d s
theorem ask_up {α:Type}:∀ (a:Ask α) (w:World) (d:Nat),d≤w.drawn→d≤(w.ask a).2.drawn:=by
 intro a
 induction a with
 |done a=>intro w d h;exact h
 |ask what range k ih=>
  intro w d h
  unfold World.ask
  dsimp only
  split
  ·exact ih _ _ _ h
  ·exact ih _ _ _ (Nat.le_succ_of_le h)
theorem sys_up (w:World) (c:Sys) {d:Nat} (h:d≤w.drawn):d≤(w.sys c).2.drawn:=by
 have:=ask_up (Kernel.perform c w.os) w d h
 unfold World.sys
 split
 ·exact h
 ·rename_i e;rw [e] at this;exact this
theorem view_up {p:Program} {w:World} {at_:Addr} {u:TypeId} {a:Addr} {v:Value} {b:Bool} {r:World×List Addr} (h:w.viewStore p at_ u a v b = .ok r):r.1.drawn=w.drawn:=by
 unfold World.viewStore at h
 simp only [bind,Except.bind,pure,Except.pure,throw,throwThe,MonadExceptOf.throw] at h
 repeat' split at h
 all_goals first | (cases h;done) | (cases h;rfl) | skip
theorem far_up {p:Program} {w:World} {a:Addr} {v:Value} {b:Bool} {r:World×List Addr} (h:w.farStore p a v b = .ok r):r.1.drawn=w.drawn:=by
 unfold World.farStore at h
 split at h
 ·split at h
  ·rename_i e;cases h;exact view_up e
  ·cases h
 ·cases h
theorem freeze_up (w:World) (a:Addr) (n:Nat):(w.freeze a n).drawn=w.drawn:=by unfold World.freeze;split<;>rfl
theorem runT_up {α:Type} (p:Program):∀ (s:Sem α) (w:World) (es:Array Event) (d:Nat),d≤w.drawn→ResUp d (s.runT p w es).1:=by
 intro s
 induction s with
 |pure a=>intro w es d h;exact h
 |load m a k ih=>
  intro w es d h
  unfold Sem.runT
  split
  ·exact ih _ _ _ _ h
  ·split
   ·exact ih _ _ _ _ h
   ·exact h
 |store m a v k ih=>
  intro w es d h
  cases v<;>first
   |exact h
   |(simp only [Sem.runT];split;(split;exact h;exact ih _ _ _ h);split;(rename_i e;exact ih _ _ _ (by have:=far_up e;dsimp only at this;rw [this];exact h));exact h)
 |new o k ih=>intro w es d h;exact ih _ _ _ _ h
 |shape r k ih=>intro w es d h;exact ih _ _ _ _ h
 |freeze a n k ih=>intro w es d h;exact ih _ _ _ (by rw [freeze_up];exact h)
 |frozen a k ih=>intro w es d h;exact ih _ _ _ _ h
 |getObj r k ih=>
  intro w es d h
  unfold Sem.runT
  split
  ·exact h
  ·exact ih _ _ _ _ h
  ·exact h
 |setObj r o k ih=>
  intro w es d h
  unfold Sem.runT
  split
  ·exact h
  ·exact ih _ _ _ h
  ·exact h
 |choose q k ih=>
  intro w es d h
  unfold Sem.runT
  split
  ·exact ih _ _ _ _ h
  ·exact ih _ _ _ _ (Nat.le_succ_of_le h)
 |sys c k ih=>intro w es d h;exact ih _ _ _ _ (sys_up w c h)
 |program k ih=>intro w es d h;exact ih _ _ _ _ h
 |mark m k ih=>intro w es d h;exact ih _ _ _ h
 |halt x=>intro w es d h;exact h
theorem run_up {α:Type} (p:Program) (s:Sem α) (w:World) (d:Nat) (h:d≤w.drawn):ResUp d (s.run p w):=by
 have:=runT_up p s w #[] d h
 rwa [Sem.runT_fst] at this
theorem run_ok {α:Type} {p:Program} {s:Sem α} {w w':World} {a:α} {d:Nat} (e:s.run p w = .ok a w') (h:d≤w.drawn):d≤w'.drawn:=by
 have:=run_up p s w d h;rw [e] at this;exact this
theorem run_halt {α:Type} {p:Program} {s:Sem α} {w w':World} {a:Halt} {d:Nat} (e:s.run p w = .halt a w') (h:d≤w.drawn):d≤w'.drawn:=by
 have:=run_up p s w d h;rw [e] at this;exact this
theorem runT_ok {α:Type} {p:Program} {s:Sem α} {w w':World} {es es':Array Event} {a:α} {d:Nat} (e:s.runT p w es=(.ok a w',es')) (h:d≤w.drawn):d≤w'.drawn:=by
 have:=runT_up p s w es d h;rw [e] at this;exact this
theorem runT_halt {α:Type} {p:Program} {s:Sem α} {w w':World} {es es':Array Event} {a:Halt} {d:Nat} (e:s.runT p w es=(.halt a w',es')) (h:d≤w.drawn):d≤w'.drawn:=by
 have:=runT_up p s w es d h;rw [e] at this;exact this
theorem after_up (d:Nat) (es:Array Event) (s:GStep):GUp d (GStep.after es s)↔GUp d s:=by cases s<;>exact Iff.rfl
theorem ite_up {c:Prop} [Decidable c] {a b:GStep} {d:Nat} (ha:GUp d a) (hb:GUp d b):GUp d (if c then a else b):=by
 split
 ·exact ha
 ·exact hb
theorem elim_up {β:Type} {o:Option β} {a:GStep} {f:β→GStep} {d:Nat} (ha:GUp d a) (hf:∀ x,GUp d (f x)):GUp d (o.elim a f):=by
 cases o
 ·exact ha
 ·exact hf _
theorem runT_1ok {α:Type} {p:Program} {s:Sem α} {w w':World} {es:Array Event} {a:α} {d:Nat} (e:(s.runT p w es).1 = .ok a w') (h:d≤w.drawn):d≤w'.drawn:=by
 have:=runT_up p s w es d h;rw [e] at this;exact this
theorem runT_1halt {α:Type} {p:Program} {s:Sem α} {w w':World} {es:Array Event} {a:Halt} {d:Nat} (e:(s.runT p w es).1 = .halt a w') (h:d≤w.drawn):d≤w'.drawn:=by
 have:=runT_up p s w es d h;rw [e] at this;exact this
theorem dieOf_up {fr:Frame} {a:List ByteArray} {m:String} {b:Bool} {w:World} {d:Nat} (h:d≤w.drawn):GUp d (dieOf fr a m b w):=h
theorem endThrow_up {fr:Frame} {m:String} {w:World} {d:Nat} (h:d≤w.drawn):GUp d (endThrow fr m w):=h
theorem endPrinting_up {p:Program} {fr:Frame} {v:Value} {w:World} {d:Nat} (h:d≤w.drawn):GUp d (endPrinting p fr v w):=by
 unfold endPrinting
 dsimp only
 split
 ·exact h
 ·trivial
theorem endWith_up {w:World} {fd:Nat} {t:ByteArray} {o:Outcome} {d:Nat}:GUp d (endWith w fd t o):=by
 unfold endWith
 dsimp only
 split
 ·split<;>trivial
 ·trivial
 ·trivial
theorem endFatal_up {p:Program} {fr:Frame} {cs:List Frame} {dy:Option Dying} {m:String} {w:World} {d:Nat} (h:d≤w.drawn):GUp d (endFatal p fr cs dy m w):=by
 unfold endFatal
 dsimp only
 split
 ·rename_i e;exact dieOf_up (run_ok e h)
 ·trivial
 ·trivial
theorem doReturn_up {p:Program} {main:Bool} {fr:Frame} {cs:List Frame} {dy:Option Dying} {v:Value} {w:World} {d:Nat} (h:d≤w.drawn):GUp d (doReturn p main fr cs dy v w):=by
 unfold doReturn
 repeat' first
  |exact h
  |trivial
  |split
theorem writeOn_up {p:Program} {fr:Frame} {dy:Dying} {f:Fatal} {w:World} {d:Nat} (h:d≤w.drawn):GUp d (writeOn p fr dy f w):=by
 unfold writeOn
 dsimp only
 split
 ·trivial
 ·split
  ·rename_i e;exact runT_ok e h
  ·rename_i e;exact runT_halt e h
  ·trivial
  ·trivial
theorem die_up {p:Program} {fr:Frame} {dy:Dying} {w:World} {d:Nat} (h:d≤w.drawn):GUp d (die p fr dy w):=by
 unfold die
 split
 ·exact writeOn_up h
 ·split
  ·split
   ·exact h
   ·exact endWith_up
  ·dsimp only
   split
   ·exact h
   ·split
    ·rename_i e;exact run_ok e h
    ·trivial
   ·rename_i t recv name _
    have hr:=runT_up p (invoke (.fn (.method name) #[]) #[.iface t recv]) w #[] d h
    rw [after_up]
    split
    ·rename_i e;rw [e] at hr;exact hr
    ·rename_i e;rw [e] at hr;exact hr
    ·trivial
    ·rename_i e;rw [e] at hr;exact endPrinting_up hr
    ·trivial
   ·trivial
theorem callDeferred_up {p:Program} {fr:Frame} {cs:List Frame} {dy:Option Dying} {df:Deferred} {w:World} {d:Nat} (h:d≤w.drawn):GUp d (callDeferred p fr cs dy df w):=by
 unfold callDeferred
 refine ite_up trivial ?_
 have hr:=runT_up p (invoke df.target df.args) w #[] d h
 generalize (invoke df.target df.args).runT p w #[]=x at hr ⊢
 obtain ⟨r,es⟩:=x
 dsimp only at hr ⊢
 rw [after_up]
 split
 all_goals first
  |exact hr
  |trivial
  |exact endFatal_up hr
  |exact endThrow_up hr
  |(split<;>exact hr)
theorem early_up {p:Program} {fr:Frame} {cs:List Frame} {dy:Option Dying} {g:Nat} {w:World} {d:Nat} (h:d≤w.drawn):GUp d (early p fr cs dy g w):=by
 have nY:∀ w:World,d≤w.drawn→GUp d (match w.heap[g]? with
  |some (.pending c elem)=>.go {frame:=fr,callers:=cs,status:=.running,dying:=dy} {w with heap:=w.heap.setIfInBounds g (.cells c elem)}
  | _ => .ended (.stuck "early: the variable does not wait" (fr.pos p)) w) := by
  intro w h
  split
  ·exact h
  ·trivial
 unfold early
 dsimp only
 repeat' first
  |exact nY _ h
  |exact h
  |trivial
  |(rename_i e;exact nY _ (run_ok e h))
  |(rename_i e;exact run_ok e h)
  |(rename_i e _;exact run_ok e h)
  |split
theorem apply_up {p:Program} {l:Bool} {fr:Frame} {cs:List Frame} {dy:Option Dying} {s:Sem Next} {w:World} {d:Nat} (h:d≤w.drawn):GUp d (stepG.apply p l fr cs dy s w):=by
 unfold stepG.apply
 dsimp only
 rw [after_up]
 have hr:ResUp d (if l then s.runT p w #[] else (s.run p w,#[])).1:=by
  cases l
  ·exact run_up p s w d h
  ·exact runT_up p s w #[] d h
 generalize (if l then s.runT p w #[] else (s.run p w,#[])).1=r at hr
 split
 all_goals first
  |exact hr
  |trivial
  |exact endFatal_up hr
  |exact endThrow_up hr
  |exact early_up hr
  |exact ite_up (endThrow_up hr) hr
  |(split<;>exact hr)
theorem oper_up {p:Program} {l:Bool} {fr:Frame} {cs:List Frame} {dy:Option Dying} {w:World} {d:Nat} (h:d≤w.drawn):GUp d (stepG.oper p l fr cs dy w):=by
 unfold stepG.oper
 split
 ·trivial
 ·split<;>exact apply_up h
theorem exec_up {p:Program} {main l:Bool} {fr:Frame} {cs:List Frame} {dy:Option Dying} {w:World} {d:Nat} (h:d≤w.drawn):GUp d (stepG.exec p main l fr cs dy w):=by
 unfold stepG.exec
 dsimp only
 split
 all_goals repeat' first
  |exact h
  |trivial
  |exact apply_up h
  |exact oper_up h
  |rw [after_up]
  |refine ite_up ?_ ?_
  |refine elim_up ?_ fun _=>?_
  |(rename_i e;exact doReturn_up (runT_1ok e h))
  |(rename_i e;exact apply_up (runT_1ok e h))
  |(rename_i e;exact run_ok e h)
  |(rename_i e;exact runT_1ok e h)
  |(rename_i e;exact runT_1halt e h)
  |split
theorem unwind_up {p:Program} {main:Bool} {fr:Frame} {cs:List Frame} {dy:Option Dying} {w:World} {d:Nat} (h:d≤w.drawn):GUp d (unwind p main fr cs dy w):=by
 unfold unwind
 repeat' first
  |exact h
  |trivial
  |exact callDeferred_up h
  |exact endPrinting_up h
  |exact doReturn_up h
  |dsimp only
  |rw [after_up]
  |refine ite_up ?_ ?_
  |(rename_i e;exact doReturn_up (runT_1ok e h))
  |(rename_i e;exact run_ok e h)
  |(rename_i e;exact runT_1ok e h)
  |(rename_i e;exact runT_1halt e h)
  |split
theorem stepG_up {p:Program} {main l:Bool} {g:Goroutine} {w:World} {d:Nat} (h:d≤w.drawn):GUp d (stepG p main g w l):=by
 unfold stepG
 split
 ·split
  ·exact die_up h
  ·exact exec_up h
  ·exact unwind_up h
end Go.V
namespace Go.V
set_option linter.unusedVariables false
set_option linter.unusedSimpArgs false
theorem communicate_up {p:Program} {rest:Rest} {gs:Array Goroutine} {i:Nat} {g:Goroutine} {cases:Array CommCase} {blocking:Bool}
  {shape:CommShape} {w:World} {d:Nat} (h:d≤w.drawn):SUp d (communicate p rest gs i g cases blocking shape w).1:=by
 have hw:∀ w',waitingAt rest cases w=some w' →d≤w'.drawn:=by
  intro w' e
  unfold waitingAt at e
  split at e
  ·split at e
   ·cases e;exact h
   ·cases e
  ·cases e;exact h
 unfold communicate
 dsimp only
 repeat' first
  |exact h
  |trivial
  |(rename_i e;exact hw _ e)
  |(rename_i e;exact run_ok e h)
  |(rename_i e;have h:=run_ok e h)
  |(rename_i e _ _;have h:=run_ok e h)
  |split
theorem look_up {p:Program} {gs:Array Goroutine} {rest:Rest} {w:World} {d:Nat} (h:d≤w.drawn):SUp d (Go.look p gs rest w):=by
 unfold Go.look
 split
 ·dsimp only
  split
  ·trivial
  ·split
   ·trivial
   ·split
    ·rename_i e;have:=run_ok e h;exact this
    ·trivial
    ·trivial
 ·trivial
theorem drain_up {w:World} {c:Nat}:(drain w c).2.drawn=w.drawn:=by
 unfold drain
 split<;>rfl
theorem retime_up {m:Machine} {k:Nat} {t:Timer} {a b:Nat}:(retime m k t a b).2.world.drawn=m.world.drawn:=by
 unfold retime
 split
 rename_i e
 show _=_
 split at e
 ·have:=congrArg (·.2.drawn) e
  dsimp only at this ⊢
  rw [←this,drain_up]
 ·cases e;rfl
theorem named_up {m m':Machine} {var:Addr} {f:Nat→Timer→Value×Machine} {v:Value} {d:Nat} (hf:∀ k t,(f k t).2.world.drawn=d) (e:timerOp.named m var f = .ok (v,m')):m'.world.drawn=d:=by
 unfold timerOp.named at e
 split at e
 ·have e:=Except.ok.inj e
  have h2:=congrArg (fun x:Value×Machine=>x.2.world.drawn) e
  exact h2.symm.trans (hf _ _)
 ·cases e
theorem timerOp_up {m:Machine} {op:TimerOp} {v:Value} {m':Machine} (e:timerOp m op = .ok (v,m')):m'.world.drawn=m.world.drawn:=by
 cases op with
 |new t=>
  simp only [timerOp] at e
  repeat' first
   |(cases e;rfl)
   |(cases e;done)
   |split at e
 |stop var=>exact named_up (fun _ _=>retime_up) e
 |reset var a b=>
  simp only [timerOp] at e
  split at e
  ·rename_i m1 e1
   have:m1.world.drawn=m.world.drawn:=by
    unfold timerOp.opened at e1
    repeat' first
     |(cases e1;rfl)
     |(cases e1;done)
     |split at e1
   exact named_up (fun _ _=>retime_up.trans this) e
  ·cases e
 |deadline c r wr a=>simp only [timerOp] at e;cases e;rfl
theorem runT'_up {p:Program} {m:Machine} {i:Nat} {b:Bool} {d:Nat} (h:d≤m.world.drawn):SUp d (runT p m i b).1:=by
 simp only [runT]
 generalize m.gs.swapAt! _ _=gg
 have hs:GUp d (stepG p (i==0) gg.1 m.world b):=stepG_up h
 generalize stepG p _ gg.1 m.world b=s at hs
 cases s
 all_goals dsimp only
 all_goals repeat' first
  |exact hs
  |trivial
  |exact communicate_up hs
  |exact look_up hs
  |(rename_i m1 e;have e2:=timerOp_up e;exact (show d≤m1.world.drawn from e2▸hs))
  |split
theorem serve_up {p:Program} {m:Machine} {k:Nat} {d:Nat} (h:d≤m.world.drawn):SUp d (serve p m k):=by
 unfold serve
 repeat' first
  |exact h
  |trivial
  |dsimp only
  |split
theorem askOn_up {p:Program} {m:Machine} {d:Nat} (h:d≤m.world.drawn):MUp d (askOn p m):=by
 unfold askOn
 dsimp only
 repeat' first
  |exact h
  |trivial
  |exact serve_up h
  |(rename_i e;have h:=run_ok e h;exact h)
  |(rename_i e;have h:=run_ok e h;exact serve_up h)
  |(rename_i e;have h:=run_ok e h)
  |split
theorem ask'_up {p:Program} {m:Machine} {d:Nat} (h:d≤m.world.drawn):MUp d (ask p m):=by
 unfold ask
 split
 ·split
  ·trivial
  ·rename_i e
   have h:=run_ok e h
   split
   ·rename_i e2
    have:=look_up (p:=p) (gs:=m.gs) (rest:=m.rest) h
    rw [e2] at this
    exact askOn_up this
   ·rename_i e2
    exact look_up h
  ·rename_i e
   exact askOn_up (run_ok e h)
 ·exact askOn_up h
theorem move_up {p:Program} {m:Machine} {d:Nat} (h:d≤m.world.drawn):MUp d (move p m):=by
 unfold move
 repeat' first
  |exact h
  |trivial
  |exact ask'_up h
  |split
theorem step_up {p:Program} {m m':Machine} (e:step p m = .next m'):m.world.drawn≤m'.world.drawn:=by
 have:SUp m.world.drawn (step p m):=by
  unfold step stepT
  have:=move_up (p:=p) (Nat.le_refl m.world.drawn)
  split
  ·rename_i e;rw [e] at this;exact runT'_up this
  ·rename_i e;rw [e] at this;exact this
 rw [e] at this
 exact this
theorem runN_up {p:Program}:∀ {n:Nat} {m m':Machine},runN p n m = .next m' →m.world.drawn≤m'.world.drawn
 |0,m,m',e=>by cases e;exact Nat.le_refl _
 |n+1,m,m',e=>by
  unfold runN at e
  split at e
  ·rename_i e1;exact Nat.le_trans (step_up e1) (runN_up e)
  ·rename_i h1;exact absurd e (by intro e;exact h1 _ e)
theorem calls_up {P:Program} {f:FuncId} {args:Array Value} {w:World} {R:Ending→World→Prop} (h:Calls P f args w R) :
  Calls P f args w fun e w' =>R e w' ∧(e = .outgrown∨w.drawn≤w'.drawn):=by
 intro cs
 obtain ⟨e,w',fr,hr,hc,hf,hl⟩:=h cs
 refine ⟨e,w',fr,⟨hr,?_⟩,hc,hf,hl⟩
 cases e with
 |outgrown=>exact .inl rfl
 |returned v=>obtain ⟨n,hn⟩:=hc;exact .inr (runN_up hn)
 |panicked c=>obtain ⟨n,hn⟩:=hc;exact .inr (runN_up hn)
end Go.V
namespace Go.V
open Go.Sort Go.Proofs Go.Shelf
set_option linter.unusedVariables false
variable {P:Program} {w w':World} {O O':Foot}
theorem Kept.grown (K:Kept Foot.none w w') (h:w.drawn≤w'.drawn):∃ q os,w'=grow (w.drewN q) os:=by
 refine ⟨w'.drawn-w.drawn,w'.heap.extract w.heap.size w'.heap.size,?_⟩
 obtain ⟨heap,tape,drawn,os,output⟩:=w
 obtain ⟨heap',tape',drawn',os',output'⟩:=w'
 have k1:os'=os:=K.os
 have k2:tape'=tape:=K.tape
 have k3:output'=output:=K.output
 have k4:heap.size≤heap'.size:=K.size
 have k5:=K.block
 subst k1 k2 k3
 dsimp only at h
 have e1:drawn'=drawn+(drawn'-drawn):=by omega
 have e2:heap'=heap++heap'.extract heap.size heap'.size:=by
  apply Array.ext_getElem?
  intro i
  by_cases hi:i<heap.size
  ·rw [Array.getElem?_append_left hi];exact k5 i hi fun h=>h
  ·rw [Array.getElem?_append_right (by omega),Array.getElem?_extract]
   by_cases h2:i<heap'.size
   ·rw [if_pos (by omega)];congr 1;omega
   ·rw [if_neg (by omega),Array.getElem?_eq_none (by omega)]
 unfold grow World.drewN
 rw [←e1,←e2]
theorem elsOf {α β:Type} {R:β→List Value→Foot→Prop} {k:Nat} (enc:α→List Value) (f:α→β):∀ (ds:List α) (cells:List Value),cells.length=ds.length*k→
  (∀ i d,ds[i]? = some d→∀ c,c<k→cells[i*k+c]? = (enc d)[c]?)→(∀ d,d∈ds→(enc d).length=k∧R (f d) (enc d) Foot.none)→Els R (ds.map f) cells Foot.none
 |[],cells,hl,_,_=>by
  have:cells=[]:=by simpa using hl
  subst this
  exact ⟨rfl,fun _ h=>h⟩
 |d::ds,cells,hl,hc,hr=>by
  obtain ⟨h1,h2⟩:=hr d (by simp)
  have hl':cells.length=ds.length*k+k:=by rw [hl,List.length_cons,Nat.succ_mul]
  refine ⟨cells.take k,cells.drop k,Foot.none,Foot.none,(List.take_append_drop k cells).symm,?_,elsOf enc f ds (cells.drop k) (by simp;omega) (fun i d' hd c hck=>?_) (fun d hd=>hr d (by simp [hd])),fun _=>by simp [Foot.none],fun _ h=>h.1⟩
  ·have:cells.take k=enc d:=by
    apply List.ext_getElem?
    intro c
    by_cases hck:c<k
    ·rw [List.getElem?_take,if_pos hck]
     have:=hc 0 d (by simp) c hck
     simpa using this
    ·rw [List.getElem?_take,if_neg hck,List.getElem?_eq_none (by omega)]
   rw [this];exact h2
  ·rw [List.getElem?_drop]
   have:=hc (i+1) d' (by simpa using hd) c hck
   rw [←this]
   congr 1
   rw [Nat.succ_mul];omega
theorem Els.at_ {β:Type} {R:β→List Value→Foot→Prop} {sz:Nat} (hR:∀ x c F,R x c F→c.length=sz) (hN:∀ x c F,R x c F→R x c Foot.none) {xs:List β} {cs:List Value} {F:Foot} (h:Els R xs cs F) {i:Nat} {x:β} (hx:xs[i]? = some x) :
  R x ((cs.drop (i*sz)).take sz) Foot.none:=by
 obtain ⟨_,F',h1,_⟩:=Els.pick hR h hx
 exact hN _ _ _ h1
def cmpAt {α:Type} (G:α→α→Option Int) (l:List α) (i j:Fin l.length):Int:=(G l[i] l[j]).getD 0
open Classical in
noncomputable def sortF {α:Type} (G:α→α→Option Int) (l:List α):Option (List α):=
 if h:l.length≤lim∧(∀ i j:Fin l.length,G l[i] l[j]=some (cmpAt G l i j))∧SWO (ltOf (cmpAt G l)) then
  if h0:0<l.length then
   haveI:Inhabited (Fin l.length):=⟨⟨0,h0⟩⟩
   some ((pdq (ltOf (cmpAt G l)) (Array.ofFn id:Array (Fin l.length)) 0 l.length (Lib.bitLen l.length) true true).toList.map fun i=>l[i])
  else some []
 else none
def CmpOk (P:Program) (g:FuncId) (e:Ty) (ts:List Ty) (G:e.den→e.den→Tup ts→Option Int):Prop:=
 (∃ fn, P.funcs[g]? = some fn ∧ fn.body.isSome = true ∧ fn.name ≠ "runtime.NumGoroutine") ∧
 ∀ (w:World) (O:Foot) (x y:e.den) (vx vy:Value) (cx cy:List Value) (xs:Tup ts) (cv:List Value) z,(∀ b,O b→b<w.heap.size)→Val e vx cx→Rep w O e .z x cx Foot.none→Val e vy cy→Rep w O e .z y cy Foot.none→PtrsOk w O ts xs cv→G x y xs=some z→
  Calls P g (#[vx,vy]++cv.toArray) w fun r w' =>r = .returned (.int .i64 z)∧Kept Foot.none w w'
def rpArgs:(ts:List Ty)→Tup ts→Args (ts.map PM.rp)
 |[],_=>()
 |_::ts,xs=>(xs.1,rpArgs ts xs.2)
theorem rpArgs_ok:∀ (ts:List Ty) (xs:Tup ts) (cv:List Value),PtrsOk w O ts xs cv→ArgsOk P w O (ts.map PM.rp) (rpArgs ts xs) cv
 |[],_,_,h=>h
 |t::ts,xs,_,⟨v,vs,e,h1,h2⟩=>⟨v,vs,e,h1,rpArgs_ok ts xs.2 vs h2⟩
theorem putCells_get (off:Nat) (F C:Array Value) {t:Nat} (h:t<F.size) (hc:off+t<C.size):(putCells id off F C)[off+t]? = some F[t]!:=by
 simp only [putCells,Array.getElem?_mapIdx,Array.getElem?_eq_getElem hc,Option.map_some]
 rw [if_pos ⟨by omega,by omega⟩,show off+t-off=t by omega];rfl
theorem putCells_size (off:Nat) (F C:Array Value):(putCells id off F C).size=C.size:=by simp [putCells]
section
variable {α:Type} [Inhabited α] (enc:α→List Value) (k:Nat) (b off m:Nat) (d:Array α) (os:Array Obj)
theorem sw_other {j:Nat} (hj:j<w.heap.size) (hb:j≠b):(sortWorldK enc k w b off m d os).heap[j]? = w.heap[j]?:=by
 unfold sortWorldK grow putRowK putRow mapBlock Sort.ahead
 dsimp only
 rw [Array.getElem?_append_left (by simpa using hj),Array.getElem?_modify,if_neg fun h=>hb h.symm]
theorem sw_block {C:Array Value} {tid:TypeId} {fr:Nat×Nat} (h:w.heap[b]? = some (.cells C tid fr)):(sortWorldK enc k w b off m d os).heap[b]? = some (.cells (putCells id off (flatK enc k d) C) tid fr):=by
 have hb:b<w.heap.size:=(Array.getElem?_eq_some_iff.1 h).1
 unfold sortWorldK grow putRowK putRow mapBlock Sort.ahead
 dsimp only
 rw [Array.getElem?_append_left (by simpa using hb),Array.getElem?_modify,if_pos rfl,h]
 rfl
theorem sw_size:w.heap.size≤(sortWorldK enc k w b off m d os).heap.size:=by
 unfold sortWorldK grow putRowK putRow mapBlock Sort.ahead
 simp
theorem sw_kept {G:Foot} (hG:G b):Kept G w (sortWorldK enc k w b off m d os):=
 ⟨rfl,rfl,rfl,sw_size enc k b off m d os,fun j hj hn=>sw_other enc k b off m d os hj fun e=>hn (e▸hG)⟩
end
theorem res_i64 {r:Int} {rv:List Value} (h:ResVals w O [(.int .i64,.z)] [] (r,()) rv):valOf rv = .int .i64 r:=by
 obtain ⟨v,vs',cs,rfl,hv,hr,rfl⟩:=h
 have e1:cs=[v]:=hv
 have e2:cs=[.int .i64 r]:=hr.1
 rw [e1] at e2
 exact (List.cons.inj e2).1
theorem cmp_ok0 {g:FuncId} {e:Ty} {F:Args [.ro e,.ro e]→Option (Int×Unit)} (Q:QuietOk P g ⟨[.ro e,.ro e],[(.int .i64,.z)],F⟩):CmpOk P g e [] (fun x y _=>(F (x,y,())).map (·.1)):=by
 refine ⟨Q.1,fun w O x y vx vy cx cy xs cv z hO h1 h2 h3 h4 hp hz=>?_⟩
 obtain ⟨r,hr,rfl⟩:=Option.map_eq_some_iff.1 hz
 have hp:cv=[]:=hp
 subst hp
 refine (Q.2 w O (x,y,()) [vx,vy] r hO ⟨vx,_,cx,rfl,h1,h2,vy,_,cy,rfl,h3,h4,rfl⟩ hr).mono ?_
 rintro _ w' ⟨rv,rfl,K,hv⟩
 exact ⟨congrArg _ (res_i64 hv),K⟩
theorem cmp_ok1 {g:FuncId} {e t:Ty} {F:Args [.ro e,.ro e,.rp t]→Option (Int×Unit)} (Q:QuietOk P g ⟨[.ro e,.ro e,.rp t],[(.int .i64,.z)],F⟩):CmpOk P g e [t] (fun x y xs=>(F (x,y,xs.1,())).map (·.1)):=by
 refine ⟨Q.1,fun w O x y vx vy cx cy xs cv z hO h1 h2 h3 h4 hp hz=>?_⟩
 obtain ⟨r,hr,rfl⟩:=Option.map_eq_some_iff.1 hz
 obtain ⟨v,vs,rfl,h5,rfl⟩:=hp
 refine (Q.2 w O (x,y,xs.1,()) [vx,vy,v] r hO ⟨vx,_,cx,rfl,h1,h2,vy,_,cy,rfl,h3,h4,v,_,rfl,h5,rfl⟩ hr).mono ?_
 rintro _ w' ⟨rv,rfl,K,hv⟩
 exact ⟨congrArg _ (res_i64 hv),K⟩
theorem sort_core {ρ:Ren} (L:SlLaysF0.n6 P ρ) {e:Ty} {g:FuncId} {ts:List Ty} {G:e.den→e.den→Tup ts→Option Int} (he:e.agg=true)
  (aE:∀ w,(isAgg (ρ.t 24)).run P w = .ok true w) (zE:∀ w,(Go.sizeOf (ρ.t 24)).run P w = .ok e.size w) (C:CmpOk P g e ts G)
  {x:List e.den} {xs:Tup ts} {cv:List Value} {b off cap:Nat} {Cb:Array Value} {tid:TypeId} {fr:Nat×Nat} {F':Foot} (h0:0<x.length) (hlim:x.length≤lim)
  (hcmp:∀ i j:Fin x.length,G x[i] x[j] xs=some (cmpAt (fun x y=>G x y xs) x i j)) (hswo:SWO (ltOf (cmpAt (fun x y=>G x y xs) x))) (hp:PtrsOk w O ts xs cv)
  (hcap:x.length≤cap) (hb:w.heap[b]? = some (.cells Cb tid fr)) (hfr:∀ i,i<Cb.size→¬(fr.1≤i∧i<fr.2)) (hsz:off+cap*e.size≤Cb.size)
  (hels:Els (Rep w O e .z) x ((Cb.toList.drop off).take (x.length*e.size)) F') (hOb:O b) :
  haveI:Inhabited (Fin x.length):=⟨⟨0,h0⟩⟩
  Calls P (ρ.f 6) #[.slice (some ⟨b,off,none⟩) x.length cap,.func (.func g) #[] cv.toArray] w fun r w' =>r = .returned (.tuple #[])∧Kept (fun c=>c=b) w w' ∧
   ∃ C',w'.heap[b]? = some (.cells C' tid fr)∧C'.size=Cb.size∧∀ O',(∀ c,c<w.heap.size→¬O c→¬O' c)→
    Els (Rep w' O' e .z) ((pdq (ltOf (cmpAt (fun x y=>G x y xs) x)) (Array.ofFn id:Array (Fin x.length)) 0 x.length (Lib.bitLen x.length) true true).toList.map fun i=>x[i]) ((C'.toList.drop off).take (x.length*e.size)) Foot.none:=by
 letI:Inhabited (Fin x.length):=⟨⟨0,h0⟩⟩
 have hlen:=fun (y:e.den) (c:List Value) (F:Foot) (h:Rep w O e .z y c F)=>h.len
 obtain ⟨cs,hcs⟩:∃ cs,(Cb.toList.drop off).take (x.length*e.size)=cs:=⟨_,rfl⟩
 rw [hcs] at hels
 obtain ⟨enc,henc⟩:∃ enc:Fin x.length→List Value,enc=fun i=>(cs.drop (i.val*e.size)).take e.size:=⟨_,rfl⟩
 have hE:∀ i,Rep w O e .z x[i] (enc i) Foot.none:=fun i=>by
  rw [henc]
  exact hels.at_ hlen (fun _ _ _ h=>Rep.zN _ _ _ h) (by simp)
 have hk:∀ i,(enc i).length=e.size:=fun i=>(hE i).len
 have h1:∀ i,∀ v∈enc i,v.oneCell'=true:=fun i=>Rep.ones rfl (hE i)
 have hbw:b<w.heap.size:=(Array.getElem?_eq_some_iff.1 hb).1
 have hfull:off+x.length*e.size≤Cb.size:=by have:=Nat.mul_le_mul_right e.size hcap;omega
 have hget:∀ t,t<x.length*e.size→Cb[off+t]? = cs[t]?:=fun t ht=>by
  rw [←hcs,List.getElem?_take,if_pos ht,List.getElem?_drop,Array.getElem?_toList]
 have hcsl:cs.length=x.length*e.size:=by rw [←hcs];simp;omega
 have henc2:∀ i:Fin x.length,∀ c,c<e.size→(enc i)[c]! = cs[i.val*e.size+c]!:=fun i c hc=>by
  rw [henc]
  simp only [List.getElem!_eq_getElem?_getD,List.getElem?_take,if_pos hc,List.getElem?_drop]
 have dv:∀ t,t<x.length*e.size→t / e.size<x.length:=fun t ht=>Nat.div_lt_of_lt_mul (by rw [Nat.mul_comm];exact ht)
 have hH:HoldsK enc e.size w b off (Array.ofFn (id:Fin x.length→Fin x.length)):=by
  intro t ht
  have ht:t<x.length*e.size:=by simpa using ht
  have hpos:0<e.size:=by
   rcases Nat.eq_zero_or_pos e.size with h | h
   ·rw [h] at ht;omega
   ·exact h
  have hq:=dv t ht
  rw [get_flatK _ _ _ _ (by simpa using ht)]
  have e1:(Array.ofFn (id:Fin x.length→Fin x.length))[t / e.size]! = ⟨t / e.size,hq⟩:=by
   rw [getElem!_pos _ _ (by simpa using hq)];simp
  rw [e1,henc2 _ _ (Nat.mod_lt _ hpos),Nat.div_add_mod']
  constructor
  ·unfold World.cell?
   simp only [hb]
   rw [if_neg (by simp),hget t ht]
   rw [List.getElem!_eq_getElem?_getD,List.getElem?_eq_getElem (by omega)];rfl
  ·unfold World.frozen?
   simp only [hb]
   have:=hfr (off+t) (by omega)
   simpa using this
 have eg:∀ args w,(callFunc g args).run P w = .ok (.enter g args) w:=fun args w=>by
  obtain ⟨fn,f1,f2,f3⟩:=C.1
  exact run_callFunc_enter f1 f2 f3 args w
 have hV:∀ i,Val e (.agg (enc i).toArray) (enc i):=fun i=>by unfold Val;rw [he]
 have hL:CmpLays P g cv.toArray enc e.size (cmpAt (fun x y=>G x y xs) x) b off (Array.ofFn (id:Fin x.length→Fin x.length)).size w:=by
  intro m os dk hs i j
  have K:Kept (fun c=>c=b) w (sortWorldK enc e.size w b off m dk os):=sw_kept enc e.size b off m dk os rfl
  have fr2:∀ i,Rep (sortWorldK enc e.size w b off m dk os) Foot.none e .z x[i] (enc i) Foot.none:=fun i=>
   Rep.frame K.size (fun c hc hn=>K.block c hc fun ho=>hn (ho▸hOb)) (fun _ h=>h.elim) (fun _ _ _ h=>h) (fun _ h=>h.elim) (hE i)
  refine (calls_up (C.2 _ Foot.none x[i] x[j] _ _ _ _ xs cv _ (fun _ h=>h.elim) (hV i) (fr2 i) (hV j) (fr2 j) (hp.kept K fun c hc=>hc▸hOb) (hcmp i j))).mono ?_
  rintro r w' ⟨⟨rfl,K'⟩,hd⟩
  exact ⟨rfl,K'.grown (hd.resolve_left fun h=>by cases h)⟩
 have main:=AnyQ.slices_SortFunc_eq L e.size aE zE enc hk h1 _ hswo g cv.toArray b off cap (Array.ofFn (id:Fin x.length→Fin x.length)) w eg hL hH hbw (by simp [lim] at hlim ⊢;omega)
 rw [Array.size_ofFn] at main
 refine main.mono ?_
 rintro r w' ⟨rfl,m,os,rfl⟩
 obtain ⟨d',hd'⟩:∃ d',pdq (ltOf (cmpAt (fun x y=>G x y xs) x)) (Array.ofFn id:Array (Fin x.length)) 0 x.length (Lib.bitLen x.length) true true=d' :=⟨_,rfl⟩
 rw [hd']
 have hds:d'.size=x.length:=by
  have:=(pdq_sorts (ltOf (cmpAt (fun x y=>G x y xs) x)) hswo (Array.ofFn id:Array (Fin x.length)) 0 x.length (Lib.bitLen x.length) true true (Nat.zero_le _) (by simp) (Or.inl rfl)).1.1
  rw [hd'] at this
  simpa using this
 refine ⟨rfl,sw_kept enc e.size b off m d' os rfl,_,sw_block enc e.size b off m d' os hb,putCells_size _ _ _,fun O' hO' =>?_⟩
 have K:Kept (fun c=>c=b) w (sortWorldK enc e.size w b off m d' os):=sw_kept enc e.size b off m d' os rfl
 refine elsOf (k:=e.size) enc (fun i=>x[i]) d'.toList _ (by simp [putCells_size,hds];omega) (fun i d hd c hc=>?_) (fun d _=>⟨hk d,Rep.frame K.size (fun c hc hn=>K.block c hc fun ho=>hn (ho▸hOb)) (fun _ h=>h.elim) hO' (fun _ h=>h.elim) (hE d)⟩)
 have hi:i<x.length:=by
  have:=(List.getElem?_eq_some_iff.1 hd).1
  simpa [hds] using this
 have ht:i*e.size+c<x.length*e.size:=by
  have:=Nat.mul_le_mul_right e.size (show i+1≤x.length from hi)
  rw [Nat.succ_mul] at this
  omega
 rw [List.getElem?_take,if_pos ht,List.getElem?_drop,Array.getElem?_toList,putCells_get off _ _ (by simpa [hds] using ht) (by omega),get_flatK _ _ _ _ (by rw [hds];exact ht)]
 have q1:(i*e.size+c) / e.size=i:=(blk_iff e.size i _ (by omega)).1 ⟨by omega,by omega⟩
 have q2:(i*e.size+c) % e.size=c:=by rw [Nat.mod_eq_sub_div_mul,q1];omega
 rw [q1,q2]
 have q3:d'[i]! = d:=by
  rw [getElem!_pos _ _ (by omega)]
  rw [Array.getElem?_toList] at hd
  exact (Array.getElem?_eq_some_iff.1 hd).2
 rw [q3,List.getElem!_eq_getElem?_getD,List.getElem?_eq_getElem (by rw [hk];exact hc)];rfl
theorem sort_ok {ρ:Ren} (L:SlLaysF0.n6 P ρ) {e:Ty} {g:FuncId} {ts:List Ty} {G:e.den→e.den→Tup ts→Option Int} (he:e.agg=true)
  (aE:∀ w,(isAgg (ρ.t 24)).run P w = .ok true w) (zE:∀ w,(Go.sizeOf (ρ.t 24)).run P w = .ok e.size w)
  (hf : ∃ fn, P.funcs[ρ.f 6]? = some fn ∧ fn.body.isSome = true ∧ fn.name ≠ "runtime.NumGoroutine") (C : CmpOk P g e ts G) :
  IoOk P (ρ.f 6) ⟨[.io (.slice e) (.own .z),.st g ts],[],fun ar=>(sortF (fun x y=>G x y ar.2.1) ar.1).map fun l=>(l,())⟩:=by
 refine ⟨hf,fun w O x v G0 ar vs r hO hrep hargs hF=>?_⟩
 obtain ⟨cv,vs',rfl,hp,rfl⟩:=hargs
 obtain ⟨l',hS,hlr⟩:=Option.map_eq_some_iff.1 hF
 clear hF
 subst hlr
 dsimp only at hS
 unfold sortF at hS
 split at hS
 ·rename_i hc
  obtain ⟨hlim,hcmp,hswo⟩:=hc
  have hown:=fun b hb=>(hrep.owned b hb).1
  have none_:x=[]→∀ a cap,v = .slice a 0 cap→Calls P (ρ.f 6) (v::[.func (.func g) #[] cv.toArray]).toArray w fun e' w' =>∃ rv G',e' = .returned (valOf rv)∧Kept G0 w w' ∧(∀ b,G' b→G0 b∨w.heap.size≤b)∧
    Rep w' (fun b=>(O b∧¬G0 b)∨G' b) (.slice e) (.own .z) l' [v] G' ∧PvAll P w' [] rv:=by
   intro hx a cap hv
   subst hx
   have:l'=[]:=(Option.some.inj hS).symm
   subst this hv
   refine (AnyF.slices_SortFunc_none L a cap _ w).mono ?_
   rintro _ _ ⟨rfl,rfl⟩
   refine ⟨[],G0,rfl,Kept.refl _ _,fun b hb=>.inl hb,?_,trivial⟩
   exact Rep.frame (Nat.le_refl _) (fun _ _ _=>rfl) (fun _ _=>rfl) (fun b _ hn h=>h.elim (fun h=>hn h.1) fun h=>hn (hown b h)) (fun b hb _=>.inr hb) hrep
  rcases hrep with ⟨hv,hx,hn⟩ | ⟨b,off,cap,Cb,tid,fr,F',hv,hcap,hb,hfr,hsz,hels,hU,hnb,hOb⟩
  ·exact none_ hx none 0 (by simpa using hv)
  ·have hv:v = .slice (some ⟨b,off,none⟩) (asL x).length cap:=by simpa using hv
   by_cases h0:0<List.length (α:=e.den) x
   ·rw [dif_pos h0] at hS
    have hl' :=Option.some.inj hS
    have core:=sort_core L he aE zE C (x:=x) h0 hlim hcmp hswo hp hcap hb hfr hsz hels hOb
    subst hv
    refine core.mono ?_
    rintro _ w' ⟨rfl,K,C',hb',hsz',hE⟩
    have hF':∀ c,¬F' c:=fun c hc=>els_free hels c hc
    have hG0:∀ c,G0 c↔c=b:=fun c=>(hU c).trans ⟨fun h=>h.resolve_right (hF' c),.inl⟩
    refine ⟨[],G0,rfl,K.mono fun c _ h=>(hG0 c).2 h,fun c hc=>.inl hc,?_,trivial⟩
    have hlen':l'.length=List.length (α:=e.den) x:=by
     rw [←hl',List.length_map,Array.length_toList]
     have:=(@pdq_sorts _ ⟨⟨0,h0⟩⟩ (ltOf (cmpAt (fun x y=>G x y ar.1) x)) hswo (Array.ofFn id) 0 (List.length (α:=e.den) x) (Lib.bitLen (List.length (α:=e.den) x)) true true (Nat.zero_le _) (by simp) (Or.inl rfl)).1.1
     rw [this,Array.size_ofFn]
    have hE:=hE (fun c=>(O c∧¬G0 c)∨G0 c) (fun c _ hn h=>h.elim (fun h=>hn h.1) fun h=>hn (hown c h))
    rw [hl'] at hE
    refine .inr ⟨b,off,cap,C',tid,fr,Foot.none,?_,?_,hb',fun i hi=>hfr i (by omega),by omega,?_,fun k=>⟨fun h=>.inl ((hG0 k).1 h),fun h=>(hG0 k).2 (h.resolve_right id)⟩,id,.inr ((hG0 b).2 rfl)⟩
    ·rw [show (asL (ioSplit [] e.slice (ios [PM.st g ts]) (l',())).2).length=(asL x).length from hlen']
    ·rw [show (asL (ioSplit [] e.slice (ios [PM.st g ts]) (l',())).2).length=(asL x).length from hlen'];exact hcap
    ·rw [show (asL (ioSplit [] e.slice (ios [PM.st g ts]) (l',())).2).length=(asL x).length from hlen'];exact hE
   ·have hx:x=[]:=List.eq_nil_of_length_eq_zero (by omega)
    exact none_ hx _ cap (by rw [hv,hx];rfl)
 ·cases hS
end Go.V
