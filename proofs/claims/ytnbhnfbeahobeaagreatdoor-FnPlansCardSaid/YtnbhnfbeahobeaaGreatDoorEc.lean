/- An evaluator over the code of the model, on data Cp memory, and the proof that it is right. No condition. -/
import Derived.Test.YtnbhnfbeahobeaaGreatDoorEb
import GoSem.ClaimChange
import Derived.ChangeReads
import Derived.WideShapes
import Derived.ChangeFn
import Derived.Handed
import Derived.ChangeShapes
import Derived.RowKit
namespace Go.V
variable {α:Type}
variable {b₀:Nat} {P:Program} {env:Bf} {w₀ w w':World} {O₀ O₁ W O O':Ab} {σ σ₀ σ' σ₁ σ₂:St} {γ γ':Name->Src} {φ φ':Name->Ab} {a a':Act} {n:Name}
theorem fi {pd:Option (Nat×Nat×Ty)} {o:Oper} (hc:o.dst=none\/∃ c,o.op = .call c) {E:GN} (h:IW env σ pd o some=some E) :
  (∀ d s,E.sets=some (d,s)->o.dst=some d\/∃ j t,pd=some (j,d,t))/\(∀ d,o.dst=some d->pd=none->∃ s,E.sets=some (d,s))/\(∀ j d t,pd=some (j,d,t)->∃ s,E.sets=some (d,s)):=by
 unfold IW at h;cases ho:o.op<;>rw [ho] at h<;>(try (cases h;done))<;>dsimp only at h
 ·have hd:o.dst=none:=by
   rcases hc with h | ⟨c,h⟩
   ·exact h
   ·rw [ho] at h;cases h
  cases pd with
  |none=>
   dsimp only at h;obtain ⟨n,q,R,hk,_,_⟩:=OP h;injection hk with hk
   subst hk;refine ⟨(fun d s e=>by cases e),(fun d e=>by rw [hd] at e;cases e),fun j d t e=>by cases e⟩
  |some p=>
   obtain ⟨j,d,t⟩:=p;dsimp only at h;split at h
   case h_2=>cases h
   case h_1=>
    split at h
    case h_2=>cases h
    case h_1=>
     injection h with h
     subst h;refine ⟨fun d' s e=>?_,(fun d' e=>by rw [hd] at e;cases e),fun j' d' t' e=>?_⟩
     ·injection e with e
      injection e with e1 e2
      subst e1;exact .inr ⟨j,t,rfl⟩
     ·injection e with e
      injection e with e1 e2
      injection e2 with e2 e3
      subst e2;exact ⟨_,rfl⟩
 ·cases pd with
  |some p=>cases h
  |none=>
   cases hd:o.dst with
   |none=>rw [hd] at h;cases h
   |some d=>
    rw [hd] at h;dsimp only at h;rw [EL] at h;cases hf:ET env σ o (fun R s=>some (R,s)) with
    |none=>rw [hf] at h;cases h
    |some p=>
     rw [hf] at h;simp only [Ai5] at h;injection h with h
     subst h;refine ⟨fun d' s e=>?_,fun d' e _=>?_,fun j d' t e=>by cases e⟩
     ·injection e with e
      injection e with e1 e2
      subst e1;exact .inl rfl
     ·injection e with e
      subst e;exact ⟨_,rfl⟩
theorem Xc {pd:Option (Nat×Nat×Ty)} {o:Oper} (hc:Up o=true) {E:GN} (h:IW env σ pd o some=some E):∃ R d s,E = .lay (AD o) R d s:=by
 unfold IW at h;unfold Up at hc;cases ho:o.op<;>rw [ho] at h hc<;>first | (cases hc;done) | skip
 dsimp only at h;split at h
 ·rw [EL] at h;cases hf:ET env σ o (fun R s=>some (R,s)) with
  |none=>rw [hf] at h;cases h
  |some p=>
   rw [hf] at h;simp only [Ai5] at h;injection h with h
   exact ⟨_,_,_,h.symm⟩
 ·cases h
theorem OR {ops:Array Oper} {om o:Oper} (h:freeIn ops om o=true) {t:TypeId} {x:Nat} (ho:o.op = .load t (.tmp x)):o.guard=none/\Up om=true/\∀ (j:Nat) o',ops[j]? = some o' ->o'.dst≠some x:=by
 unfold freeIn at h;rw [Ajb,ho] at h;obtain ⟨h1,h2⟩:=h;dsimp only at h2;rw [Ajb,List.all_eq_true] at h2;refine ⟨?_,h2.1,fun j o' hj hd=>?_⟩
 ·unfold Qy at h1;rw [Ajb] at h1;cases e:o.guard with | none=>rfl | some _=>rw [e] at h1;cases h1.1
 ·have:=h2.2 o' (by
   rw [<-Array.getElem?_toList] at hj;exact List.mem_of_getElem? hj)
  rw [hd] at this;simp at this
theorem Tn {ops:Array Oper} {om o:Oper} (h:freeIn ops om o=true):Qy o=true:=by
 unfold freeIn at h;rw [Ajb] at h;exact h.1
theorem To {n:Name} {R:AV} {d:Nat} {s:Slot} {σ₁ σ₂ σ:St} (h1:σ₁.mem=σ.mem) (h2:σ₂.mem=(GN.ap (.lay n R d s) σ).mem) (p:CH) (hp:p.name≠n) (b:Bool) (dd:Hd) (sh:Sh) :
  σ₁.root p.name=some (.data b dd sh)↔σ₂.root p.name=some (.data b dd sh):=by
 have e1:σ₁.root p.name=σ.root p.name:=by unfold St.root;rw [h1]
 have e2:σ₂.root p.name=(σ.lay n R).root p.name:=by unfold St.root;rw [h2];rfl
 rw [e1,e2,St.root_lay,if_neg hp];cases σ.root p.name with
 |none=>simp
 |some r=>cases r<;>simp [AV.kill]
theorem DV {pd:Option (Nat×Nat×Ty)} {i:Nat} (h:DM pd i=true):∃ d t,pd=some (i,d,t):=by
 unfold DM at h;cases pd with
 |none=>cases h
 |some p=>
  obtain ⟨j,d,t⟩:=p;have:j=i:=Nat.eq_of_beq_eq_true h;subst this;exact ⟨d,t,rfl⟩
theorem JZ (j d:Nat) (t:Ty):DM (some (j,d,t)) j=true:=by
 show Nat.beq j j=true;simp
theorem Act.put_other {d x:Nat} {v:Value} (h:x≠d):(a.put (some d) v).tmps.getD x undef=a.tmps.getD x undef:=by
 show (a.tmps.setIfInBounds d v).getD x undef=_;rw [Array.getD_eq_getD_getElem?,Array.getD_eq_getD_getElem?,Array.getElem?_setIfInBounds_ne (fun e=>h e.symm)]
theorem Act.put_self {d:Nat} {v:Value} (h:d<a.tmps.size):(a.put (some d) v).tmps.getD d undef=v:=by
 show (a.tmps.setIfInBounds d v).getD d undef=_;simp [h]
theorem GN.slot_set {E:GN} {x:Nat} {s:Slot} (h:E.sets=some (x,s)) (σ:St):(E.ap σ).slot x=s:=by rw [E.slot_ap,h];exact if_pos rfl
theorem GN.slot_other {E:GN} {x:Nat} (h:¬ ∃ s,E.sets=some (x,s)) (σ:St):(E.ap σ).slot x=E.spoil (σ.slot x):=by
 rw [E.slot_ap];split
 ·rename_i d s hs;rw [if_neg];rintro rfl;exact h ⟨s,hs⟩
 ·rfl
theorem fj (S:Sim P env w₀ O₀ W σ γ φ O a w) (hty:env.TyOk P) (hfn:env.FnOk P) {id:Nat} {ops:Array Oper} {m:Nat} {pd:Option (Nat×Nat×Ty)} {k:St->Option α} {r:α}
  (hpd:∀ j d t,pd=some (j,d,t)->∃ o ty,ops[j]? = some o/\o.op = .alloc ty/\o.dst=some d/\o.guard=none/\env.ty ty=some t) (hok:PG env.n ops m pd=true)
  (h:eM env ops m pd σ k=some r) {Q:Exit->Act->World->Prop}
  (hQ:∀ σ' γ' φ' O' a' w',Sim P env w₀ O₀ W σ' γ' φ' O' a' w' ->k σ'=some r->Q .normal a' w'):(Code.region id ops true).wp P Q a w:=by
 obtain ⟨om,D⟩:=UK hok;have hms:m<ops.size:=(Array.getElem?_eq_some_iff.1 D.at_).1;unfold eM at h;obtain ⟨sl₁,σ₁,τ₁,a0,a1,a2,a3m,a3s⟩:=N_ (bad:=fun _=>false) rfl m 0 σ σ rfl (fun _=>rfl) h;simp only [Nat.zero_add] at a1 a3m a3s;rw [D.at_] at a2;dsimp only at a2;have a2' :=(QS a3m pd om (fun y _=>cQ a3s y) _).symm.trans a2;obtain ⟨E,hK,hE⟩:=cY a2';obtain ⟨sets1,sets2,sets3⟩:=fi D.callm hE;split at hK
 case h_2=>cases hK
 case h_1 hchk=>
  obtain ⟨sl₂,σ₂,τ₂,b0,b1,b2,b3m,b3s⟩:=N_ (E.bad_undef) (ops.size-(m+1)) (m+1) (E.ap τ₁) (E.ap (σ₁ m)) (E.mem_ap a3m) (E.slot_congr a3s) hK;have hsz:m+1+(ops.size-(m+1))=ops.size:=by omega
  rw [hsz] at b1 b3m b3s
  have t1:∀ j,j<=m->(σ₁ j).mem=σ.mem/\∀ x,(∀ (j':Nat) o,j'<j->ops[j']? = some o->o.dst=some x->(σ₁ j).slot x=sl₁ j')/\
    ((∀ (j':Nat) o,j'<j->ops[j']? = some o->o.dst≠some x)->(σ₁ j).slot x=σ.slot x):=by
   intro j;induction j with
   |zero=>intro _;rw [a0];exact ⟨rfl,fun x=>⟨fun j' o hj=>by omega,fun _=>rfl⟩⟩
   |succ j ih=>
    intro hj;obtain ⟨ih1,ih2⟩:=ih (by omega);obtain ⟨o,d,g1,g2,_,_,g4,_,_⟩:=a1 j (Nat.zero_le _) (by omega);rw [g4];refine ⟨ih1,fun x=>?_⟩;rw [St.slot_set];by_cases hx:x=d
    ·subst hx;rw [if_pos rfl];refine ⟨fun j' o' hj' ho' hd' =>?_,fun hno=>(hno j o (by omega) g1 g2).elim⟩;rw [D.one j j' o o' x g1 ho' g2 hd']
    ·rw [if_neg hx];obtain ⟨i1,i2⟩:=ih2 x;refine ⟨fun j' o' hj' ho' hd' =>?_,fun hno=>i2 fun j' o' hj' =>hno j' o' (by omega)⟩
     have:j' ≠j:=by
      rintro rfl;rw [g1] at ho';injection ho' with ho'
      subst ho';rw [g2] at hd';injection hd' with hd'
      exact hx hd'.symm
     exact i1 j' o' (by omega) ho' hd'
  have fair₁:∀ j,j<m->E.bad (sl₁ j)=false:=by
   intro j hj;unfold Zd at hchk;rw [List.all_eq_true] at hchk;have hc:=hchk j (by rw [List.mem_range'_1];omega);obtain ⟨o,d,g1,g2,_⟩:=a1 j (Nat.zero_le _) (by omega);rw [Ajb] at hc
   replace hc:=hc.1
   rw [g1] at hc;simp only [Ai5,g2] at hc;rw [a3s,((t1 m (Nat.le_refl _)).2 d).1 j o hj g1 g2] at hc;simpa using hc
  have fairLd:∀ (j:Nat) (o:Oper) (t:TypeId) (x:Nat),j<m->ops[j]? = some o->o.op = .load t (.tmp x)->(∀ (j':Nat) o',ops[j']? = some o' ->o'.dst≠some x)->E.bad (σ.slot x)=false:=by
   intro j o t x hj ho hop hno;unfold Zd at hchk;rw [List.all_eq_true] at hchk;have hc:=hchk j (by rw [List.mem_range'_1];omega);rw [Ajb] at hc
   replace hc:=hc.2
   rw [ho] at hc;simp only [Option.map_some,hop] at hc;rw [a3s,((t1 m (Nat.le_refl _)).2 x).2 (fun j' o' _ ho' =>hno j' o' ho')] at hc;simpa using hc
  let ss:Slot:=match E.sets with | some (_,s)=>s | none=>.undef
  have ss_of:∀ {d s},E.sets=some (d,s)->ss=s:=fun {d s} h=>by simp only [ss,h]
  let slB:Nat->Slot:=fun j=>if j<m then sl₁ j else sl₂ j
  let slA:Nat->Slot:=fun j=>if j=m\/DM pd j=true then ss else slB j
  have fair:∀ j,j<ops.size->j≠m->(m<j->JQ ops m j=true)->E.bad (slB j)=false:=by
   intro j hj hjm hfr;by_cases h:j<m
   ·simp only [slB,if_pos h];exact fair₁ j h
   ·obtain ⟨_,_,_,_,_,_,_,_,g⟩:=b1 j (by omega) hj;simp only [slB,if_neg h];exact g (hfr (by omega))
  have setBy:∀ {d s},E.sets=some (d,s)->∃ j o,j<=m/\ops[j]? = some o/\o.dst=some d/\(j=m\/DM pd j=true):=by
   intro d s h;rcases sets1 d s h with h | ⟨j,t,h⟩
   ·exact ⟨m,om,Nat.le_refl _,D.at_,h,.inl rfl⟩
   ·obtain ⟨o,ty,h1,_,h3,_⟩:=hpd j d t h;exact ⟨j,o,Nat.le_of_lt (D.pend j d t h).1,h1,h3,.inr (by rw [h];exact JZ j d t)⟩
  have setTo:∀ {j o x},ops[j]? = some o->o.dst=some x->(j=m\/DM pd j=true)->∃ s,E.sets=some (x,s):=by
   intro j o x ho hd hj;rcases hj with rfl | hj
   ·rw [D.at_] at ho;injection ho with ho
    subst ho;cases hp:pd with
    |none=>exact sets2 x hd hp
    |some p=>
     have:=(D.pend p.1 p.2.1 p.2.2 hp).2.2;rw [hd] at this;cases this
   ·obtain ⟨d,t,hp⟩:=DV hj;obtain ⟨o',ty,h1,_,h3,_⟩:=hpd j d t hp;rw [ho] at h1;injection h1 with h1
    subst h1;rw [hd] at h3;injection h3 with h3
    subst h3;exact sets3 j x t hp
  have over:∀ (τ:St) (T:Nat->Prop),(∀ (j:Nat),T j->j≠m)->(∀ j,DM pd j=true->T j)->(∀ (j:Nat) o,ops[j]? = some o->T j->m<j->JQ ops m j=true)->
    (∀ x,(∀ (j':Nat) o,T j' ->ops[j']? = some o->o.dst=some x->τ.slot x=slB j')/\((∀ (j':Nat) o,T j' ->ops[j']? = some o->o.dst≠some x)->τ.slot x=σ.slot x))->
    ∀ x,(∀ (j':Nat) o,(T j' \/j'=m)->ops[j']? = some o->o.dst=some x->(E.ap τ).slot x=slA j')/\((∀ (j':Nat) o,(T j' \/j'=m)->ops[j']? = some o->o.dst≠some x)->(E.ap τ).slot x=E.spoil (σ.slot x)):=by
   intro τ T hTm hTp hTf hsl x;obtain ⟨s1,s2⟩:=hsl x;by_cases hset:∃ s,E.sets=some (x,s)
   ·obtain ⟨s,hset⟩:=hset;rw [GN.slot_set hset];obtain ⟨j₀,o₀,_,h1,h2,h3⟩:=setBy hset;refine ⟨fun j' o hj' ho hd=>?_,fun hno=>(hno j₀ o₀ (h3.elim .inr fun h=>.inl (hTp _ h)) h1 h2).elim⟩;have:j'=j₀:=D.one j' j₀ o o₀ x ho h1 hd h2;subst this;simp only [slA,if_pos h3];exact (ss_of hset).symm
   ·rw [GN.slot_other hset];refine ⟨fun j' o hj' ho hd=>?_,fun hn=>by rw [s2 fun j' o' hj' =>hn j' o' (.inl hj')]⟩;have hne:¬(j'=m\/DM pd j'=true):=fun h=>hset (setTo ho hd h)
    have hT:T j' :=hj'.resolve_right fun e=>hne (.inl e)
    rw [s1 j' o hT ho hd,E.spoil_of (fair j' (Array.getElem?_eq_some_iff.1 ho).1 (fun e=>hne (.inl e)) (hTf j' o ho hT))];simp only [slA,if_neg hne]
  let μ:=(E.ap σ).mem
  have t2:∀ c,m+1+c<=ops.size->(σ₂ (m+1+c)).mem=μ/\∀ x,(∀ (j':Nat) o,j'<m+1+c->ops[j']? = some o->o.dst=some x->(σ₂ (m+1+c)).slot x=slA j')/\
    ((∀ (j':Nat) o,j'<m+1+c->ops[j']? = some o->o.dst≠some x)->(σ₂ (m+1+c)).slot x=E.spoil (σ.slot x)):=by
   intro c;induction c with
   |zero=>
    intro _;obtain ⟨u1,u2⟩:=t1 m (Nat.le_refl _);rw [Nat.add_zero,b0];refine ⟨E.mem_ap u1,fun x=>?_⟩
    obtain ⟨v1,v2⟩:=over (σ₁ m) (fun j=>j<m) (fun j hj=>Nat.ne_of_lt hj) (fun j hj=>by obtain ⟨d,t,hp⟩:=DV hj;exact (D.pend j d t hp).1) (fun j _ _ h1 h2=>absurd h1 (by omega))
     (fun x=>⟨fun j' o hj' ho hd=>by rw [(u2 x).1 j' o hj' ho hd];simp only [slB,if_pos hj'],(u2 x).2⟩) x
    exact ⟨fun j' o hj' =>v1 j' o (by omega),fun hno=>v2 fun j' o hj' =>hno j' o (by omega)⟩
   |succ c ih=>
    intro hj;obtain ⟨ih1,ih2⟩:=ih (by omega);obtain ⟨o,d,g1,g2,_,_,g4,_,_⟩:=b1 (m+1+c) (by omega) (by omega)
    have hslj:slA (m+1+c)=sl₂ (m+1+c):=by
     have hne:¬(m+1+c=m\/DM pd (m+1+c)=true):=by
      rintro (h | h)
      ·omega
      ·obtain ⟨d,t,hp⟩:=DV h;have:=(D.pend _ d t hp).1;omega
     simp only [slA,if_neg hne,slB,if_neg (show ¬m+1+c<m by omega)]
    rw [show m+1+(c+1)=m+1+c+1 by omega,g4];refine ⟨ih1,fun x=>?_⟩;rw [St.slot_set];by_cases hx:x=d
    ·subst hx;rw [if_pos rfl];refine ⟨fun j' o' hj' ho' hd' =>?_,fun hno=>(hno (m+1+c) o (by omega) g1 g2).elim⟩;rw [<-D.one (m+1+c) j' o o' x g1 ho' g2 hd',hslj]
    ·rw [if_neg hx];obtain ⟨i1,i2⟩:=ih2 x;refine ⟨fun j' o' hj' ho' hd' =>?_,fun hno=>i2 fun j' o' hj' =>hno j' o' (by omega)⟩
     have:j' ≠m+1+c:=by
      rintro rfl;rw [g1] at ho';injection ho' with ho'
      subst ho';rw [g2] at hd';injection hd' with hd'
      exact hx hd'.symm
     exact i1 j' o' (by omega) ho' hd'
  let Inv:Region.Mode->Array Bool->Act->World->Prop:=fun md L a w=>(∀ (j':Nat) o,L.getD j' false=true->ops[j']? = some o->∀ e∈o.after,Region.binds md e=true->L.getD e.on false=true)/\
   ∃ (ob:Option Nat) (σ':St) (γ':Name->Src) (φ':Name->Ab) (O':Ab),Sim P env w₀ (fun c=>O₀ c\/ob=some c) W σ' γ' φ' O' a w/\
    (∀ b,ob=some b->∃ j d t,pd=some (j,d,t)/\L.getD j false=true/\L.getD m false=false/\Xa w₀ O₀ W t b w/\a.tmps.getD d undef = .pointer (some ⟨b,0,none⟩))/\
    (∀ j d t,pd=some (j,d,t)->L.getD j false=true->L.getD m false=false->ob≠none)/\
    (L.getD m false=false->σ'.mem=σ.mem/\∀ x,(∀ (j':Nat) o,L.getD j' false=true->ops[j']? = some o->o.dst=some x->σ'.slot x=slB j')/\((∀ (j':Nat) o,L.getD j' false=true->ops[j']? = some o->o.dst≠some x)->σ'.slot x=σ.slot x))/\
    (L.getD m false=true->σ'.mem=μ/\∀ x,(∀ (j':Nat) o,L.getD j' false=true->ops[j']? = some o->o.dst=some x->σ'.slot x=slA j')/\((∀ (j':Nat) o,L.getD j' false=true->ops[j']? = some o->o.dst≠some x)->σ'.slot x=E.spoil (σ.slot x)))
  have plain:∀ {ob:Option Nat} {σ' γ' φ' O' a w},Sim P env w₀ (fun c=>O₀ c\/ob=some c) W σ' γ' φ' O' a w->ob=none->Sim P env w₀ O₀ W σ' γ' φ' O' a w:=by
   rintro ob σ' γ' φ' O' a w S' rfl;exact S'.congrO fun c=>by simp
  have unplain:∀ {σ' γ' φ' O' a w},Sim P env w₀ O₀ W σ' γ' φ' O' a w->Sim P env w₀ (fun c=>O₀ c\/(none:Option Nat)=some c) W σ' γ' φ' O' a w:=
   fun S' =>S'.congrO fun c=>by simp
  have hmL:∀ (L:Array Bool),L.size=ops.size->m<L.size:=fun L hL=>by omega
  have done:∀ md L a w,L.size=ops.size->Inv md L a w->(∀ i,i<ops.size->L.getD i true=true)->Q .normal a w:=by
   rintro md L a w hL ⟨_,ob,σ',γ',φ',O',S',hob,_,_,hin⟩ hall
   have listed:∀ i,i<ops.size->L.getD i false=true:=by
    intro i hi;have:=hall i hi;have hi':i<L.size:=by rw [hL];exact hi
    simpa [hi'] using this
   have hnone:ob=none:=by
    cases ob with
    |none=>rfl
    |some b=>
     obtain ⟨_,_,_,_,_,hmf,_⟩:=hob b rfl;rw [listed m hms] at hmf;cases hmf
   obtain ⟨hmem,hsl⟩:=hin (listed m hms);have T:=t2 (ops.size-(m+1)) (by omega);rw [hsz] at T;obtain ⟨u1,u2⟩:=T;refine hQ _ γ' φ' O' a w ((plain S' hnone).congr (σ' :=τ₂) (HO (b3m.trans (u1.trans hmem.symm))) fun x=>(b3s x).trans ?_) b2;by_cases hex:∃ (j:Nat) (o:Oper),ops[j]? = some o/\o.dst=some x
   ·obtain ⟨j,o,ho,hd⟩:=hex;have hj:=(Array.getElem?_eq_some_iff.1 ho).1;rw [(u2 x).1 j o hj ho hd,(hsl x).1 j o (listed j hj) ho hd]
   ·rw [(u2 x).2 fun j o _ ho hd=>hex ⟨j,o,ho,hd⟩,(hsl x).2 fun j o _ ho hd=>hex ⟨j,o,ho,hd⟩]
  have any:∀ (md:Region.Mode) (Af:Nat) (L:Array Bool) (a:Act) (w:World),L.size=ops.size->left L ops.size<=Af->Inv md L a w->wpAny P md ops Q Af L a w:=by
   intro md Af;induction Af with
   |zero=>
    intro L a w hL hleft hI;have hall:=KP (L:=L) ops.size (by omega);refine ⟨?_,done md L a w hL hI hall⟩;cases hr:Region.ready md ops L with
    |nil=>rfl
    |cons i l=>
     have hi:i∈Region.ready md ops L:=by rw [hr];simp
     obtain ⟨g1,o,g2,_⟩:=mem_ready.1 hi;rw [hall i (Array.getElem?_eq_some_iff.1 g2).1] at g1;cases g1
   |succ Af ih=>
    intro L a w hL hleft hI;refine ⟨fun hnil=>done md L a w hL hI ?_,fun i hi=>?_⟩
    ·obtain ⟨rk,hrk⟩:=D.rank md
     have:∀ m i,rk i<=m->i<ops.size->L.getD i true=true:=by
      intro m;induction m using Nat.strongRecOn with
      |ind m ihm=>
       intro i him hi;have hlow:∀ j,rk j<rk i->j<ops.size->L.getD j true=true:=fun j hj hjs=>ihm (rk j) (by omega) j (Nat.le_refl _) hjs
       by_cases hu:L.getD i true=true
       ·exact hu
       ·have hmem:i∈Region.ready md ops L:=by
         refine mem_ready.2 ⟨by simpa using hu,ops[i],Array.getElem?_eq_getElem hi,fun e he hbd=>?_⟩;obtain ⟨hes,hb⟩:=hrk i _ (Array.getElem?_eq_getElem hi) e he hbd;have:=hlow e.on hb hes;have hs:e.on<L.size:=by rw [hL];exact hes
         simpa [hs] using this
        rw [hnil] at hmem;cases hmem
     exact fun i hi=>this (rk i) i (Nat.le_refl _) hi
    ·obtain ⟨g1,o,g2,g3⟩:=mem_ready.1 hi;have hin:=(Array.getElem?_eq_some_iff.1 g2).1;have hsi:i<L.size:=by rw [hL];exact hin
     have hLi:L.getD i false=false:=by simp [hsi] at g1 ⊢;exact g1
     obtain ⟨hcl,ob,σ',γ',φ',O',S',hob,hobn,hout,hinn⟩:=hI
     have hcl':∀ (j':Nat) o',(L.setIfInBounds i true).getD j' false=true->ops[j']? = some o' ->∀ e∈o'.after,Region.binds md e=true->(L.setIfInBounds i true).getD e.on false=true:=by
      intro j' o' hj' ho' e he hbd;by_cases hji:i=j'
      ·subst hji;rw [g2] at ho';injection ho' with ho'
       subst ho';exact getD_set_true (g3 e he hbd)
      ·rw [getD_set_ne false hji] at hj';exact getD_set_true (hcl j' o' hj' ho' e he hbd)
     have hset:∀ j,(L.setIfInBounds i true).getD j false=true->j=i\/L.getD j false=true:=by
      intro j hj;by_cases hji:i=j
      ·exact .inl hji.symm
      ·rw [getD_set_ne false hji] at hj;exact .inr hj
     have hset':(L.setIfInBounds i true).getD i false=true:=by simp [hsi]
     have hleft':left (L.setIfInBounds i true) ops.size<=Af:=by
      have:=My ops.size g1;rw [if_pos hin] at this;omega
     have unlisted:∀ {j:Nat} {o':Oper} {e:Edge},ops[j]? = some o' ->e∈o'.after->e.on=i->(∀ md,Region.binds md e=true)->¬L.getD j false=true:=by
      intro j o' e ho' he hei hb hl;have hlist:=hcl j o' hl ho' e he (hb md);rw [hei,hLi] at hlist;cases hlist
     have look:∀ (fT fS bT bL:Nat->Slot) (ts:St),(∀ (j:Nat) o' x,ops[j]? = some o' ->o'.dst=some x->x∈o.looksAt ops->fT j=fS j)->
       (∀ x,(∀ (j':Nat) o,j'<i->ops[j']? = some o->o.dst=some x->ts.slot x=fT j')/\((∀ (j':Nat) o,j'<i->ops[j']? = some o->o.dst≠some x)->ts.slot x=bT x))->
       (∀ x,(∀ (j':Nat) o,L.getD j' false=true->ops[j']? = some o->o.dst=some x->σ'.slot x=fS j')/\((∀ (j':Nat) o,L.getD j' false=true->ops[j']? = some o->o.dst≠some x)->σ'.slot x=bL x))->
       ∀ x∈o.looksAt ops,σ'.slot x=ts.slot x\/(ts.slot x=bT x/\σ'.slot x=bL x):=by
      intro fT fS bT bL ts hf hts hss x hx;by_cases hex:∃ (j:Nat) (o':Oper),ops[j]? = some o' /\o'.dst=some x
      ·obtain ⟨j,o',ho',hd'⟩:=hex;rcases D.edge i j o o' x g2 ho' hd' hx with ⟨hji,e,he,hej,hb⟩ | ⟨hij,e,he,hei,hb⟩
       ·have hlist:=g3 e he (hb md);rw [hej] at hlist;exact .inl (by rw [(hss x).1 j o' hlist ho' hd',(hts x).1 j o' hji ho' hd',hf j o' x ho' hd' hx])
       ·refine .inr ⟨(hts x).2 fun j₂ o₂ hj₂ ho₂ hd₂=>?_,(hss x).2 fun j₂ o₂ hl₂ ho₂ hd₂=>?_⟩
        ·have:j₂=j:=D.one j₂ j o₂ o' x ho₂ ho' hd₂ hd';omega
        ·have:j₂=j:=D.one j₂ j o₂ o' x ho₂ ho' hd₂ hd';subst this;exact unlisted ho' he hei hb hl₂
      ·exact .inr ⟨(hts x).2 fun j o _ ho hd=>hex ⟨j,o,ho,hd⟩,(hss x).2 fun j o _ ho hd=>hex ⟨j,o,ho,hd⟩⟩
     by_cases him:i=m
     ·-- the one that writes
      subst him
      have hom:o=om:=by
       have:=D.at_;rw [g2] at this;injection this
      subst hom;obtain ⟨hmem,hsl⟩:=hout hLi;have ts1:=t1 i (Nat.le_refl _)
      have agree:∀ x∈o.looksAt ops,σ'.slot x=(σ₁ i).slot x:=by
       intro x hx
       rcases look slB slB (fun x=>σ.slot x) (fun x=>σ.slot x) (σ₁ i) (fun _ _ _ _ _ _=>rfl) (fun x=>⟨fun j' o' hj' ho' hd' =>by
         rw [(ts1.2 x).1 j' o' hj' ho' hd'];simp only [slB,if_pos hj'],(ts1.2 x).2⟩) hsl x hx with h | h
       ·exact h
       ·rw [h.1,h.2]
      have hst:IW env σ' pd o some=some E:=(QS (hmem.trans ts1.1.symm) pd o (fun y hy=>by
        cases y with
        |tmp x=>exact agree x (Di hy)
        |const _=>rfl
        |func _=>rfl
        |global _=>rfl) _).trans hE
      have hml':(L.setIfInBounds i true).getD i false=true:=hset'
      have go:∀ γ'' φ'' O'' a' w',Sim P env w₀ O₀ W (E.ap σ') γ'' φ'' O'' a' w' ->wpAny P md ops Q Af (L.setIfInBounds i true) a' w' :=by
       intro γ'' φ'' O'' a' w' S'';refine ih _ a' w' (by simpa using hL) hleft' ⟨hcl',none,_,γ'',φ'',O'',unplain S'',(fun b e=>by cases e),(fun _ _ _ _ _ e=>by rw [hml'] at e;cases e),(fun e=>by rw [hml'] at e;cases e),fun _=>⟨E.mem_ap hmem,fun x=>?_⟩⟩
       obtain ⟨v1,v2⟩:=over σ' (fun j=>L.getD j false=true) (fun j hj e=>by subst e;rw [hLi] at hj;cases hj) (fun j hj=>by
         obtain ⟨d,t,hp⟩:=DV hj;obtain ⟨_,⟨e,he,hej,hb⟩,_⟩:=D.pend j d t hp;have:=g3 e he (hb md);rwa [hej] at this) (fun j oj hoj hlj hmj=>by
         have hnp:DM pd j=false:=by
          cases hp:DM pd j with
          |false=>rfl
          |true=>
           obtain ⟨d,t,hp⟩:=DV hp;have:=(D.pend j d t hp).1;omega
         rcases D.tie j oj hoj (by omega) hnp with ⟨h,_⟩ | ⟨_,e,he,hej,hb⟩ | ⟨ht,_⟩
         ·omega
         ·have:=hcl j oj hlj hoj e he (hb md);rw [hej,hLi] at this;cases this
         ·unfold JQ;rw [hoj,D.at_];simp [ht]) hsl x
       exact ⟨fun j' o' hj' =>v1 j' o' ((hset j' hj').symm),fun hno=>v2 fun j' o' hj' =>hno j' o' (hj'.elim getD_set_true fun e=>by rw [e];exact hset')⟩
      unfold wpOp;rw [g2];dsimp only;rw [show Region.wanted o (yielded ops a.tmps)=true by simp [Region.wanted,D.guardm],if_pos rfl];refine .inl ?_;cases hpe:pd with
      |none=>
       have hnone:ob=none:=by
        cases ob with
        |none=>rfl
        |some b=>obtain ⟨_,_,_,e,_⟩:=hob b rfl;rw [hpe] at e;cases e
       rw [hpe] at hst;exact nP (plain S' hnone) hty hfn D.dstm D.callm hst go
      |some p=>
       obtain ⟨j,d,t⟩:=p;obtain ⟨hjm,⟨e,he,hej,hb⟩,hdn⟩:=D.pend j d t hpe
       have hlj:L.getD j false=true:=by
        have:=g3 e he (hb md);rwa [hej] at this
       cases ob with
       |none=>exact (hobn j d t hpe hlj hLi rfl).elim
       |some b=>
        obtain ⟨j',d',t',e',_,_,hP,hv⟩:=hob b rfl;rw [hpe] at e';injection e' with e'
        injection e' with e1 e2
        injection e2 with e2 e3
        subst e1 e2 e3;obtain ⟨oj,ty,h1,_,h3,_,_⟩:=hpd j d t hpe;obtain ⟨d₂,hd₂,hlt⟩:=D.dst j oj h1 (Nat.ne_of_lt hjm);rw [h3] at hd₂;injection hd₂ with hd₂
        subst hd₂
        have hund:σ'.slot d = .undef:=by
         rw [(hsl d).1 j oj hlj h1 h3];simp only [slB,if_pos hjm];obtain ⟨_,_,_,_,q,_⟩:=a1 j (Nat.zero_le _) hjm;exact q (by rw [hpe];exact JZ j d t)
        rw [hpe] at hst
        have S'':Sim P env w₀ (fun c=>O₀ c\/c=b) W σ' γ' φ' O' a w:=S'.congrO fun c=>by
         constructor
         ·rintro (h | h)
          ·exact .inl h
          ·exact .inr (by rw [h])
         ·rintro (h | h)
          ·exact .inl h
          ·injection h with h;exact .inr h.symm
        exact fh S'' hty hP hlt hv hund hdn hst go
     ·obtain ⟨d,hd,hdlt⟩:=D.dst i o g2 him;have hLm':(L.setIfInBounds i true).getD m false=L.getD m false:=getD_set_ne false him
      have step:∀ (s:Slot) (f:Nat->Slot) (bL:Nat->Slot),f i=s->(∀ x,(∀ (j':Nat) o,L.getD j' false=true->ops[j']? = some o->o.dst=some x->σ'.slot x=f j')/\((∀ (j':Nat) o,L.getD j' false=true->ops[j']? = some o->o.dst≠some x)->σ'.slot x=bL x))->
        ∀ x,(∀ (j':Nat) o,(L.setIfInBounds i true).getD j' false=true->ops[j']? = some o->o.dst=some x->(σ'.set d s).slot x=f j')/\((∀ (j':Nat) o,(L.setIfInBounds i true).getD j' false=true->ops[j']? = some o->o.dst≠some x)->(σ'.set d s).slot x=bL x):=by
       intro s f bL hf hsl x;obtain ⟨s1,s2⟩:=hsl x;rw [St.slot_set];by_cases hx:x=d
       ·subst hx;rw [if_pos rfl];refine ⟨fun j' o' hj' ho' hd' =>?_,fun hno=>(hno i o hset' g2 hd).elim⟩;rw [<-D.one i j' o o' x g2 ho' hd hd',hf]
       ·rw [if_neg hx];refine ⟨fun j' o' hj' ho' hd' =>?_,fun hno=>s2 fun j' o' hj' =>hno j' o' (getD_set_true hj')⟩;rcases hset j' hj' with e | e
        ·subst e;rw [g2] at ho';injection ho' with ho'
         subst ho';rw [hd] at hd';injection hd' with hd'
         exact (hx hd'.symm).elim
        ·exact s1 j' o' e ho' hd'
      by_cases hip:DM pd i=true
      ·-- the new variable
       obtain ⟨d',t,hpe⟩:=DV hip;obtain ⟨oi,ty,h1,hal,h3,hgu,htt⟩:=hpd i d' t hpe;rw [g2] at h1;injection h1 with h1
       subst h1;rw [hd] at h3;injection h3 with h3
       subst h3;obtain ⟨hjm,⟨e,he,hej,hb⟩,hdn⟩:=D.pend i d t hpe
       have hLm:L.getD m false=false:=by
        cases hm:L.getD m false with
        |false=>rfl
        |true=>
         have:=hcl m om hm D.at_ e he (hb md);rw [hej,hLi] at this;cases this
       have hnone:ob=none:=by
        cases ob with
        |none=>rfl
        |some b=>
         obtain ⟨j',d',t',e',hl,_⟩:=hob b rfl;rw [hpe] at e';injection e' with e'
         injection e' with e1 e2
         subst e1;rw [hLi] at hl;cases hl
       obtain ⟨b,w',hrun,S'',hP⟩:=aM (plain S' hnone) hty hal htt;unfold wpOp;rw [g2];dsimp only;rw [show Region.wanted o (yielded ops a.tmps)=true by simp [Region.wanted,hgu],if_pos rfl];refine .inl ?_;unfold Oper.wp;rw [hrun,Oper.upon_value];have S₃:=S''.set hdlt (.undef (.pointer (some ⟨b,0,none⟩)));rw [hd];refine ih _ _ w' (by simpa using hL) hleft' ⟨hcl',some b,σ'.set d .undef,γ',φ',_,S₃.congrO (fun c=>?_),fun b' e=>?_,(fun _ _ _ _ _ _ e=>by cases e),fun _=>?_,fun e=>?_⟩
       ·constructor
        ·rintro (h | h)
         ·exact .inl h
         ·injection h with h;exact .inr h.symm
        ·rintro (h | h)
         ·exact .inl h
         ·exact .inr (by rw [h])
       ·injection e with e
        subst e;exact ⟨i,d,t,hpe,hset',hLm'.trans hLm,hP,Act.put_self (by rw [S'.size];exact hdlt)⟩
       ·obtain ⟨hmem,hsl⟩:=hout hLm;refine ⟨hmem,step .undef slB _ ?_ hsl⟩;simp only [slB,if_pos hjm];obtain ⟨_,_,_,_,q,_⟩:=a1 i (Nat.zero_le _) hjm;exact q hip
       ·rw [hLm',hLm] at e;cases e
      have hip':DM pd i=false:=by simpa using hip
      have hAB:slA i=slB i:=by simp only [slA];rw [if_neg];exact fun h=>h.elim him hip
      have goOn:BM env ops o σ' some=some (slB i)->wpOp P ops Q i (fun a' w' =>wpAny P md ops Q Af (L.setIfInBounds i true) a' w') a w:=by
       intro hg;refine KO S' hty hfn g2 hd hdlt hg fun a' w' γ'' φ'' O'' S'' hput hkept=>ih (L.setIfInBounds i true) a' w' (by simpa using hL) hleft' ?_
       refine ⟨hcl',ob,σ'.set d (slB i),γ'',φ'',O'',S'',fun b e=>?_,fun j d' t hpe hlj hm=>?_,fun h=>?_,fun h=>?_⟩
       ·obtain ⟨j,d',t,hpe,hlj,hm,hP,hv⟩:=hob b e
        have hij:i≠j:=by
         rintro rfl;rw [hLi] at hlj;cases hlj
        obtain ⟨v,rfl⟩:=hput;obtain ⟨oj,ty,h1,_,h3,_,_⟩:=hpd j d' t hpe
        have hdd:d' ≠d:=by
         rintro rfl;exact hij (D.one i j o oj d' g2 h1 hd h3)
        exact ⟨j,d',t,hpe,getD_set_true hlj,hLm'.trans hm,hP.grow (hkept (D.away j d' t hpe i o g2 him hij).2),(Act.put_other hdd).trans hv⟩
       ·refine hobn j d' t hpe ?_ (by rw [<-hLm'];exact hm);rcases hset j hlj with e | e
        ·subst e;rw [hpe,JZ] at hip';cases hip'
        ·exact e
       ·rw [hLm'] at h;obtain ⟨hmem,hsl⟩:=hout h;exact ⟨hmem,step _ slB _ rfl hsl⟩
       ·rw [hLm'] at h;obtain ⟨hmem,hsl⟩:=hinn h;exact ⟨hmem,step _ slA _ hAB hsl⟩
      apply goOn
      have cross:SI ops om m i o=false->∀ (j:Nat) o' x,ops[j]? = some o' ->o'.dst=some x->x∈o.looksAt ops->slA j=slB j:=by
       intro ht j o' x ho' hd' hx;simp only [slA];rw [if_neg];rintro (rfl | hj)
       ·rw [D.at_] at ho';injection ho' with ho'
        subst ho';exact D.free i o g2 him ht x hd' hx
       ·obtain ⟨d',t,hpe⟩:=DV hj;obtain ⟨oj,ty,h1,_,h3,_,_⟩:=hpd j d' t hpe;rw [ho'] at h1;injection h1 with h1
        subst h1;rw [hd'] at h3;injection h3 with h3
        subst h3
        have hij:i≠j:=by
         rintro rfl;rw [hj] at hip';cases hip'
        exact (D.away j x t hpe i o g2 him hij).1 hx
      by_cases hlt:i<m
      ·obtain ⟨o₂,d₂,q1,q2,_,q3,q4,q5,q6⟩:=a1 i (Nat.zero_le _) hlt;rw [g2] at q1;injection q1 with q1
       subst q1;have q3:=q3 hip';have T:=t1 i (by omega);have hsli:slB i=sl₁ i:=by simp only [slB,if_pos hlt]
       have hT:∀ x,(∀ (j':Nat) o,j'<i->ops[j']? = some o->o.dst=some x->(σ₁ i).slot x=slB j')/\((∀ (j':Nat) o,j'<i->ops[j']? = some o->o.dst≠some x)->(σ₁ i).slot x=σ.slot x):=
        fun x=>⟨fun j' o' hj' ho' hd' =>by rw [(T.2 x).1 j' o' hj' ho' hd'];simp only [slB,if_pos (show j'<m by omega)],(T.2 x).2⟩
       rw [hsli];cases hLm:L.getD m false with
       |false=>
        obtain ⟨hmem,hsl⟩:=hout hLm;exact (CN (hmem.trans T.1.symm) o (fun x hx=>(look slB slB _ _ (σ₁ i) (fun _ _ _ _ _ _=>rfl) hT hsl x hx).elim (fun h=>h) fun h=>by rw [h.1,h.2]) some).trans q3
       |true=>
        obtain ⟨hmem,hsl⟩:=hinn hLm;rcases D.tie i o g2 him hip' with ⟨_,anc⟩ | ⟨hh,_⟩ | ⟨htied,hfree⟩
        ·have:=anc.done (L:=fun j=>L.getD j false) (md:=md) (fun j o' hl ho' e he hb=>hcl j o' hl ho' e he hb) hLm;rw [hLi] at this;cases this
        ·omega
        ·have hfa:=q5 hip' (by unfold JQ;rw [g2,D.at_];simp [htied]);by_cases hld:∃ t x,o.op = .load t (.tmp x)
         ·obtain ⟨t,x,hop⟩:=hld;obtain ⟨hgu,hcall,hno⟩:=OR hfree hop;obtain ⟨R,dE,sE,rfl⟩:=Xc hcall hE;have hbx:=fairLd i o t x hlt g2 hop hno;have e1:(σ₁ i).slot x=σ.slot x:=(T.2 x).2 fun j' o' _ ho' =>hno j' o' ho'
          have e2:σ'.slot x=σ.slot x:=by
           rw [(hsl x).2 fun j' o' _ ho' =>hno j' o' ho',GN.spoil_of _ hbx]
          exact (Tm hop hgu (fun p hp b dd sh=>To T.1 hmem p hp b dd sh) (e1.trans e2.symm) (by rw [e1];exact hbx) (.inl hfa) some).symm.trans q3
         have hnl:UI o:=fun t x e=>hld ⟨t,x,e⟩
         refine (QO hnl (Tn hfree) hfa (fun x hx=>?_) some).symm.trans q3;rcases look slB slA _ _ (σ₁ i) (fun j o' x h1 h2 h3=>(cross htied j o' x h1 h2 h3).symm) hT hsl x (Di hx) with h | ⟨h1,h2⟩
         ·exact h.symm
         ·rw [h2,<-h1,E.spoil_plain (JY hnl hfa hx)]
      ·obtain ⟨o₂,d₂,q1,q2,_,q3,q4,q5,q6⟩:=b1 i (by omega) hin;rw [g2] at q1;injection q1 with q1
       subst q1;have q3:=q3 rfl;have T:=t2 (i-(m+1)) (by omega);rw [show m+1+(i-(m+1))=i by omega] at T;have hsli:slB i=sl₂ i:=by simp only [slB,if_neg hlt]
       rw [hsli];cases hLm:L.getD m false with
       |true=>
        obtain ⟨hmem,hsl⟩:=hinn hLm;exact (CN (hmem.trans T.1.symm) o (fun x hx=>(look slA slA _ _ (σ₂ i) (fun _ _ _ _ _ _=>rfl) T.2 hsl x hx).elim (fun h=>h) fun h=>by rw [h.1,h.2]) some).trans q3
       |false=>
        obtain ⟨hmem,hsl⟩:=hout hLm;rcases D.tie i o g2 him hip' with ⟨hh,_⟩ | ⟨_,e,he,hei,hb⟩ | ⟨htied,hfree⟩
        ·omega
        ·have:=g3 e he (hb md);rw [hei,hLm] at this;cases this
        ·have hfa:=q5 rfl (by unfold JQ;rw [g2,D.at_];simp [htied]);by_cases hld:∃ t x,o.op = .load t (.tmp x)
         ·obtain ⟨t,x,hop⟩:=hld;obtain ⟨hgu,hcall,hno⟩:=OR hfree hop;obtain ⟨R,dE,sE,rfl⟩:=Xc hcall hE;have e1:(σ₂ i).slot x=GN.spoil (.lay (AD om) R dE sE) (σ.slot x):=(T.2 x).2 fun j' o' _ ho' =>hno j' o' ho'
          have e2:σ'.slot x=σ.slot x:=(hsl x).2 fun j' o' _ ho' =>hno j' o' ho'
          have hbx:GN.bad (.lay (AD om) R dE sE) (σ.slot x)=false:=by
           cases hb:GN.bad (.lay (AD om) R dE sE) (σ.slot x) with
           |false=>rfl
           |true=>
            have eu:(σ₂ i).slot x = .undef:=by rw [e1];unfold GN.spoil;rw [hb]
            unfold freeArgs at hfa;rw [hop] at hfa;dsimp only at hfa;rw [eu] at hfa;cases hfa
          rw [GN.spoil_of _ hbx] at e1;exact (Tm (σ₁:=σ') hop hgu (fun p hp b dd sh=>To hmem T.1 p hp b dd sh) (e2.trans e1.symm) (by rw [e2];exact hbx) (.inr hfa) some).trans q3
         have hnl:UI o:=fun t x e=>hld ⟨t,x,e⟩
         refine (QO hnl (Tn hfree) hfa (fun x hx=>?_) some).symm.trans q3;rcases look slA slB _ _ (σ₂ i) (fun j o' x h1 h2 h3=>cross htied j o' x h1 h2 h3) T.2 hsl x (Di hx) with h | ⟨h1,h2⟩
         ·exact h.symm
         ·have hp:=JY hnl hfa hx;rw [h1] at hp;rw [h1,h2,E.of_spoil hp]
  have start:∀ md w',AF Ab.none w w' ->Inv md (Array.replicate ops.size false) a w' :=by
   intro md w' K;have no:∀ j',¬(Array.replicate ops.size false).getD j' false=true:=fun j' hj' =>by by_cases hj:j'<ops.size<;>simp [hj] at hj'
   exact ⟨fun j' o' hj' =>(no j' hj').elim,none,σ,γ,φ,O,unplain (S.grow K),(fun b e=>by cases e),(fun j _ _ _ hl=>(no j hl).elim),fun _=>⟨rfl,fun x=>⟨fun j' o' hj' =>(no j' hj').elim,fun _=>rfl⟩⟩,fun h=>(no m h).elim⟩
  refine wp_region_draw fun t=>?_
  have K:AF Ab.none w {w with drawn:=w.drawn+1}:=⟨rfl,rfl,rfl,Nat.le_refl _,fun _ _ _=>rfl⟩
  have hl:left (Array.replicate ops.size false) ops.size<=ops.size:=by rw [Mz _ _ (Nat.le_refl _)];exact Nat.le_refl _
  unfold Region.schedule;split
  ·exact wpAny_sound ops.size t _ a _ (any .any ops.size _ a _ (by simp) hl (start _ _ K))
  ·exact wpAny_sound ops.size (t / 2) _ a _ (any _ ops.size _ a _ (by simp) hl (start _ _ K))
theorem Xd {ops:Array Oper} {j d:Nat} {t:Ty} (h:Qz env ops=some (j,d,t)):∃ o ty,ops[j]? = some o/\o.op = .alloc ty/\o.dst=some d/\o.guard=none/\env.ty ty=some t:=by
 unfold Qz at h;obtain ⟨x,hx,h⟩:=List.exists_of_findSome?_eq_some h;obtain ⟨o,i⟩:=x;rw [List.mem_zipIdx_iff_getElem?,Array.getElem?_toList] at hx;dsimp only at h hx;split at h
 ·rename_i ty d' h1 h2 h3;cases ht:env.ty ty with
  |none=>rw [ht] at h;cases h
  |some t' =>
   rw [ht] at h;simp only [Option.map_some,Option.some.injEq,Prod.mk.injEq] at h;obtain ⟨e1,e2,e3⟩:=h;subst e1 e2 e3;exact ⟨o,ty,hx,h1,h2,h3,ht⟩
 ·cases h
end Go.V
namespace Go.V
variable {α:Type}
variable {P:Program} {env:Bf} {w₀ w w':World} {O₀ O₁ W O O':Ab} {σ σ₀ σ':St} {γ γ':Name->Src} {φ φ':Name->Ab} {a a':Act} {n:Name}
theorem Sim.only (m:List Name):∀ (l:List (Name×AV)) {σ:St} {O:Ab},Sim P env w₀ O₀ W σ γ φ O a w->∃ O',Sim P env w₀ O₀ W (σ.only m l) γ φ O' a w
 |[],σ,O,S=>⟨O,S⟩
 |(n,_)::l,σ,O,S=>by
  unfold St.only;split
  ·exact Sim.only m l S
  ·cases hr:σ.root n with
   |some r=>
    obtain ⟨O',S',_⟩:=(S.drop hr).forget (O₀:=O₀) (fun b h=>.inl h);exact Sim.only m l S'
   |none=>
    have A:Iu w w O O σ (σ.drop n) γ γ φ φ n:=
     ⟨AF.refl _ _,fun _ _ h=>h,fun m hm=>by rw [St.root_drop,if_neg hm],fun _ _=>rfl,fun _ _=>rfl⟩
    refine Sim.only m l (S.change A (fun _ h=>h) ?_ ?_ (St.slot_drop σ n) (fun _ bx d sh h=>by rw [St.root_drop,if_pos rfl] at h;cases h))
    ·intro b;rw [S.own b];constructor
     ·rintro (h | ⟨k,r,h1,h2⟩)
      ·exact .inl h
      ·refine .inr ⟨k,r.kill n,?_,h2⟩;rw [St.root_drop,if_neg (by rintro rfl;rw [hr] at h1;cases h1),h1];rfl
     ·rintro (h | ⟨k,r,h1,h2⟩)
      ·exact .inl h
      ·rw [St.root_drop] at h1;split at h1
       ·cases h1
       ·cases hs:σ.root k with
        |none=>rw [hs] at h1;cases h1
        |some r' =>exact .inr ⟨k,r',hs,h2⟩
    ·intro r h;rw [St.root_drop,if_pos rfl] at h;cases h
theorem EX (f:Name->Option AV):∀ (m:List Name) (n:Name) (r:AV),look (m.filterMap fun n=>(f n).map fun r=>(n,r)) n=some r->f n=some r
 |[],n,r,h=>by simp [look] at h
 |k::m,n,r,h=>by
  rw [List.filterMap_cons] at h;cases hf:f k with
  |none=>rw [hf] at h;exact EX f m n r h
  |some r' =>
   rw [hf] at h;simp only [Option.map_some,look] at h;split at h
   ·rename_i hb;have:k=n:=Nat.eq_of_beq_eq_true hb;subst this;rw [hf];exact h
   ·exact EX f m n r h
theorem GH (f:Name->Option AV):∀ (m:List Name) (n:Name),n∈m->look (m.filterMap fun n=>(f n).map fun r=>(n,r)) n=f n
 |[],n,h=>by simp at h
 |k::m,n,h=>by
  rw [List.filterMap_cons];by_cases hk:k=n
  ·subst hk;cases hf:f k with
   |none=>
    simp only [Option.map_none];cases hl:look (m.filterMap fun n=>(f n).map fun r=>(n,r)) k with
    |none=>rfl
    |some r=>rw [EX f m k r hl] at hf;cases hf
   |some r=>simp [look]
  ·have hm:n∈m:=by simp at h;exact h.resolve_left fun e=>hk e.symm
   cases hf:f k with
   |none=>exact GH f m n hm
   |some r=>
    simp only [Option.map_some,look,Dn hk];exact GH f m n hm
theorem Oa:∀ (m:List Name) (l:List (Name×AV)) (σ:St) (n:Name) (r:AV),(σ.only m l).root n=some r->(n∈m\/∀ r',(n,r')∉l)/\∃ r',σ.root n=some r'
 |m,[],σ,n,r,h=>⟨.inr (by simp),r,h⟩
 |m,(k,q)::l,σ,n,r,h=>by
  unfold St.only at h;split at h
  ·rename_i hk;obtain ⟨h1,h2⟩:=Oa m l σ n r h;refine ⟨?_,h2⟩;by_cases hn:n=k
   ·left;rw [hn];simpa using hk
   ·rcases h1 with h1 | h1
    ·exact .inl h1
    ·refine .inr fun r' =>?_
     simp only [List.mem_cons,Prod.mk.injEq,not_or,not_and];exact ⟨fun e=>absurd e hn,h1 r'⟩
  ·obtain ⟨h1,r',h2⟩:=Oa m l (σ.drop k) n r h;rw [St.root_drop] at h2;split at h2
   ·cases h2
   ·rename_i hn;refine ⟨?_,?_⟩
    ·rcases h1 with h1 | h1
     ·exact .inl h1
     ·refine .inr fun r' =>?_
      simp only [List.mem_cons,Prod.mk.injEq,not_or,not_and];exact ⟨fun e=>absurd e hn,h1 r'⟩
    ·cases hs:σ.root n with
     |none=>rw [hs] at h2;cases h2
     |some r₂=>exact ⟨r₂,rfl⟩
theorem Xe:∀ (l:List (Nat×AV)) (n:Nat) (r:AV),look l n=some r->(n,r)∈l
 |[],n,r,h=>by simp [look] at h
 |(k,q)::l,n,r,h=>by
  simp only [look] at h;split at h
  ·rename_i hb;have:k=n:=Nat.eq_of_beq_eq_true hb;subst this;injection h with h
   subst h;simp
  ·exact List.mem_cons_of_mem _ (Xe l n r h)
theorem QT (f:Nat->Slot):∀ (l:List Nat) (i:Nat),(look (l.map fun i=>(i,f i)) i).getD .undef=f i\/(look (l.map fun i=>(i,f i)) i).getD .undef = .undef
 |[],i=>.inr rfl
 |k::l,i=>by
  simp only [List.map_cons,look];split
  ·rename_i hb;have:k=i:=Nat.eq_of_beq_eq_true hb;subst this;exact .inl rfl
  ·exact QT f l i
theorem Sim.keep (S:Sim P env w₀ O₀ W σ γ φ O a w) (l:List Nat) (m:List Name):∃ O',Sim P env w₀ O₀ W (σ.keep l m) γ φ O' a w:=by
 obtain ⟨O',S'⟩:=Sim.only m σ.mem S;refine ⟨O',?_⟩
 have hroot:∀ n,(σ.keep l m).root n=(σ.only m σ.mem).root n:=by
  intro n;unfold St.keep St.root;dsimp only;by_cases hn:n∈m
  ·exact GH _ m n hn
  ·have h1:(σ.only m σ.mem).root n=none:=by
    cases h:(σ.only m σ.mem).root n with
    |none=>rfl
    |some r=>
     obtain ⟨h1,r',h2⟩:=Oa m σ.mem σ n r h;rcases h1 with h1 | h1
     ·exact (hn h1).elim
     ·exact (h1 r' (Xe _ _ _ h2)).elim
   have h1':look (σ.only m σ.mem).mem n=none:=h1;rw [h1'];cases h:look (m.filterMap fun n=>((σ.only m σ.mem).root n).map fun r=>(n,r)) n with
   |none=>exact h
   |some r=>
    have:=EX _ m n r h;rw [h1] at this;cases this
 refine ⟨S'.defers,S'.size,S'.kept,fun n r hr=>RootOk.congr hroot (S'.roots n r ((hroot n).symm.trans hr)),?_,?_,?_,S'.old,?_,fun b hb bx d sh h=>S'.pin b hb bx d sh ((hroot 4).symm.trans h)⟩
 ·intro n k r r' h1 h2;rw [hroot] at h1 h2;exact S'.apart n k r r' h1 h2
 ·intro n r h;rw [hroot] at h;exact S'.fresh n r h
 ·intro b;rw [S'.own b];simp only [hroot]
 ·intro i;have:=QT (fun i=>(σ.only m σ.mem).slot i) l i;have e:(σ.keep l m).slot i=(look (l.map fun i=>(i,(σ.only m σ.mem).slot i)) i).getD .undef:=rfl;rw [e];rcases this with h | h
  ·rw [h];exact (S'.slots i).congr hroot
  ·rw [h];exact .undef _
theorem nQ {q:Bi} (h:Be q .z=true) (s:Sh):Be q s=true:=by
 induction q generalizing s with
 |nil=>rfl
 |cons st q ih=>
  cases st with
  |l=>exact ih h s.l
  |r=>exact ih h s.r
  | «at» n=>cases h
theorem Sim.frzBox (S:Sim P env w₀ O₀ W σ γ φ O a w) {d:Hd} {sh:Sh} (hr:σ.root n=some (.data true d sh)) (hw:sh.whole=true):∃ φ' O',Sim P env w₀ O₀ W (σ.put n (.data true d .z)) γ φ' O' a w:=by
 obtain ⟨bb,off,C,tid,fr₃,cs,F,hsrc,hb,hfz,hcs,hrep,hF,hOb,hU⟩:=S.roots n _ hr
 let φ':Name->Ab:=fun m=>if m=n then (fun b=>b=bb) else φ m
 have hφn:φ' n=fun b=>b=bb:=by simp [φ']
 have hφm:∀ m,m≠n->φ' m=φ m:=fun m hm=>by simp [φ',hm]
 have hφ:∀ m b,φ' m b->φ m b:=fun m b h=>by
  by_cases hm:m=n
  ·subst hm;rw [hφn] at h;exact (hU b).2 (.inl h)
  ·rwa [hφm m hm] at h
 have hrn:(σ.put n (.data true d .z)).root n=some (.data true d .z):=by rw [St.root_put,if_pos rfl]
 have hrm:∀ m,m≠n->(σ.put n (.data true d .z)).root m=σ.root m:=fun m hm=>by rw [St.root_put,if_neg hm]
 have hsome:∀ m r,(σ.put n (.data true d .z)).root m=some r->∃ r',σ.root m=some r' :=fun m r h=>by
  by_cases hm:m=n
  ·subst hm;exact ⟨_,hr⟩
  ·exact ⟨r,(hrm m hm).symm.trans h⟩
 let O':Ab:=fun b=>O₀ b\/∃ m r',(σ.put n (.data true d .z)).root m=some r' /\φ' m b
 have hle:∀ b,¬O b->¬O' b:=by
  rintro b hO (h | ⟨m,r,h1,h2⟩)
  ·exact hO ((S.own b).2 (.inl h))
  ·obtain ⟨r',h3⟩:=hsome m r h1;exact hO ((S.own b).2 (.inr ⟨m,r',h3,hφ m b h2⟩))
 have nar:∀ {s:Slot} {v:Value},Ak P w O σ γ s v->Ak P w O' (σ.put n (.data true d .z)) γ s v:=fun h=>by
  refine Ak.less (fun b _=>hle b) (Ak.narrow ?_ ?_ h)
  ·intro m b₂ d₂ sh₂ h;by_cases hm:m=n
   ·subst hm;rw [hr] at h;injection h with h
    injection h with e1 e2 e3
    subst e1 e2 e3;exact ⟨.z,hrn,fun q hq=>nQ hq _⟩
   ·exact ⟨sh₂,(hrm m hm).trans h,fun _ h=>h⟩
  ·intro m s h;have hm:m≠n:=by rintro rfl;rw [hr] at h;cases h
   exact (hrm m hm).trans h
 have hOφ:∀ m r b,(σ.put n (.data true d .z)).root m=some r->φ' m b->O' b:=fun m r b h1 h2=>.inr ⟨m,r,h1,h2⟩
 refine ⟨φ',O',S.defers,S.size,S.kept,?_,fun m k r r' h1 h2 hne b hb=>?_,fun m r h b hb=>?_,fun b=>Iff.rfl,S.old,fun i=>nar (S.slots i),fun b₁ hb₁ bx₁ d₁ sh₁ h₁=>?_⟩
 ·intro m r h;by_cases hm:m=n
  ·subst hm;rw [hrn] at h;injection h with h
   subst h
   have hz:Rep w O' d.t .z d.x cs Ab.none:=Rep.freeze (fun b _=>hle b) hw (fun b hb=>by
    rintro (h | ⟨k,r',h1,h2⟩)
    ·exact (S.fresh m _ hr b ((hU b).2 (.inr hb))).2 h
    ·by_cases hk:k=m
     ·subst hk;rw [hφn] at h2;exact hF (h2▸hb)
     ·obtain ⟨r'',h3⟩:=hsome k r' h1;rw [hφm k hk] at h2;exact S.apart k m _ _ h3 hr hk b ⟨h2,(hU b).2 (.inr hb)⟩) hrep
   exact ⟨bb,off,C,tid,fr₃,cs,Ab.none,hsrc,hb,hfz,hcs,hz,fun h=>h,hOφ m _ bb hrn (by rw [hφn]),fun k=>by rw [hφn];simp [Ab.none]⟩
  ·have R:=S.roots m r ((hrm m hm).symm.trans h);rw [hφm m hm]
   have fr:∀ {t:Ty} {sh:Sh} {x:t.den} {cs:List Value} {F:Ab},(∀ b,F b->φ m b)->Rep w O t sh x cs F->Rep w O' t sh x cs F:=fun hF h' =>
    Rep.frame (Nat.le_refl _) (fun _ _ _=>rfl) (fun _ _=>rfl) (fun b _=>hle b) (fun b hb _=>hOφ m r b h (by rw [hφm m hm];exact hF b hb)) h'
   cases r with
   |data bx d sh=>
    cases bx with
    |true=>
     obtain ⟨b,off,C,tid,fr',cs,F',hsrc,hb,hfz,hcs,hrep,hF',hOb,hU⟩:=R;exact ⟨b,off,C,tid,fr',cs,F',hsrc,hb,hfz,hcs,fr (fun k hk=>(hU k).2 (.inr hk)) hrep,hF',hOφ m _ b h (by rw [hφm m hm];exact (hU b).2 (.inl rfl)),hU⟩
    |false=>
     obtain ⟨cs,hsrc,hrep⟩:=R;exact ⟨cs,hsrc,fr (fun _ h=>h) hrep⟩
   |held s=>
    obtain ⟨b,off,C,tid,fr',v,hsrc,hb,hfz,hC,hs,hOb,hU⟩:=R;exact ⟨b,off,C,tid,fr',v,hsrc,hb,hfz,hC,nar hs,hOφ m _ b h (by rw [hφm m hm];exact (hU b).2 rfl),hU⟩
 ·obtain ⟨s,h3⟩:=hsome m r h1;obtain ⟨s',h4⟩:=hsome k r' h2;exact S.apart m k s s' h3 h4 hne b ⟨hφ m b hb.1,hφ k b hb.2⟩
 ·obtain ⟨s,h3⟩:=hsome m r h;exact S.fresh m s h3 b (hφ m b hb)
 ·by_cases hm:4=n
  ·subst hm;exact S.pin b₁ hb₁ true d sh hr
  ·exact S.pin b₁ hb₁ bx₁ d₁ sh₁ ((hrm 4 hm).symm.trans h₁)
theorem Sim.frz (S:Sim P env w₀ O₀ W σ γ φ O a w) (i:Nat):∃ φ' O',Sim P env w₀ O₀ W (σ.frz i) γ φ' O' a w:=by
 unfold St.frz;split
 case h_3=>exact ⟨φ,O,S⟩
 case h_2 n hs=>
  split
  case h_2=>exact ⟨φ,O,S⟩
  case h_1 d sh hr=>
   split
   case h_2=>exact ⟨φ,O,S⟩
   case h_1 hw=>exact S.frzBox hr hw
 case h_1 t n hs=>
  split
  case h_2=>exact ⟨φ,O,S⟩
  case h_1 d sh hr=>
   split
   case h_2=>exact ⟨φ,O,S⟩
   case h_1 hw=>
    have hsl:=S.slots i;rw [hs] at hsl;obtain ⟨cs,hsrc,hrep⟩:=S.roots n _ hr;have hv:C_ d.t (a.tmps.getD i undef) cs:=DJ hsl (p:=⟨n,[]⟩) hr rfl (d' :=d) rfl (src:=γ n) rfl (by rw [hsrc];rfl);obtain ⟨O',S',hle⟩:=(S.drop hr).forget (O₀:=O₀) (fun b h=>.inl h)
    have hgone:∀ b,φ n b->¬O' b:=by
     intro b hb ho;rcases (S'.own b).1 ho with h | ⟨k,r',hr',hf⟩
     ·exact (S.fresh n _ hr b hb).2 h
     ·rw [St.root_drop] at hr';split at hr'
      ·cases hr'
      ·rename_i hn;cases hq:σ.root k with
       |none=>rw [hq] at hr';cases hr'
       |some q=>exact S.apart k n _ _ hq hr hn b ⟨hf,hb⟩
    have hz:Rep w O' d.t .z d.x cs Ab.none:=Rep.freeze (fun b _ h=>hle b h) hw hgone hrep;refine ⟨φ,O',S'.defers,S'.size,S'.kept,fun m r hr=>RootOk.congr (σ:=σ.drop n) (σ' :=(σ.drop n).set i (.pv d)) (fun _=>rfl) (S'.roots m r hr),S'.apart,S'.fresh,S'.own,S'.old,fun j=>?_,S'.pin⟩;rw [St.slot_set];split
    ·rename_i h;subst h;exact .pv d _ cs hv hz
    ·exact Ak.congr (σ:=σ.drop n) (σ' :=(σ.drop n).set i (.pv d)) (fun _=>rfl) (S'.slots j)
theorem Sim.frzL:∀ (l:List Nat) {σ:St} {φ:Name->Ab} {O:Ab},Sim P env w₀ O₀ W σ γ φ O a w->∃ φ' O',Sim P env w₀ O₀ W (σ.frzL l) γ φ' O' a w
 |[],_,φ,O,S=>⟨φ,O,S⟩
 |i::l,_,_,_,S=>by
  obtain ⟨φ₁,O₁,S₁⟩:=S.frz i;exact Sim.frzL l S₁
theorem Sim.frzOp (S:Sim P env w₀ O₀ W σ γ φ O a w) (hints:List (Nat×List Nat×List Name)) (o:Oper):∃ φ' O',Sim P env w₀ O₀ W (σ.frzOp hints o) γ φ' O' a w:=by
 unfold St.frzOp;split
 ·split
  ·exact Sim.frzL _ S
  ·exact ⟨φ,O,S⟩
 ·exact ⟨φ,O,S⟩
theorem Sim.ren (S:Sim P env w₀ O₀ W σ γ φ O a w) (i:Nat):∃ γ' φ' O',Sim P env w₀ O₀ W (σ.ren i) γ' φ' O' a w:=by
 unfold St.ren;split
 case h_2=>exact ⟨γ,φ,O,S⟩
 case h_1 t n hs=>
  split
  ·exact ⟨γ,φ,O,S⟩
  ·split
   case h_2=>exact ⟨γ,φ,O,S⟩
   case h_1 d sh hr=>
    have hsl:=S.slots i;rw [hs] at hsl;obtain ⟨cs,hsrc,hrep⟩:=S.roots n _ hr;have hv:C_ d.t (a.tmps.getD i undef) cs:=DJ hsl (p:=⟨n,[]⟩) hr rfl (d' :=d) rfl (src:=γ n) rfl (by rw [hsrc];rfl)
    have ht:t=d.t:=by
     generalize a.tmps.getD i undef=v at hsl;cases hsl with
     |ref _ _ _ src hp hl=>
      obtain ⟨b,d',sh',h1,h2,_⟩:=hp;rw [hr] at h1;injection h1 with h1
      injection h1 with _ h1 _
      subst h1;exact (Option.some.inj h2).symm
    subst ht
    obtain ⟨γ',φ',O',S',A,hγ,hφ⟩:=(S.drop hr).lay (n:=i*8+1) (O₀:=O₀) (r:=.data false d sh) (src:=.val cs) (F:=φ n)
     (AF.refl _ _) (fun _ h=>.inl h) (fun c hc=>.inr (.inr ⟨.inr hc,(S.fresh _ _ hr c hc).2,(S.fresh _ _ hr c hc).1⟩))
     (fun O' γ' φ' A hγ hO=>⟨_,rfl,Rep.frame (Nat.le_refl _) (fun _ _ _=>rfl) (fun _ _=>rfl) A.free (fun b hb _=>hO b hb) hrep⟩) (fun e=>absurd e (show ¬(i*8+1:Nat)=4 by omega))
    refine ⟨γ',φ',O',S'.defers,S'.size,S'.kept,fun m r hr=>RootOk.congr (σ:=(σ.drop n).lay (i*8+1) (.data false d sh)) (σ' :=((σ.drop n).lay (i*8+1) (.data false d sh)).set i (.ref d.t ⟨i*8+1,[]⟩)) (fun _=>rfl) (S'.roots m r hr),S'.apart,S'.fresh,S'.own,S'.old,fun j=>?_,S'.pin⟩;rw [St.slot_set];split
    ·rename_i h;subst h;refine .ref d.t ⟨j*8+1,[]⟩ _ (.val cs) ⟨false,d,sh,by rw [St.root_set,St.root_lay,if_pos rfl],rfl,fun _=>?_⟩ fun _=>⟨cs,?_,hv⟩
     ·simp only [goto];rw [hγ]
     ·show Al w d.t.size (.val cs)=some cs;rfl
    ·exact Ak.congr (σ:=(σ.drop n).lay (i*8+1) (.data false d sh)) (σ' :=((σ.drop n).lay (i*8+1) (.data false d sh)).set i (.ref d.t ⟨i*8+1,[]⟩)) (fun _=>rfl) (S'.slots j)
theorem Sim.renL:∀ (l:List Nat) {σ:St} {γ:Name->Src} {φ:Name->Ab} {O:Ab},Sim P env w₀ O₀ W σ γ φ O a w->∃ γ' φ' O',Sim P env w₀ O₀ W (σ.renL l) γ' φ' O' a w
 |[],_,γ,φ,O,S=>⟨γ,φ,O,S⟩
 |i::l,_,_,_,_,S=>by
  obtain ⟨_,_,_,S₁⟩:=S.ren i;exact Sim.renL l S₁
theorem Sim.keepAt (S:Sim P env w₀ O₀ W σ γ φ O a w) (hints:List (Nat×List Nat×List Name)) (id:Nat):∃ γ' φ' O',Sim P env w₀ O₀ W (σ.keepAt hints id) γ' φ' O' a w:=by
 unfold St.keepAt;split
 ·split
  ·rename_i f g _;obtain ⟨_,O₁,S₁⟩:=S.frzL f;obtain ⟨γ₂,φ₂,O₂,S₂⟩:=S₁.renL g;obtain ⟨O₃,S₃⟩:=S₂.keep _ _;exact ⟨_,_,_,S₃⟩
  ·obtain ⟨O₃,S₃⟩:=S.keep _ _;exact ⟨_,_,_,S₃⟩
 ·exact ⟨_,_,_,S⟩
theorem HM.upon {o:Oper} {k:Slot->St->Option α} {r:α} (h:HM P env w₀ O₀ W a w (execOp a.eval o) k r) {next:Act->World->Prop} {Q:Exit->Act->World->Prop}
  (hnext:∀ s v σ' γ' φ' O' w',Sim P env w₀ O₀ W σ' γ' φ' O' a w' ->Ak P w' O' σ' γ' s v->k s σ'=some r->next (a.put o.dst v) w') :
  o.upon P a next Q ((execOp a.eval o).run P w):=by
 obtain ⟨s,v,σ',γ',φ',O',w',hrun,S',hs,hk⟩:=h;rcases hrun with hrun | ⟨hrun,rfl⟩
 ·rw [hrun];exact hnext s v σ' γ' φ' O' w' S' hs hk
 ·rw [hrun];exact hnext s _ σ' γ' φ' O' w' S' hs hk
theorem jt (S:Sim P env w₀ O₀ W σ γ φ O a w) (hty:env.TyOk P) (hfn:env.FnOk P) {o:Oper} {k:Slot->St->Option α} {r:α} (h:Cj env σ o k=some r)
  {next:Act->World->Prop} {Q:Exit->Act->World->Prop}
  (hnext:∀ s v σ' γ' φ' O' w',Sim P env w₀ O₀ W σ' γ' φ' O' a w' ->Ak P w' O' σ' γ' s v->k s σ'=some r->next (a.put o.dst v) w') :
  o.upon P a next Q ((execOp a.eval o).run P w):=by
 cases hop:o.op with
 |alloc t=>exact (eV S hty hop h).upon hnext
 |box t x=>exact (nN S hop h).upon hnext
 |build t parts=>exact (e_ S hty hop h).upon hnext
 |buildSlice t m parts=>exact (Lm S hty hop h).upon hnext
 |store t x y=>exact (QL S hty hop h).upon hnext
 |convert src dst x=>exact (fb S hty hop h).upon hnext
 |makeSlice t x y=>exact (UF S hty hop h).upon hnext
 |call c=>
  by_cases hb:c.callee = .builtin .append
  ·exact (cL S hty hop hb h).upon hnext
  by_cases hb':c.callee = .builtin .clear
  ·exact (ff S hty hop hb' h).upon hnext
  ·have quiet:DA env σ c (fun s=>k s σ)=some r->o.upon P a next Q ((execOp a.eval o).run P w):=fun h' =>
    callE_ok S hty hfn hop h' fun s v w' S' hs hk _=>hnext s v σ γ φ O w' S' hs hk
   unfold Cj at h;rw [hop] at h;dsimp only at h;split at h
   ·rename_i e;exact (hb e).elim
   ·rename_i e;exact (hb' e).elim
   ·rename_i g hg;split at h
    ·rename_i fu hfu;exact cW S hfn hop hg hfu h hnext
    ·split at h
     ·exact WP S hfn h fun R s v γ' φ' O' w' S' hs hk=>hnext s v _ γ' φ' O' w' S' hs hk
     ·exact quiet h
   ·exact quiet h
 |makeFunc g first caps=>
  unfold Cj at h;rw [hop] at h;dsimp only at h;split at h
  ·rename_i f x hx;obtain ⟨s,v,hrun,hs,hk⟩:=WQ S hfn hop hx h;rw [hrun];exact hnext s v σ γ φ O w S hs hk
  ·cases h
 |_=>unfold Cj at h;rw [hop] at h;cases h
theorem Sim.rebase (S:Sim P env w₀ O₀ W σ γ φ O a w):Sim P env w O₀ (fun b=>O b/\¬O₀ b) σ γ φ O a w:=
 ⟨S.defers,S.size,AF.refl _ _,S.roots,S.apart,fun n r hr b hb=>⟨.inr ⟨(S.own b).2 (.inr ⟨n,r,hr,hb⟩),(S.fresh n r hr b hb).2⟩,(S.fresh n r hr b hb).2⟩,S.own,S.old,S.slots,S.pin⟩
theorem Sim.unbase {env':Bf} (S:Sim P env w₀ O₀ W σ γ φ O a w) (S':Sim P env' w O₀ (fun b=>O b/\¬O₀ b) σ' γ' φ' O' a' w'):Sim P env' w₀ O₀ W σ' γ' φ' O' a' w' :=by
 have key:∀ b,O b/\¬O₀ b->w₀.heap.size<=b\/W b:=by
  rintro b ⟨h,hn⟩;rcases (S.own b).1 h with h | ⟨n,r,hr,hb⟩
  ·exact (hn h).elim
  ·exact (S.fresh n r hr b hb).1
 refine ⟨S'.defers,S'.size,S.kept.trans S'.kept (fun k hk h=>(key k h).resolve_left (by omega)),S'.roots,S'.apart,fun n r hr b hb=>?_,S'.own,S'.old,S'.slots,S'.pin⟩;obtain ⟨h1,h2⟩:=S'.fresh n r hr b hb;refine ⟨?_,h2⟩;rcases h1 with h | h
 ·exact .inl (Nat.le_trans S.kept.size h)
 ·exact key b h
theorem oper_ok2 (S:Sim P env w₀ O₀ W σ γ φ O a w) (hty:env.TyOk P) (hfn:env.FnOk P) {o:Oper} {k:St->Option α} {r:α} (h:EJ env o σ k=some r)
  {next:Act->World->Prop} {Q:Exit->Act->World->Prop}
  (hnext:∀ σ' γ' φ' O' a' w',Sim P env w₀ O₀ W σ' γ' φ' O' a' w' ->k σ'=some r->(∃ v,a'=a.put o.dst v)->next a' w'):o.wp P a w next Q:=by
 unfold EJ at h
 have fin:∀ s v σ' γ' φ' O' w',Sim P env w₀ O₀ W σ' γ' φ' O' a w' ->Ak P w' O' σ' γ' s v->Pt env o.dst k s σ'=some r->next (a.put o.dst v) w' :=by
  intro s v σ' γ' φ' O' w' S' hs hk;unfold Pt at hk;cases hd:o.dst with
  |none=>
   rw [hd] at hk;exact hnext _ _ _ _ _ _ S' hk ⟨v,by rw [hd]⟩
  |some d=>
   rw [hd] at hk;dsimp only at hk;split at hk
   ·rename_i hlt;exact hnext _ _ _ _ _ _ (S'.set (by simpa using hlt) hs) hk ⟨v,by rw [hd]⟩
   ·cases hk
 unfold Oper.wp;split at h
 ·exact jt S hty hfn h fin
 ·obtain ⟨s,v,hrun,hs,hk⟩:=QF S hty h;rw [hrun];exact fin s v _ _ _ _ _ S hs hk
theorem PL (S:Sim P env w₀ O₀ W σ γ φ O a w) (hty:env.TyOk P) (hfn:env.FnOk P) {o:Oper} {k:St->Option α} {r:α} (h:EJ env o σ k=some r)
  {next:Act->World->Prop} {Q:Exit->Act->World->Prop}
  (hnext:∀ σ' γ' φ' O' a' w',Sim P env w₀ O₀ W σ' γ' φ' O' a' w' ->k σ'=some r->next a' w'):o.wp P a w next Q:=
 oper_ok2 S hty hfn h fun σ' γ' φ' O' a' w' S' hk _=>hnext σ' γ' φ' O' a' w' S' hk
theorem UL (S:Sim P env w₀ O₀ W σ γ φ O a w) {o:Oper} {k:St->Option α} {r:α} (h:WK env o σ k=some r)
  {next:Act->World->Prop} (hnext:∀ σ' γ' φ' O' a' w',Sim P env w₀ O₀ W σ' γ' φ' O' a' w' ->k σ'=some r->next a' w'):next (a.put o.dst undef) w:=by
 unfold WK at h;cases hd:o.dst with
 |none=>
  rw [hd] at h;exact hnext _ _ _ _ _ _ S h
 |some d=>
  rw [hd] at h;dsimp only at h;split at h
  ·rename_i hlt;exact hnext _ _ _ _ _ _ (S.set (by simpa using hlt) Mv) h
  ·cases h
theorem fk (hty:env.TyOk P) (hfn:env.FnOk P) {ops:Array Oper} {Q:Exit->Act->World->Prop}:∀ (l:List Nat) {σ:St} {γ:Name->Src} {φ:Name->Ab} {O:Ab} {a:Act} {w:World} {k:St->Option α} {r:α},
  Sim P env w₀ O₀ W σ γ φ O a w->eK env ops l σ k=some r->(∀ σ' γ' φ' O' a' w',Sim P env w₀ O₀ W σ' γ' φ' O' a' w' ->k σ'=some r->Q .normal a' w')->wpOps P ops Q l a w
 |[],σ,γ,φ,O,a,w,k,r,S,h,hQ=>hQ _ _ _ _ _ _ S h
 |i::l,σ,γ,φ,O,a,w,k,r,S,h,hQ=>by
  unfold eK at h;unfold wpOps;split at h
  case h_2=>cases h
  case h_1 o ho=>
   rw [ho];dsimp only
   have rest:∀ σ' γ' φ' O' a' w',Sim P env w₀ O₀ W σ' γ' φ' O' a' w' ->eK env ops l σ' k=some r->wpOps P ops Q l a' w' :=
    fun σ' γ' φ' O' a' w' S' h' =>fk hty hfn l S' h' hQ
   obtain ⟨φ₁,O₁,S⟩:=S.frzOp env.hints o;generalize σ.frzOp env.hints o=σ at S h;unfold eJ at h;split at h
   ·rename_i hg;rw [show Region.wanted o (yielded ops a.tmps)=true by simp [Region.wanted,hg],if_pos rfl];exact .inl (PL S hty hfn h rest)
   ·rename_i j want hg;split at h
    case h_2=>cases h
    case h_1 d hd=>
     split at h
     case h_3=>cases h
     case h_2 hlt hs=>
      have hv:=S.slots d;rw [hs] at hv;have hw:Region.wanted o (yielded ops a.tmps)=false:=by simp only [Region.wanted,hg,JE hd hv];cases want<;>rfl
      rw [hw];simp only [Bool.false_eq_true,if_false];exact UL S h rest
     case h_1 b hlt hs=>
      have hdn:d<a.tmps.size:=by rw [S.size];simpa using hlt
      have hv:=S.slots d;rw [hs] at hv;have hvb:=Ir hv
      have hy:yielded ops a.tmps j=some (Za b):=by
       unfold yielded;rw [hd];simp only [Ai5];rw [Array.getElem?_eq_getElem hdn];have:a.tmps[d] = .bool b:=by rw [<-hvb,Array.getD_eq_getD_getElem?,Array.getElem?_eq_getElem hdn];rfl
       rw [this]
      have lit:∀ c:Bool,Za b=c->Sim P env w₀ O₀ W (σ.set d (Cw c)) γ φ₁ O₁ a w:=by
       intro c hc;have:=S.set (d:=d) (s:=Cw c) (v:=.bool c) (by simpa using hlt) (Dm c);rwa [Act.put_same (by rw [hvb,<-hc]) hdn] at this
      have hw:Region.wanted o (yielded ops a.tmps)=(some (Za b)==some want):=by simp only [Region.wanted,hg,hy]
      rw [hw];split at h
      ·rename_i hb;rw [hb];split at h
       ·exact .inl (PL (lit true hb) hty hfn h rest)
       ·simp only [show (some true==some false)=false from rfl,Bool.false_eq_true,if_false];exact UL (lit true hb) h rest
      ·rename_i hb;rw [hb];split at h
       ·simp only [show (some false==some true)=false from rfl,Bool.false_eq_true,if_false];exact UL (lit false hb) h rest
       ·exact .inl (PL (lit false hb) hty hfn h rest)
def ye (P:Program) (env:Bf) (w₀:World) (O₀ W:Ab) (κ:Gw α) (r:α):Exit->Act->World->Prop:=fun e a' w' =>
 ∃ σ' γ' φ' O',Sim P env w₀ O₀ W σ' γ' φ' O' a' w' /\match e with
  |.normal=>κ.normal σ'=some r
  |.exit id=>κ.exit id σ'=some r
  |.ret=>κ.ret σ'=some r
  |_=>False
theorem SM {Q:Exit->Act->World->Prop} {c:Code} (Inv:Nat->Act->World->Prop) (h0:∀ a w,¬Inv 0 a w)
  (round:∀ k a w,Inv (k+1) a w->c.wp P (Exit.then (Inv k) Q) a w) {k:Nat} {a:Act} {w:World} (h:Inv k a w):(Code.loop c).wp P Q a w:=by
 intro b kk cs
 have key:∀ n a w,Inv n a w->∃ e a' w',Q e a' w' /\Arrives P (lone (b.at a (.code c :: .inLoop c::kk)) cs w) b kk cs e a' w' :=by
  intro n;induction n with
  |zero=>intro a w h;exact (h0 a w h).elim
  |succ n ih=>
   intro a w hI;obtain ⟨e,a₁,w₁,hq,harr⟩:=round n a w hI b (.inLoop c::kk) cs;cases e with
   |normal=>
    obtain ⟨e₂,a₂,w₂,hq₂,harr₂⟩:=ih a₁ w₁ hq;exact ⟨e₂,a₂,w₂,hq₂,.of_steps (Steps.trans harr (.one step_inLoop)) harr₂⟩
   |exit id=>exact ⟨_,a₁,w₁,hq,.pass (x:=.inLoop c) rfl (fun _ _=>.inl (by simp)) harr⟩
   |goto l=>exact ⟨_,a₁,w₁,hq,.pass (x:=.inLoop c) rfl (fun _ _=>.inl (by simp)) harr⟩
   |ret=>exact ⟨_,a₁,w₁,hq,.pass (x:=.inLoop c) rfl (fun _ _=>.inl (by simp)) harr⟩
   |panic ch=>exact ⟨_,a₁,w₁,hq,.pass (x:=.inLoop c) rfl (fun _ _=>.inl (by simp)) harr⟩
   |outgrown=>exact ⟨_,a₁,w₁,hq,.pass (x:=.inLoop c) rfl (fun _ _=>.inl (by simp)) harr⟩
 obtain ⟨e,a',w',hq,harr⟩:=key _ a w h;exact ⟨e,a',w',hq,.of_steps (.one step_loop) harr⟩
end Go.V
namespace Go.V
variable {α β:Type}
variable {P:Program} {env:Bf} {w₀ w w':World} {O₀ O₁ W O O':Ab} {σ σ₀ σ' σ₁ σ₂:St} {γ γ':Name->Src} {φ φ':Name->Ab} {a a':Act} {n:Name} {B:Nat->Bool} {T:List Name} {dst:Option Nat}
theorem Tp (f:Nat->Slot->Slot):∀ (l:List (Nat×Slot)) (j:Nat),look (l.map fun x=>(x.1,f x.1 x.2)) j=(look l j).map (f j)
 |[],_=>rfl
 |(i,s)::l,j=>by
  simp only [List.map_cons,look];split
  ·rename_i h;rw [Nat.eq_of_beq_eq_true h];rfl
  ·exact Tp f l j
theorem Jd (f:Nat->Slot->Slot):∀ (l:List (Nat×Slot)) (j:Nat),Cp (l.map fun x=>(x.1,f x.1 x.2)) j=(Cp l j).map fun x=>(x.1,f x.1 x.2)
 |[],_=>rfl
 |(i,s)::l,j=>by
  simp only [List.map_cons,Cp];split
  ·exact Jd f l j
  ·rw [Jd f l j];rfl
def blk (B:Nat->Bool) (i:Nat) (s:Slot):Slot:=match B i with | true=>.undef | false=>s
theorem CP:σ.blank B={slots:=σ.slots.map fun x=>(x.1,blk B x.1 x.2),mem:=σ.mem}:=rfl
theorem AW (i:Nat):(σ.blank B).slot i=blk B i (σ.slot i):=by
 rw [CP];unfold St.slot;rw [Tp];cases look σ.slots i with
 |none=>unfold blk;simp only [Option.map_none,Option.getD_none];split<;>rfl
 |some s=>rfl
theorem Dq (n:Name):(σ.blank B).root n=σ.root n:=rfl
theorem Xf (n:Name) (i:Nat) (s:Slot):(blk B i s).kill n=blk B i (s.kill n):=by
 unfold blk;split
 ·rfl
 ·rfl
theorem Dc (n:Name) (R:AV):(σ.blank B).lay n R=(σ.lay n R).blank B:=by
 unfold St.lay;rw [CP,CP];simp only [List.map_map];congr 1;refine List.map_congr_left fun x _=>?_
 simp only [Function.comp];rw [Xf]
theorem Gi (n:Name):(σ.blank B).drop n=(σ.drop n).blank B:=by
 unfold St.drop;rw [CP,CP];simp only [List.map_map];congr 1;refine List.map_congr_left fun x _=>?_
 simp only [Function.comp];rw [Xf]
theorem cZ {d:Nat} (hd:B d=false) (s:Slot):(σ.blank B).set d s=(σ.set d s).blank B:=by
 unfold St.set;rw [CP,CP];simp only [List.map_cons];rw [Jd];congr 1;unfold blk;rw [hd]
def AV.men (m:Name):AV->Bool
 |.held s=>s.men m
 |_=>false
theorem AV.kill_of {m:Name} {R:AV} (h:R.men m=false):R.kill m=R:=by
 cases R with
 |data b d sh=>rfl
 |held s=>exact congrArg AV.held (Slot.kill_of h)
structure DK (T:List Name) (dst:Option Nat) (σ σ':St):Prop where
 root:∀ n,n∉T->∀ R,σ.root n=some R->(∀ m∈T,R.men m=false)->σ'.root n=some R
 slot:∀ x,dst≠some x->(∀ m∈T,(σ.slot x).men m=false)->σ'.slot x=σ.slot x
theorem DK.refl (T:List Name) (dst:Option Nat) (σ:St):DK T dst σ σ:=⟨fun _ _ _ h _=>h,fun _ _ _=>rfl⟩
theorem DK.trans (h:DK T dst σ σ₁) (h':DK T dst σ₁ σ₂):DK T dst σ σ₂:=
 ⟨fun n hn R hr hm=>h'.root n hn R (h.root n hn R hr hm) hm,fun x hx hm=>(h'.slot x hx (by rw [h.slot x hx hm];exact hm)).trans (h.slot x hx hm)⟩
theorem DK.drop (hn:n∈T):DK T dst σ (σ.drop n):=
 ⟨fun m hm R hr hR=>by rw [St.root_drop,if_neg (fun e:m=n=>hm (e▸hn)),hr];exact congrArg some (AV.kill_of (hR n hn)),fun x _ hx=>by rw [St.slot_drop];exact Slot.kill_of (hx n hn)⟩
theorem DK.lay (hn:n∈T) (R:AV):DK T dst σ (σ.lay n R):=
 ⟨fun m hm R hr hR=>by rw [St.root_lay,if_neg (fun e:m=n=>hm (e▸hn)),hr];exact congrArg some (AV.kill_of (hR n hn)),fun x _ hx=>by rw [St.slot_lay];exact Slot.kill_of (hx n hn)⟩
theorem DK.set (d:Nat) (s:Slot):DK T (some d) σ (σ.set d s):=
 ⟨fun _ _ _ hr _=>hr,fun x hx _=>by rw [St.slot_set,if_neg (fun e=>hx (by rw [e]))]⟩
def Xg (T:List Name) (s:Slot):Prop:=∀ u n,s = .ref u ⟨n,[]⟩->n∈T
theorem DW {t:Ty} (x:t.den) (k:t.den->Option α):AI x k=k x:=by unfold AI;rw [dif_pos rfl]
theorem QU {t:Ty} {s:Slot} {K:t.den->Sh->St->Option α} {K':t.den->Sh->St->Option β} {r:α} {r':β} (h:Hf σ t s K=some r) (hT:Xg T s)
  (hK:∀ y sh σ',K y sh σ'=some r->DK T dst σ σ' ->K' y sh (σ'.blank B)=some r'):Hf (σ.blank B) t s K'=some r' :=by
 unfold Hf at h ⊢;split at h
 ·obtain ⟨e,h⟩:=As h;subst e
  try dsimp only
  rw [DW];exact hK _ _ _ h (DK.refl _ _ _)
 ·cases t<;>try (cases h;done)
  exact hK _ _ _ h (DK.refl _ _ _)
 ·rename_i u n
  try dsimp only
  rw [Dq];split at h
  ·rename_i d sh hr
   try rw [hr]
   try dsimp only
   split at h
   case h_2=>cases h
   case h_1 hw=>
    try rw [hw]
    obtain ⟨e,h⟩:=As h;subst e
    try dsimp only
    rw [DW,Gi];exact hK _ _ _ h (DK.drop (hT u n rfl))
  ·cases h
 ·cases h
theorem Xh {t:Ty} {s:Slot} {K:t.den->Sh->St->Option α} {K':t.den->Sh->St->Option β} {r:α} {r':β} (h:JN σ t s K=some r) (hT:Xg T s)
  (hK:∀ y sh σ',K y sh σ'=some r->DK T dst σ σ' ->K' y sh (σ'.blank B)=some r'):JN (σ.blank B) t s K'=some r' :=by
 unfold JN at h ⊢;split at h
 ·rename_i u n
  try dsimp only
  rw [Dq];split at h
  ·rename_i d sh hr
   try rw [hr]
   try dsimp only
   split at h
   case h_2=>cases h
   case h_1 hw=>
    try rw [hw]
    obtain ⟨e,h⟩:=As h;subst e
    try dsimp only
    rw [DW,Gi];exact hK _ _ _ h (DK.drop (hT u n rfl))
  ·exact QU (B:=B) h hT hK
 ·exact QU (B:=B) h hT hK
theorem QV (n:Name) (q:Bi):(σ.blank B).lose n q=(σ.lose n q).blank B:=by
 unfold St.lose;rw [CP,CP];simp only [List.map_map];congr 1;refine List.map_congr_left fun x _=>?_
 simp only [Function.comp];congr 1;unfold blk;split<;>rfl
theorem DK.put (hn:n∈T) (R:AV):DK T dst σ (σ.put n R):=
 ⟨fun m hm R hr _=>by rw [St.root_put,if_neg (fun e:m=n=>hm (e▸hn)),hr],fun _ _ _=>rfl⟩
theorem DK.lose (hn:n∈T) (q:Bi):DK T dst σ (σ.lose n q):=
 ⟨fun m hm R hr hR=>by
  rw [St.root_lose,hr];refine congrArg some ?_;cases R with
  |data b d sh=>rfl
  |held s=>exact congrArg AV.held (MD (hR n hn)),fun x _ hx=>by
  have:(σ.lose n q).slot x=(σ.slot x).lose n q:=by
   unfold St.slot St.lose;rw [Er];cases look σ.slots x<;>rfl
  rw [this,MD (hx n hn)]⟩
theorem c_ {t:Ty} (s:Slot) (k:t.den->Option α):Ep (σ.blank B) t s k=Ep σ t s k:=by
 unfold Ep;cases s<;>rfl
def QW (T:List Name) (s:Slot):Prop:=∀ t p,s = .ref t p->p.name∈T
theorem Zo {e u:Ty} {s:Slot} {K:List e.den->St->Option α} {K':List e.den->St->Option β} {r:α} {r':β} (h:KF σ e u s K=some r) (hT:QW T s)
  (hK:∀ ys σ',K ys σ'=some r->DK T dst σ σ' ->(σ'=σ\/∃ m,σ'=σ.drop m)->K' ys (σ'.blank B)=some r'):KF (σ.blank B) e u s K'=some r' :=by
 have hoz:Ul (σ.blank B) s=Ul σ s:=by
  unfold Ul;cases s<;>(try rfl)<;>rw [Dq]
 unfold KF at h ⊢;rw [hoz];cases u with
 |str=>
  dsimp only at h ⊢;split at h
  ·obtain ⟨e',h⟩:=As h;injection e' with e'
   subst e'
   try dsimp only
   unfold AI;rw [dif_pos rfl];exact hK _ _ h (DK.refl _ _ _) (.inl rfl)
  ·cases h
 |slice eu=>
  dsimp only at h ⊢;split at h
  ·try dsimp only
   split at h
   case h_2=>cases h
   case h_1 t0 m hl0=>
    try dsimp only
    rw [Dq];split at h
    case h_2=>cases h
    case h_1 d sh hr=>
     try rw [hr]
     try dsimp only
     split at h
     case h_2=>cases h
     case h_1 hw=>
      try rw [hw]
      obtain ⟨e',h⟩:=As h;obtain ⟨dt,dx⟩:=d;dsimp only at e';subst e'
      try dsimp only
      rw [DW (t:=.slice e),Gi];exact hK _ _ h (DK.drop (hT _ _ rfl)) (.inr ⟨_,rfl⟩)
  ·try dsimp only
   rw [CM] at h;rw [c_,CM];cases ha:Ep σ (.slice e) s some with
   |none=>rw [ha] at h;cases h
   |some ys=>rw [ha] at h;exact hK _ _ h (DK.refl _ _ _) (.inl rfl)
 |int _=>cases h
 |bool=>cases h
 |unit=>cases h
 |pair _ _=>cases h
theorem Zp {e u:Ty} {se:Sh} {s:Slot} {K:List e.den->St->Option α} {K':List e.den->St->Option β} {r:α} {r':β} (h:KG σ e u se s K=some r) (hT:QW T s)
  (hK:∀ ys σ',K ys σ'=some r->DK T dst σ σ' ->(σ'=σ\/∃ m,σ'=σ.drop m)->K' ys (σ'.blank B)=some r'):KG (σ.blank B) e u se s K'=some r' :=by
 unfold KG at h ⊢;split at h
 ·exact Zo h hT hK
 ·split at h
  case h_2=>cases h
  case h_1 eu=>
   try dsimp only
   split at h
   case h_2=>cases h
   case h_1 t0 m=>
    try dsimp only
    rw [Dq];split at h
    case h_2=>cases h
    case h_1 d sh hr=>
     try rw [hr]
     try dsimp only
     split at h
     case h_2=>cases h
     case h_1 hw=>
      try rw [hw]
      obtain ⟨e',h⟩:=As h;obtain ⟨dt,dx⟩:=d;dsimp only at e';subst e'
      try dsimp only
      rw [DW (t:=.slice e),Gi];exact hK _ _ h (DK.drop (hT _ _ rfl)) (.inr ⟨_,rfl⟩)
theorem Xi {s:Slot} {e:Ty} {se:Sh} {nm:Name} {K:List e.den->Name->St->Option α} {K':List e.den->Name->St->Option β} {r:α} {r':β} (h:OG σ s e se nm K=some r) (hT:QW T s) (hnm:nm∈T)
  (hK:∀ xs n σ',K xs n σ'=some r->n∈T->DK T dst σ σ' ->K' xs n (σ'.blank B)=some r'):OG (σ.blank B) s e se nm K'=some r' :=by
 unfold OG at h ⊢;split at h
 ·try dsimp only
  rw [Dc];exact hK _ _ _ h hnm (DK.lay hnm _)
 ·rename_i t0 p;have hp:p.name∈T:=hT _ _ rfl
  try dsimp only
  rw [Dq];split at h
  case h_2=>cases h
  case h_1 b d sh hr=>
   try rw [hr]
   try dsimp only
   split at h
   case h_2=>cases h
   case h_1 hc=>
    try rw [hc]
    try dsimp only
    obtain ⟨y,hget,h⟩:=Ed h;rw [BX,hget];simp only [Ai5];obtain ⟨e',h⟩:=As h;obtain ⟨yt,yx⟩:=y;dsimp only at e';subst e'
    try dsimp only
    rw [DW (t:=.slice e)];split at h
    ·try dsimp only
     split at h
     case h_2=>cases h
     case h_1 sh' hsh=>
      try rw [hsh]
      try dsimp only
      rw [show (σ.blank B).put p.name (.data b d sh')=(σ.put p.name (.data b d sh')).blank B from rfl,Dc];exact hK _ _ _ h hnm ((DK.put hp _).trans (DK.lay hnm _))
    ·try dsimp only
     split at h
     case h_2=>cases h
     case h_1 hpath=>
      try dsimp only
      split at h
      ·rename_i h4
       try rw [h4]
       try dsimp only
       rw [Gi,Dc];exact hK _ _ _ h hnm ((DK.drop hp).trans (DK.lay hnm _))
      ·rename_i h4
       try rw [h4]
       exact hK _ _ _ h hp (DK.refl _ _ _)
 ·cases h
theorem IA:∀ {l:List Slot} {s:Slot},s∈l->∀ t p,s = .ref t p->p.name∈Slot.namesL l
 |s'::l,s,h,t,p,e=>by
  unfold Slot.namesL;rcases List.mem_cons.1 h with h | h
  ·subst h;subst e;simp
  ·exact List.mem_append.2 (.inr (IA h t p e))
theorem Tq {e:Ty} {deep:Bool} {r:α} {r':β}:∀ (l:List (Nat×Slot)) (i:Nat) {σ:St} {K:List e.den->St->Option α} {K':List e.den->St->Option β},elemsK e deep i l σ K=some r->(∀ p∈l,Xg T p.2)->
  (∀ xs σ',K xs σ'=some r->DK T dst σ σ' ->K' xs (σ'.blank B)=some r')->elemsK e deep i l (σ.blank B) K'=some r'
 |[],i,σ,K,K',h,_,hK=>hK _ _ h (DK.refl _ _ _)
 |(j,s)::l,i,σ,K,K',h,hT,hK=>by
  unfold elemsK at h ⊢;split at h
  case h_2=>cases h
  case h_1 hj=>
   try rw [hj]
   refine Xh (dst:=dst) h (hT (j,s) (by simp)) fun y shy σ₁ h1 c1=>?_
   try dsimp only at h1 ⊢
   split at h1
   case h_1=>cases h1
   case h_2 hd=>
    try rw [hd]
    exact Tq l (i+1) h1 (fun p hp=>hT p (by simp [hp])) fun xs σ₂ h2 c2=>hK _ _ h2 (c1.trans c2)
theorem Tr {t:Ty} {r:α} {r':β}:∀ (l:List (Nat×Slot)) (x:t.den) (sh:Sh) {σ:St} {K:t.den->Sh->St->Option α} {K':t.den->Sh->St->Option β},IU t l x sh σ K=some r->(∀ p∈l,Xg T p.2)->
  (∀ y sh σ',K y sh σ'=some r->DK T dst σ σ' ->K' y sh (σ'.blank B)=some r')->IU t l x sh (σ.blank B) K'=some r'
 |[],x,sh,σ,K,K',h,_,hK=>hK _ _ _ h (DK.refl _ _ _)
 |(i,s)::l,x,sh,σ,K,K',h,hT,hK=>by
  unfold IU at h ⊢;split at h
  case h_2=>cases h
  case h_1 t' ht' =>
   try rw [ht']
   try dsimp only
   refine QU (dst:=dst) h (hT (i,s) (by simp)) fun y shy σ₁ h1 c1=>?_
   try dsimp only at h1 ⊢
   obtain ⟨x',hset,h1⟩:=BE h1;rw [Bb,hset];simp only [Ai5];split at h1
   case h_2=>cases h1
   case h_1 sh' hsh=>
    try rw [hsh]
    exact Tr l x' sh' h1 (fun p hp=>hT p (by simp [hp])) fun y sh σ₂ h2 c2=>hK _ _ _ h2 (c1.trans c2)
theorem QX:∀ {l:List Slot} {u:Ty} {n:Name},Slot.ref u ⟨n,[]⟩∈l->n∈Slot.namesL l
 |s::l,u,n,h=>by
  unfold Slot.namesL;rcases List.mem_cons.1 h with h | h
  ·subst h;simp
  ·exact List.mem_append.2 (.inr (QX h))
theorem OS {ps:List (Nat×Slot)} {m:Name}:∀ p∈ps,Xg (m::Slot.namesL (ps.map (·.2))) p.2:=by
 intro p hp u n e;exact List.mem_cons_of_mem _ (QX (u:=u) (by rw [<-e];exact List.mem_map_of_mem hp))
theorem rB {σ τ:St} {ps:List PM} (hio:Bh ps=[]) (l:List Operand) (c:Bool) (hτ:τ=σ.blank B) (hl:∀ y∈l,(σ.blank B).val y=σ.val y) (G:Args ps->Option α) (G':Args ps->Option β) {r:α} {r':β}
  (h:(match (!(Slot.lentL (l.map σ.val))||c) with | true=>AP env σ ps (l.map σ.val) G | false=>none)=some r) (hG:∀ az,G az=some r->G' az=some r') :
  (match (!(Slot.lentL (l.map τ.val))||c) with | true=>AP env τ ps (l.map τ.val) G' | false=>none)=some r' :=by
 subst hτ;rw [show l.map (σ.blank B).val=l.map σ.val from List.map_congr_left hl];split at h
 case h_2=>cases h
 case h_1 hc=>
  rw [Bg] at h;rw [HP (σ₁:=σ.blank B) (σ₂:=σ) rfl ps hio,Bg];cases ha:AP env σ ps (l.map σ.val) (some:Args ps->Option (Args ps)) with
  |none=>rw [ha] at h;cases h
  |some az=>
   rw [ha] at h;exact hG az h
theorem da {f:Av} {nm:Name} {args:List Operand} {K:Slot->St->Option α} {K':Slot->St->Option β} {r:α} {r':β} (h:KH env σ nm f args K=some r) (hv:∀ y∈args,∀ τ:St,(τ.blank B).val y=τ.val y)
  (hT:∀ y∈args,QW T (σ.val y)) (hnm:nm∈T) (hK:∀ s σ',K s σ'=some r->DK T dst σ σ' ->K' s (σ'.blank B)=some r'):KH env (σ.blank B) nm f args K'=some r' :=by
 unfold KH at h ⊢;split at h
 case h_2=>cases h
 case h_1 e se ps u su rs F y ys=>
  dsimp only;split at h
  case h_2=>cases h
  case h_1 hno=>
   rw [Ajb] at hno;refine Eq.trans (congrArg (fun z=>OG (σ.blank B) z e se nm _) (hv y (by simp) σ)) (Xi (dst:=dst) h (hT y (by simp)) hnm fun xs n σ₁ h1 hn c1=>?_);refine rB (σ:=σ₁.drop n) (CO hno.1) ys _ (Gi n) (fun x hx=>hv x (by simp [hx]) _) _ _ h1 fun az ha=>?_
   dsimp only at ha ⊢;split at ha
   case h_2=>cases ha
   case h_1 res hres=>
    try rw [hres]
    exact (congrArg (K' _) (Dc n _)).trans (hK _ _ ha (c1.trans (DK.lay hn _)))
theorem db (i:Nat) (n:Name) (s:Slot):blk B i (s.killE n)=(blk B i s).killE n:=by
 unfold blk;split<;>rfl
theorem Zq (n:Name) (R:AV):(σ.blank B).redo n R=(σ.redo n R).blank B:=by
 unfold St.redo
 rw [CP,CP];simp only [List.map_map];congr 1;refine List.map_congr_left fun x _=>?_
 simp only [Function.comp];rw [db]
theorem DK.redo (hn:n∈T) (R:AV):DK T dst σ (σ.redo n R):=
 ⟨fun m hm R' hr hR=>(St.root_redo ..).trans ((DK.lay (dst:=dst) hn R).root m hm R' hr hR),fun x _ hx=>by
  rw [St.slot_redo];unfold Slot.killE;split
  ·rfl
  ·exact Slot.kill_of (hx n hn)⟩
theorem dc {f:Av} {ss:List Slot} {K:Slot->St->Option α} {K':Slot->St->Option β} {r:α} {r':β} (ht:IX f ss=some T) (h:IT env σ f ss K=some r)
  (hK:∀ s σ',K s σ'=some r->DK T dst σ σ' ->K' s (σ'.blank B)=some r'):IT env (σ.blank B) f ss K'=some r' :=by
 unfold IX at ht;split at ht
 case h_2=>cases ht
 case h_1 t ps rs F n ss=>
  split at ht
  case h_2=>cases ht
  case h_1 hl=>
   injection ht with ht
   unfold IT at h ⊢;dsimp only at h ⊢;split at h
   case h_2=>cases h
   case h_1 hno=>
    try rw [hno]
    try dsimp only
    rw [Dq];split at h
    case h_2=>cases h
    case h_1 d hr=>
     try rw [hr]
     try dsimp only
     obtain ⟨e,h⟩:=As h;subst e
     try dsimp only at h
     rw [DW];rw [Ajb] at hno;have hio:=CO hno.1;rw [Bg] at h;rw [HP (σ₁:=σ.blank B) (σ₂:=σ) rfl ps hio,Bg];cases ha:AP env σ ps ss (some:Args ps->Option (Args ps)) with
     |none=>rw [ha] at h;cases h
     |some az=>
      rw [ha] at h;simp only [Ai5] at h ⊢;split at h
      case h_2=>cases h
      case h_1 res hres=>
       try rw [hres]
       try dsimp only
       rw [Zq];exact hK _ _ h (DK.redo (by rw [<-ht];simp) _)
theorem aN {o:Oper} (ht:KK env σ o=some T) {K:St->Option α} {K':St->Option β} {r:α} {r':β} (h:EJ env o σ K=some r) (hB:∀ x,Operand.tmp x∈o.op.operands->B x=false)
  (hd:∀ d,o.dst=some d->B d=false) (hK:∀ σ',K σ'=some r->DK T o.dst σ σ' ->K' (σ'.blank B)=some r'):EJ env o (σ.blank B) K'=some r' :=by
 have hv:∀ y∈o.op.operands,(σ.blank B).val y=σ.val y:=by
  intro y hy;cases y with
  |tmp x=>
   show (σ.blank B).slot x=σ.slot x;rw [AW];unfold blk;rw [hB x hy]
  |const _=>rfl
  |func _=>rfl
  |global _=>rfl
 have fin:∀ s σ',Pt env o.dst K s σ'=some r->DK T o.dst σ σ' ->Pt env o.dst K' s (σ'.blank B)=some r' :=by
  intro s σ' h c;unfold Pt at h ⊢;cases hdst:o.dst with
  |none=>rw [hdst] at h;dsimp only at h ⊢;rw [hdst] at hK c;exact hK _ h c
  |some d=>
   rw [hdst] at h;dsimp only at h ⊢;split at h
   case h_2=>cases h
   case h_1 hlt=>
    try rw [hlt]
    rw [cZ (hd d hdst)];rw [hdst] at hK c;exact hK _ h (c.trans (DK.set d s))
 have parts:∀ (ps:Array (Nat×Operand)),(∀ x∈ps.toList,x.2∈o.op.operands)->(ps.toList.map fun x=>(x.1,(σ.blank B).val x.2))=ps.toList.map fun x=>(x.1,σ.val x.2):=
  fun ps hps=>List.map_congr_left fun x hx=>by rw [hv x.2 (hps x hx)]
 have names:∀ (ps:Array (Nat×Operand)),((ps.toList.map fun x=>(x.1,σ.val x.2)).map (·.2))=ps.toList.map fun x=>σ.val x.2:=fun ps=>by rw [List.map_map];rfl
 unfold KK at ht;split at ht
 ·rename_i t ps ho;injection ht with ht
  subst ht;have hl:(Lf o||toBytes env o.op)=true:=by simp [Lf,ho]
  unfold EJ at h ⊢;rw [hl] at h ⊢;dsimp only at h ⊢;unfold Cj at h ⊢;rw [ho] at h ⊢;dsimp only at h ⊢;rw [parts ps fun x hx=>by rw [ho];simp only [Op.operands,List.mem_toArray,List.mem_map];exact ⟨x,hx,rfl⟩];split at h
  case h_2=>cases h
  case h_1 t' hty=>
   split at h
   case h_2=>cases h
   case h_1 hag=>
    try dsimp only
    try rw [hag]
    try dsimp only
    refine Tr (dst:=o.dst) _ _ _ h (fun p hp=>by have:=OS (m:=AD o) p hp;rw [names] at this;exact this) fun y sh σ₁ h1 c1=>?_
    try dsimp only at h1 ⊢
    split at h1
    ·rename_i hf;(try rw [hf]);exact fin _ _ h1 c1
    ·rename_i hf;(try rw [hf]);rw [Dc];exact fin _ _ h1 (c1.trans (DK.lay (by simp) _))
 ·rename_i t m ps ho;injection ht with ht
  subst ht;have hl:(Lf o||toBytes env o.op)=true:=by simp [Lf,ho]
  unfold EJ at h ⊢;rw [hl] at h ⊢;dsimp only at h ⊢;unfold Cj at h ⊢;rw [ho] at h ⊢;dsimp only at h ⊢;rw [parts ps fun x hx=>by rw [ho];simp only [Op.operands,List.mem_toArray,List.mem_map];exact ⟨x,hx,rfl⟩];split at h
  case h_2=>cases h
  case h_1 e hty=>
   split at h
   case h_2=>cases h
   case h_1 hc=>
    try dsimp only
    try rw [hc]
    try dsimp only
    refine Tq (dst:=o.dst) _ _ h (fun p hp=>by have:=OS (m:=AD o) p hp;rw [names] at this;exact this) fun xs σ₁ h1 c1=>?_
    try dsimp only at h1 ⊢
    split at h1
    ·rename_i hf;(try rw [hf]);exact fin _ _ h1 c1
    ·rename_i hf;(try rw [hf]);rw [Dc];exact fin _ _ h1 (c1.trans (DK.lay (by simp) _))
 ·rename_i t ho;injection ht with ht
  subst ht;have hl:(Lf o||toBytes env o.op)=true:=by simp [Lf,ho]
  unfold EJ at h ⊢;rw [hl] at h ⊢;dsimp only at h ⊢;unfold Cj at h ⊢;rw [ho] at h ⊢;dsimp only at h ⊢;split at h
  ·rw [Dc];exact fin _ _ h (DK.lay (by simp) _)
  ·try dsimp only
   split at h
   ·rw [Dc];exact fin _ _ h (DK.lay (by simp) _)
   ·cases h
 ·rename_i t a x ho;injection ht with ht
  subst ht;have hl:(Lf o||toBytes env o.op)=true:=by simp [Lf,ho]
  have hva:(σ.blank B).val a=σ.val a:=hv a (by rw [ho];simp [Op.operands]);have hvx:(σ.blank B).val x=σ.val x:=hv x (by rw [ho];simp [Op.operands]);unfold EJ at h ⊢;rw [hl] at h ⊢;dsimp only at h ⊢;unfold Cj at h ⊢;rw [ho] at h ⊢;dsimp only at h ⊢;rw [hva,hvx];have hTx:∀ t p,σ.val x = .ref t p->p.name∈Slot.namesL [σ.val a,σ.val x]:=IA (by simp);have hTa:∀ p,σ.val a = .ptr p->p.name∈Slot.namesL [σ.val a,σ.val x]:=fun p e=>by unfold Slot.namesL;rw [e];simp
  generalize Slot.namesL [σ.val a,σ.val x]=T at hTx hTa hK fin;split at h
  case h_2=>cases h
  case h_1 p hp=>
   have hpT:=hTa p hp
   try rw [hp]
   try dsimp only
   rw [Dq];split at h
   case h_2=>cases h
   case h_1 b d sh hr=>
    try rw [hr]
    try dsimp only
    split at h
    case h_2=>cases h
    case h_1 t' htp=>
     try rw [htp]
     try dsimp only
     split at h
     case h_2=>cases h
     case h_1 hdec=>
      try rw [hdec]
      try dsimp only
      refine Xh (dst:=o.dst) h (fun u n e=>hTx u ⟨n,[]⟩ e) fun y shy σ₁ h1 c1=>?_
      try dsimp only at h1 ⊢
      rw [Dq];split at h1
      case h_2=>cases h1
      case h_1 hr1=>
       try rw [hr1]
       try dsimp only
       obtain ⟨x',hset,h1⟩:=BE h1;rw [Bb,hset];simp only [Ai5];split at h1
       ·rename_i hsh
        try rw [hsh]
        try dsimp only
        rw [QV];exact fin _ _ h1 (c1.trans ((DK.lose hpT _).trans (DK.put hpT _)))
       ·rename_i hsh
        try rw [hsh]
        try dsimp only
        split at h1
        ·rename_i hsh2
         try rw [hsh2]
         try dsimp only
         rw [QV];exact fin _ _ h1 (c1.trans ((DK.lose hpT _).trans (DK.put hpT _)))
        ·cases h1
 ·rename_i c ho;have hl:(Lf o||toBytes env o.op)=true:=by simp [Lf,ho]
  have callee:∀ g,c.callee = .value g->(σ.blank B).val g=σ.val g:=fun g hg=>hv g (by rw [ho];simp [Op.operands,Call.operands,hg])
  have quiet:DA env σ c (fun s=>Pt env o.dst K s σ)=some r->T=[]->DA env (σ.blank B) c (fun s=>Pt env o.dst K' s (σ.blank B))=some r' :=by
   intro h hT;subst hT;rw [LJ] at h;rw [ON (σ₁:=σ.blank B) (σ₂:=σ) rfl c (by rw [ho] at hv;exact hv),LJ];cases hq:DA env σ c some with
   |none=>rw [hq] at h;cases h
   |some s=>
    rw [hq] at h;simp only [Ai5] at h ⊢;exact fin _ _ h (DK.refl _ _ _)
  unfold EJ at h ⊢;rw [hl] at h ⊢;dsimp only at h ⊢;unfold Cj at h ⊢;rw [ho] at h ⊢;dsimp only at h ⊢;cases hc:c.callee with
  |builtin b=>
   (try rw [hc] at ht);(try rw [hc] at h);(try rw [hc])
   by_cases hb:b = .append
   ·subst hb;dsimp only at ht h ⊢;injection ht with ht
    split at h
    case h_2=>cases h
    case h_1 s x t tx hargs htys=>
     have hin:∀ y∈c.args.toList,y∈o.op.operands:=fun y hy=>by
      have:y∈c.args:=by simpa using hy
      rw [ho];simp [Op.operands,Call.operands,hc,this]
     have hvx:(σ.blank B).val x=σ.val x:=hv x (hin x (by rw [hargs];simp))
     have hvs:∀ τ:St,(τ.blank B).val s=τ.val s:=fun τ=>by
      cases s with
      |tmp i=>show (τ.blank B).slot i=τ.slot i;rw [AW];unfold blk;rw [hB i (hin _ (by rw [hargs];simp))]
      |const _=>rfl
      |func _=>rfl
      |global _=>rfl
     have hTs:QW T (σ.val s):=by rw [<-ht];exact fun t p e=>List.mem_cons_of_mem _ (IA (l:=c.args.toList.map fun x=>(σ.val x).noVw) (s:=.ref t p) (List.mem_map.2 ⟨s,by rw [hargs];simp,by rw [e];rfl⟩) t p rfl)
     have hTx:QW T (σ.val x):=by rw [<-ht];exact fun t p e=>List.mem_cons_of_mem _ (IA (l:=c.args.toList.map fun x=>(σ.val x).noVw) (s:=.ref t p) (List.mem_map.2 ⟨x,by rw [hargs];simp,by rw [e];rfl⟩) t p rfl)
     have hnm:AD o∈T:=by rw [<-ht];simp
     try dsimp only
     split at h
     case h_2=>cases h
     case h_1 e u hte htu=>
      try dsimp only at h ⊢
      rw [hvs,hvx,show aF env (σ.blank B) e (σ.val s)=aF env σ e (σ.val s) from rfl];refine Zp (dst:=o.dst) h hTx fun ys σ₁ h1 c1 d1=>?_
      try dsimp only at h1 ⊢
      rw [hvs]
      have hTs1:QW T (σ₁.val s):=by
       rcases d1 with rfl | ⟨m,rfl⟩
       ·exact hTs
       ·intro t p e
        have:(σ.drop m).val s=(σ.val s).kill m\/(σ.drop m).val s=σ.val s:=by
         cases s with
         |tmp i=>exact .inl (St.slot_drop σ m i)
         |const _=>exact .inr rfl
         |func _=>exact .inr rfl
         |global _=>exact .inr rfl
        rcases this with e' | e'
        ·rw [e'] at e;unfold Slot.kill at e;split at e
         ·cases e
         ·exact hTs t p e
        ·rw [e'] at e;exact hTs t p e
      refine Xi (dst:=o.dst) h1 hTs1 hnm fun xs n σ₂ h2 hn c2=>?_
      try dsimp only at h2 ⊢
      split at h2
      case h_2=>cases h2
      case h_1 hlim=>
       try rw [hlim]
       try dsimp only
       rw [Dc];exact fin _ _ h2 (c1.trans (c2.trans (DK.lay hn _)))
   ·cases b<;>first | (exact (hb rfl).elim) | (dsimp only at ht;cases ht;done) | (dsimp only at ht h ⊢;injection ht with ht;exact quiet h ht.symm)
  |value g=>
   (try rw [hc] at ht);(try rw [hc] at h);(try rw [hc])
   dsimp only at ht h ⊢;have hio:∀ x,SH env σ g=x->SH env (σ.blank B) g=x:=fun x hx=>by unfold SH at hx ⊢;rw [callee g hc];exact hx
   have hfr:∀ x,HK env σ g=x->HK env (σ.blank B) g=x:=fun x hx=>by unfold HK at hx ⊢;rw [callee g hc];exact hx
   split at ht
   ·rename_i fu h0;split at ht
    case h_2 htf=>
     rw [hio _ h0];rw [h0] at h;dsimp only at h ⊢
     have hin:∀ y∈c.args.toList,y∈o.op.operands:=fun y hy=>by
      have:y∈c.args:=by simpa using hy
      rw [ho];simp [Op.operands,Call.operands,hc,this]
     have hargs:c.args.toList.map (σ.blank B).val=c.args.toList.map σ.val:=List.map_congr_left fun y hy=>hv y (hin y hy)
     unfold KI at h ⊢;rw [htf] at h ⊢;dsimp only at h ⊢
     have hlent:∀ τ:St,c.args.toList.map τ.val=c.args.toList.map σ.val->JP τ c.args.toList=false:=by
      intro τ hτ;unfold IX at ht;split at ht
      case h_2=>cases ht
      case h_1 t ps rs F n ss heq=>
       split at ht
       case h_2=>cases ht
       case h_1 hl=>
        cases hca:c.args.toList with
        |nil=>rfl
        |cons y ys=>
         rw [hca] at heq hτ;unfold JP;dsimp only;injection hτ with _ hτ
         injection heq with _ heq
         rw [hτ,heq];exact hl
     have htk:∀ τ:St,Zb τ fu c.args.toList=false:=by
      intro τ;unfold IX at ht;split at ht
      case h_2=>cases ht
      case h_1=>rfl
     rw [hlent σ rfl,htk] at h;rw [hlent _ hargs,htk];dsimp only at h ⊢;rw [hargs];exact dc (dst:=o.dst) ht h fun s σ' h' c' =>fin s σ' h' c'
    case h_1 htf=>
     injection ht with ht
     rw [hio _ h0];rw [h0] at h;dsimp only at h ⊢;unfold KI at h ⊢;rw [htf] at h ⊢;dsimp only at h ⊢
     have hin:∀ y∈c.args.toList,y∈o.op.operands:=fun y hy=>by
      have:y∈c.args:=by simpa using hy
      rw [ho];simp [Op.operands,Call.operands,hc,this]
     refine da (dst:=o.dst) h (fun y hy τ=>?_) (fun y hy t p e=>?_) (by rw [<-ht];simp) fun s σ' h' c' =>fin s σ' h' c'
     ·cases y with
      |tmp i=>show (τ.blank B).slot i=τ.slot i;rw [AW];unfold blk;rw [hB i (hin _ hy)]
      |const _=>rfl
      |func _=>rfl
      |global _=>rfl
     ·rw [<-ht];exact List.mem_cons_of_mem _ (IA (l:=c.args.toList.map σ.val) (List.mem_map.2 ⟨y,hy,rfl⟩) t p e)
   ·rename_i h0;rw [hio _ h0];rw [h0] at h;dsimp only at h ⊢;split at ht
    ·rename_i h1;injection ht with ht
     rw [hfr _ h1];rw [h1] at h;dsimp only at h ⊢;rw [EL] at h;rw [MC (σ₁:=σ.blank B) (σ₂:=σ) rfl o hv,EL];cases hf:ET env σ o (fun R s=>some (R,s)) with
     |none=>rw [hf] at h;cases h
     |some p=>
      rw [hf] at h;simp only [Ai5] at h ⊢;rw [Dc];exact fin _ _ h (DK.lay (by rw [<-ht];simp) _)
    ·rename_i h1;injection ht with ht
     rw [hfr _ h1];rw [h1] at h;dsimp only at h ⊢;exact quiet h ht.symm
  |invoke _ _=>(try rw [hc] at ht);cases ht
 ·rename_i h1 h2 h3;split at ht
  case h_1=>cases ht
  case h_2 hl=>
   injection ht with ht
   subst ht;have hl:(Lf o||toBytes env o.op)=false:=hl;unfold EJ at h ⊢;rw [hl] at h ⊢;dsimp only at h ⊢;rw [HN] at h;rw [Jc (σ₁:=σ.blank B) (σ₂:=σ) rfl o.op hv,HN];cases hq:AA env σ o.op some with
   |none=>rw [hq] at h;cases h
   |some s=>
    rw [hq] at h;simp only [Ai5] at h ⊢;exact fin _ _ h (DK.refl _ _ _)
theorem Ts {v:Value} {t:Ty} {p:CH} (e:DO v = .ref t p):False:=by
 unfold DO at e;split at e<;>cases e
theorem Xj {v:Value} {t:Ty} {p:CH} {l h:Nat} (e:DO v = .vw t p l h):False:=by
 unfold DO at e;split at e<;>cases e
theorem de (v:Value) (m:Name):(DO v).men m=false:=by
 unfold DO;split<;>rfl
theorem LL (hc:DK T dst σ σ') {p:CH} (hp:p.name∉T) {β:Type} {k:Hd->Option β} {r:β} (h:Bv σ p k=some r):Bv σ' p k=some r:=by
 unfold Bv at h ⊢;split at h
 ·rename_i b d sh hr;rw [hc.root p.name hp _ hr (fun _ _=>rfl)];exact h
 ·cases h
theorem Zr {p:CH} (h:∀ m∈T,Nat.beq p.name m=false):p.name∉T:=fun hT=>by
 have:=h _ hT;simp at this
theorem fl (hc:DK T dst σ σ') {t:Ty} {s:Slot} (hm:∀ m∈T,s.men m=false) {β:Type} {k:t.den->Option β} {r:β} (h:Ep σ t s k=some r):Ep σ' t s k=some r:=by
 unfold Ep at h ⊢;cases s with
 |ref u p=>exact LL hc (Zr fun m h=>by simpa [Slot.men] using hm m h) h
 |vw e p l u=>exact LL hc (Zr fun m h=>by simpa [Slot.men] using hm m h) h
 |_=>exact h
theorem UM (hc:DK T dst σ σ') {t:Ty} {s:Slot} (hm:∀ m∈T,s.men m=false) {β:Type} {k:t.den->Option β} {r:β} (h:By σ t s k=some r):By σ' t s k=some r:=by
 unfold By at h ⊢;cases s with
 |ptr p=>exact LL hc (Zr fun m h=>by simpa [Slot.men] using hm m h) h
 |_=>exact h
theorem BF {m:Name} {s:Slot} {l:List Slot} (h:Slot.menL m (s::l)=false):s.men m=false/\Slot.menL m l=false:=by
 unfold Slot.menL at h;exact Bool.or_eq_false_iff.1 h
theorem Ob (hc:DK T dst σ σ') {t:Ty} {s:Slot} (hm:∀ m∈T,s.men m=false) {β:Type} {k k':t.den->Option β} {r:β} (h:Ep σ t s k=some r) (hk:∀ x,k x=some r->k' x=some r):Ep σ' t s k'=some r:=by
 rw [CM] at h ⊢;cases ha:Ep σ t s some with
 |none=>rw [ha] at h;cases h
 |some x=>rw [ha] at h;rw [fl hc hm ha];exact hk x h
theorem Ic (hc:DK T dst σ σ') {t:Ty} {s:Slot} (hm:∀ m∈T,s.men m=false) {β:Type} {k k':t.den->Option β} {r:β} (h:By σ t s k=some r) (hk:∀ x,k x=some r->k' x=some r):By σ' t s k'=some r:=by
 rw [Dp] at h ⊢;cases ha:By σ t s some with
 |none=>rw [ha] at h;cases h
 |some x=>rw [ha] at h;rw [UM hc hm ha];exact hk x h
theorem LM (hc:DK T dst σ σ'):∀ (ps:List PM) (ss:List Slot) {β:Type} {k k':Args ps->Option β} {r:β},(∀ m∈T,Slot.menL m ss=false)->CC σ ps ss k=some r->(∀ x,k x=some r->k' x=some r)->CC σ' ps ss k'=some r
 |[],[],_,k,k',r,_,h,hk=>hk _ h
 |[],_::_,_,_,_,_,_,h,_=>by cases h
 |.ro t::ps,s::ss,_,k,k',r,hm,h,hk=>Ob hc (fun m h=>(BF (hm m h)).1) (show Ep σ t s _=some r from h) fun x hx=>LM hc ps ss (fun m h=>(BF (hm m h)).2) hx fun y hy=>hk _ hy
 |.rp t::ps,s::ss,_,k,k',r,hm,h,hk=>Ic hc (fun m h=>(BF (hm m h)).1) (show By σ t s _=some r from h) fun x hx=>LM hc ps ss (fun m h=>(BF (hm m h)).2) hx fun y hy=>hk _ hy
 |.io _ _::_,_::_,_,_,_,_,_,h,_=>by cases h
 |.tk _ _::_,_::_,_,_,_,_,_,h,_=>by cases h
 |.fn _ _::_,_::_,_,_,_,_,_,h,_=>by cases h
 |.st _ _::_,_::_,_,_,_,_,_,h,_=>by cases h
 |p::_,[],_,_,_,_,_,h,_=>by cases p<;>cases h
theorem QY (hc:DK T dst σ σ'):∀ (ts:List Ty) (ss:List Slot) {β:Type} {k k':CB ts->Option β} {r:β},(∀ m∈T,Slot.menL m ss=false)->ER σ ts ss k=some r->(∀ x,k x=some r->k' x=some r)->ER σ' ts ss k'=some r
 |[],[],_,k,k',r,_,h,hk=>hk _ h
 |[],_::_,_,_,_,_,_,h,_=>by cases h
 |t::ts,s::ss,_,k,k',r,hm,h,hk=>Ic hc (fun m h=>(BF (hm m h)).1) (show By σ t s _=some r from h) fun x hx=>QY hc ts ss (fun m h=>(BF (hm m h)).2) hx fun y hy=>hk _ hy
 |_::_,[],_,_,_,_,_,h,_=>by cases h
theorem fm (hc:DK T dst σ σ') {a b:Ty} {s:Slot} (hm:∀ m∈T,s.men m=false) {β:Type} {k k':(a.den->Option b.den)->Option β} {r:β} (h:Uk env σ a b s k=some r) (hk:∀ x,k x=some r->k' x=some r):Uk env σ' a b s k'=some r:=by
 unfold Uk at h ⊢;cases s with
 |fnA u v φ=>
  dsimp only at h ⊢;split at h
  ·rename_i e;rw [dif_pos e];exact hk _ h
  ·cases h
 |clo f caps=>
  dsimp only at h ⊢;split at h
  case h_2=>cases h
  case h_1 a' ps b' F he=>
   try rw [he]
   try dsimp only
   split at h
   ·rename_i h1 h2
    try rw [h1,h2]
    refine LM hc ps caps (fun m h=>by have:=hm m h;unfold Slot.men at this;exact this) h fun c hc' =>?_
    split at hc'
    ·rename_i e;rw [dif_pos e];exact hk _ hc'
    ·cases hc'
   ·cases h
 |_=>cases h
theorem Gj (hc:DK T dst σ σ'):∀ (ps:List PM),Bh ps=[]->∀ (ss:List Slot) {β:Type} {k k':Args ps->Option β} {r:β},(∀ m∈T,Slot.menL m ss=false)->AP env σ ps ss k=some r->(∀ x,k x=some r->k' x=some r)->AP env σ' ps ss k'=some r
 |[],_,[],_,k,k',r,_,h,hk=>hk _ h
 |[],_,_::_,_,_,_,_,_,h,_=>by cases h
 |.ro t::ps,hi,s::ss,_,k,k',r,hm,h,hk=>Ob hc (fun m h=>(BF (hm m h)).1) (show Ep σ t s _=some r from h) fun x hx=>Gj hc ps hi ss (fun m h=>(BF (hm m h)).2) hx fun y hy=>hk _ hy
 |.rp t::ps,hi,s::ss,_,k,k',r,hm,h,hk=>Ic hc (fun m h=>(BF (hm m h)).1) (show By σ t s _=some r from h) fun x hx=>Gj hc ps hi ss (fun m h=>(BF (hm m h)).2) hx fun y hy=>hk _ hy
 |.fn a b::ps,hi,s::ss,_,k,k',r,hm,h,hk=>fm hc (fun m h=>(BF (hm m h)).1) (show Uk env σ a b s _=some r from h) fun x hx=>Gj hc ps hi ss (fun m h=>(BF (hm m h)).2) hx fun y hy=>hk _ hy
 |.st f ts::ps,hi,s::ss,_,k,k',r,hm,h,hk=>by
  unfold AP at h ⊢;cases s with
  |clo g caps=>
   dsimp only at h ⊢;split at h
   ·rename_i hg
    try rw [hg]
    exact QY hc ts caps (fun m h=>by have:=(BF (hm m h)).1;unfold Slot.men at this;exact this) h fun x hx=>Gj hc ps hi ss (fun m h=>(BF (hm m h)).2) hx fun y hy=>hk _ hy
   ·cases h
  |_=>cases h
 |.io _ _::_,hi,_,_,_,_,_,_,_,_=>by cases hi
 |.tk _ _::_,_,_::_,_,_,_,_,_,h,_=>by cases h
 |p::_,_,[],_,_,_,_,_,h,_=>by cases p<;>cases h
theorem aO {m:Name}:∀ {l:List Slot},(∀ s∈l,s.men m=false)->Slot.menL m l=false
 |[],_=>rfl
 |s::l,h=>by
  unfold Slot.menL;rw [h s (by simp),aO fun x hx=>h x (by simp [hx])];rfl
theorem OT {m:Name}:∀ {l l':List Slot},Slot.menL m l=false->Slot.menL m l'=false->Slot.menL m (l++l')=false
 |[],_,_,h=>h
 |s::l,l',h,h' =>by
  rw [List.cons_append];unfold Slot.menL;rw [(BF h).1,OT (BF h).2 h'];rfl
theorem dh {c:Call} {g:Operand} (hcc:c.callee = .value g) (hc:DK T dst σ σ') (hmap:c.args.toList.map σ'.val=c.args.toList.map σ.val) (hval:σ'.val g=σ.val g)
  (hmA:∀ y∈c.args.toList,∀ m∈T,(σ.val y).men m=false) (hmG:∀ m∈T,(σ.val g).men m=false) {s:Slot} (h:DA env σ c some=some s):DA env σ' c some=some s:=by
 unfold DA at h ⊢;rw [hcc] at h ⊢;dsimp only at h ⊢;rw [hval,hmap]
 have hA:∀ m∈T,Slot.menL m (c.args.toList.map σ.val)=false:=fun m hm=>aO fun x hx=>by
  obtain ⟨y,hy,rfl⟩:=List.mem_map.1 hx;exact hmA y hy m hm
 generalize σ.val g=sg at h hmG ⊢;cases sg with
 |clo f caps=>
  dsimp only at h ⊢;have hAC:∀ m∈T,Slot.menL m (c.args.toList.map σ.val++caps)=false:=fun m hm=>OT (hA m hm) (by have:=hmG m hm;unfold Slot.men at this;exact this)
  have quietI:∀ fu:Av,fu.quiet=true->Bh fu.ps=[]:=fun fu hq=>by
   unfold Av.quiet at hq;simp only [Ajb] at hq;have:=hq.1.1;split at this
   ·assumption
   ·cases this
  split at h
  ·rename_i fu he
   try rw [he]
   try dsimp only
   split at h
   ·rename_i hq
    try rw [hq]
    try dsimp only
    unfold CV at h ⊢;split at h
    ·cases h
    ·rename_i hl
     try rw [hl]
     exact Gj hc fu.ps (quietI fu hq) _ hAC h fun x hx=>hx
   ·cases h
  ·rename_i he
   try rw [he]
   try dsimp only
   split at h
   case h_2=>cases h
   case h_1 fu hx=>
    try rw [hx]
    try dsimp only
    split at h
    ·rename_i hq
     try rw [hq]
     try dsimp only
     unfold ES at h ⊢;split at h
     ·cases h
     ·rename_i hl
      try rw [hl]
      exact Gj hc fu.ps (quietI fu hq) _ hAC h fun x hx=>hx
    ·cases h
 |fnA a b φ=>
  dsimp only at h ⊢;generalize hss:c.args.toList.map σ.val=ss at h hA ⊢;cases ss with
  |nil=>cases h
  |cons s₁ l=>cases l with
   |nil=>exact Ob hc (fun m hm=>(BF (hA m hm)).1) h fun x hx=>hx
   |cons _ _=>cases h
 |_=>cases h
theorem di {o:Oper} (he:KJ o=true) (hc':DK T dst σ σ') {s:Slot} (h:Bp env σ o some=some s) (hx:∀ x,Operand.tmp x∈o.op.operands->dst≠some x/\∀ m∈T,(σ.slot x).men m=false)
  (hs:∀ m∈T,s.men m=false):Bp env σ' o some=some s:=by
 have slot:∀ x,Operand.tmp x∈o.op.operands->σ'.slot x=σ.slot x:=fun x hm=>hc'.slot x (hx x hm).1 (hx x hm).2
 have away:∀ x p,Operand.tmp x∈o.op.operands->σ.slot x = .ptr p->p.name∉T:=by
  intro x p hm e hT;have:=(hx x hm).2 p.name hT;rw [e] at this;simp [Slot.men] at this
 have awayR:∀ x t p,Operand.tmp x∈o.op.operands->σ.slot x = .ref t p->p.name∉T:=by
  intro x t p hm e hT;have:=(hx x hm).2 p.name hT;rw [e] at this;simp [Slot.men] at this
 have placeR:∀ (p:CH),p.name∉T->∀ (k:Hd->Option Slot) s,Bv σ p k=some s->Bv σ' p k=some s:=by
  intro p hp k s hk;unfold Bv at hk ⊢;split at hk
  ·rename_i b d sh hr;rw [hc'.root p.name hp _ hr (fun _ _=>rfl)];exact hk
  ·cases hk
 have awayV:∀ x e p l h,Operand.tmp x∈o.op.operands->σ.slot x = .vw e p l h->p.name∉T:=by
  intro x e' p l h hm e hT;have:=(hx x hm).2 p.name hT;rw [e] at this;simp [Slot.men] at this
 have val:∀ y∈o.op.operands,σ'.val y=σ.val y:=fun y hy=>by
  cases y with
  |tmp i=>exact slot i hy
  |_=>rfl
 have asR:∀ x,x∈o.op.operands->∀ (t:Ty) (k:t.den->Option Slot) s,Ep σ t (σ.val x) k=some s->Ep σ' t (σ.val x) k=some s:=by
  intro x hm t k s h
  have p1:∀ t p,σ.val x = .ref t p->p.name∉T:=fun t p e=>by
   cases x with
   |tmp i=>exact awayR i t p hm e
   |const v=>exact (Ts e).elim
   |func f=>cases e
   |global g=>cases e
  have p2:∀ e p l u,σ.val x = .vw e p l u->p.name∉T:=fun e p l u e' =>by
   cases x with
   |tmp i=>exact awayV i e p l u hm e'
   |const v=>exact (Xj e').elim
   |func f=>cases e'
   |global g=>cases e'
  generalize σ.val x=sx at h p1 p2 ⊢;unfold Ep at h ⊢;split at h
  ·exact h
  ·exact placeR _ (p1 _ _ rfl) _ _ h
  all_goals first
   |exact h
   |(split at h;exact placeR _ (p2 _ _ _ _ rfl) _ _ h;cases h)
   |exact placeR _ (p2 _ _ _ _ rfl) _ _ h
   |cases h
 unfold KJ at he;split at he
 ·rename_i x ho;unfold Bp at h ⊢;rw [ho] at h ⊢;dsimp only [AA] at h ⊢;rw [show σ'.val (.tmp x)=σ.val (.tmp x) from slot x (by rw [ho];simp [Op.operands])];exact h
 ·rename_i x ho;unfold Bp at h ⊢;rw [ho] at h ⊢;dsimp only [AA] at h ⊢;rw [show σ'.val (.tmp x)=σ.val (.tmp x) from slot x (by rw [ho];simp [Op.operands])];exact h
 ·rename_i t x ho;have hm:Operand.tmp x∈o.op.operands:=by rw [ho];simp [Op.operands]
  unfold Bp at h ⊢;rw [ho] at h ⊢;dsimp only [AA] at h ⊢;rw [show σ'.val (.tmp x)=σ.val (.tmp x) from slot x hm];have aw:=away x;rw [show σ.slot x=σ.val (.tmp x) from rfl] at aw;generalize σ.val (.tmp x)=sl at h aw ⊢;split at h
  ·rename_i t' hty;split at h
   ·rename_i p;split at h
    case h_2=>cases h
    case h_1 b d sh hr=>
     try dsimp only
     rw [hc'.root p.name (aw p hm rfl) _ hr (fun _ _=>rfl)];exact h
   ·exact h
   ·cases h
  ·rename_i hty;split at h
   case h_2=>cases h
   case h_1 hone=>
    split at h
    case h_2=>cases h
    case h_1 m=>
     split at h
     case h_2=>cases h
     case h_1 s' hr=>
      injection h with h
      subst h;rw [hc'.root m (aw ⟨m,[]⟩ hm rfl) _ hr hs]
 ·rename_i t x f ho;have hm:Operand.tmp x∈o.op.operands:=by rw [ho];simp [Op.operands]
  unfold Bp at h ⊢;rw [ho] at h ⊢;dsimp only [AA] at h ⊢;rw [show σ'.val (.tmp x)=σ.val (.tmp x) from slot x hm];have aw:=away x;rw [show σ.slot x=σ.val (.tmp x) from rfl] at aw;generalize σ.val (.tmp x)=sl at h aw ⊢;split at h
  case h_2=>cases h
  case h_1 ts hty=>
   split at h
   case h_2=>cases h
   case h_1 tf htf=>
    split at h
    case h_1=>cases h
    case h_2 hsz=>
     split at h
     ·rename_i p;split at h
      case h_2=>cases h
      case h_1 b d sh hr=>
       rw [hc'.root p.name (aw p hm rfl) _ hr (fun _ _=>rfl)];exact h
     ·exact h
     ·cases h
 ·rename_i t x lo hi ho;have hm:Operand.tmp x∈o.op.operands:=by rw [ho];simp [Op.operands]
  have val:∀ y∈o.op.operands,σ'.val y=σ.val y:=fun y hy=>by
   cases y with
   |tmp i=>exact slot i hy
   |_=>rfl
  have hlo:∀ d (k:Int->Option Slot),bound σ' lo d k=bound σ lo d k:=by
   intro d k;cases lo with
   |none=>rfl
   |some y=>unfold bound;dsimp only;rw [val y (by rw [ho];simp [Op.operands])]
  have hhi:∀ d (k:Int->Option Slot),bound σ' hi d k=bound σ hi d k:=by
   intro d k;cases hi with
   |none=>rfl
   |some y=>unfold bound;dsimp only;rw [val y (by rw [ho];simp [Op.operands])]
  unfold Bp at h ⊢;rw [ho] at h ⊢;dsimp only [AA] at h ⊢;rw [val _ hm];have aw:=fun t p=>awayR x t p hm
  rw [show σ.slot x=σ.val (.tmp x) from rfl] at aw;generalize σ.val (.tmp x)=sl at h aw ⊢;simp only [hlo,hhi];cases hty:env.ty t with
  |none=>rw [hty] at h;cases h
  |some ty=>
   rw [hty] at h;cases sl with
   |ref t' p=>
    cases ty with
    |slice e=>
     cases t' with
     |slice e' =>
      dsimp only at h ⊢;split at h
      case isFalse=>cases h
      case isTrue he=>
       rw [if_pos he];exact placeR p (aw _ p rfl) _ _ h
     |_=>cases h
    |_=>cases t'<;>exact h
   |pv d=>
    obtain ⟨dt,dx⟩:=d;cases ty<;>cases dt<;>exact h
   |_=>cases ty<;>exact h
 ·rename_i t x ix ho;have hm:Operand.tmp x∈o.op.operands:=by rw [ho];simp [Op.operands]
  have val:∀ y∈o.op.operands,σ'.val y=σ.val y:=fun y hy=>by
   cases y with
   |tmp i=>exact slot i hy
   |_=>rfl
  unfold Bp at h ⊢;rw [ho] at h ⊢;dsimp only [AA] at h ⊢;rw [val _ hm,val ix (by rw [ho];simp [Op.operands])];have aw:=fun t p=>awayR x t p hm
  rw [show σ.slot x=σ.val (.tmp x) from rfl] at aw;generalize σ.val (.tmp x)=sl at h aw ⊢;generalize σ.val ix=si at h ⊢;split at h
  case h_2=>cases h
  case h_1 kk i=>
   try dsimp only
   split at h
   ·exact h
   ·rename_i e p
    try dsimp only
    split at h
    case h_2=>cases h
    case h_1 hd=>
     try rw [hd]
     exact placeR p (aw _ p rfl) _ _ h
   ·cases h
 ·rename_i t n parts ho
  have val:∀ y∈o.op.operands,σ'.val y=σ.val y:=fun y hy=>by
   cases y with
   |tmp i=>exact slot i hy
   |_=>rfl
  have hp:(parts.toList.map fun x=>(x.1,σ'.val x.2))=parts.toList.map fun x=>(x.1,σ.val x.2):=List.map_congr_left fun x hx=>by
   rw [val x.2 (by rw [ho];unfold Op.operands;simp only [List.mem_toArray,List.mem_map];exact ⟨x,hx,rfl⟩)]
  unfold Bp at h ⊢;rw [ho] at h ⊢;dsimp only at h ⊢;unfold LC at h ⊢;rw [hp];exact h
 ·rename_i op t x y z ho;unfold Bp at h ⊢;rw [ho] at h ⊢;dsimp only [AA] at h ⊢;rw [val x (by rw [ho];simp [Op.operands]),val y (by rw [ho];simp [Op.operands])];unfold WI at h ⊢;split at h
  ·split at h
   ·exact asR x (by rw [ho];simp [Op.operands]) _ _ _ h
   ·cases h
  ·exact h
 ·rename_i src dst' x ho;unfold Bp at h ⊢;rw [ho] at h ⊢;dsimp only [AA] at h ⊢;have vx:=val x (by rw [ho];simp [Op.operands]);have ax:=asR x (by rw [ho];simp [Op.operands]);rw [vx];split at h
  ·exact h
  ·exact h
  ·exact ax _ _ _ h
  ·cases h
 ·rename_i f first caps ho
  have hz:first.size=0:=Nat.eq_of_beq_eq_true he
  have hf:first.toList=[]:=by
   have:first.toList.length=0:=by simpa using hz
   exact List.eq_nil_of_length_eq_zero this
  unfold Bp at h ⊢;rw [ho] at h ⊢;dsimp only at h ⊢;rw [hf] at h ⊢;dsimp only [AA] at h ⊢;rw [hz] at h ⊢
  try dsimp only at h ⊢
  rw [show caps.toList.map σ'.val=caps.toList.map σ.val from List.map_congr_left fun y hy=>val y (by
   have:y∈caps:=by simpa using hy
   rw [ho];simp [Op.operands,this])]
  exact h
 ·rename_i op t x ho;unfold Bp at h ⊢;rw [ho] at h ⊢;dsimp only [AA] at h ⊢;rw [val x (by rw [ho];simp [Op.operands])];exact h
 ·rename_i c x y ho;unfold Bp at h ⊢;rw [ho] at h ⊢;dsimp only [AA] at h ⊢;rw [val c (by rw [ho];simp [Op.operands]),val x (by rw [ho];simp [Op.operands]),val y (by rw [ho];simp [Op.operands])];exact h
 ·rename_i x n ho;unfold Bp at h ⊢;rw [ho] at h ⊢;dsimp only [AA] at h ⊢;rw [val x (by rw [ho];simp [Op.operands])];exact h
 ·rename_i t x y ho;unfold Bp at h ⊢;rw [ho] at h ⊢;dsimp only [AA] at h ⊢;rw [val x (by rw [ho];simp [Op.operands]),val y (by rw [ho];simp [Op.operands])];exact h
 ·rename_i t parts ho
  have hp:(parts.toList.map fun x=>(x.1,σ'.val x.2))=parts.toList.map fun x=>(x.1,σ.val x.2):=List.map_congr_left fun x hx=>by
   rw [val x.2 (by rw [ho];unfold Op.operands;simp only [List.mem_toArray,List.mem_map];exact ⟨x,hx,rfl⟩)]
  unfold Bp at h ⊢;rw [ho] at h ⊢;dsimp only at h ⊢;unfold Gv at h ⊢;rw [hp];exact h
 ·rename_i c ho
  have hargs:∀ y∈c.args.toList,y∈o.op.operands:=fun y hy=>by
   have:y∈c.args:=by simpa using hy
   rw [ho];cases hcc:c.callee<;>simp [Op.operands,Call.operands,hcc,this]
  have hmap:c.args.toList.map σ'.val=c.args.toList.map σ.val:=List.map_congr_left fun y hy=>val y (hargs y hy)
  have hmen:∀ y∈o.op.operands,∀ m∈T,(σ.val y).men m=false:=fun y hy m hm=>by
   cases y with
   |tmp i=>exact (hx i hy).2 m hm
   |const v=>exact de v m
   |func f=>rfl
   |global g=>rfl
  split at he
  case h_5=>cases he
  case h_2 hc=>
   unfold Bp at h ⊢;rw [ho] at h ⊢;dsimp only at h ⊢;unfold DA at h ⊢;rw [hc] at h ⊢;dsimp only at h ⊢;rw [hmap];exact h
  case h_3 hc=>
   unfold Bp at h ⊢;rw [ho] at h ⊢;dsimp only at h ⊢;unfold DA at h ⊢;rw [hc] at h ⊢;dsimp only at h ⊢;rw [hmap];exact h
  case h_4 g hc=>
   unfold Bp at h ⊢;rw [ho] at h ⊢;dsimp only at h ⊢;exact dh hc hc' hmap (val g (by rw [ho];simp [Op.operands,Call.operands,hc])) (fun y hy=>hmen y (hargs y hy)) (hmen g (by rw [ho];simp [Op.operands,Call.operands,hc])) h
  case h_1 hc=>
   unfold Bp at h ⊢;rw [ho] at h ⊢;dsimp only at h ⊢;unfold DA at h ⊢;rw [hc] at h ⊢;dsimp only at h ⊢;split at h
   case h_2=>cases h
   case h_1 x t hx ht=>
    have hm:x∈o.op.operands:=by
     rw [ho];have:x∈c.args:=by rw [<-Array.mem_toList_iff,hx];simp
     simp [Op.operands,Call.operands,hc,this]
    rw [val x hm];have aw:∀ i t p,x = .tmp i->σ.slot i = .ref t p->p.name∉T:=fun i t p e=>awayR i t p (e▸hm)
    have awv:∀ i e p l u,x = .tmp i->σ.slot i = .vw e p l u->p.name∉T:=fun i e p l u e' =>awayV i e p l u (e'▸hm)
    have p1:∀ t p,σ.val x = .ref t p->p.name∉T:=fun t p e=>by
     cases x with
     |tmp i=>exact aw i t p rfl e
     |const v=>exact (Ts e).elim
     |func f=>cases e
     |global g=>cases e
    have p2:∀ e p l u,σ.val x = .vw e p l u->p.name∉T:=fun e p l u e' =>by
     cases x with
     |tmp i=>exact awv i e p l u rfl e'
     |const v=>exact (Xj e').elim
     |func f=>cases e'
     |global g=>cases e'
    generalize σ.val x=sx at h p1 p2 ⊢;unfold WJ at h ⊢;split at h
    ·exact h
    ·split at h
     ·exact h
     ·exact placeR _ (p1 _ _ rfl) _ _ h
     ·exact placeR _ (p2 _ _ _ _ rfl) _ _ h
     ·exact h
     ·cases h
    ·cases h
 ·cases he
theorem Zs {ops:Array Oper} {o:Oper} (he:KJ o=true) (hc:DK T dst σ σ') {s:Slot} (h:BM env ops o σ some=some s) (hx:∀ x∈o.looksAt ops,dst≠some x/\∀ m∈T,(σ.slot x).men m=false)
  (hs:∀ m∈T,s.men m=false):BM env ops o σ' some=some s:=by
 have ev:Bp env σ o some=some s->Bp env σ' o some=some s:=fun h=>di he hc h (fun x hm=>hx x (Di hm)) hs
 unfold BM at h ⊢;split at h
 ·exact ev h
 ·rename_i j want hg
  try rw [hg]
  split at h
  case h_2=>cases h
  case h_1 d hd=>
   have hin:d∈o.looksAt ops:=by
    unfold Oper.looksAt;rw [Ajf];right;simp [hg,hd]
   try dsimp only
   rw [hc.slot d (hx d hin).1 (hx d hin).2];split at h
   ·split at h
    ·split at h
     ·rename_i h1 h2 h3;try rw [h1,h2]
      exact ev h
     ·exact h
    ·split at h
     ·exact h
     ·exact ev h
   ·exact h
   ·cases h
theorem CQ {Q:List Nat} {i:Nat}:Q.any (Nat.beq i)=true↔i∈Q:=by
 rw [List.any_eq_true];exact ⟨fun ⟨x,hx,h⟩=>by rw [Nat.eq_of_beq_eq_true h];exact hx,fun h=>⟨i,h,by simp⟩⟩
theorem Tt:∀ {l:List Nat} {i:Nat},Ut (i::l)=true->(∀ j∈l,i<j)/\Ut l=true
 |[],_,_=>⟨fun _ h=>(by cases h),rfl⟩
 |j::l,i,h=>by
  unfold Ut at h;rw [Ajb] at h;obtain ⟨h1,h2⟩:=h;have hij:i<j:=by simpa using h1
  obtain ⟨g1,g2⟩:=Tt h2;exact ⟨fun k hk=>(List.mem_cons.1 hk).elim (fun e=>e▸hij) fun h=>Nat.lt_trans hij (g1 k h),h2⟩
theorem OU {ops:Array Oper}:∀ {l:List Nat},Mk ops l=true->∀ (c c':Nat) (h:c<c') (hc:c'<l.length),l[c]'(Nat.lt_trans h hc)=l[c']\/SF ops (l[c]'(Nat.lt_trans h hc)) l[c']
 |[],_,_,_,_,hc=>by simp at hc
 |[i],_,c,c',h,hc=>by simp at hc;omega
 |i::j::l,hch,c,c',h,hc=>by
  unfold Mk at hch;rw [Ajb,CQ] at hch;have a:=Hn j [j] (fun k hk=>.inl (by simpa using hk)) i hch.1;have ih:=OU hch.2;cases c' with
  |zero=>omega
  |succ c' =>
   cases c with
   |succ c=>exact ih c c' (by omega) (by simpa using hc)
   |zero=>
    simp only [List.getElem_cons_zero,List.getElem_cons_succ];cases c' with
    |zero=>exact a
    |succ c' =>
     have:=ih 0 (c'+1) (by omega) (by simpa using hc);simp only [List.getElem_cons_zero] at this;rcases a with a | a
     ·rw [a];exact this
     ·rcases this with t | t
      ·rw [<-t];exact .inr a
      ·exact .inr (.trans _ _ _ a t)
structure rC (n:Nat) (ops:Array Oper) (Q:List Nat) (pd:Pd):Prop where
 inc:Ut Q=true
 rank:∀ md,∃ rk:Nat->Nat,∀ (i:Nat) o,ops[i]? = some o->∀ e∈o.after,Region.binds md e=true->e.on<ops.size/\rk e.on<rk i
 inc':Ut (Hh ops Q pd)=true
 chain:Mk ops (JR ops Q pd)=true
 tail:∀ (i:Nat) o,ops[i]? = some o->i∈Hh ops Q pd->(∃ d,o.dst=some d)/\(∀ q∈Q,q≠i->SF ops q i)/\(∀ q∈JR ops Q pd,q≠i->SF ops q i)/\∀ x∈o.looksAt ops,∀ (j:Nat) o',ops[j]? = some o' ->o'.dst=some x->j∈Hh ops Q pd->j<i/\∃ e∈o.after,e.on=j/\∀ md,Region.binds md e=true
 guard:∀ (i:Nat) o,ops[i]? = some o->i∉Q->i∉Hh ops Q pd->o.guard=none
 dst:∀ (i:Nat) o d,ops[i]? = some o->o.dst=some d->d<n
 early:∀ (i:Nat) o,ops[i]? = some o->i∈Q->KJ o=true/\(∃ d,o.dst=some d)/\∀ x∈o.looksAt ops,∀ (j:Nat) o',ops[j]? = some o' ->o'.dst=some x->(j∈Q/\j<i/\∃ e∈o.after,e.on=j/\∀ md,Region.binds md e=true)\/(j∉Q/\i<j/\∃ e∈o'.after,e.on=i/\∀ md,Region.binds md e=true)
 late:∀ (i:Nat) o,ops[i]? = some o->i∉Q->∀ x∈o.looksAt ops,∀ (j:Nat) o',ops[j]? = some o' ->o'.dst=some x->j∈Q->∃ e∈o.after,e.on=j/\∀ md,Region.binds md e=true
 one:∀ (i j:Nat) o o' d,ops[i]? = some o->ops[j]? = some o' ->o.dst=some d->o'.dst=some d->i=j
theorem UN {n:Nat} {ops:Array Oper} {Q:List Nat} {pd:Pd} (h:PH n ops Q pd=true):rC n ops Q pd:=by
 unfold PH at h;simp only [Ajb] at h;obtain ⟨⟨hinc,hinc'⟩,hrank,hch,htail,hall⟩:=h;rw [List.all_eq_true] at hall
 have mem:∀ (i:Nat) o,ops[i]? = some o->(o,i)∈ops.toList.zipIdx:=by
  intro i o ho;rw [List.mem_zipIdx_iff_getElem?,Array.getElem?_toList];exact ho
 have all:∀ (i:Nat) o,ops[i]? = some o->_:=fun i o ho=>hall (o,i) (mem i o ho)
 simp only [Ajb] at all;refine ⟨hinc,Tl hrank,hinc',hch,fun i o ho hi=>?_,fun i o ho hQ hR=>?_,fun i o d ho hd=>?_,fun i o ho hQ=>?_,fun i o ho hQ x hx j o' ho' hd' =>?_,fun i j o o' d ho ho' hd hd' =>?_⟩
 ·rw [List.all_eq_true] at htail;have:=htail i hi;rw [ho] at this;simp only [Ajb] at this;obtain ⟨⟨h1,h2,h3⟩,h4⟩:=this;rw [List.all_eq_true] at h2 h3 h4;have anc:∀ q,(GO ops i [i]).any (Nat.beq q)=true->q≠i->SF ops q i:=fun q hq hne=>(Hn i [i] (fun k hk=>.inl (by simpa using hk)) q (CQ.1 hq)).resolve_left hne
  refine ⟨?_,fun q hq hne=>anc q (h2 q hq) hne,fun q hq hne=>anc q (h3 q hq) hne,fun x hx j o' ho' hd' hj=>?_⟩
  ·cases hd:o.dst with
   |none=>rw [hd] at h1;cases h1
   |some d=>exact ⟨d,rfl⟩
  ·have h5:=h4 x hx;rw [List.all_eq_true] at h5;have h6:=h5 (o',j) (mem j o' ho');dsimp only at h6;rw [hd'] at h6;simp only [Ajc,Ajb] at h6;rcases h6 with h6 | h6 | ⟨h6,h7⟩
   ·simp at h6
   ·rw [CQ.2 hj] at h6;cases h6
   ·exact ⟨by simpa using h7,Cx h6⟩
 ·have:=(all i o ho).1;cases hg:o.guard with
  |none=>rfl
  |some _=>rw [hg] at this;exact ((Ajc _ _).mp this).elim (fun h=>(hQ (CQ.1 h)).elim) fun h=>(hR (CQ.1 h)).elim
 ·have:=(all i o ho).2.1;rw [hd] at this;simpa using this
 ·have:=(all i o ho).2.2.1;rw [CQ.2 hQ] at this;simp only [Ajb] at this;obtain ⟨h1,h2,h3⟩:=this;refine ⟨h1,?_,fun x hx j o' ho' hd' =>?_⟩
  ·cases hd:o.dst with
   |none=>rw [hd] at h2;cases h2
   |some d=>exact ⟨d,rfl⟩
  ·rw [List.all_eq_true] at h3;have h4:=h3 x hx;unfold Ze at h4;rw [List.all_eq_true] at h4;have h5:=h4 (o',j) (mem j o' ho');dsimp only at h5;rw [hd'] at h5;simp only [Ajc,Ajb,Bool.not_eq_true'] at h5;rcases h5 with h5 | ⟨h5,h6,h7⟩ | ⟨h5,h6,h7⟩
   ·simp at h5
   ·exact .inl ⟨CQ.1 h5,by simpa using h7,Cx h6⟩
   ·exact .inr ⟨fun h=>(by rw [CQ.2 h] at h5;cases h5),by simpa using h7,Cx h6⟩
 ·have:=(all i o ho).2.2.1;rw [show Q.any (Nat.beq i)=false by rw [Bool.eq_false_iff];exact fun h=>hQ (CQ.1 h)] at this;dsimp only at this;rw [List.all_eq_true] at this;have h4:=this x hx;rw [List.all_eq_true] at h4;have h5:=h4 (o',j) (mem j o' ho');dsimp only at h5;rw [hd',Ajc,Ajc] at h5;intro hj;rcases h5 with h5 | h5 | h5
  ·simp at h5
  ·rw [CQ.2 hj] at h5;cases h5
  ·exact Cx h5
 ·have:=(all i o ho).2.2.2;rw [List.all_eq_true] at this;have h5:=this (o',j) (mem j o' ho');dsimp only at h5;rw [hd,hd',Ajc] at h5;rcases h5 with h5 | h5
  ·exact Nat.eq_of_beq_eq_true h5
  ·simp at h5
theorem QZ {ops:Array Oper} {Q:List Nat} (one:∀ (i j:Nat) o o' d,ops[i]? = some o->ops[j]? = some o' ->o.dst=some d->o'.dst=some d->i=j)
  (dep:∀ (i:Nat) o,ops[i]? = some o->i∈Q->(∃ d,o.dst=some d)/\∀ x∈o.looksAt ops,∀ (j:Nat) o',ops[j]? = some o' ->o'.dst=some x->j∈Q->j<i) {k:St->Option α} {r:α}:∀ (l:List Nat) {σ:St},Ut l=true->(∀ q∈l,q∈Q)->Gf env ops l σ k=some r->
  ∃ τ,k τ=some r/\τ.mem=σ.mem/\(∀ x,(∀ q∈l,∀ o,ops[q]? = some o->o.dst≠some x)->τ.slot x=σ.slot x)/\
   ∀ q∈l,∃ o d,ops[q]? = some o/\o.dst=some d/\BM env ops o τ some=some (τ.slot d)
 |[],σ,_,_,h=>⟨σ,h,rfl,fun _ _=>rfl,fun q hq=>by cases hq⟩
 |q::l,σ,hi,hl,h=>by
  obtain ⟨hlt,hi'⟩:=Tt hi;unfold Gf at h;cases ho:ops[q]? with
  |none=>rw [ho] at h;cases h
  |some o=>
   rw [ho] at h;dsimp only at h;obtain ⟨s,σ₁,hev,h,hm₁,hs₁⟩:=JX h;obtain ⟨⟨d,hd⟩,hdep⟩:=dep q o ho (hl q (by simp));rw [hd] at h;dsimp only at h;obtain ⟨τ,h1,h2,h3,h4⟩:=QZ one dep l hi' (fun q hq=>hl q (by simp [hq])) h;have later:∀ x,(∀ q' ∈l,∀ o',ops[q']? = some o' ->o'.dst≠some x)->x≠d->τ.slot x=σ.slot x:=fun x hx hxd=>by rw [h3 x hx,St.slot_set,if_neg hxd];exact hs₁ x
   refine ⟨τ,h1,h2.trans hm₁,fun x hx=>later x (fun q' hq' =>hx q' (by simp [hq'])) (fun e=>hx q (by simp) o ho (by rw [hd,e])),fun q' hq' =>?_⟩;rcases List.mem_cons.1 hq' with e | hq'
   ·subst e;refine ⟨o,d,ho,hd,?_⟩
    have hs:τ.slot d=s:=by
     rw [h3 d fun q₂ hq₂ o₂ ho₂ hd₂=>by have:=one q₂ q' o₂ o d ho₂ ho hd₂ hd;have:=hlt q₂ hq₂;omega,St.slot_set,if_pos rfl]
    rw [hs,<-hev];refine CN (σ₁:=τ) (σ₂:=σ) (ops:=ops) (h2.trans hm₁) o (fun x hx=>?_) some;refine later x (fun q₂ hq₂ o₂ ho₂ hd₂=>?_) fun e=>?_
    ·have:=hdep x hx q₂ o₂ ho₂ hd₂ (hl q₂ (by simp [hq₂]));have:=hlt q₂ hq₂;omega
    ·subst e;have:=hdep x hx q' o ho hd (hl q' (by simp));omega
   ·exact h4 q' hq'
theorem Sim.less (S:Sim P env w₀ O₀ W σ γ φ O a w) (hr:∀ n,σ'.root n=σ.root n) (hs:∀ i,σ'.slot i=σ.slot i\/σ'.slot i = .undef):Sim P env w₀ O₀ W σ' γ φ O a w:=by
 have S' :=S.congr (σ' :={slots:=σ.slots,mem:=σ'.mem}) hr fun _=>rfl
 refine ⟨S'.defers,S'.size,S'.kept,fun n r h=>RootOk.congr (σ:={slots:=σ.slots,mem:=σ'.mem}) (σ' :=σ') (fun _=>rfl) (S'.roots n r h),S'.apart,S'.fresh,S'.own,S'.old,fun i=>?_,S'.pin⟩;rcases hs i with h | h
 ·rw [h];exact Ak.congr (σ:={slots:=σ.slots,mem:=σ'.mem}) (σ' :=σ') (fun _=>rfl) (S'.slots i)
 ·rw [h];exact .undef _
def pendB (ops:Array Oper) (Q:List Nat) (L:Array Bool) (x:Nat):Bool:=
 Q.any fun q=>!(L.getD q false)&&match ops[q]? with
  |some o=>match o.dst with
   |some d=>Nat.beq d x
   |none=>false
  |none=>false
theorem Cq {ops:Array Oper} {Q:List Nat} {L:Array Bool} {x:Nat}:pendB ops Q L x=true↔∃ q o,q∈Q/\L.getD q false=false/\ops[q]? = some o/\o.dst=some x:=by
 unfold pendB;rw [List.any_eq_true];constructor
 ·rintro ⟨q,hq,h⟩;rw [Ajb,Bool.not_eq_true'] at h;obtain ⟨h1,h2⟩:=h;split at h2
  case h_2=>cases h2
  case h_1 o ho=>
   split at h2
   case h_2=>cases h2
   case h_1 d hd=>exact ⟨q,o,hq,h1,ho,by rw [hd,Nat.eq_of_beq_eq_true h2]⟩
 ·rintro ⟨q,o,hq,h1,ho,hd⟩;refine ⟨q,hq,?_⟩;rw [h1,ho];dsimp only;rw [hd];simp
theorem Tu {ops:Array Oper} {Qs:List Nat} {L:Array Bool} {i d:Nat} {o:Oper} {τ:St} (one:∀ (i j:Nat) o o' d,ops[i]? = some o->ops[j]? = some o' ->o.dst=some d->o'.dst=some d->i=j) (g2:ops[i]? = some o) (hd:o.dst=some d)
  (hset:∀ j,j≠i->(L.setIfInBounds i true).getD j false=L.getD j false) (hset':(L.setIfInBounds i true).getD i false=true) (x:Nat) :
  (τ.blank (pendB ops Qs (L.setIfInBounds i true))).slot x=((τ.blank (pendB ops Qs L)).set d (τ.slot d)).slot x:=by
 rw [AW,St.slot_set,AW];by_cases hx:x=d
 ·subst hx;rw [if_pos rfl];unfold blk
  rw [show pendB ops Qs (L.setIfInBounds i true) x=false by
   rw [Bool.eq_false_iff];intro hb;obtain ⟨q,oq,hq,hl,hoq,hdq⟩:=Cq.1 hb;have:q=i:=one q i oq o x hoq g2 hdq hd;rw [this,hset'] at hl;cases hl]
 ·rw [if_neg hx]
  have:pendB ops Qs (L.setIfInBounds i true) x=pendB ops Qs L x:=by
   rw [Bool.eq_iff_iff,Cq,Cq];constructor
   ·rintro ⟨q,oq,hq,hl,hoq,hdq⟩;have hqi:q≠i:=fun e=>by rw [e,hset'] at hl;cases hl
    exact ⟨q,oq,hq,by rwa [hset q hqi] at hl,hoq,hdq⟩
   ·rintro ⟨q,oq,hq,hl,hoq,hdq⟩
    have hqi:q≠i:=fun e=>by
     subst e;rw [g2] at hoq;injection hoq with hoq
     subst hoq;rw [hd] at hdq;injection hdq with hdq
     exact hx hdq.symm
    exact ⟨q,oq,hq,by rwa [hset q hqi],hoq,hdq⟩
  unfold blk;rw [this]
def nz (dst:Option Nat) (σ σ':St):Prop:=∀ x n,dst≠some x->σ.slot x = .ptr ⟨n,[]⟩->σ'.slot x=σ.slot x
open Classical in
theorem fo {o:Oper} {K:St->Option α} {r:α} (h:EJ env o σ K=some r):EJ env o σ (fun τ' =>if (HL env σ o=true->nz o.dst σ τ') then K τ' else none)=some r:=by
 cases hk:HL env σ o with
 |false=>
  have:(fun τ' =>if (false=true->nz o.dst σ τ') then K τ' else none)=K:=funext fun τ' =>if_pos fun h=>by cases h
  rw [this];exact h
 |true=>
  unfold HL at hk;split at hk
  case h_2=>cases hk
  case h_1 c ho=>
   split at hk
   case h_2=>cases hk
   case h_1 g hc=>
    split at hk
    case h_2=>cases hk
    case h_1 fu hfu=>
     rw [Ajb,Bool.not_eq_true',Option.isSome_iff_exists] at hk;obtain ⟨htf,T,hT⟩:=hk;have hl:(Lf o||toBytes env o.op)=true:=by simp [Lf,ho]
     unfold EJ at h ⊢;rw [hl] at h ⊢;dsimp only at h ⊢;unfold Cj at h ⊢;rw [ho] at h ⊢;dsimp only at h ⊢;rw [hc] at h ⊢;dsimp only at h ⊢;rw [hfu] at h ⊢;dsimp only at h ⊢;unfold KI at h ⊢;rw [htf] at h ⊢;dsimp only at h ⊢
     have fin:∀ s n R,Pt env o.dst K s (σ.redo n R)=some r->Pt env o.dst (fun τ' =>if (true=true->nz o.dst σ τ') then K τ' else none) s (σ.redo n R)=some r:=by
      intro s n R h
      have base:∀ x m,σ.slot x = .ptr ⟨m,[]⟩->(σ.redo n R).slot x=σ.slot x:=fun x m e=>by
       rw [St.slot_redo,e];rfl
      unfold Pt at h ⊢;cases hd:o.dst with
      |none=>
       rw [hd] at h;dsimp only at h ⊢;have had:true=true->nz none σ (σ.redo n R):=fun _ x m _ e=>base x m e
       rw [if_pos had];exact h
      |some d=>
       rw [hd] at h;dsimp only at h ⊢;split at h
       case h_2=>cases h
       case h_1 hlt=>
        try rw [hlt]
        try dsimp only
        have had:true=true->nz (some d) σ ((σ.redo n R).set d s):=fun _ x m hx e=>by rw [St.slot_set,if_neg fun e' =>hx (by rw [e'])];exact base x m e
        rw [if_pos had];exact h
     have hT' :=hT;unfold IX at hT;split at hT
     case h_2=>cases hT
     case h_1 t ps rs F n ss heq=>
      split at hT
      case h_2=>cases hT
      case h_1 hlz=>
       have hla:JP σ c.args.toList=false:=by
        cases hca:c.args.toList with
        |nil=>rfl
        |cons y ys=>
         rw [hca] at heq;unfold JP;dsimp only;injection heq with _ heq
         rw [heq];exact hlz
       rw [hla] at h ⊢;dsimp only at h ⊢;rw [show Zb σ ⟨.io t .z::ps,rs,F⟩ c.args.toList=false from rfl] at h ⊢;dsimp only at h ⊢;rw [heq] at h ⊢;unfold IT at h ⊢;dsimp only at h ⊢;split at h
       case h_2=>cases h
       case h_1 hno=>
        try rw [hno]
        try dsimp only
        split at h
        case h_2=>cases h
        case h_1 d hr=>
         try rw [hr]
         try dsimp only
         obtain ⟨e,h⟩:=As h;subst e
         try dsimp only at h
         rw [DW];rw [Bg] at h ⊢;cases ha:AP env σ ps ss (some:Args ps->Option (Args ps)) with
         |none=>rw [ha] at h;cases h
         |some az=>
          rw [ha] at h;rw [Ai5] at h ⊢;split at h
          case h_2=>cases h
          case h_1 res hres=>
           try rw [hres]
           try dsimp only
           exact fin _ _ _ h
theorem OV (A B:Nat->Bool):(σ.blank A).blank B=σ.blank fun x=>A x||B x:=by
 rw [CP,CP,CP];simp only [List.map_map];congr 1;refine List.map_congr_left fun x _=>?_
 simp only [Function.comp];unfold blk;dsimp only;cases hA:A x.1<;>cases hB:B x.1<;>simp
def Cg (pd:Pd) (L:Array Bool) (x:Nat):Bool:=match pd with
 |some (_,d,_,c)=>Nat.beq d x && !(L.getD c false)
 |none=>false
theorem hideB_false {pd:Pd} {L:Array Bool} {x:Nat} (h:∀ j d t c,pd=some (j,d,t,c)->d=x->L.getD c false=true):Cg pd L x=false:=by
 cases pd with
 |none=>rfl
 |some q=>
  obtain ⟨j,d,t,c⟩:=q;unfold Cg;dsimp only;cases hb:Nat.beq d x with
  |false=>rfl
  |true=>rw [h j d t c rfl (Nat.eq_of_beq_eq_true hb)];rfl
theorem dj {pd:Pd} {i:Nat} (h:∀ j d t c,pd=some (j,d,t,c)->c≠i):σ.unp pd i=σ:=by
 cases pd with
 |none=>rfl
 |some q=>
  obtain ⟨j,d,t,c⟩:=q;unfold St.unp;dsimp only;rw [Dn (h j d t c rfl)]
theorem Q' {pd:Pd} {L L':Array Bool} (h:∀ j d t c,pd=some (j,d,t,c)->L'.getD c false=L.getD c false):Cg pd L'=Cg pd L:=funext fun x=>by
 cases pd with
 |none=>rfl
 |some q=>
  obtain ⟨j,d,t,c⟩:=q;unfold Cg;dsimp only;rw [h j d t c rfl]
structure PdF (env:Bf) (ops:Array Oper) (Q late:List Nat) (j d:Nat) (t:Ty) (c:Nat):Prop where
 al:∃ o u,ops[j]? = some o/\o.op = .alloc u/\env.ty u=some t/\o.dst=some d/\o.guard=none
 jq:j∉Q
 cm:c∈late
 jc:j≠c/\SF ops j c
 qc:∀ q∈Q,q≠c->SF ops q c
 look:∀ i,(i∈Q\/i∈late.takeWhile fun i=>!(Nat.beq i c))->∀ o,ops[i]? = some o->d∉o.looksAt ops
theorem dl {ops:Array Oper} {Q:List Nat} {j d:Nat} {t:Ty} {c:Nat} (h:nH env ops Q (some (j,d,t,c))=true):PdF env ops Q (JR ops Q (some (j,d,t,c))) j d t c:=by
 unfold nH at h;simp only [Ajb,Bool.not_eq_true'] at h;obtain ⟨h1,h2,h3,h4,h5,h6,h7⟩:=h;have anc:∀ q,(GO ops c [c]).any (Nat.beq q)=true->q≠c->SF ops q c:=fun q hq hne=>(Hn c [c] (fun k hk=>.inl (by simpa using hk)) q (CQ.1 hq)).resolve_left hne
 have hjc:j≠c:=fun e=>by subst e;simp at h5
 rw [List.all_eq_true] at h6 h7;refine ⟨?_,fun hq=>(by rw [CQ.2 hq] at h2;cases h2),CQ.1 h3,⟨hjc,anc j h4 hjc⟩,fun q hq hne=>anc q (h6 q hq) hne,fun i hi o ho hx=>?_⟩
 ·split at h1
  case h_2=>cases h1
  case h_1 o ho=>
   simp only [Ajb] at h1;obtain ⟨g1,g2,g3⟩:=h1;split at g1
   case h_2=>cases g1
   case h_1 u hu=>
    refine ⟨o,u,ho,hu,of_decide_eq_true g1,of_decide_eq_true g2,?_⟩;cases hg:o.guard with
    |none=>rfl
    |some _=>rw [hg] at g3;cases g3
 ·have:=h7 i (List.mem_append.2 hi);rw [ho] at this;dsimp only at this;rw [Bool.not_eq_true',Bool.eq_false_iff] at this;exact this (CQ.2 hx)
def rD (w₀:World) (O₀ W:Ab) (pd:Pd) (L:Array Bool) (O₁:Ab) (a:Act) (w:World):Prop:=match pd with
 |none=>O₁=O₀
 |some (j,d,t,c)=>((L.getD j false=false\/L.getD c false=true)/\O₁=O₀)\/
  (L.getD j false=true/\L.getD c false=false/\∃ b,O₁=(fun x=>O₀ x\/x=b)/\Xa w₀ O₀ W t b w/\a.tmps.getD d undef = .pointer (some ⟨b,0,none⟩))
theorem rD.step {pd:Pd} {L L':Array Bool} (h:rD w₀ O₀ W pd L O₁ a w) (hj:∀ j d t c,pd=some (j,d,t,c)->L'.getD j false=L.getD j false/\L'.getD c false=L.getD c false/\a'.tmps.getD d undef=a.tmps.getD d undef)
  (K:AF (fun b=>O b/\¬O₁ b) w w'):rD w₀ O₀ W pd L' O₁ a' w' :=by
 cases pd with
 |none=>exact h
 |some q=>
  obtain ⟨j,d,t,c⟩:=q;obtain ⟨h1,h2,h3⟩:=hj j d t c rfl;unfold rD at h ⊢;dsimp only at h ⊢;rw [h1,h2,h3];rcases h with h | ⟨g1,g2,b,rfl,⟨p1,p2,C,tid,fr,cs,p3,p4,p5,p6⟩,g4⟩
  ·exact .inl h
  ·have hsame:w'.heap[b]? = w.heap[b]?:=K.block b (Array.getElem?_eq_some_iff.1 p3).1 fun h=>h.2 (.inr rfl)
   exact .inr ⟨g1,g2,b,rfl,⟨p1,p2,C,tid,fr,cs,hsame.trans p3,p4,(Ci (by rintro k rfl;exact hsame)).trans p5,p6⟩,g4⟩
theorem Lo {f:Nat->Bool}:∀ (l:List Nat) (p:Nat) (h:p<l.length),(∀ k (hk:k<=p),f (l[k]'(Nat.lt_of_le_of_lt hk h))=true)->l[p]∈l.takeWhile f
 |x::l,0,h,hf=>by
  have:=hf 0 (Nat.le_refl _);simp only [List.getElem_cons_zero] at this ⊢;rw [List.takeWhile_cons_of_pos this];simp
 |x::l,p+1,h,hf=>by
  have:=hf 0 (Nat.zero_le _);simp only [List.getElem_cons_zero] at this;rw [List.takeWhile_cons_of_pos this,List.getElem_cons_succ];exact List.mem_cons_of_mem _ (Lo l p (by simpa using h) fun k hk=>by have:=hf (k+1) (by omega);simpa using this)
theorem Xk {o:Oper} {v:Value} {d:Nat} (h:o.dst≠some d):(a.put o.dst v).tmps.getD d undef=a.tmps.getD d undef:=by
 cases hd:o.dst with
 |none=>rfl
 |some e=>exact Act.put_other fun h' =>h (by rw [hd,h'])
theorem Tv (S:Sim P env w₀ O₀ W σ γ φ O a w) (hty:env.TyOk P) (hfn:env.FnOk P) {id:Nat} {ops:Array Oper} {Qs:List Nat} {pd:Pd} {k:St->Option α} {r:α}
  (h:Uv env ops Qs pd σ k=some r) {Q:Exit->Act->World->Prop}
  (hQ:∀ σ' γ' φ' O' a' w',Sim P env w₀ O₀ W σ' γ' φ' O' a' w' ->k σ'=some r->Q .normal a' w'):(Code.region id ops true).wp P Q a w:=by
 unfold Uv at h;split at h
 case h_2=>cases h
 case h_1 hok=>
 rw [Ajb] at hok;obtain ⟨hok,hpd⟩:=hok;have D:=UN hok;obtain ⟨τ₀,h,hm₀,hs₀,hf₀⟩:=QZ D.one (Q:=Qs) (fun i o ho hi=>⟨(D.early i o ho hi).2.1,fun x hx j o' ho' hd' hj=>((D.early i o ho hi).2.2 x hx j o' ho' hd').elim (fun h=>h.2.1) fun h=>(h.1 hj).elim⟩) Qs D.inc (fun _ h=>h) h;obtain ⟨late,hlate⟩:∃ late,JR ops Qs pd=late:=⟨_,rfl⟩;obtain ⟨R,hR⟩:∃ R,Hh ops Qs pd=R:=⟨_,rfl⟩;have hch:=D.chain;rw [hlate,hR] at h;rw [hlate] at hch
 have hLR:late++R=Us ops Qs pd:=by
  rw [<-hlate,<-hR];unfold JR Hh;rw [<-List.reverse_append,List.takeWhile_append_dropWhile,List.reverse_reverse]
 have lmem':∀ i,i∈late++R↔i<ops.size/\i∉Qs/\eO pd i=false:=by
  intro i;rw [hLR];unfold Us;rw [List.mem_filter,List.mem_range,Ajb,Bool.not_eq_true',Bool.not_eq_true',Bool.eq_false_iff,Ne,CQ]
 have F:∀ j d t c,pd=some (j,d,t,c)->PdF env ops Qs late j d t c:=fun j d t c e=>by
  have:=dl (e▸hpd);rwa [<-e,hlate] at this
 have lnd':(late++R).Nodup:=by
  rw [hLR];exact List.Nodup.sublist List.filter_sublist List.nodup_range
 have lmem:∀ i∈late,i<ops.size/\i∉Qs:=fun i hi=>⟨((lmem' i).1 (List.mem_append.2 (.inl hi))).1,((lmem' i).1 (List.mem_append.2 (.inl hi))).2.1⟩
 have rmem:∀ i∈R,i<ops.size/\i∉Qs/\i∉late:=fun i hi=>
  ⟨((lmem' i).1 (List.mem_append.2 (.inr hi))).1,((lmem' i).1 (List.mem_append.2 (.inr hi))).2.1,fun h=>(List.nodup_append.1 lnd').2.2 i h i hi rfl⟩
 have lnd:late.Nodup:=(List.nodup_append.1 lnd').1
 have tailD:∀ (i:Nat) o,ops[i]? = some o->i∈R->(∃ d,o.dst=some d)/\(∀ q∈Qs,SF ops q i)/\(∀ q∈late,SF ops q i)/\∀ x∈o.looksAt ops,∀ (j:Nat) o',ops[j]? = some o' ->o'.dst=some x->j∈R->j<i/\∃ e∈o.after,e.on=j/\∀ md,Region.binds md e=true:=by
  intro i o ho hi;obtain ⟨h1,h2,h3,h4⟩:=D.tail i o ho (by rw [hR];exact hi);rw [hR] at h4;rw [hlate] at h3;exact ⟨h1,fun q hq=>h2 q hq fun e=>(rmem i hi).2.1 (e▸hq),fun q hq=>h3 q hq fun e=>(rmem i hi).2.2 (e▸hq),h4⟩
 let Cl:Region.Mode->Array Bool->Prop:=fun md L=>∀ (j':Nat) o,L.getD j' false=true->ops[j']? = some o->∀ e∈o.after,Region.binds md e=true->L.getD e.on false=true
 let BB:Array Bool->Nat->Bool:=fun L x=>Cg pd L x||pendB ops Qs L x
 let InvA:Array Bool->Act->World->Prop:=fun L a w=>(∀ i∈R,L.getD i false=false)/\
  ∃ p τ γ' φ' O' O₁,p<=late.length/\(∀ (c:Nat) (hc:c<late.length),L.getD late[c] false=true↔c<p)/\JS env ops Qs pd (late.drop p) τ (fun σ=>Gf env ops R σ k)=some r/\
   Sim P env w₀ O₁ W (τ.blank (BB L)) γ' φ' O' a w/\rD w₀ O₀ W pd L O₁ a w/\∀ q∈Qs,L.getD q false=false->∀ o d,ops[q]? = some o->o.dst=some d->BM env ops o τ some=some (τ.slot d)
 let InvB:Array Bool->Act->World->Prop:=fun L a w=>(∀ i∈Qs,i<ops.size->L.getD i false=true)/\(∀ i∈late,L.getD i false=true)/\
  ∃ τ γ' φ' O',k τ=some r/\Sim P env w₀ O₀ W (τ.blank (pendB ops R L)) γ' φ' O' a w/\∀ q∈R,L.getD q false=false->∀ o d,ops[q]? = some o->o.dst=some d->BM env ops o τ some=some (τ.slot d)
 let Inv:Region.Mode->Array Bool->Act->World->Prop:=fun md L a w=>Cl md L/\(InvA L a w\/InvB L a w)
 have noPendOf:∀ {S:List Nat} {L:Array Bool},(∀ i∈S,i<ops.size->L.getD i false=true)->∀ x,pendB ops S L x=false:=by
  intro S L hS x;rw [Bool.eq_false_iff];intro hb;obtain ⟨q,o,hqS,hq,ho,_⟩:=Cq.1 hb;rw [hS q hqS (Array.getElem?_eq_some_iff.1 ho).1] at hq;cases hq
 have GM:∀ {L:Array Bool} {a:Act} {w:World},InvA L a w->(∀ i∈Qs,i<ops.size->L.getD i false=true)->(∀ i∈late,L.getD i false=true)->InvB L a w:=by
  rintro L a w ⟨hno,p,τ,γ',φ',O',O₁,hp,hlis,hk,S',hps,_⟩ hQl hLl
  have hBB:∀ x,BB L x=false:=fun x=>by
   show (Cg pd L x||pendB ops Qs L x)=false;rw [noPendOf hQl x,Bool.or_false];exact hideB_false fun j d t c e _=>hLl c (F j d t c e).cm
  have hO₁:O₁=O₀:=by
   cases hpe:pd with
   |none=>rw [hpe] at hps;exact hps
   |some q=>
    obtain ⟨j,d,t,c⟩:=q;rw [hpe] at hps;rcases hps with h | ⟨_,h,_⟩
    ·exact h.2
    ·rw [hLl c (F j d t c hpe).cm] at h;cases h
  subst hO₁
  have hpl:p=late.length:=by
   rcases Nat.lt_or_ge p late.length with hlt | hge
   ·have:=(hlis p hlt).1 (hLl _ (List.getElem_mem hlt));omega
   ·omega
  rw [hpl,Ajh] at hk;obtain ⟨τ',h1,h2,h3,h4⟩:=QZ D.one (Q:=R) (fun i o ho hi=>⟨(tailD i o ho hi).1,fun x hx j o' ho' hd' hj=>((tailD i o ho hi).2.2.2 x hx j o' ho' hd' hj).1⟩) R (by rw [<-hR];exact D.inc') (fun _ h=>h) hk;refine ⟨hQl,hLl,τ',γ',φ',O',h1,S'.less (fun n=>HO h2 n) fun x=>?_,fun q hq _ o d ho hd=>?_⟩
  ·rw [AW,AW];unfold blk;rw [hBB x];cases hb:pendB ops R L x with
   |true=>exact .inr rfl
   |false=>
    refine .inl (h3 x fun q hq o ho hd=>?_);rw [Cq.2 ⟨q,o,hq,hno q hq,ho,hd⟩] at hb;cases hb
  ·obtain ⟨o',d',ho',hd',he⟩:=h4 q hq;rw [ho] at ho';injection ho' with ho'
   subst ho';rw [hd] at hd';injection hd' with hd'
   subst hd';exact he
 have done:∀ md L a w,L.size=ops.size->Inv md L a w->(∀ i,i<ops.size->L.getD i true=true)->Q .normal a w:=by
  rintro md L a w hL ⟨_,hAB⟩ hall
  have listed:∀ i,i<ops.size->L.getD i false=true:=by
   intro i hi;have:=hall i hi;have hi':i<L.size:=by rw [hL];exact hi
   simpa [hi'] using this
  have hB:InvB L a w:=hAB.elim (fun h=>GM h (fun i _ hi=>listed i hi) fun i hi=>listed i (lmem i hi).1) fun h=>h
  obtain ⟨_,_,τ,γ',φ',O',hk,S',_⟩:=hB;refine hQ τ γ' φ' O' a w (S'.congr (fun _=>rfl) fun x=>?_) hk;rw [AW];unfold blk;rw [noPendOf (fun i _ hi=>listed i hi) x]
 have any:∀ (md:Region.Mode) (Af:Nat) (L:Array Bool) (a:Act) (w:World),L.size=ops.size->left L ops.size<=Af->Inv md L a w->wpAny P md ops Q Af L a w:=by
  intro md Af;induction Af with
  |zero=>
   intro L a w hL hleft hI;have hall:=KP (L:=L) ops.size (by omega);refine ⟨?_,done md L a w hL hI hall⟩;cases hr:Region.ready md ops L with
   |nil=>rfl
   |cons i l=>
    have hi:i∈Region.ready md ops L:=by rw [hr];simp
    obtain ⟨g1,o,g2,_⟩:=mem_ready.1 hi;rw [hall i (Array.getElem?_eq_some_iff.1 g2).1] at g1;cases g1
  |succ Af ih=>
   intro L a w hL hleft hI;refine ⟨fun hnil=>done md L a w hL hI ?_,fun i hi=>?_⟩
   ·obtain ⟨rk,hrk⟩:=D.rank md
    have:∀ m i,rk i<=m->i<ops.size->L.getD i true=true:=by
     intro m;induction m using Nat.strongRecOn with
     |ind m ihm=>
      intro i him hi;have hlow:∀ j,rk j<rk i->j<ops.size->L.getD j true=true:=fun j hj hjs=>ihm (rk j) (by omega) j (Nat.le_refl _) hjs
      by_cases hu:L.getD i true=true
      ·exact hu
      ·have hmem:i∈Region.ready md ops L:=by
        refine mem_ready.2 ⟨by simpa using hu,ops[i],Array.getElem?_eq_getElem hi,fun e he hbd=>?_⟩;obtain ⟨hes,hb⟩:=hrk i _ (Array.getElem?_eq_getElem hi) e he hbd;have:=hlow e.on hb hes;have hs:e.on<L.size:=by rw [hL];exact hes
        simpa [hs] using this
       rw [hnil] at hmem;cases hmem
    exact fun i hi=>this (rk i) i (Nat.le_refl _) hi
   ·obtain ⟨g1,o,g2,g3⟩:=mem_ready.1 hi;have hin:=(Array.getElem?_eq_some_iff.1 g2).1;obtain ⟨hcl,hAB⟩:=hI;have hsi:i<L.size:=by rw [hL];exact hin
    have hni:L.getD i false=false:=by simpa [hsi] using g1
    have hset:∀ j,j≠i->(L.setIfInBounds i true).getD j false=L.getD j false:=fun j hj=>getD_set_ne false (fun e=>hj e.symm)
    have hset':(L.setIfInBounds i true).getD i false=true:=by simp [hsi]
    have hcl':∀ (j':Nat) o,(L.setIfInBounds i true).getD j' false=true->ops[j']? = some o->∀ e∈o.after,Region.binds md e=true->(L.setIfInBounds i true).getD e.on false=true:=by
     intro j' o' hj' ho' e he hbd;by_cases hji:i=j'
     ·subst hji;rw [g2] at ho';injection ho' with ho'
      subst ho';exact getD_set_true (g3 e he hbd)
     ·rw [getD_set_ne false hji] at hj';exact getD_set_true (hcl j' o' hj' ho' e he hbd)
    have before:∀ j,SF ops j i->j≠i->L.getD j false=true:=by
     intro j ha hj;have:=ha.done (L:=fun j=>(L.setIfInBounds i true).getD j false) hcl' hset';rwa [hset j hj] at this
    have hleft':left (L.setIfInBounds i true) ops.size<=Af:=by
     have:=My ops.size g1;rw [if_pos hin] at this;omega
    by_cases hiR:i∈R
    ·have hQl:∀ j∈Qs,j<ops.size->L.getD j false=true:=fun j hj _=>before j ((tailD i o g2 hiR).2.1 j hj) fun e=>(rmem i hiR).2.1 (e▸hj)
     have hLl:∀ j∈late,L.getD j false=true:=fun j hj=>before j ((tailD i o g2 hiR).2.2.1 j hj) fun e=>(rmem i hiR).2.2 (e▸hj)
     obtain ⟨_,_,τ,γ',φ',O',hk,S',hfacts⟩:InvB L a w:=hAB.elim (fun h=>GM h hQl hLl) fun h=>h
     obtain ⟨d,hd⟩:=(tailD i o g2 hiR).1
     have hg:BM env ops o (τ.blank (pendB ops R L)) some=some (τ.slot d):=by
      rw [<-hfacts i hiR hni o d g2 hd];refine CN (σ₁:=τ.blank (pendB ops R L)) (σ₂:=τ) (ops:=ops) rfl o (fun x hx=>?_) some;rw [AW];unfold blk
      rw [show pendB ops R L x=false by
       rw [Bool.eq_false_iff];intro hb;obtain ⟨q,oq,hq,hl,hoq,hdq⟩:=Cq.1 hb;obtain ⟨_,e,he,heq,hbd⟩:=(tailD i o g2 hiR).2.2.2 x hx q oq hoq hdq hq;have:=g3 e he (hbd md);rw [heq,hl] at this;cases this]
     refine KO S' hty hfn g2 hd (D.dst i o d g2 hd) hg fun a' w' γ'' φ'' O'' S'' _ _=>ih (L.setIfInBounds i true) a' w' (by simpa using hL) hleft' ⟨hcl',.inr ⟨fun j hj hjs=>?_,fun j hj=>?_,τ,γ'',φ'',O'',hk,S''.congr (fun _=>rfl) fun x=>?_,fun q hq hl o' d' ho' hd' =>?_⟩⟩
     ·rw [hset j fun e=>(rmem i hiR).2.1 (e▸hj)];exact hQl j hj hjs
     ·rw [hset j fun e=>(rmem i hiR).2.2 (e▸hj)];exact hLl j hj
     ·exact Tu D.one g2 hd hset hset' x
     ·have hqi:q≠i:=fun e=>by rw [e,hset'] at hl;cases hl
      exact hfacts q hq (by rwa [hset q hqi] at hl) o' d' ho' hd'
    have hAB':InvA L a w:=by
     rcases hAB with h | ⟨hQl,hLl,_⟩
     ·exact h
     ·exfalso;by_cases hiQ:i∈Qs
      ·rw [hQl i hiQ hin] at hni;cases hni
      ·cases hpi:eO pd i with
       |true=>
        cases hpe:pd with
        |none=>rw [hpe] at hpi;cases hpi
        |some q=>
         obtain ⟨j,d,t,c⟩:=q;have Fc:=F j d t c hpe;rw [hpe] at hpi;have hji:j=i:=Nat.eq_of_beq_eq_true hpi;have:=Fc.jc.2.done (L:=fun j=>L.getD j false) hcl (hLl c Fc.cm);rw [hji,hni] at this;cases this
       |false=>
        rcases List.mem_append.1 ((lmem' i).2 ⟨hin,hiQ,hpi⟩) with h | h
        ·rw [hLl i h] at hni;cases hni
        ·exact hiR h
    obtain ⟨hnoR,p,τ,γ',φ',O',O₁,hp,hlis,hk,S',hps,hfacts⟩:=hAB';have Sr:=S'.rebase;have hnoR':∀ j∈R,(L.setIfInBounds i true).getD j false=false:=fun j hj=>by rw [hset j fun e=>hiR (e▸hj)];exact hnoR j hj
    have noPend:∀ x∈o.looksAt ops,pendB ops Qs L x=false:=by
     intro x hx;rw [Bool.eq_false_iff];intro hb;obtain ⟨q,oq,hq,hl,hoq,hdq⟩:=Cq.1 hb
     have:∃ e∈o.after,e.on=q/\∀ md,Region.binds md e=true:=by
      by_cases hiQ:i∈Qs
      ·rcases (D.early i o g2 hiQ).2.2 x hx q oq hoq hdq with h | h
       ·exact h.2.2
       ·exact (h.1 hq).elim
      ·exact D.late i o g2 hiQ x hx q oq hoq hdq hq
     obtain ⟨e,he,heq,hbd⟩:=this;have:=g3 e he (hbd md);rw [heq,hl] at this;cases this
    by_cases hiQ:i∈Qs
    ·-- one that looks alone
     obtain ⟨hearly,⟨d,hd⟩,_⟩:=D.early i o g2 hiQ
     have hpdd:∀ j' d' t' c',pd=some (j',d',t',c')->d' ≠d/\i≠j' /\i≠c' :=fun j' d' t' c' e=>by
      have Fc:=F j' d' t' c' e;obtain ⟨oj,u,hoj,_,_,hdj,_⟩:=Fc.al;refine ⟨fun e' =>?_,fun e' =>Fc.jq (e'▸hiQ),fun e' =>(lmem c' Fc.cm).2 (e'▸hiQ)⟩;have:=D.one i j' o oj d g2 hoj hd (by rw [hdj,e']);exact Fc.jq (this▸hiQ)
     have hHid:∀ x∈o.looksAt ops,Cg pd L x=false:=fun x hx=>
      hideB_false fun j' d' t' c' e e' =>((F j' d' t' c' e).look i (.inl hiQ) o g2 (e'▸hx)).elim
     have hg:BM env ops o (τ.blank (BB L)) some=some (τ.slot d):=by
      rw [<-hfacts i hiQ hni o d g2 hd];refine CN (σ₁:=τ.blank (BB L)) (σ₂:=τ) (ops:=ops) rfl o (fun x hx=>?_) some;rw [AW];unfold blk;rw [show BB L x=false by show (Cg pd L x||pendB ops Qs L x)=false;rw [hHid x hx,noPend x hx];rfl]
     have hHd:Cg pd L d=false:=hideB_false fun j' d' t' c' e e' =>((hpdd j' d' t' c' e).1 e').elim
     have hH':Cg pd (L.setIfInBounds i true)=Cg pd L:=Q' fun j' d' t' c' e=>hset c' fun e' =>(hpdd j' d' t' c' e).2.2 e'.symm
     refine KO Sr hty hfn g2 hd (D.dst i o d g2 hd) hg fun a' w' γ'' φ'' O'' S'' hput _=>ih (L.setIfInBounds i true) a' w' (by simpa using hL) hleft' ⟨hcl',.inl ⟨hnoR',p,τ,γ'',φ'',O'',O₁,hp,fun c hc=>?_,hk,(S'.unbase S'').congr (fun _=>rfl) fun x=>?_,hps.step (fun j' d' t' c' e=>?_) S''.kept,fun q hq hl o' d' ho' hd' =>?_⟩⟩
     ·rw [hset _ fun e=>(lmem _ (List.getElem_mem hc)).2 (by rw [e];exact hiQ)];exact hlis c hc
     ·show (τ.blank fun x=>Cg pd (L.setIfInBounds i true) x||pendB ops Qs (L.setIfInBounds i true) x).slot x=((τ.blank fun x=>Cg pd L x||pendB ops Qs L x).set d (τ.slot d)).slot x;rw [<-OV,<-OV,hH'];have:=Tu (Qs:=Qs) (τ:=τ.blank (Cg pd L)) D.one g2 hd hset hset' x;rwa [show (τ.blank (Cg pd L)).slot d=τ.slot d by rw [AW];unfold blk;rw [hHd]] at this
     ·obtain ⟨h1,h2,h3⟩:=hpdd j' d' t' c' e;obtain ⟨v,rfl⟩:=hput;exact ⟨hset j' h2.symm,hset c' h3.symm,by rw [<-hd];exact Xk (by rw [hd];exact fun e=>h1 (Option.some.inj e).symm)⟩
     ·have hqi:q≠i:=fun e=>by rw [e,hset'] at hl;cases hl
      exact hfacts q hq (by rwa [hset q hqi] at hl) o' d' ho' hd'
    ·cases hpi:eO pd i with
     |true=>
      obtain ⟨j,d,t,c,hpe,rfl⟩:∃ j d t c,pd=some (j,d,t,c)/\j=i:=by
       cases hpe:pd with
       |none=>rw [hpe] at hpi;cases hpi
       |some q=>
        obtain ⟨j,d,t,c⟩:=q;rw [hpe] at hpi;exact ⟨j,d,t,c,rfl,Nat.eq_of_beq_eq_true hpi⟩
      have Fc:=F j d t c hpe;obtain ⟨oj,u,hoj,hop,hty',hd,hgn⟩:=Fc.al;rw [g2] at hoj;injection hoj with hoj
      subst hoj
      have hLc:L.getD c false=false:=by
       rw [Bool.eq_false_iff];intro h;have:=Fc.jc.2.done (L:=fun j=>L.getD j false) hcl h;rw [hni] at this;cases this
      have hcj:c≠j:=fun e=>Fc.jc.1 e.symm
      have hO₁:O₁=O₀:=by
       rw [hpe] at hps;rcases hps with h | ⟨h,_⟩
       ·exact h.2
       ·rw [hni] at h;cases h
      subst hO₁;have hdn:=D.dst j o d g2 hd;obtain ⟨b,w',hrun,S₂,hP⟩:=aM S' hty hop hty';have S₃:=S₂.set (v:=.pointer (some ⟨b,0,none⟩)) (s:=.undef) hdn (.undef _);unfold wpOp;rw [g2];dsimp only;rw [show Region.wanted o (yielded ops a.tmps)=true by simp [Region.wanted,hgn],if_pos rfl];left;unfold Oper.wp;rw [hrun]
      have hpB:∀ x,pendB ops Qs (L.setIfInBounds j true) x=pendB ops Qs L x:=by
       intro x;rw [Bool.eq_iff_iff,Cq,Cq];constructor
       ·rintro ⟨q,oq,hq,hl,hoq,hdq⟩;have hqi:q≠j:=fun e=>hiQ (e▸hq)
        exact ⟨q,oq,hq,by rwa [hset q hqi] at hl,hoq,hdq⟩
       ·rintro ⟨q,oq,hq,hl,hoq,hdq⟩;have hqi:q≠j:=fun e=>hiQ (e▸hq)
        exact ⟨q,oq,hq,by rwa [hset q hqi],hoq,hdq⟩
      rw [<-hd] at S₃;refine ih (L.setIfInBounds j true) _ w' (by simpa using hL) hleft' ⟨hcl',.inl ⟨fun k hk=>(by rw [hset k fun e=>hiR (e▸hk)];exact hnoR k hk),p,τ,γ',φ',_,_,hp,fun k hk=>?_,hk,S₃.congr (fun _=>rfl) fun x=>?_,?_,fun q hq hl o' d' ho' hd' =>?_⟩⟩
      ·rw [hset _ fun e=>by
        have:=((lmem' _).1 (List.mem_append.2 (.inl (List.getElem_mem hk)))).2.2;rw [e,hpi] at this;cases this]
       exact hlis k hk
      ·rw [AW,St.slot_set,AW]
       have hh:∀ y,BB (L.setIfInBounds j true) y=BB L y:=fun y=>by
        show (Cg pd (L.setIfInBounds j true) y||pendB ops Qs (L.setIfInBounds j true) y)=(Cg pd L y||pendB ops Qs L y);rw [hpB y,hpe];unfold Cg;dsimp only;rw [hset c hcj]
       unfold blk;rw [hh x];by_cases hx:x=d
       ·rw [if_pos hx];rw [show BB L x=true by show (Cg pd L x||pendB ops Qs L x)=true;rw [hpe,hx];unfold Cg;dsimp only;rw [hLc];simp]
       ·rw [if_neg hx]
      ·rw [hpe];exact .inr ⟨hset',(by rw [hset c hcj];exact hLc),b,rfl,hP,by rw [hd];exact Act.put_self (by rw [S'.size];exact hdn)⟩
      ·have hqi:q≠j:=fun e=>hiQ (e▸hq)
       exact hfacts q hq (by rwa [hset q hqi] at hl) o' d' ho' hd'
     |false=>
     obtain ⟨c,hc,hci⟩:=List.getElem_of_mem ((List.mem_append.1 ((lmem' i).2 ⟨hin,hiQ,hpi⟩)).resolve_right hiR)
     have hcp:p<=c:=by
      rcases Nat.lt_or_ge c p with hlt | hge
      ·have:=(hlis c hc).2 hlt;rw [hci,hni] at this;cases this
      ·exact hge
     have hpc:p=c:=by
      rcases Nat.lt_or_ge p c with hlt | hge
      ·have hpl:p<late.length:=Nat.lt_trans hlt hc
       have hne:late[p]≠i:=by
        rw [<-hci];intro e;have:=(List.getElem_inj lnd).1 e;omega
       rcases OU hch p c hlt hc with e | a
       ·exact (hne (by rw [e,hci])).elim
       ·have:=(hlis p hpl).1 (before _ (by rw [hci] at a;exact a) hne);omega
      ·omega
     subst hpc;rw [List.drop_eq_getElem_cons hc,hci] at hk;unfold JS at hk;rw [g2] at hk;dsimp only at hk;split at hk
     case h_2=>cases hk
     case h_1 hstay=>
     rw [Ajb] at hstay;obtain ⟨hstay,hpst⟩:=hstay;unfold eQ at hstay;rw [List.all_eq_true] at hstay
     have hB:∀ x,pendB ops Qs (L.setIfInBounds i true) x=pendB ops Qs L x:=by
      intro x;rw [Bool.eq_iff_iff,Cq,Cq];constructor
      ·rintro ⟨q,oq,hq,hl,hoq,hdq⟩;have hqi:q≠i:=fun e=>hiQ (e▸hq)
       exact ⟨q,oq,hq,by rwa [hset q hqi] at hl,hoq,hdq⟩
      ·rintro ⟨q,oq,hq,hl,hoq,hdq⟩;have hqi:q≠i:=fun e=>hiQ (e▸hq)
       exact ⟨q,oq,hq,by rwa [hset q hqi],hoq,hdq⟩
     have hlis':∀ (c:Nat) (hc:c<late.length),(L.setIfInBounds i true).getD late[c] false=true↔c<p+1:=by
      intro c' hc';by_cases hcc:c'=p
      ·subst hcc;rw [hci,hset'];exact ⟨fun _=>by omega,fun _=>rfl⟩
      ·rw [hset _ (by rw [<-hci];intro e;exact hcc ((List.getElem_inj lnd).1 e)),hlis c' hc'];omega
     unfold wpOp;rw [g2];dsimp only;rw [show Region.wanted o (yielded ops a.tmps)=true by simp [Region.wanted,D.guard i o g2 hiQ (by rw [hR];exact hiR)],if_pos rfl];left;by_cases hcons:∃ j d t,pd=some (j,d,t,i)
     ·-- who looks at the variable first
      obtain ⟨j,d,t,hpe⟩:=hcons;have Fc:=F j d t i hpe;have hQl:∀ q∈Qs,L.getD q false=true:=fun q hq=>before q (Fc.qc q hq fun e=>hiQ (e▸hq)) fun e=>hiQ (e▸hq)
      have hjl:L.getD j false=true:=before j Fc.jc.2 Fc.jc.1;obtain ⟨oj,u,hoj,_,_,hdj,_⟩:=Fc.al;have hdn:=D.dst j oj d hoj hdj;rw [hpe] at hps;rcases hps with ⟨h,_⟩ | ⟨_,_,b,rfl,hP,hv⟩
      ·rcases h with h | h
       ·rw [hjl] at h;cases h
       ·rw [hni] at h;cases h
      obtain ⟨γ₂,φ₂,O₂,S₂⟩:=fg S' hP hdn hv;have hnp:∀ x,pendB ops Qs L x=false:=noPendOf fun q hq _=>hQl q hq
      have St:Sim P env w₀ O₀ W (τ.unp pd i) γ₂ φ₂ O₂ a w:=by
       have e1:τ.unp pd i=(τ.lay (d*8) (.data true ⟨t,t.zero⟩ t.ownAll)).set d (.ptr ⟨d*8,[]⟩):=by
        rw [hpe];unfold St.unp;dsimp only;rw [show Nat.beq i i=true by simp]
       rw [e1];rw [Dc] at S₂;refine S₂.congr (fun _=>rfl) fun x=>?_
       rw [St.slot_set,St.slot_set,AW];by_cases hx:x=d
       ·rw [if_pos hx,if_pos hx]
       ·rw [if_neg hx,if_neg hx];unfold blk
        rw [show BB L x=false by
         show (Cg pd L x||pendB ops Qs L x)=false;rw [hnp x,hpe];unfold Cg;dsimp only;rw [show Nat.beq d x=false from Dn fun e=>hx e.symm];rfl]
      have hBB':∀ x,BB (L.setIfInBounds i true) x=false:=fun x=>by
       show (Cg pd (L.setIfInBounds i true) x||pendB ops Qs (L.setIfInBounds i true) x)=false;rw [hB x,hnp x,hpe];unfold Cg;dsimp only;rw [hset'];simp
      refine PL St hty hfn hk fun τ' γ'' φ'' O'' a' w' S'' hk'' =>?_
      refine ih (L.setIfInBounds i true) a' w' (by simpa using hL) hleft' ⟨hcl',.inl ⟨hnoR',p+1,τ',γ'',φ'',O'',O₀,hc,hlis',hk'',S''.congr (fun _=>rfl) fun x=>?_,?_,fun q hq hl o' d' ho' hd' =>?_⟩⟩
      ·rw [AW];unfold blk;rw [hBB' x]
      ·rw [hpe];exact .inl ⟨.inr hset',rfl⟩
      ·have hqi:q≠i:=fun e=>hiQ (e▸hq)
       rw [hset q hqi,hQl q hq] at hl;cases hl
     have hunp:τ.unp pd i=τ:=dj fun j d t c' e e' =>hcons ⟨j,d,t,e'▸e⟩
     rw [hunp] at hk
     have hpdd:∀ j' d' t' c',pd=some (j',d',t',c')->o.dst≠some d' /\i≠j' /\i≠c' :=fun j' d' t' c' e=>by
      have Fc:=F j' d' t' c' e;obtain ⟨oj,u,hoj,_,_,hdj,_⟩:=Fc.al;have hij:i≠j' :=fun e' =>by rw [e,<-e'] at hpi;simp [eO] at hpi
      exact ⟨fun e' =>hij (D.one i j' o oj d' g2 hoj e' hdj),hij,fun e' =>hcons ⟨j',d',t',e'▸e⟩⟩
     have hHid:∀ x∈o.looksAt ops,Cg pd L x=false:=fun x hx=>hideB_false fun j' d' t' c' epd ex=>by
      have Fc:=F j' d' t' c' epd;obtain ⟨m,hm,hmc⟩:=List.getElem_of_mem Fc.cm;rcases Nat.lt_or_ge m p with hlt | hge
      ·rw [<-hmc];exact (hlis m hm).2 hlt
      ·refine (Fc.look i (.inr ?_) o g2 (ex▸hx)).elim;rw [<-hci];refine Lo late p hc fun k hk=>?_
       have:late[k]'(by omega)≠c' :=fun e=>by
        have:k=m:=(List.getElem_inj lnd).1 (e.trans hmc.symm);have hpm:p=m:=by omega
        exact (hpdd j' d' t' c' epd).2.2 (by rw [<-hci,<-hmc];simp only [hpm])
       rw [Dn this];rfl
     have hH':Cg pd (L.setIfInBounds i true)=Cg pd L:=Q' fun j' d' t' c' e=>hset c' fun e' =>(hpdd j' d' t' c' e).2.2 e'.symm
     have noBB:∀ x∈o.looksAt ops,BB L x=false:=fun x hx=>by
      show (Cg pd L x||pendB ops Qs L x)=false;rw [hHid x hx,noPend x hx];rfl
     have fin:∀ {τ' γ'' φ'' O'' a' w'},Sim P env w O₁ (fun b=>O' b/\¬O₁ b) (τ'.blank (BB L)) γ'' φ'' O'' a' w' ->(∃ v,a'=a.put o.dst v)->JS env ops Qs pd (late.drop (p+1)) τ' (fun σ=>Gf env ops R σ k)=some r->
       (∀ q∈Qs,L.getD q false=false->∀ o d,ops[q]? = some o->o.dst=some d->BM env ops o τ' some=some (τ'.slot d))->wpAny P md ops Q Af (L.setIfInBounds i true) a' w' :=by
      intro τ' γ'' φ'' O'' a' w' S'' hput hk' hf';refine ih (L.setIfInBounds i true) a' w' (by simpa using hL) hleft' ⟨hcl',.inl ⟨hnoR',p+1,τ',γ'',φ'',O'',O₁,hc,hlis',hk',(S'.unbase S'').congr (fun _=>rfl) fun x=>?_,hps.step (fun j' d' t' c' e=>?_) S''.kept,fun q hq hl o' d' ho' hd' =>?_⟩⟩
      ·rw [AW,AW];unfold blk;show (match Cg pd (L.setIfInBounds i true) x||pendB ops Qs (L.setIfInBounds i true) x with | true=>_ | false=>_)=(match Cg pd L x||pendB ops Qs L x with | true=>_ | false=>_)
       rw [hH',hB]
      ·obtain ⟨h1,h2,h3⟩:=hpdd j' d' t' c' e;obtain ⟨v,rfl⟩:=hput;exact ⟨hset j' h2.symm,hset c' h3.symm,Xk h1⟩
      ·have hqi:q≠i:=fun e=>hiQ (e▸hq)
       exact hf' q hq (by rwa [hset q hqi] at hl) o' d' ho' hd'
     by_cases hpend:∃ q∈Qs,L.getD q false=false
     ·obtain ⟨q₀,hq₀,hl₀⟩:=hpend
      have pendAway:∀ q∈Qs,L.getD q false=false->∃ T oq,KK env τ o=some T/\ops[q]? = some oq/\(QA ops τ T oq=true\/HL env τ o=true/\Uu τ oq=true):=by
       intro q hq hl;have:=hstay q hq;rw [Ajc] at this;rcases this with h1 | h1
       ·have hqi:q≠i:=fun e=>hiQ (e▸hq)
        rcases Hn i [i] (fun k hk=>.inl (by simpa using hk)) q (CQ.1 h1) with e | a
        ·exact (hqi e).elim
        ·rw [before q a hqi] at hl;cases hl
       ·split at h1
        ·rename_i T oq hT hoq;rw [Ajc,Ajb] at h1;exact ⟨T,oq,hT,hoq,h1⟩
        ·cases h1
      obtain ⟨T,_,hT,_⟩:=pendAway q₀ hq₀ hl₀
      let K':St->Option Unit:=fun τ'' =>open Classical in if ∃ τ',τ''=τ'.blank (BB L)/\JS env ops Qs pd (late.drop (p+1)) τ' (fun σ=>Gf env ops R σ k)=some r/\(HL env τ o=true->nz o.dst τ τ')/\DK T o.dst τ τ' then some () else none
      have htr:EJ env o (τ.blank (BB L)) K'=some ():=by
       refine aN hT (fo hk) (fun x hx=>noBB x (Di hx)) (fun d hd=>?_) fun τ' h1 c1=>?_
       ·show (Cg pd L d||pendB ops Qs L d)=false;rw [Bool.or_eq_false_iff];refine ⟨hideB_false fun j' d' t' c' e e' =>((hpdd j' d' t' c' e).1 (e'▸hd)).elim,?_⟩;rw [Bool.eq_false_iff];intro hb;obtain ⟨q,oq,hq,hl,hoq,hdq⟩:=Cq.1 hb;have:q=i:=D.one q i oq o d hoq g2 hdq hd;exact hiQ (this▸hq)
       ·split at h1
        case isFalse=>cases h1
        case isTrue had=>exact if_pos ⟨τ',rfl,h1,had,c1⟩
      refine oper_ok2 Sr hty hfn htr fun τ'' γ'' φ'' O'' a' w' S'' hk'' hput=>?_
      have:∃ τ',τ''=τ'.blank (BB L)/\JS env ops Qs pd (late.drop (p+1)) τ' (fun σ=>Gf env ops R σ k)=some r/\(HL env τ o=true->nz o.dst τ τ')/\DK T o.dst τ τ' :=by
       by_cases hex:∃ τ',τ''=τ'.blank (BB L)/\JS env ops Qs pd (late.drop (p+1)) τ' (fun σ=>Gf env ops R σ k)=some r/\(HL env τ o=true->nz o.dst τ τ')/\DK T o.dst τ τ'
       ·exact hex
       ·rw [show K' τ''=none from if_neg hex] at hk'';cases hk''
      obtain ⟨τ',rfl,h1,had,c1⟩:=this;refine fin S'' hput h1 fun q hq hl oq d hoq hd=>?_
      obtain ⟨T',oq',hT',hoq',haw⟩:=pendAway q hq hl;rw [hT] at hT';injection hT' with hT'
      subst hT';rw [hoq] at hoq';injection hoq' with hoq'
      subst hoq';have hqd:o.dst≠some d:=fun e=>hiQ (by rw [<-D.one q i oq o d hoq g2 hd e];exact hq)
      have hnx:∀ x∈oq.looksAt ops,o.dst≠some x:=fun x hx e=>by
       rcases (D.early q oq hoq hq).2.2 x hx i o g2 e with h | ⟨_,_,e',he',heq,hbd⟩
       ·exact hiQ h.1
       ·have:=g3 e' he' (hbd md);rw [heq,hl] at this;cases this
      rcases haw with haw | ⟨hik,ham⟩
      ·unfold QA at haw;rw [List.all_eq_true] at haw;rw [hd] at haw;simp only [Ajb,Bool.not_eq_true',List.all_eq_true] at haw;have hsd:τ'.slot d=τ.slot d:=c1.slot d hqd fun m hm=>(haw m hm).1
       rw [hsd];exact Zs (D.early q oq hoq hq).1 c1 (hfacts q hq hl oq d hoq hd) (fun x hx=>⟨hnx x hx,fun m hm=>(haw m hm).2 x hx⟩) fun m hm=>(haw m hm).1
      ·have ad:=had hik;have hf:=hfacts q hq hl oq d hoq hd;unfold Uu at ham;split at ham
       case h_2=>cases ham
       case h_1 x hop=>
        rw [Ajb] at ham;obtain ⟨ha1,ha2⟩:=ham
        have hgn:oq.guard=none:=by
         cases hg:oq.guard with
         |none=>rfl
         |some _=>rw [hg] at ha2;cases ha2
        obtain ⟨n,hn⟩:∃ n,τ.slot x = .ptr ⟨n,[]⟩:=by
         split at ha1
         ·rename_i n e;exact ⟨n,e⟩
         ·cases ha1
        have ev:∀ ρ:St,BM env ops oq ρ some=some (ρ.slot x):=fun ρ=>by
         unfold BM;rw [hgn];dsimp only;unfold Bp;rw [hop];rfl
        rw [ev] at hf;injection hf with hf
        have hx:=ad x n (hnx x (Di (by rw [hop];simp [Op.operands]))) hn;have hd' :=ad d n hqd (hf▸hn);rw [ev,hx,hd',hf]
     ·-- nothing is pending
      let K':St->Option Unit:=fun τ'' =>open Classical in if ∃ τ',τ''=τ'.blank (BB L)/\JS env ops Qs pd (late.drop (p+1)) τ' (fun σ=>Gf env ops R σ k)=some r then some () else none
      have hnp:∀ x,pendB ops Qs L x=false:=by
       intro x;rw [Bool.eq_false_iff];intro hb;obtain ⟨q,oq,hq,hl,_⟩:=Cq.1 hb;exact hpend ⟨q,hq,hl⟩
      by_cases hhid:∀ x,Cg pd L x=false
      ·have hBf:∀ x,BB L x=false:=fun x=>by show (Cg pd L x||pendB ops Qs L x)=false;rw [hhid x,hnp x];rfl
       have St:=Sr.congr (σ' :=τ) (fun _=>rfl) fun x=>by
        rw [AW];unfold blk;rw [hBf x]
       refine oper_ok2 St hty hfn hk fun τ' γ'' φ'' O'' a' w' S'' hk'' hput=>?_
       refine fin (S''.congr (fun _=>rfl) fun x=>?_) hput hk'' fun q hq hl=>(hpend ⟨q,hq,hl⟩).elim
       rw [AW];unfold blk;rw [hBf x]
      ·cases hT:KK env τ o with
       |none=>
        refine (hhid fun x=>hideB_false fun j' d' t' c' epd _=>?_).elim;cases hlc:L.getD c' false with
        |true=>rfl
        |false=>
         exfalso;have Fc:=F j' d' t' c' epd;obtain ⟨m,hm,hmc⟩:=List.getElem_of_mem Fc.cm
         have hmp:p+1<=m:=by
          rcases Nat.lt_trichotomy m p with hlt | heq | hgt
          ·have:=(hlis m hm).2 hlt;rw [hmc,hlc] at this;cases this
          ·exact ((hpdd j' d' t' c' epd).2.2 (by rw [<-hci,<-hmc];simp only [heq])).elim
          ·exact hgt
         have hmem:c' ∈late.drop (p+1):=by
          rw [<-hmc];exact List.mem_drop_iff_getElem.2 ⟨m-(p+1),by omega,by congr 1;omega⟩
         unfold eR at hpst;rw [epd] at hpst;dsimp only at hpst;rw [CQ.2 hmem,hT] at hpst;cases hpst
       |some T=>
        have htr:EJ env o (τ.blank (BB L)) K'=some ():=by
         refine aN hT hk (fun x hx=>noBB x (Di hx)) (fun d hd=>?_) fun τ' h1 c1=>?_
         ·show (Cg pd L d||pendB ops Qs L d)=false;rw [hnp d,Bool.or_false];exact hideB_false fun j' d' t' c' e e' =>((hpdd j' d' t' c' e).1 (e'▸hd)).elim
         ·exact if_pos ⟨τ',rfl,h1⟩
        refine oper_ok2 Sr hty hfn htr fun τ'' γ'' φ'' O'' a' w' S'' hk'' hput=>?_
        have:∃ τ',τ''=τ'.blank (BB L)/\JS env ops Qs pd (late.drop (p+1)) τ' (fun σ=>Gf env ops R σ k)=some r:=by
         by_cases hex:∃ τ',τ''=τ'.blank (BB L)/\JS env ops Qs pd (late.drop (p+1)) τ' (fun σ=>Gf env ops R σ k)=some r
         ·exact hex
         ·rw [show K' τ''=none from if_neg hex] at hk'';cases hk''
        obtain ⟨τ',rfl,h1⟩:=this;exact fin S'' hput h1 fun q hq hl=>(hpend ⟨q,hq,hl⟩).elim
 have start:∀ md w',AF Ab.none w w' ->Inv md (Array.replicate ops.size false) a w' :=by
  intro md w' K;have nol:∀ j,(Array.replicate ops.size false).getD j false=false:=fun j=>by by_cases hj:j<ops.size<;>simp [hj]
  refine ⟨fun j' o' hj' =>(by rw [nol] at hj';cases hj'),.inl ⟨fun i _=>nol i,0,τ₀,γ,φ,O,O₀,Nat.zero_le _,fun c hc=>?_,h,(S.grow K).less (fun n=>HO hm₀ n) fun x=>?_,?_,fun q hq _ o d ho hd=>?_⟩⟩
  ·rw [nol];exact ⟨fun h=>(by cases h),fun h=>(by omega)⟩
  ·rw [AW];unfold blk;cases hb:BB (Array.replicate ops.size false) x with
   |true=>exact .inr rfl
   |false=>
    refine .inl (hs₀ x fun q hq o ho hd=>?_);have hb:=(Bool.or_eq_false_iff.1 (show (Cg pd (Array.replicate ops.size false) x||pendB ops Qs (Array.replicate ops.size false) x)=false from hb)).2;rw [Cq.2 ⟨q,o,hq,nol q,ho,hd⟩] at hb;cases hb
  ·cases pd with
   |none=>rfl
   |some q=>exact .inl ⟨.inl (nol _),rfl⟩
  ·obtain ⟨o',d',ho',hd',he⟩:=hf₀ q hq;rw [ho] at ho';injection ho' with ho'
   subst ho';rw [hd] at hd';injection hd' with hd'
   subst hd';exact he
 refine wp_region_draw fun t=>?_
 have K:AF Ab.none w {w with drawn:=w.drawn+1}:=⟨rfl,rfl,rfl,Nat.le_refl _,fun _ _ _=>rfl⟩
 have hl:left (Array.replicate ops.size false) ops.size<=ops.size:=by rw [Mz _ _ (Nat.le_refl _)];exact Nat.le_refl _
 unfold Region.schedule;split
 ·exact wpAny_sound ops.size t _ a _ (any .any ops.size _ a _ (by simp) hl (start _ _ K))
 ·exact wpAny_sound ops.size (t / 2) _ a _ (any _ ops.size _ a _ (by simp) hl (start _ _ K))
theorem Xl (S:Sim P env w₀ O₀ W σ γ φ O a w) (hty:env.TyOk P) (hfn:env.FnOk P) {id:Nat} {ops:Array Oper} {Qs:List Nat} {k:St->Option α} {r:α}
  (h:aG env ops Qs σ k=some r) {Q:Exit->Act->World->Prop}
  (hQ:∀ σ' γ' φ' O' a' w',Sim P env w₀ O₀ W σ' γ' φ' O' a' w' ->k σ'=some r->Q .normal a' w'):(Code.region id ops true).wp P Q a w:=by
 unfold aG at h;split at h
 ·exact Tv S hty hfn h hQ
 ·exact Tv S hty hfn h hQ
end Go.V
namespace Go.V
variable {α:Type}
variable {P:Program} {env:Bf} {w₀ w w':World} {O₀ O₁ W O O':Ab} {σ σ₀ σ':St} {γ γ':Name->Src} {φ φ':Name->Ab} {a a':Act} {n:Name}
theorem ME (hty:env.TyOk P) (hfn:env.FnOk P) (lp:Nat->Gw α->St->Option α):∀ (c:Code),Dl env lp c->∀ {κ:Gw α} {σ:St} {γ:Name->Src} {φ:Name->Ab} {O:Ab} {a:Act} {w:World} {r:α},
  Sim P env w₀ O₀ W σ γ φ O a w->execK env lp c κ σ=some r->c.wp P (ye P env w₀ O₀ W κ r) a w:=by
 intro c;induction c with
 |skip=>intro hlp κ σ γ φ O a w r S h;exact wp_skip ⟨σ,γ,φ,O,S,h⟩
 |region id ops draw=>
  intro hlp κ σ γ φ O a w r S h;unfold execK at h;obtain ⟨_,_,O',S'⟩:=S.keepAt env.hints id;cases draw with
  |false=>exact wp_region (fk hty hfn _ S' h fun σ' γ' φ' O' a' w' S'' hk=>⟨σ',γ',φ',O',S'',hk⟩)
  |true=>
   dsimp only at h;split at h
   ·split at h
    ·rename_i hst;rw [Ajb] at hst;exact jp S' hty hfn hst.1 h fun σ' γ' φ' O' a' w' S'' hk=>⟨σ',γ',φ',O',S'',hk⟩
    ·exact Xl S' hty hfn h fun σ' γ' φ' O' a' w' S'' hk=>⟨σ',γ',φ',O',S'',hk⟩
   ·rename_i m _;split at h
    ·rename_i hst;rw [Ajb] at hst;exact fj S' hty hfn (fun j d t e=>Xd e) hst.1 h fun σ' γ' φ' O' a' w' S'' hk=>⟨σ',γ',φ',O',S'',hk⟩
    ·exact Xl S' hty hfn h fun σ' γ' φ' O' a' w' S'' hk=>⟨σ',γ',φ',O',S'',hk⟩
 |seq x y ihx ihy=>
  intro hlp κ σ γ φ O a w r S h;unfold execK at h;refine wp_seq (wp_mono (ihx hlp.1 S h) ?_);rintro e a' w' ⟨σ',γ',φ',O',S',hk⟩;cases e with
  |normal=>exact ihy hlp.2 S' hk
  |exit id=>exact ⟨σ',γ',φ',O',S',hk⟩
  |ret=>exact ⟨σ',γ',φ',O',S',hk⟩
  |goto l=>exact hk.elim
  |panic ch=>exact hk.elim
  |outgrown=>exact hk.elim
 |cond c x y ihx ihy=>
  intro hlp κ σ γ φ O a w r S h;unfold execK at h;split at h
  ·rename_i b hs;have hv:=S.val c;rw [hs] at hv;refine wp_cond (Ir hv) ?_;split at h
   ·rename_i hb;rw [show (b:Bool)=true from hb];exact ihx hlp.1 S h
   ·rename_i hb;rw [show (b:Bool)=false from hb];exact ihy hlp.2 S h
  ·rename_i e hs;have hv:=S.val c;rw [hs] at hv;generalize hvv:a.eval c=v at hv;cases hv with
   |may _ b hb=>
    refine wp_cond hvv ?_;cases b with
    |true=>
     rw [hb rfl] at h;exact ihx hlp.1 S (Te h).1
    |false=>
     split at h
     ·exact ihy hlp.2 S (Te h).2
     ·exact ihy hlp.2 S h
  ·cases h
 |block id c ih=>
  intro hlp κ σ γ φ O a w r S h;unfold execK at h;refine wp_block (wp_mono (ih hlp S h) ?_);rintro e a' w' ⟨σ',γ',φ',O',S',hk⟩;cases e with
  |normal=>
   obtain ⟨_,_,O'',S''⟩:=S'.keepAt env.hints (id+100000);exact ⟨_,_,_,O'',S'',hk⟩
  |exit id' =>
   simp only [Exit.inBlock];dsimp only at hk;split at hk
   ·rename_i hb;rw [if_pos (Nat.eq_of_beq_eq_true hb)];exact ⟨σ',γ',φ',O',S',hk⟩
   ·rename_i hb;rw [if_neg (fun e=>by rw [e] at hb;simp at hb)];exact ⟨σ',γ',φ',O',S',hk⟩
  |ret=>exact ⟨σ',γ',φ',O',S',hk⟩
  |goto l=>exact hk.elim
  |panic ch=>exact hk.elim
  |outgrown=>exact hk.elim
 |loop c ih=>
  intro hlp κ σ γ φ O a w r S h;unfold execK at h;obtain ⟨_,_,O',S⟩:=S.keepAt env.hints (CJ c);obtain ⟨n,h⟩:=hlp.2 _ _ _ h
  let Inv:Nat->Act->World->Prop:=fun k a w=>∃ σ γ φ O,Sim P env w₀ O₀ W σ γ φ O a w/\QB env.hints (CJ c) (execK env lp c) κ k σ=some r
  refine SM Inv ?_ ?_ (show Inv n a w from ⟨_,_,_,O',S,h⟩)
  ·rintro a w ⟨σ,γ,φ,O,S,h⟩;simp [QB] at h
  ·rintro k a w ⟨σ,γ,φ,O,S,h⟩;simp only [QB] at h;refine wp_mono (ih hlp.1 S h) ?_;rintro e a' w' ⟨σ',γ',φ',O',S',hk'⟩;cases e with
   |normal=>
    obtain ⟨_,_,O'',S''⟩:=S'.keepAt env.hints (CJ c);exact ⟨_,_,_,O'',S'',hk'⟩
   |exit id=>exact ⟨σ',γ',φ',O',S',hk'⟩
   |ret=>exact ⟨σ',γ',φ',O',S',hk'⟩
   |goto l=>exact hk'.elim
   |panic ch=>exact hk'.elim
   |outgrown=>exact hk'.elim
 |exit id=>
  intro hlp κ σ γ φ O a w r S h;unfold execK at h;obtain ⟨_,_,O'',S''⟩:=S.keepAt env.hints (id+100000);exact wp_exit ⟨_,_,_,O'',S'',h⟩
 |ret=>
  intro hlp κ σ γ φ O a w r S h;unfold execK at h;obtain ⟨_,_,O'',S''⟩:=S.keepAt env.hints 99999;exact wp_ret ⟨_,_,_,O'',S'',h⟩
 |rangeFunc f params assign body=>intro hlp κ σ γ φ O a w r S h;simp [execK] at h
 |scope body=>intro hlp κ σ γ φ O a w r S h;simp [execK] at h
 |label l=>intro hlp κ σ γ φ O a w r S h;simp [execK] at h
 |goto l=>intro hlp κ σ γ φ O a w r S h;simp [execK] at h
 |refuse why=>intro hlp κ σ γ φ O a w r S h;simp [execK] at h
end Go.V
namespace Go.V
variable {α:Type}
variable {P:Program} {env:Bf} {w₀ w w':World} {O₀ O₁ W O O':Ab} {σ σ₀ σ' σ₁ σ₂:St} {γ γ':Name->Src} {φ φ':Name->Ab} {a a':Act} {n:Name}
theorem Sim.content₀ (S:Sim P env w₀ O₀ W σ γ φ O a w) {t:Ty} {s:Slot} {v:Value} (hs:Ak P w O σ γ s v) {k:t.den->Option α} {r:α} (h:Ep σ t s k=some r) :
  ∃ x,k x=some r/\∃ cs,C_ t v cs/\Rep w O₀ t .z x cs Ab.none:=by
 obtain ⟨x,hk,cs,hv,hr,_⟩:=S.content hs h;exact ⟨x,hk,cs,hv,hr⟩
theorem UO:∀ {ts:List Ty} {x:CB ts} {cv:List Value},EC w O ts x cv->cv.length=(Uw ts x).length/\∀ (i:Nat) s v,(Uw ts x)[i]? = some s->cv[i]? = some v->∀ {P σ γ},Ak P w O σ γ s v
 |[],_,cv,h=>by rw [show cv=[] from h];exact ⟨rfl,fun i s v h=>by simp [Uw] at h⟩
 |t::ts,x,cv,⟨v,vs',e,⟨b,off,cs,hv,h1,h2,h3,h4⟩,h⟩=>by
  subst e;obtain ⟨hl,hs⟩:=UO h;refine ⟨by simp [Uw,hl],fun i s u hi hu=>?_⟩;cases i with
  |zero=>
   simp only [Uw,List.getElem?_cons_zero,Option.some.injEq] at hi hu;subst hi hu;intro P σ γ;rw [hv];exact .fptr ⟨t,x.1⟩ b off cs h1 h2 h3 h4
  |succ i=>exact hs i s u (by simpa [Uw] using hi) (by simpa using hu)
theorem Ds {vs₀:List Value}:∀ (ps:List PM) (az:Args ps) (i:Nat) (vs:List Value),AT P w O ps az vs->(∀ j v,vs[j]? = some v->vs₀[i+j]? = some v)->
  (BC ps az i).mem=[]/\∀ m,(BC ps az i).slot m = .undef\/(i<=m/\∃ v,vs₀[m]? = some v/\∀ σ γ,Ak P w O σ γ ((BC ps az i).slot m) v)
 |[],az,i,vs,h,hv=>⟨rfl,fun m=>.inl rfl⟩
 |.ro t::ps,az,i,vs,⟨v,vs',cs,e,hval,hrep,h⟩,hv=>by
  subst e;obtain ⟨h1,h2⟩:=Ds ps az.2 (i+1) vs' h fun j x hj=>by have:=hv (j+1) x (by simpa using hj);rw [<-this];congr 1;omega
  refine ⟨h1,fun m=>?_⟩;simp only [BC,St.slot,look];by_cases hm:i=m
  ·subst hm;simp only [Es,Option.getD_some];exact .inr ⟨Nat.le_refl _,v,by simpa using hv 0 v rfl,fun σ γ=>.pv ⟨t,az.1⟩ v cs hval hrep⟩
  ·simp only [Dn hm];exact (h2 m).imp id fun ⟨g1,g2⟩=>⟨by omega,g2⟩
 |.rp t::ps,az,i,vs,⟨v,vs',e,⟨b,off,cs,hval,hb,hO,hrep,hcell⟩,h⟩,hv=>by
  subst e;obtain ⟨h1,h2⟩:=Ds ps az.2 (i+1) vs' h fun j x hj=>by have:=hv (j+1) x (by simpa using hj);rw [<-this];congr 1;omega
  refine ⟨h1,fun m=>?_⟩;simp only [BC,St.slot,look];by_cases hm:i=m
  ·subst hm;simp only [Es,Option.getD_some];refine .inr ⟨Nat.le_refl _,v,by simpa using hv 0 v rfl,fun σ γ=>?_⟩;rw [hval];exact .fptr ⟨t,az.1⟩ b off cs hb hO hrep hcell
  ·simp only [Dn hm];exact (h2 m).imp id fun ⟨g1,g2⟩=>⟨by omega,g2⟩
 |.fn t u::ps,az,i,vs,⟨v,vs',e,hfl,hfn,h⟩,hv=>by
  subst e;obtain ⟨h1,h2⟩:=Ds ps az.2 (i+1) vs' h fun j x hj=>by have:=hv (j+1) x (by simpa using hj);rw [<-this];congr 1;omega
  refine ⟨h1,fun m=>?_⟩;simp only [BC,St.slot,look];by_cases hm:i=m
  ·subst hm;simp only [Es,Option.getD_some];exact .inr ⟨Nat.le_refl _,v,by simpa using hv 0 v rfl,fun σ γ=>.fnA t u az.1 v w O hfl (AF.refl _ _) (fun _ _ h=>h) hfn⟩
  ·simp only [Dn hm];exact (h2 m).imp id fun ⟨g1,g2⟩=>⟨by omega,g2⟩
 |.io t sh::ps,az,i,vs,h,hv=>h.elim
 |.tk t sh::ps,az,i,vs,h,hv=>h.elim
 |.st f ts::ps,az,i,vs,⟨cv,vs',e,hp,h⟩,hv=>by
  subst e;obtain ⟨h1,h2⟩:=Ds ps az.2 (i+1) vs' h fun j x hj=>by have:=hv (j+1) x (by simpa using hj);rw [<-this];congr 1;omega
  refine ⟨h1,fun m=>?_⟩;simp only [BC,St.slot,look];by_cases hm:i=m
  ·subst hm;simp only [Es,Option.getD_some];exact .inr ⟨Nat.le_refl _,.func (.func f) #[] cv.toArray,by simpa using hv 0 _ rfl,fun σ γ=>.clo f (Uw ts az.1) cv.toArray (by simpa using (UO hp).1) (fun j s v h1 h2=>(UO hp).2 j s v h1 (by simpa using h2))⟩
  ·simp only [Dn hm];exact (h2 m).imp id fun ⟨g1,g2⟩=>⟨by omega,g2⟩
theorem fp {t:TypeId} {x:Operand} {k:Slot->Option α} {r:α} {v:Value} (h:AA env σ (.load t x) k=some r) (hv:Ak P w O σ γ (σ.val x) v):∃ b off,v = .pointer (some ⟨b,off,none⟩):=by
 unfold AA at h;dsimp only at h;split at h
 ·split at h
  ·rename_i p hp;rw [hp] at hv;cases hv with
   |ptr _ t₂ b off _=>exact ⟨b,off,rfl⟩
   |ptrH m s b off _ _=>exact ⟨b,off,rfl⟩
  ·rename_i d hp;rw [hp] at hv;cases hv with
   |fptr _ b off cs _ _ _ _=>exact ⟨b,off,rfl⟩
  ·cases h
 ·split at h
  ·split at h
   ·rename_i n hp;rw [hp] at hv;cases hv with
    |ptr _ t₂ b off _=>exact ⟨b,off,rfl⟩
    |ptrH m s b off _ _=>exact ⟨b,off,rfl⟩
   ·cases h
  ·cases h
def Ck (a:Act):ResultVar->Sem Value
 |.tmp t=>pure (a.tmps.getD t undef)
 |.cell c t=>do loadVar t (<-asAddr (a.tmps.getD c undef))
theorem DL (S:Sim P env w₀ O₀ W σ γ φ O a w) (hty:env.TyOk P) {rv:ResultVar} {k:Slot->Option α} {r:α} (h:IY env σ rv k=some r) :
  ∃ s v,k s=some r/\Ak P w O σ γ s v/\(Ck a rv).run P w = .ok v w:=by
 cases rv with
 |tmp t=>exact ⟨_,_,h,S.slots t,rfl⟩
 |cell c ty=>
  obtain ⟨b,off,hp⟩:=fp (x:=.tmp c) h (S.val (.tmp c));obtain ⟨s,v,hrun,hs,hk⟩:=aH S hty (x:=.tmp c) h;refine ⟨s,v,hk,hs,?_⟩;rw [hp] at hrun;have hp':a.tmps.getD c undef = .pointer (some ⟨b,off,none⟩):=hp;unfold Ck;dsimp only;rw [hp'];exact hrun
theorem fq {t:Ty} {s:Slot} {k:t.den->St->Option α} {r:α} (h:OH σ t .z s k=some r):(t.flat || !(s.men 4))=true/\Ep σ t s (fun x=>k x σ)=some r:=by
 unfold OH at h;dsimp only at h;split at h
 case h_2=>cases h
 case h_1 hc=>exact ⟨hc,h⟩
theorem Oc (S:Sim P env w₀ O₀ W σ γ φ O a w) (hty:env.TyOk P) (ps:List PM) (hio:Bh ps=[]) {β:Type}:∀ (rs:List (Ty×Sh)) (vars:List ResultVar) {k:CB (rs.map (·.1)++Bh ps)->Option β} {r:β},
  (rs.all fun x=>decide (x.2 = .z))=true->outK env rs ps vars σ k=some r->
  ∃ q rv,k q=some r/\(vars.mapM (Ck a)).run P w = .ok rv w/\rv.length=rs.length/\Bc w O₀ rs (Bh ps) q rv
 |[],[],k,r,_,h=>by
  unfold outK at h
  have key:∀ (ps:List PM) (i:Nat) {k:CB (Bh ps)->Option β},Bh ps=[]->SJ ps i σ k=some r->∃ q,k q=some r:=by
   intro ps;induction ps with
   |nil=>intro i k _ h;exact ⟨_,h⟩
   |cons p ps ih=>
    intro i k hi h;cases p with
    |ro t=>exact ih (i+1) hi h
    |rp t=>exact ih (i+1) hi h
    |fn t u=>exact ih (i+1) hi h
    |st f ts=>exact ih (i+1) hi h
    |io t sh=>simp [Bh] at hi
    |tk t sh=>exact ih (i+1) hi h
  obtain ⟨q,hq⟩:=key ps 0 hio h;exact ⟨q,[],hq,rfl,rfl,rfl⟩
 |[],_::_,k,r,_,h=>by simp [outK] at h
 |_::_,[],k,r,_,h=>by simp [outK] at h
 |(t,sh)::rs,v::vars,k,r,hz,h=>by
  simp only [List.all_cons,Ajb,Ajg] at hz;obtain ⟨hz1,hz2⟩:=hz;subst hz1;unfold outK at h;obtain ⟨s,va,h2,hs,hrun⟩:=DL S hty h
  replace h2:=(fq h2).2
  obtain ⟨x,h3,cs,hval,hrep⟩:=S.content₀ hs h2;obtain ⟨q,rv,h4,h5,h6,h7⟩:=Oc S hty ps hio rs vars (by simpa using hz2) h3;refine ⟨(x,q),va::rv,h4,?_,by simp [h6],va,rv,cs,rfl,hval,hrep,h7⟩;simp [List.mapM_cons,hrun,h5]
end Go.V
namespace Go.V
variable {P:Program} {env:Bf} {w w':World}
theorem Q_ (rv:List Value):(if h:rv.toArray.size=1 then rv.toArray[0] else .tuple rv.toArray)=CY rv:=by
 match rv with
 |[]=>rfl
 |[v]=>rfl
 |_::_::_=>simp [CY]
theorem ft {f : FuncId} {fn : Func} {c : Code} (hf : P.funcs[f]? = some fn) (hb : fn.body = some c) (hname : fn.name ≠ "runtime.NumGoroutine") (hty : env.TyOk P) (hfn : env.FnOk P) (hmk : env.marks = [])
  (hn:env.n=fn.ntmps) (ps:List PM) (rs:List (Ty×Sh)) (hps:ps.length<=fn.ntmps) (hio:Bh ps=[]) (hrs:(rs.all fun x=>decide (x.2 = .z))=true)
  (lp:Nat->Gw (CB (rs.map (·.1)++Bh ps))->St->Option (CB (rs.map (·.1)++Bh ps))) (hlp:Dl env lp c):Aa P f ⟨ps,rs,GR env ps rs lp c fn.results.toList⟩:=by
 refine ⟨⟨fn,hf,by rw [hb];rfl,hname⟩,?_⟩;intro w O az vs r hO hargs hF;dsimp only at hF hargs ⊢;refine calls_of_wp hf hb ?_
 have hlen:∀ (ps:List PM) (az:Args ps) (vs:List Value),AT P w O ps az vs->vs.length=ps.length:=by
  intro ps;induction ps with
  |nil=>intro az vs h;rw [show vs=[] from h];rfl
  |cons p ps ih=>
   intro az vs h;cases p with
   |ro t=>obtain ⟨v,vs',cs,e,_,_,h⟩:=h;rw [e];simp [ih _ _ h]
   |rp t=>obtain ⟨v,vs',e,_,h⟩:=h;rw [e];simp [ih _ _ h]
   |fn a b=>obtain ⟨v,vs',e,_,_,h⟩:=h;rw [e];simp [ih _ _ h]
   |st f ts=>obtain ⟨cv,vs',e,_,h⟩:=h;rw [e];simp [ih _ _ h]
   |io t sh=>exact h.elim
   |tk t sh=>exact h.elim
 have hl:=hlen ps az vs hargs;obtain ⟨hmem,hslots⟩:=Ds (vs₀:=vs) ps az 0 vs hargs (fun j v h=>by rw [Nat.zero_add];exact h);have hroot:∀ n,(BC ps az 0).root n=none:=fun n=>by unfold St.root;rw [hmem];rfl
 have S:Sim P env w O Ab.none (BC ps az 0) (fun _=>.val []) (fun _=>Ab.none) O {tmps:=vs.toArray++Array.replicate (fn.ntmps-vs.toArray.size) undef,defers:=[]} w:=by
  refine ⟨hmk.symm,?_,AF.refl _ _,?_,?_,?_,?_,hO,?_,fun b hb bx d sh h=>by rw [hroot] at h;cases h⟩
  ·simp only [Array.size_append,Array.size_replicate,List.size_toArray,hn];omega
  ·intro n r h;rw [hroot] at h;cases h
  ·intro n m r r' h;rw [hroot] at h;cases h
  ·intro n r h;rw [hroot] at h;cases h
  ·intro b;constructor
   ·exact .inl
   ·rintro (h | ⟨n,r,h,_⟩)
    ·exact h
    ·rw [hroot] at h;cases h
  ·intro i;rcases hslots i with h | ⟨_,v,hv,h⟩
   ·rw [h];exact .undef _
   ·have hi:=(List.getElem?_eq_some_iff.1 hv).1
    have:(vs.toArray++Array.replicate (fn.ntmps-vs.toArray.size) undef).getD i undef=v:=by
     rw [Array.getD_eq_getD_getElem?,Array.getElem?_append_left (by simpa using hi),List.getElem?_toArray,hv];rfl
    dsimp only;rw [this];exact h _ _
 unfold GR at hF;dsimp only at hF;refine wp_mono (ME hty hfn lp c hlp S hF) ?_
 have fin:∀ {σ' γ' φ' O'} {a':Act} {w':World},Sim P env w O Ab.none σ' γ' φ' O' a' w' ->outK env rs ps fn.results.toList σ' (fun r=>some r)=some r->
   a'.defers=[]/\∃ v,(results fn a'.tmps).run P w' = .ok v w' /\∃ rv,Ending.returned v = .returned (CY rv)/\AF Ab.none w w' /\Bc w' O rs (Bh ps) r rv:=by
  intro σ' γ' φ' O' a' w' S' hk;obtain ⟨q,rv,h1,h2,h3,h4⟩:=Oc S' hty ps hio rs fn.results.toList hrs hk;injection h1 with h1
  subst h1;refine ⟨S'.defers.trans hmk,CY rv,?_,rv,rfl,S'.kept,h4⟩
  have hm:(fn.results.mapM (Ck a')).run P w' = .ok rv.toArray w' :=by
   rw [Array.mapM_eq_mapM_toList];simp only [Sem.run_map,h2];rfl
  unfold results
  have e:(fn.results.mapM fun | .tmp t=>(pure (a'.tmps.getD t undef):Sem Value) | .cell a t=>do loadVar t (<-asAddr (a'.tmps.getD a undef)))=fn.results.mapM (Ck a'):=by
   rfl
  rw [Sem.run_bind];refine (congrArg (fun m=>(Sem.run P m w').andThen _) e).trans ?_;rw [hm];simp only [Result.andThen_ok,Sem.run_pure,Q_]
 rintro e a' w' ⟨σ',γ',φ',O',S',hk⟩;cases e with
 |normal=>exact fin S' hk
 |ret=>exact fin S' hk
 |exit id=>cases hk
 |goto l=>exact hk.elim
 |panic ch=>exact hk.elim
 |outgrown=>exact hk.elim
theorem aP {α:Type} {w₀:World} {O₀ W O:Ab} {σ:St} {γ:Name->Src} {φ:Name->Ab} {a:Act} (S:Sim P env w₀ O₀ W σ γ φ O a w) {t:Ty} {sh:Sh} {s:Slot} {v:Value} (hs:Ak P w O σ γ s v) (hsh:sh≠.z) (hgo:sh≠.gone) {k:t.den->St->Option α} {r:α} (h:OH σ t sh s k=some r) :
  ∃ x σ₁ cs,∃ F G:Ab,k x σ₁=some r/\C_ t v cs/\Rep w O t sh x cs F/\Sim P env w₀ (fun b=>O₀ b\/G b) W σ₁ γ φ O a w/\(∀ b,F b->G b)/\∀ b,G b->¬O₀ b/\(w₀.heap.size<=b\/W b):=by
 replace h:nJ σ t sh s k=some r:=by
  unfold OH at h;cases sh with
  |z=>exact (hsh rfl).elim
  |pr _ _=>exact h
  |own _=>exact h
  |gone=>exact (hgo rfl).elim
 unfold nJ at h;split at h
 ·rename_i e' n hi;split at h
  case h_2=>cases h
  case h_1 d hr=>
   split at h
   case h_2=>cases h
   case h_1 hd=>
    have hd:=of_decide_eq_true hd;subst hd;obtain ⟨e,h⟩:=As h;obtain ⟨dt,x⟩:=d;dsimp only at e;subst e;obtain ⟨cs,hγ,hrep⟩:=S.roots n _ hr;have hlive:Da σ ⟨n,[]⟩:=⟨false,⟨dt,x⟩,.own .z,⟨dt,x⟩,hr,rfl,rfl⟩;cases hs with
    |vw _ _ _ _ src an m cp hp' hl h1 h2=>
     obtain ⟨bx,d',sh',hr',htp,hg⟩:=hp';rw [hr] at hr';injection hr' with hr'
     injection hr' with _ e2' _
     subst e2';have hg:=hg hlive;simp only [goto] at hg;injection hg with hg
     injection hg with e3 e4
     have hcs:=hl hlive;rw [<-e4,hγ] at hcs;simp only [Al] at hcs;injection hcs with hcs
     subst hcs;have e3:dt = .slice e' :=e3;subst e3;dsimp only at h;refine ⟨_,_,_,φ n,φ n,h,rfl,?_,S.drop hr,fun _ h=>h,fun b hb=>⟨(S.fresh n _ hr b hb).2,(S.fresh n _ hr b hb).1⟩⟩;rcases hrep with ⟨e5,e6,e7⟩ | ⟨b,off,cap,C,tid,fr,F',e5,hcap,hb,hfr,hsz,hel,hU,hnb,hOb⟩
     ·injection e5 with e5 _
      injection e5 with e6' e7' e8'
      subst e6' e7' e8';have:hi=0:=by omega
      subst this;exact .inl ⟨rfl,rfl,e7⟩
     ·injection e5 with e5 _
      injection e5 with e6 e7 e8
      subst e6 e7 e8;have hcap:List.length (α:=e'.den) x<=cp:=hcap;have h2:hi<=List.length (α:=e'.den) x:=h2
      have hlen:(Bu (pre (.slice e') x hi)).length=hi:=by
       show (List.take hi (Bu x)).length=hi;rw [List.length_take];exact Nat.min_eq_left h2
      have hel:Els (Rep w O e' .z) (Bu x) ((C.toList.drop off).take ((Bu x).length*e'.size)) F' :=hel;have hF':∀ b,¬F' b:=MA hel;refine .inr ⟨b,off,cp,C,tid,fr,Ab.none,?_,by rw [hlen];omega,hb,hfr,hsz,?_,fun k=>⟨fun h=>.inl (((hU k).1 h).resolve_right (hF' k)),fun h=>(hU k).2 (.inl (h.resolve_right id))⟩,id,hOb⟩
      ·rw [hlen];simp only [Nat.zero_mul,Nat.sub_zero];congr 2;split
       ·rfl
       ·simp [DU]
      ·rw [hlen];have A:=Els.take (n:=hi) (fun (x:e'.den) (c:List Value) (F:Ab) (h:Rep w O e' .z x c F)=>h.len) Rep.zN hel;rw [List.take_take,Nat.min_eq_left (Nat.mul_le_mul_right _ h2)] at A;exact A
 ·rename_i t₀ n;split at h
  case h_2=>cases h
  case h_1 b d sh' hr=>
   split at h
   case h_2=>cases h
   case h_1 hd=>
    have hd:=of_decide_eq_true hd;subst hd;obtain ⟨e,h⟩:=As h;obtain ⟨dt,x⟩:=d;dsimp only at e;subst e;obtain ⟨cs,F₁,hrep,hcs,hblk,hFφ,hblkφ,hφ,hclear⟩:=S.rootRep hr;have hv:C_ dt v cs:=DJ hs (p:=⟨n,[]⟩) hr rfl (d' :=⟨dt,x⟩) rfl (src:=γ n) rfl hcs;exact ⟨x,_,cs,F₁,φ n,h,hv,hrep,S.drop hr,hFφ,fun b hb=>⟨(S.fresh n _ hr b hb).2,(S.fresh n _ hr b hb).1⟩⟩
 ·obtain ⟨x,sh₁,σ₁,cs,F,h4,hwh,hval,hrep,S₁,_,hFy⟩:=PI S (Iv.refl σ) hs h;split at h4
  case h_2=>cases h4
  case h_1 hd=>
   have hd:=of_decide_eq_true hd;subst hd;exact ⟨x,σ₁,cs,F,F,h4,hval,hrep,S₁,fun _ h=>h,hFy⟩
theorem Bc.less {O O':Ab} (hO:∀ b,O' b->O b):∀ (rs:List (Ty×Sh)) (io:List Ty) (r:CB (rs.map (·.1)++io)) (rv:List Value),Bc w O rs io r rv->Bc w O' rs io r rv
 |[],_,_,_,h=>h
 |(_,_)::rs,io,r,_,⟨v,vs',cs,hrv,hv,hr,h⟩=>
  ⟨v,vs',cs,hrv,hv,Rep.frame (Nat.le_refl _) (fun _ _ _=>rfl) (fun _ h=>h.elim) (fun b _ hn ho=>hn (hO b ho)) (fun _ h=>h.elim) hr,Bc.less hO rs io r.2 vs' h⟩
theorem Ra {f:FuncId} {fn:Func} {c:Code} (hf:P.funcs[f]? = some fn) (hb:fn.body=some c) (hty:env.TyOk P) (hfn:env.FnOk P) (hmk:env.marks=[])
  (hn:env.n=fn.ntmps) (ps:List PM) (t:Ty) (sh:Sh) (rs:List (Ty×Sh)) (hps:ps.length<=fn.ntmps) 
  (lp:Nat->Gw (CB (((t,sh)::rs).map (·.1)++Bh ps))->St->Option (CB (((t,sh)::rs).map (·.1)++Bh ps))) (hlp:Dl env lp c) {w:World} {O:Ab} {az:Args ps} {vs:List Value} {r:CB (((t,sh)::rs).map (·.1)++Bh ps)} (hO:∀ b,O b->b<w.heap.size) (hargs:AT P w O ps az vs) (hF:GR env ps ((t,sh)::rs) lp c fn.results.toList az=some r)
  {T:List Value->World->Prop} (hT:∀ {σ' γ' φ' O'} {a':Act} {w':World} {v:ResultVar} {vars:List ResultVar},fn.results.toList=v::vars->Sim P env w O Ab.none σ' γ' φ' O' a' w' ->outK env ((t,sh)::rs) ps (v::vars) σ' (fun r=>some r)=some r->
   ∃ va rv,(∀ Q:List Value->Prop,Q (va::rv)->Q (va::rv))/\(Ck a' v).run P w' = .ok va w' /\(vars.mapM (Ck a')).run P w' = .ok rv w' /\T (va::rv) w') :
  Calls P f vs.toArray w fun e w' =>∃ rv,e = .returned (CY rv)/\T rv w' :=by
 refine calls_of_wp hf hb ?_
 have hlen:∀ (ps:List PM) (az:Args ps) (vs:List Value),AT P w O ps az vs->vs.length=ps.length:=by
  intro ps;induction ps with
  |nil=>intro az vs h;rw [show vs=[] from h];rfl
  |cons p ps ih=>
   intro az vs h;cases p with
   |ro t=>obtain ⟨v,vs',cs,e,_,_,h⟩:=h;rw [e];simp [ih _ _ h]
   |rp t=>obtain ⟨v,vs',e,_,h⟩:=h;rw [e];simp [ih _ _ h]
   |fn a b=>obtain ⟨v,vs',e,_,_,h⟩:=h;rw [e];simp [ih _ _ h]
   |st f ts=>obtain ⟨cv,vs',e,_,h⟩:=h;rw [e];simp [ih _ _ h]
   |io t sh=>exact h.elim
   |tk t sh=>exact h.elim
 have hl:=hlen ps az vs hargs;obtain ⟨hmem,hslots⟩:=Ds (vs₀:=vs) ps az 0 vs hargs (fun j v h=>by rw [Nat.zero_add];exact h);have hroot:∀ n,(BC ps az 0).root n=none:=fun n=>by unfold St.root;rw [hmem];rfl
 have S:Sim P env w O Ab.none (BC ps az 0) (fun _=>.val []) (fun _=>Ab.none) O {tmps:=vs.toArray++Array.replicate (fn.ntmps-vs.toArray.size) undef,defers:=[]} w:=by
  refine ⟨hmk.symm,?_,AF.refl _ _,?_,?_,?_,?_,hO,?_,fun b hb bx d sh h=>by rw [hroot] at h;cases h⟩
  ·simp only [Array.size_append,Array.size_replicate,List.size_toArray,hn];omega
  ·intro n r h;rw [hroot] at h;cases h
  ·intro n m r r' h;rw [hroot] at h;cases h
  ·intro n r h;rw [hroot] at h;cases h
  ·intro b;constructor
   ·exact .inl
   ·rintro (h | ⟨n,r,h,_⟩)
    ·exact h
    ·rw [hroot] at h;cases h
  ·intro i;rcases hslots i with h | ⟨_,v,hv,h⟩
   ·rw [h];exact .undef _
   ·have hi:=(List.getElem?_eq_some_iff.1 hv).1
    have:(vs.toArray++Array.replicate (fn.ntmps-vs.toArray.size) undef).getD i undef=v:=by
     rw [Array.getD_eq_getD_getElem?,Array.getElem?_append_left (by simpa using hi),List.getElem?_toArray,hv];rfl
    dsimp only;rw [this];exact h _ _
 unfold GR at hF;dsimp only at hF;refine wp_mono (ME hty hfn lp c hlp S hF) ?_
 have fin:∀ {σ' γ' φ' O'} {a':Act} {w':World},Sim P env w O Ab.none σ' γ' φ' O' a' w' ->outK env ((t,sh)::rs) ps fn.results.toList σ' (fun r=>some r)=some r->
   a'.defers=[]/\∃ v,(results fn a'.tmps).run P w' = .ok v w' /\∃ rv,Ending.returned v = .returned (CY rv)/\T rv w' :=by
  intro σ' γ' φ' O' a' w' S' hk;cases hv:fn.results.toList with
  |nil=>rw [hv] at hk;simp [outK] at hk
  |cons v vars=>
   rw [hv] at hk;obtain ⟨va,rv,_,hrun,h6,hTT⟩:=hT hv S' hk
   ·refine ⟨S'.defers.trans hmk,CY (va::rv),?_,va::rv,rfl,hTT⟩
    have hm:(fn.results.mapM (Ck a')).run P w' = .ok (va::rv).toArray w' :=by
     rw [Array.mapM_eq_mapM_toList,hv];simp only [Sem.run_map,List.mapM_cons,Sem.run_bind,hrun,Result.andThen_ok,h6,Sem.run_pure]
    unfold results
    have e:(fn.results.mapM fun | .tmp t=>(pure (a'.tmps.getD t undef):Sem Value) | .cell a t=>do loadVar t (<-asAddr (a'.tmps.getD a undef)))=fn.results.mapM (Ck a'):=by
     rfl
    rw [Sem.run_bind];refine (congrArg (fun m=>(Sem.run P m w').andThen _) e).trans ?_;rw [hm];simp only [Result.andThen_ok,Sem.run_pure,Q_]
 rintro e a' w' ⟨σ',γ',φ',O',S',hk⟩;cases e with
 |normal=>exact fin S' hk
 |ret=>exact fin S' hk
 |exit id=>cases hk
 |goto l=>exact hk.elim
 |panic ch=>exact hk.elim
 |outgrown=>exact hk.elim
theorem fv {f : FuncId} {fn : Func} {c : Code} (hf : P.funcs[f]? = some fn) (hb : fn.body = some c) (hname : fn.name ≠ "runtime.NumGoroutine") (hty : env.TyOk P) (hfn : env.FnOk P) (hmk : env.marks = [])
  (hn:env.n=fn.ntmps) (ps:List PM) (t:Ty) (sh:Sh) (rs:List (Ty×Sh)) (hps:ps.length<=fn.ntmps) (hio:Bh ps=[]) (hsh:sh≠.z) (hgo:sh≠.gone) (hrs:(rs.all fun x=>decide (x.2 = .z))=true)
  (lp:Nat->Gw (CB (((t,sh)::rs).map (·.1)++Bh ps))->St->Option (CB (((t,sh)::rs).map (·.1)++Bh ps))) (hlp:Dl env lp c):AO P f ⟨ps,(t,sh)::rs,GR env ps ((t,sh)::rs) lp c fn.results.toList⟩:=by
 refine AO.of hgo ⟨⟨fn,hf,by rw [hb];rfl,hname⟩,?_⟩;intro w O az vs r hO hargs hF
 refine (Ra hf hb hty hfn hmk hn ps t sh rs hps lp hlp hO hargs hF (T:=fun l w' =>∃ v' rv cs G,l=v'::rv/\AF Ab.none w w' /\(∀ b,G b->w.heap.size<=b)/\C_ t v' cs/\
    Rep w' (fun b=>O b\/G b) t sh r.1 cs G/\Bc w' (fun b=>O b\/G b) rs (Bh ps) r.2 rv) fun {σ' γ' φ' O' a' w' v vars} hv S' hk=>?_).mono ?_
 ·unfold outK at hk;obtain ⟨s,va,h2,hs,hrun⟩:=DL S' hty hk;obtain ⟨x,σ₁,cs,F,G,h4,hval,hrep,S₁,hFG,hG⟩:=aP S' hs hsh hgo h2;obtain ⟨q,rv,h5,h6,h7,h8⟩:=Oc S₁ hty ps hio rs vars hrs h4;injection h5 with h5
  subst h5
  exact ⟨va,rv,fun _ h=>h,hrun,h6,va,rv,cs,F,rfl,S'.kept,fun b hb=>(hG b (hFG b hb)).2.resolve_right fun h=>h,hval,
   Rep.frame (Nat.le_refl _) (fun _ _ _=>rfl) (fun _ _=>rfl) (fun b _ hn h=>hn (h.elim (fun h=>(S'.own b).2 (.inl h)) fun h=>(hrep.owned b h).1)) (fun b hb _=>.inr hb) hrep,Bc.less (fun b hb=>hb.imp id (hFG b)) _ _ _ _ h8⟩
 ·rintro e w' ⟨l,rfl,v',rv,cs,G,rfl,h⟩;exact ⟨v',rv,cs,G,rfl,h⟩
theorem nR {f : FuncId} {fn : Func} {c : Code} (hf : P.funcs[f]? = some fn) (hb : fn.body = some c) (hname : fn.name ≠ "runtime.NumGoroutine") (hty : env.TyOk P) (hfn : env.FnOk P) (hmk : env.marks = [])
  (hn:env.n=fn.ntmps) (ps:List PM) (t:Ty) (rs:List (Ty×Sh)) (hps:ps.length<=fn.ntmps) (hio:Bh ps=[]) (hrs:(rs.all fun x=>decide (x.2 = .z))=true)
  (lp:Nat->Gw (CB (((t,.gone)::rs).map (·.1)++Bh ps))->St->Option (CB (((t,.gone)::rs).map (·.1)++Bh ps))) (hlp:Dl env lp c):AO P f ⟨ps,(t,.gone)::rs,GR env ps ((t,.gone)::rs) lp c fn.results.toList⟩:=by
 refine ⟨⟨fn,hf,by rw [hb];rfl,hname⟩,?_⟩;intro w O az vs r hO hargs hF
 refine (Ra hf hb hty hfn hmk hn ps t .gone rs hps lp hlp hO hargs hF (T:=fun l w' =>∃ b off rv,l = .pointer (some ⟨b,off,none⟩)::rv/\AF Ab.none w w' /\w.heap.size<=b/\
    IoAt w' (fun c=>O c\/c=b) t b off r.1/\Bc w' (fun c=>O c\/c=b) rs (Bh ps) r.2 rv) fun {σ' γ' φ' O' a' w' v vars} hv S' hk=>?_).mono ?_
 ·unfold outK at hk;obtain ⟨s,va,h2,hs,hrun⟩:=DL S' hty hk;unfold OH at h2;dsimp only at h2;split at h2
  case h_2=>cases h2
  case h_1 n=>
   split at h2
   case h_2=>cases h2
   case h_1 d hr=>
    obtain ⟨e,h2⟩:=As h2;obtain ⟨dt,x⟩:=d;dsimp only at e;subst e;dsimp only at h2;obtain ⟨b,off,C,tid,fr,cs,F',hγ,hheap,hfz,hcs,hrep,hFb,hOb,hφ⟩:=S'.roots n _ hr;have hlive:Da σ' ⟨n,[]⟩:=⟨true,⟨dt,x⟩,.z,⟨dt,x⟩,hr,rfl,rfl⟩;cases hs with
    |ptrH m s' b' off' hr' _=>rw [hr] at hr';cases hr'
    |ptr p' t' b' off' hp=>
     obtain ⟨bx,d',sh',hr',htp,hg⟩:=hp;rw [hr] at hr';injection hr' with hr'
     injection hr' with _ e2 _
     subst e2;have hg:some (dt,γ' n)=some (t',.mem b' off'):=hg hlive;rw [hγ] at hg;injection hg with hg
     injection hg with _ e4
     injection e4 with e5 e6
     subst e5 e6;have hF0:∀ k,¬F' k:=fun k hk=>hrep.free k hk
     obtain ⟨q,rv,h5,h6,h7,h8⟩:=Oc (S'.drop hr) hty ps hio rs vars hrs h2;injection h5 with h5
     subst h5;refine ⟨_,rv,fun _ h=>h,hrun,h6,b,off,rv,rfl,S'.kept,((S'.fresh n _ hr b ((hφ b).2 (.inl rfl))).1).resolve_right fun h=>h,⟨C,tid,fr,cs,hheap,hfz,hcs,?_⟩,Bc.less (fun c hc=>hc.imp id fun e=>(hφ c).2 (.inl e)) _ _ _ _ h8⟩
     have hrep0:Rep w' O' dt .z x cs Ab.none:=by
      have:F'=Ab.none:=funext fun k=>propext ⟨fun h=>(hF0 k h).elim,fun h=>h.elim⟩
      rw [<-this];exact hrep
     exact Rep.frame (Nat.le_refl _) (fun _ _ _=>rfl) (fun _ h=>h.elim) (fun c _ hn ho=>hn (ho.elim (fun h=>(S'.own c).2 (.inl h)) fun e=>by rw [e];exact hOb)) (fun _ h=>h.elim) hrep0
 ·rintro e w' ⟨l,rfl,b,off,rv,rfl,h⟩;exact ⟨b,off,rv,rfl,h⟩
end Go.V
namespace Go.V
variable {P:Program} {env:Bf} {w₀ w w':World} {O₀ W O:Ab} {σ:St} {γ:Name->Src} {φ:Name->Ab} {a:Act}
theorem J' {t:Ty}:∀ (ps:List PM) (i:Nat) {σ:St} {β:Type} {k:CB (Bh ps)->Option β} {r:β},IS ps=true->SJ ps i σ k=some r->∃ q,k q=some r
 |[],i,σ,β,k,r,_,h=>⟨_,h⟩
 |.ro _::ps,i,σ,β,k,r,hn,h=>J' (t:=t) ps (i+1) hn h
 |.rp _::ps,i,σ,β,k,r,hn,h=>J' (t:=t) ps (i+1) hn h
 |.fn _ _::ps,i,σ,β,k,r,hn,h=>J' (t:=t) ps (i+1) hn h
 |.st _ _::ps,i,σ,β,k,r,hn,h=>J' (t:=t) ps (i+1) hn h
 |.io _ _::_,i,σ,β,k,r,hn,h=>by cases hn
 |.tk _ _::_,i,σ,β,k,r,hn,h=>by cases hn
theorem fw (S:Sim P env w₀ O₀ W σ γ φ O a w) (hty:env.TyOk P) (t:Ty) (sh:Sh) (ps:List PM) (hno:IS ps=true) {β:Type}:∀ (rs:List (Ty×Sh)) (vars:List ResultVar) {k:CB (rs.map (·.1)++(t::Bh ps))->Option β} {r:β},
  (rs.all fun x=>x.1.flat&&decide (x.2 = .z))=true->outK env rs (.io t sh::ps) vars σ k=some r->
  ∃ q rv,k q=some r/\(vars.mapM (Ck a)).run P w = .ok rv w/\rv.length=rs.length/\Ix P w (BI rs t (Bh ps) q).1 rv/\σ.root 4=some (.data (decide (sh = .z)) ⟨t,(BI rs t (Bh ps) q).2⟩ sh)
 |[],[],k,r,_,h=>by
  replace h:(match σ.root 4 with
   |some (.data b d sh')=>match decide (sh'=sh/\b=decide (sh = .z)) with
    |true=>AI (t' :=t) d.x fun x=>SJ ps (0+1) σ fun r=>k (x,r)
    |false=>none
   |_=>none)=some r:=h
  split at h
  case h_2=>cases h
  case h_1 b d sh' hr=>
   split at h
   case h_2=>cases h
   case h_1 hs=>
    obtain ⟨h1,h2⟩:=of_decide_eq_true hs;subst h1 h2;obtain ⟨e,h⟩:=As h;obtain ⟨dt,x⟩:=d;dsimp only at e;subst e;obtain ⟨q,hq⟩:=J' (t:=.bool) ps (0+1) hno h;exact ⟨(x,q),[],hq,rfl,rfl,trivial,hr⟩
 |[],_::_,k,r,_,h=>by simp [outK] at h
 |_::_,[],k,r,_,h=>by simp [outK] at h
 |(u,sh₁)::rs,v::vars,k,r,hz,h=>by
  simp only [List.all_cons,Ajb,Ajg] at hz;obtain ⟨⟨hu,hz1⟩,hz2⟩:=hz;subst hz1;have h:IY env σ v (fun s=>OH σ u .z s fun x σ=>outK env rs (.io t sh::ps) vars σ fun r=>k (x,r))=some r:=h;obtain ⟨s,va,h2,hs,hrun⟩:=DL S hty h
  replace h2:=(fq h2).2
  obtain ⟨x,h3,cs,hval,hrep⟩:=S.content₀ hs h2;obtain ⟨q,rv,h4,h5,h6,h7,h8⟩:=fw S hty t sh ps hno rs vars (by simpa using hz2) h3;refine ⟨(x,q),va::rv,h4,?_,by simp [h6],⟨fun O' σ' γ' =>.pv ⟨u,x⟩ va cs hval (hrep.flat hu),h7⟩,h8⟩;simp [List.mapM_cons,hrun,h5]
theorem OW {α:Type} {n:Name} {p:CH} (hp:p.name≠n) (k:Hd->Option α):Bv (σ.drop n) p k=Bv σ p k:=by
 unfold Bv;rw [St.root_drop,if_neg hp];cases σ.root p.name with
 |none=>rfl
 |some R=>cases R<;>rfl
theorem fx {α:Type} {n:Name} {t:Ty} {s:Slot} (hm:s.men n=false) (k:t.den->Option α):Ep (σ.drop n) t s k=Ep σ t s k:=by
 have ne:∀ {p:CH},Nat.beq p.name n=false->p.name≠n:=fun h e=>by rw [e] at h;simp at h
 unfold Ep;cases s with
 |ref t p=>exact OW (ne (by simpa [Slot.men] using hm)) _
 |vw e p lo hi=>exact OW (ne (by simpa [Slot.men] using hm)) _
 |_=>rfl
theorem aQ (S:Sim P env w₀ O₀ W σ γ φ O a w) (hty:env.TyOk P) (t:Ty) (sh:Sh) (ps:List PM) (hno:IS ps=true) {β:Type}:∀ (rs:List (Ty×Sh)) (vars:List ResultVar) {k:CB (rs.map (·.1)++(t::Bh ps))->Option β} {r:β},
  (rs.all fun x=>decide (x.2 = .z))=true->outK env rs (.io t sh::ps) vars σ k=some r->
  ∃ q rv,k q=some r/\(vars.mapM (Ck a)).run P w = .ok rv w/\rv.length=rs.length/\NY P w (fun b=>O₀ b\/φ 4 b) (BI rs t (Bh ps) q).1 rv/\σ.root 4=some (.data (decide (sh = .z)) ⟨t,(BI rs t (Bh ps) q).2⟩ sh)
 |[],vars,k,r,_,h=>by
  obtain ⟨q,rv,h1,h2,h3,h4,h5⟩:=fw S hty t sh ps hno [] vars rfl h;cases rv with
  |nil=>exact ⟨q,[],h1,h2,h3,trivial,h5⟩
  |cons _ _=>cases h3
 |_::_,[],k,r,_,h=>by simp [outK] at h
 |(u,sh₁)::rs,v::vars,k,r,hz,h=>by
  simp only [List.all_cons,Ajb,Ajg] at hz;obtain ⟨hz1,hz2⟩:=hz;subst hz1;have h:IY env σ v (fun s=>OH σ u .z s fun x σ=>outK env rs (.io t sh::ps) vars σ fun r=>k (x,r))=some r:=h;obtain ⟨s,va,h2,hs,hrun⟩:=DL S hty h;obtain ⟨hmen,h2⟩:=fq h2;rw [CM] at h2;cases ha:Ep σ u s (some:u.den->Option u.den) with
  |none=>rw [ha] at h2;cases h2
  |some x=>
   rw [ha] at h2;have h3:outK env rs (.io t sh::ps) vars σ (fun r=>k (x,r))=some r:=h2;obtain ⟨q,rv,h4,h5,h6,h7,h8⟩:=aQ S hty t sh ps hno rs vars (by simpa using hz2) h3;refine ⟨(x,q),va::rv,h4,by simp [List.mapM_cons,hrun,h5],by simp [h6],⟨fun σ' γ' =>?_,h7⟩,h8⟩;by_cases hu:u.flat=true
   ·obtain ⟨x',e,cs,hval,hrep⟩:=S.content₀ hs ha;injection e with e
    subst e;exact .pv ⟨u,x'⟩ va cs hval (hrep.flat hu)
   ·have hm:s.men 4=false:=by
     cases hh:s.men 4 with
     |false=>rfl
     |true=>rw [hh] at hmen;simp [hu] at hmen
    have A:Iu w w O O σ (σ.drop 4) γ γ φ φ 4:=
     ⟨AF.refl _ _,fun _ _ h=>h,fun m hm=>by rw [St.root_drop,if_neg hm],fun _ _=>rfl,fun _ _=>rfl⟩
    obtain ⟨x',e,cs,hval,hrep⟩:=(S.drop h8).content₀ (hs.away S A hm) ((fx hm _).trans ha);injection e with e
    subst e;exact .pv ⟨u,x'⟩ va cs hval hrep
theorem NY.less:∀ {ss:List Slot} {vs:List Value},(∀ b,b<w.heap.size->¬O b->¬O₀ b)->NY P w O ss vs->NY P w O₀ ss vs
 |[],[],_,_=>trivial
 |_::_,_::_,hO,h=>⟨fun σ γ=>(h.1 σ γ).less hO,NY.less hO h.2⟩
theorem AT.length:∀ (ps:List PM) (az:Args ps) (vs:List Value),AT P w O ps az vs->vs.length=ps.length:=by
 intro ps;induction ps with
 |nil=>intro az vs h;rw [show vs=[] from h];rfl
 |cons p ps ih=>
  intro az vs h;cases p with
  |ro t=>obtain ⟨v,vs',cs,e,_,_,h⟩:=h;rw [e];simp [ih _ _ h]
  |rp t=>obtain ⟨v,vs',e,_,h⟩:=h;rw [e];simp [ih _ _ h]
  |fn a b=>obtain ⟨v,vs',e,_,_,h⟩:=h;rw [e];simp [ih _ _ h]
  |st f ts=>obtain ⟨cv,vs',e,_,h⟩:=h;rw [e];simp [ih _ _ h]
  |io t sh=>exact h.elim
  |tk t sh=>exact h.elim
theorem rE {f : FuncId} {fn : Func} {c : Code} (hf : P.funcs[f]? = some fn) (hb : fn.body = some c) (hname : fn.name ≠ "runtime.NumGoroutine") (hty : env.TyOk P) (hfn : env.FnOk P) (hmk : env.marks = [])
  (hn:env.n=fn.ntmps) (t:Ty) (ps:List PM) (rs:List (Ty×Sh)) (hps:ps.length+1<=fn.ntmps) (hno:IS ps=true) (hrs:(rs.all fun x=>decide (x.2 = .z))=true)
  (F:Args (.io t .z::ps)->Option (CB (rs.map (·.1)++Bh (.io t .z::ps))))
  (lp:Nat->Gw (CB (rs.map (·.1)++Bh (.io t .z::ps)))->St->Option (CB (rs.map (·.1)++Bh (.io t .z::ps)))) (hlp:∀ p,Dl {env with pin:=p} lp c)
  (he:∀ p,GR {env with pin:=p} (.io t .z::ps) rs lp c fn.results.toList=F):IoOk P f ⟨.io t .z::ps,rs,F⟩:=by
 refine ⟨⟨fn,hf,by rw [hb];rfl,hname⟩,?_⟩;intro w O b off x az vs r hO hOb hio hargs hF;have hF:GR {env with pin:=some (.mem b off)} (.io t .z::ps) rs lp c fn.results.toList (x,az)=some r:=by rw [he];exact hF
 refine calls_of_wp hf hb ?_;have hty':Bf.TyOk {env with pin:=some (.mem b off)} P:=hty
 have hfn':Bf.FnOk {env with pin:=some (.mem b off)} P:=hfn
 have hl:=AT.length ps az vs hargs
 let pv:Value:=.pointer (some ⟨b,off,none⟩)
 obtain ⟨hmem,hslots⟩:=Ds (vs₀:=pv::vs) ps az 1 vs hargs (fun j v h=>by rw [Nat.add_comm];simpa using h)
 let σ₀:St:=BC (.io t .z::ps) (x,az) 0
 have hroot:∀ n,σ₀.root n=if n=4 then some (.data true ⟨t,x⟩ .z) else none:=by
  intro n;show look ((4,AV.data true ⟨t,x⟩ .z)::(BC ps az (0+1)).mem) n=_;rw [hmem];simp only [look];by_cases hn4:n=4
  ·subst hn4;rw [Es,if_pos rfl]
  ·rw [Dn (fun e=>hn4 e.symm),if_neg hn4]
 have root4:∀ {n r},σ₀.root n=some r->n=4/\r = .data true ⟨t,x⟩ .z:=by
  intro n r h;rw [hroot] at h;split at h
  ·rename_i e;injection h with h;exact ⟨e,h.symm⟩
  ·cases h
 let γ₀:Name->Src:=fun _=>.mem b off
 let φ₀:Name->Ab:=fun n c=>n=4/\c=b
 have hh4:σ₀.root 4=some (.data true ⟨t,x⟩ .z):=by rw [hroot,if_pos rfl]
 have S:Sim P {env with pin:=some (.mem b off)} w (fun c=>O c/\c≠b) (fun c=>c=b) σ₀ γ₀ φ₀ O {tmps:=(pv::vs).toArray++Array.replicate (fn.ntmps-(pv::vs).toArray.size) undef,defers:=[]} w:=by
  refine ⟨hmk.symm,?_,AF.refl _ _,?_,?_,?_,?_,fun c h=>hO c h.1,?_,?_⟩
  ·simp only [Array.size_append,Array.size_replicate,List.size_toArray,Aja,hn];omega
  ·intro n r h;obtain ⟨rfl,rfl⟩:=root4 h;obtain ⟨C,tid,fr,cs,h1,h2,h3,h4⟩:=hio;exact ⟨b,off,C,tid,fr,cs,Ab.none,rfl,h1,h2,h3,h4,fun h=>h,hOb,fun k=>⟨fun h=>.inl h.2,fun h=>h.elim (fun h=>⟨rfl,h⟩) fun h=>h.elim⟩⟩
  ·intro n m r r' h h' hnm;exact (hnm ((root4 h).1.trans (root4 h').1.symm)).elim
  ·rintro n r h c ⟨_,rfl⟩;exact ⟨.inr rfl,fun h=>h.2 rfl⟩
  ·intro c;constructor
   ·intro h;by_cases hc:c=b
    ·exact .inr ⟨4,_,hh4,rfl,hc⟩
    ·exact .inl ⟨h,hc⟩
   ·rintro (h | ⟨n,r,_,_,rfl⟩)
    ·exact h.1
    ·exact hOb
  ·intro i
   have hsl:σ₀.slot i=if i=0 then .ptr ⟨4,[]⟩ else (BC ps az 1).slot i:=by
    show (look ((0,Slot.ptr ⟨Ia 0,[]⟩)::(BC ps az (0+1)).slots) i).getD .undef=_;simp only [look];by_cases hi:i=0
    ·subst hi;rw [Es,if_pos rfl];rfl
    ·rw [Dn (fun e=>hi e.symm),if_neg hi];rfl
   have hval:∀ v,(pv::vs)[i]? = some v->({tmps:=(pv::vs).toArray++Array.replicate (fn.ntmps-(pv::vs).toArray.size) undef,defers:=[]}:Act).tmps.getD i undef=v:=by
    intro v hv;have hi:=(List.getElem?_eq_some_iff.1 hv).1;rw [Array.getD_eq_getD_getElem?,Array.getElem?_append_left (by simpa using hi),List.getElem?_toArray,hv];rfl
   rw [hsl];split
   ·rename_i hi;subst hi;rw [hval pv rfl];exact .ptr ⟨4,[]⟩ t b off ⟨true,⟨t,x⟩,.z,hh4,rfl,fun _=>rfl⟩
   ·rcases hslots i with h | ⟨_,v,hv,h⟩
    ·rw [h];exact .undef _
    ·rw [hval v hv];exact h _ _
  ·intro s h bx d sh _;injection h with h
 unfold GR at hF;dsimp only at hF;refine wp_mono (ME hty' hfn' lp c (hlp _) S hF) ?_
 have fin:∀ {σ' γ' φ' O'} {a':Act} {w':World},Sim P {env with pin:=some (.mem b off)} w (fun c=>O c/\c≠b) (fun c=>c=b) σ' γ' φ' O' a' w' ->
   outK {env with pin:=some (.mem b off)} rs (.io t .z::ps) fn.results.toList σ' (fun r=>some r)=some r->
   a'.defers=[]/\∃ v,(results fn a'.tmps).run P w' = .ok v w' /\∃ rv,Ending.returned v = .returned (CY rv)/\AF (fun c=>c=b) w w' /\
    IoAt w' O t b off (BI rs t (Bh ps) r).2/\NY P w' O (BI rs t (Bh ps) r).1 rv:=by
  intro σ' γ' φ' O' a' w' S' hk;obtain ⟨q,rv,h1,h2,h3,h4,h5⟩:=aQ S' hty' t .z ps hno rs fn.results.toList hrs hk;injection h1 with h1
  subst h1
  have hat:IoAt w' O t b off (BI rs t (Bh ps) q).2:=by
   obtain ⟨b₁,off₁,C,tid,fr,cs,F',hsrc,hb,hfz,hcs,hrep,hF',hOb1,hU⟩:=S'.roots 4 _ h5;have:=S'.pin _ rfl _ _ _ h5;rw [hsrc] at this;injection this with e1 e2
   subst e1 e2;refine ⟨C,tid,fr,cs,hb,hfz,hcs,Rep.freeze (fun c _ hn h=>hn ?_) rfl (fun c h=>(hrep.free c h).elim) hrep⟩;by_cases hc:c=b₁
   ·rw [hc];exact hOb1
   ·exact (S'.own c).2 (.inl ⟨h,hc⟩)
  have hsub:∀ c,O c->(O c/\c≠b)\/φ' 4 c:=by
   intro c ho;by_cases hc:c=b
   ·rw [hc];obtain ⟨b₁,off₁,C,tid,fr,cs,F',hsrc,hb,hfz,hcs,hrep,hF',hOb1,hU⟩:=S'.roots 4 _ h5;have:=S'.pin _ rfl _ _ _ h5;rw [hsrc] at this;injection this with e1 e2
    rw [<-e1];exact .inr ((hU _).2 (.inl rfl))
   ·exact .inl ⟨ho,hc⟩
  have h4:NY P w' O (BI rs t (Bh ps) q).1 rv:=NY.less (fun c _ hn ho=>hn (hsub c ho)) h4;refine ⟨S'.defers.trans hmk,CY rv,?_,rv,rfl,S'.kept,hat,h4⟩
  have hm:(fn.results.mapM (Ck a')).run P w' = .ok rv.toArray w' :=by
   rw [Array.mapM_eq_mapM_toList];simp only [Sem.run_map,h2];rfl
  unfold results
  have e:(fn.results.mapM fun | .tmp t=>(pure (a'.tmps.getD t undef):Sem Value) | .cell a t=>do loadVar t (<-asAddr (a'.tmps.getD a undef)))=fn.results.mapM (Ck a'):=by
   rfl
  rw [Sem.run_bind];refine (congrArg (fun m=>(Sem.run P m w').andThen _) e).trans ?_;rw [hm];simp only [Result.andThen_ok,Sem.run_pure,Q_]
 rintro e a' w' ⟨σ',γ',φ',O',S',hk⟩;cases e with
 |normal=>exact fin S' hk
 |ret=>exact fin S' hk
 |exit id=>cases hk
 |goto l=>exact hk.elim
 |panic ch=>exact hk.elim
 |outgrown=>exact hk.elim
theorem Bc.pv:∀ (rs:List (Ty×Sh)) (io:List Ty) (r:CB (rs.map (·.1)++io)) (rv:List Value),(rs.all fun x=>x.1.flat)=true->Bc w O rs io r rv->Ix P w (CD rs io r) rv
 |[],_,_,rv,_,h=>by rw [show rv=[] from h];trivial
 |(t,sh)::rs,io,r,rv,hf,⟨v,vs',cs,hrv,hv,hr,h⟩=>by
  simp only [List.all_cons,Ajb] at hf;subst hrv;exact ⟨fun O' σ' γ' =>.pv ⟨t,r.1⟩ v cs hv (hr.flat hf.1),Bc.pv rs io r.2 vs' hf.2 h⟩
theorem IoOk.ofTk {f:FuncId} {t:Ty} {sh:Sh} {ps:List PM} {rs:List (Ty×Sh)} {F:Args (.tk t sh::ps)->Option (CB (rs.map (·.1)++Bh (.tk t sh::ps)))}
  (hrf:(rs.all fun x=>x.1.flat)=true) (h:nK P f t sh ps rs F):IoOk P f ⟨.tk t sh::ps,rs,F⟩:=by
 cases rs with
 |nil=>exact h
 |cons q rs=>
  obtain ⟨qt,qs⟩:=q;cases qt with
  |slice u=>simp [Ty.flat] at hrf
  |_=>exact h
theorem rF {f : FuncId} {fn : Func} {c : Code} (hf : P.funcs[f]? = some fn) (hb : fn.body = some c) (hname : fn.name ≠ "runtime.NumGoroutine") (hty : env.TyOk P) (hfn : env.FnOk P) (hmk : env.marks = [])
  (hn:env.n=fn.ntmps) (t:Ty) (sh:Sh) (ps:List PM) (rs:List (Ty×Sh)) (hps:ps.length+1<=fn.ntmps) (hno:IS ps=true) (hrs:(rs.all fun x=>x.1.flat&&decide (x.2 = .z))=true)
  (lp:Nat->Gw (CB (rs.map (·.1)++Bh (.tk t sh::ps)))->St->Option (CB (rs.map (·.1)++Bh (.tk t sh::ps)))) (hlp:Dl env lp c) (hp:env.pin=none) :
  IoOk P f ⟨.tk t sh::ps,rs,GR env (.tk t sh::ps) rs lp c fn.results.toList⟩:=by
 refine IoOk.ofTk (by
   rw [List.all_eq_true] at hrs ⊢;intro y hy;have:=hrs y hy;simp only [Ajb] at this;exact this.1) ?_
 refine ⟨⟨fn,hf,by rw [hb];rfl,hname⟩,?_⟩;intro w O x v cs G az vs r hO hval₀ hrepx hargs hF;refine calls_of_wp hf hb ?_;have hl:=AT.length ps az vs hargs;obtain ⟨hmem,hslots⟩:=Ds (vs₀:=v::vs) ps az 1 vs hargs (fun j v h=>by rw [Nat.add_comm];simpa using h)
 let σ₀:St:=BC (.tk t sh::ps) (x,az) 0
 have hroot:∀ n,σ₀.root n=if n=4 then some (.data false ⟨t,x⟩ sh) else none:=by
  intro n;show look ((4,AV.data false ⟨t,x⟩ sh)::(BC ps az (0+1)).mem) n=_;rw [hmem];simp only [look];by_cases hn4:n=4
  ·subst hn4;rw [Es,if_pos rfl]
  ·rw [Dn (fun e=>hn4 e.symm),if_neg hn4]
 have root4:∀ {n r},σ₀.root n=some r->n=4/\r = .data false ⟨t,x⟩ sh:=by
  intro n r h;rw [hroot] at h;split at h
  ·rename_i e;injection h with h;exact ⟨e,h.symm⟩
  ·cases h
 let γ₀:Name->Src:=fun _=>.val cs
 let φ₀:Name->Ab:=fun n c=>n=4/\G c
 have hh4:σ₀.root 4=some (.data false ⟨t,x⟩ sh):=by rw [hroot,if_pos rfl]
 have hGO:∀ c,G c->O c:=fun c hc=>(hrepx.owned c hc).1
 have S:Sim P env w (fun c=>O c/\¬G c) G σ₀ γ₀ φ₀ O {tmps:=(v::vs).toArray++Array.replicate (fn.ntmps-(v::vs).toArray.size) undef,defers:=[]} w:=by
  refine ⟨hmk.symm,?_,AF.refl _ _,?_,?_,?_,?_,fun c h=>hO c h.1,?_,?_⟩
  ·simp only [Array.size_append,Array.size_replicate,List.size_toArray,Aja,hn];omega
  ·intro n r h;obtain ⟨rfl,rfl⟩:=root4 h;exact ⟨cs,rfl,hrepx.foot fun c=>⟨fun h=>h.2,fun h=>⟨rfl,h⟩⟩⟩
  ·intro n m r r' h h' hnm;exact (hnm ((root4 h).1.trans (root4 h').1.symm)).elim
  ·rintro n r h c ⟨_,hc⟩;exact ⟨.inr hc,fun h=>h.2 hc⟩
  ·intro c;constructor
   ·intro h;by_cases hc:G c
    ·exact .inr ⟨4,_,hh4,rfl,hc⟩
    ·exact .inl ⟨h,hc⟩
   ·rintro (h | ⟨n,r,_,_,hc⟩)
    ·exact h.1
    ·exact hGO c hc
  ·intro i
   have hsl:σ₀.slot i=if i=0 then .ref t ⟨4,[]⟩ else (BC ps az 1).slot i:=by
    show (look ((0,Slot.ref t ⟨Ia 0,[]⟩)::(BC ps az (0+1)).slots) i).getD .undef=_;simp only [look];by_cases hi:i=0
    ·subst hi;rw [Es,if_pos rfl];rfl
    ·rw [Dn (fun e=>hi e.symm),if_neg hi];rfl
   have hval:∀ v',(v::vs)[i]? = some v' ->({tmps:=(v::vs).toArray++Array.replicate (fn.ntmps-(v::vs).toArray.size) undef,defers:=[]}:Act).tmps.getD i undef=v' :=by
    intro v' hv;have hi:=(List.getElem?_eq_some_iff.1 hv).1;rw [Array.getD_eq_getD_getElem?,Array.getElem?_append_left (by simpa using hi),List.getElem?_toArray,hv];rfl
   rw [hsl];split
   ·rename_i hi;subst hi;rw [hval v rfl];exact .ref t ⟨4,[]⟩ v (.val cs) ⟨false,⟨t,x⟩,sh,hh4,rfl,fun _=>rfl⟩ fun _=>⟨cs,rfl,hval₀⟩
   ·rcases hslots i with h | ⟨_,v',hv,h⟩
    ·rw [h];exact .undef _
    ·rw [hval v' hv];exact h _ _
  ·intro s h bx d sh _;rw [hp] at h;cases h
 unfold GR at hF;dsimp only at hF;refine wp_mono (ME hty hfn lp c hlp S hF) ?_;have hio:Bh (.tk t sh::ps)=[]:=(CO hno:Bh ps=[])
 have fin:∀ {σ' γ' φ' O'} {a':Act} {w':World},Sim P env w (fun c=>O c/\¬G c) G σ' γ' φ' O' a' w' ->
   outK env rs (.tk t sh::ps) fn.results.toList σ' (fun r=>some r)=some r->
   a'.defers=[]/\∃ v',(results fn a'.tmps).run P w' = .ok v' w' /\∃ rv,Ending.returned v' = .returned (CY rv)/\AF G w w' /\Ix P w' (CD rs (Bh ps) r) rv:=by
  intro σ' γ' φ' O' a' w' S' hk
  obtain ⟨q,rv,h1,h2,h3,h4⟩:=Oc S' hty (.tk t sh::ps) hio rs fn.results.toList (by
   rw [List.all_eq_true] at hrs ⊢;intro y hy;have:=hrs y hy;simp only [Ajb] at this;exact this.2) hk
  injection h1 with h1
  subst h1
  refine ⟨S'.defers.trans hmk,CY rv,?_,rv,rfl,S'.kept,Bc.pv rs (Bh (.tk t sh::ps)) q rv (by
   rw [List.all_eq_true] at hrs ⊢;intro y hy;have:=hrs y hy;simp only [Ajb] at this;exact this.1) h4⟩
  have hm:(fn.results.mapM (Ck a')).run P w' = .ok rv.toArray w' :=by
   rw [Array.mapM_eq_mapM_toList];simp only [Sem.run_map,h2];rfl
  unfold results
  have e:(fn.results.mapM fun | .tmp t=>(pure (a'.tmps.getD t undef):Sem Value) | .cell a t=>do loadVar t (<-asAddr (a'.tmps.getD a undef)))=fn.results.mapM (Ck a'):=by
   rfl
  rw [Sem.run_bind];refine (congrArg (fun m=>(Sem.run P m w').andThen _) e).trans ?_;rw [hm];simp only [Result.andThen_ok,Sem.run_pure,Q_]
 rintro e a' w' ⟨σ',γ',φ',O',S',hk⟩;cases e with
 |normal=>exact fin S' hk
 |ret=>exact fin S' hk
 |exit id=>cases hk
 |goto l=>exact hk.elim
 |panic ch=>exact hk.elim
 |outgrown=>exact hk.elim
theorem rG {f : FuncId} {fn : Func} {c : Code} (hf : P.funcs[f]? = some fn) (hb : fn.body = some c) (hname : fn.name ≠ "runtime.NumGoroutine") (hty : env.TyOk P) (hfn : env.FnOk P) (hmk : env.marks = [])
  (hn:env.n=fn.ntmps) (t:Ty) (sh:Sh) (ps:List PM) (u:Ty) (su:Sh) (rs:List (Ty×Sh)) (hps:ps.length+1<=fn.ntmps) (hno:IS ps=true) (hrs:(rs.all fun x=>x.1.flat&&decide (x.2 = .z))=true)
  (lp:Nat->Gw (CB (((.slice u,.own su)::rs).map (·.1)++Bh (.tk t sh::ps)))->St->Option (CB (((.slice u,.own su)::rs).map (·.1)++Bh (.tk t sh::ps)))) (hlp:Dl env lp c) (hp:env.pin=none) :
  IoOk P f ⟨.tk t sh::ps,(.slice u,.own su)::rs,GR env (.tk t sh::ps) ((.slice u,.own su)::rs) lp c fn.results.toList⟩:=by
 refine ⟨⟨fn,hf,by rw [hb];rfl,hname⟩,?_⟩;intro w O x v cs G az vs r hO hval₀ hrepx hargs hF;refine calls_of_wp hf hb ?_;have hl:=AT.length ps az vs hargs;obtain ⟨hmem,hslots⟩:=Ds (vs₀:=v::vs) ps az 1 vs hargs (fun j v h=>by rw [Nat.add_comm];simpa using h)
 let σ₀:St:=BC (.tk t sh::ps) (x,az) 0
 have hroot:∀ n,σ₀.root n=if n=4 then some (.data false ⟨t,x⟩ sh) else none:=by
  intro n;show look ((4,AV.data false ⟨t,x⟩ sh)::(BC ps az (0+1)).mem) n=_;rw [hmem];simp only [look];by_cases hn4:n=4
  ·subst hn4;rw [Es,if_pos rfl]
  ·rw [Dn (fun e=>hn4 e.symm),if_neg hn4]
 have root4:∀ {n r},σ₀.root n=some r->n=4/\r = .data false ⟨t,x⟩ sh:=by
  intro n r h;rw [hroot] at h;split at h
  ·rename_i e;injection h with h;exact ⟨e,h.symm⟩
  ·cases h
 let γ₀:Name->Src:=fun _=>.val cs
 let φ₀:Name->Ab:=fun n c=>n=4/\G c
 have hh4:σ₀.root 4=some (.data false ⟨t,x⟩ sh):=by rw [hroot,if_pos rfl]
 have hGO:∀ c,G c->O c:=fun c hc=>(hrepx.owned c hc).1
 have S:Sim P env w (fun c=>O c/\¬G c) G σ₀ γ₀ φ₀ O {tmps:=(v::vs).toArray++Array.replicate (fn.ntmps-(v::vs).toArray.size) undef,defers:=[]} w:=by
  refine ⟨hmk.symm,?_,AF.refl _ _,?_,?_,?_,?_,fun c h=>hO c h.1,?_,?_⟩
  ·simp only [Array.size_append,Array.size_replicate,List.size_toArray,Aja,hn];omega
  ·intro n r h;obtain ⟨rfl,rfl⟩:=root4 h;exact ⟨cs,rfl,hrepx.foot fun c=>⟨fun h=>h.2,fun h=>⟨rfl,h⟩⟩⟩
  ·intro n m r r' h h' hnm;exact (hnm ((root4 h).1.trans (root4 h').1.symm)).elim
  ·rintro n r h c ⟨_,hc⟩;exact ⟨.inr hc,fun h=>h.2 hc⟩
  ·intro c;constructor
   ·intro h;by_cases hc:G c
    ·exact .inr ⟨4,_,hh4,rfl,hc⟩
    ·exact .inl ⟨h,hc⟩
   ·rintro (h | ⟨n,r,_,_,hc⟩)
    ·exact h.1
    ·exact hGO c hc
  ·intro i
   have hsl:σ₀.slot i=if i=0 then .ref t ⟨4,[]⟩ else (BC ps az 1).slot i:=by
    show (look ((0,Slot.ref t ⟨Ia 0,[]⟩)::(BC ps az (0+1)).slots) i).getD .undef=_;simp only [look];by_cases hi:i=0
    ·subst hi;rw [Es,if_pos rfl];rfl
    ·rw [Dn (fun e=>hi e.symm),if_neg hi];rfl
   have hval:∀ v',(v::vs)[i]? = some v' ->({tmps:=(v::vs).toArray++Array.replicate (fn.ntmps-(v::vs).toArray.size) undef,defers:=[]}:Act).tmps.getD i undef=v' :=by
    intro v' hv;have hi:=(List.getElem?_eq_some_iff.1 hv).1;rw [Array.getD_eq_getD_getElem?,Array.getElem?_append_left (by simpa using hi),List.getElem?_toArray,hv];rfl
   rw [hsl];split
   ·rename_i hi;subst hi;rw [hval v rfl];exact .ref t ⟨4,[]⟩ v (.val cs) ⟨false,⟨t,x⟩,sh,hh4,rfl,fun _=>rfl⟩ fun _=>⟨cs,rfl,hval₀⟩
   ·rcases hslots i with h | ⟨_,v',hv,h⟩
    ·rw [h];exact .undef _
    ·rw [hval v' hv];exact h _ _
  ·intro s h bx d sh _;rw [hp] at h;cases h
 unfold GR at hF;dsimp only at hF;refine wp_mono (ME hty hfn lp c hlp S hF) ?_;have hio:Bh (.tk t sh::ps)=[]:=(CO hno:Bh ps=[])
 have fin:∀ {σ' γ' φ' O'} {a':Act} {w':World},Sim P env w (fun c=>O c/\¬G c) G σ' γ' φ' O' a' w' ->
   outK env ((.slice u,.own su)::rs) (.tk t sh::ps) fn.results.toList σ' (fun r=>some r)=some r->
   a'.defers=[]/\∃ v',(results fn a'.tmps).run P w' = .ok v' w' /\∃ v₁ rv G',Ending.returned v' = .returned (CY (v₁::rv))/\AF G w w' /\(∀ b,G' b->G b\/w.heap.size<=b)/\
    Rep w' (fun b=>(O b/\¬G b)\/G' b) (.slice u) (.own su) r.1 [v₁] G' /\Ix P w' (CD rs (Bh ps) r.2) rv:=by
  intro σ' γ' φ' O' a' w' S' hk;cases hv:fn.results.toList with
  |nil=>rw [hv] at hk;simp [outK] at hk
  |cons v vars=>
   rw [hv] at hk;unfold outK at hk;obtain ⟨s,va,h2,hs,hrun⟩:=DL S' hty hk;obtain ⟨x',σ₁,cs',F,G',h4,hval',hrep',S₁,hFG,hG⟩:=aP S' hs (by simp) (by simp) h2;have hcv:cs'=[va]:=hval';subst hcv
   obtain ⟨q,rv,h5,h6,h7,h8⟩:=Oc S₁ hty (.tk t sh::ps) hio rs vars (by
    rw [List.all_eq_true] at hrs ⊢;intro y hy;have:=hrs y hy;simp only [Ajb] at this;exact this.2) h4
   injection h5 with h5
   subst h5
   refine ⟨S'.defers.trans hmk,CY (va::rv),?_,va,rv,F,rfl,S'.kept,fun b hb=>(hG b (hFG b hb)).2.symm,
    Rep.frame (Nat.le_refl _) (fun _ _ _=>rfl) (fun _ _=>rfl) (fun b _ hn h=>hn (h.elim (fun h=>(S'.own b).2 (.inl h)) fun h=>(hrep'.owned b h).1)) (fun b hb _=>.inr hb) hrep',Bc.pv rs (Bh (.tk t sh::ps)) q rv (by
    rw [List.all_eq_true] at hrs ⊢;intro y hy;have:=hrs y hy;simp only [Ajb] at this;exact this.1) h8⟩
   have hm:(fn.results.mapM (Ck a')).run P w' = .ok (va::rv).toArray w' :=by
    rw [Array.mapM_eq_mapM_toList,hv];simp only [Sem.run_map,List.mapM_cons,Sem.run_bind,hrun,Result.andThen_ok,h6,Sem.run_pure]
   unfold results
   have e:(fn.results.mapM fun | .tmp t=>(pure (a'.tmps.getD t undef):Sem Value) | .cell a t=>do loadVar t (<-asAddr (a'.tmps.getD a undef)))=fn.results.mapM (Ck a'):=by
    rfl
   rw [Sem.run_bind];refine (congrArg (fun m=>(Sem.run P m w').andThen _) e).trans ?_;rw [hm];simp only [Result.andThen_ok,Sem.run_pure,Q_]
 rintro e a' w' ⟨σ',γ',φ',O',S',hk⟩;cases e with
 |normal=>exact fin S' hk
 |ret=>exact fin S' hk
 |exit id=>cases hk
 |goto l=>exact hk.elim
 |panic ch=>exact hk.elim
 |outgrown=>exact hk.elim
end Go.V
namespace Go.V
variable {β:Type}
inductive PS where
 |l | r | at
 deriving DecidableEq
inductive AM where
 |undef
 |pv (t:Ty)
 |ref (t:Ty) (n:Name) (p:List PS)
 |vw (e:Ty) (n:Name) (p:List PS)
 |ptr (n:Name) (p:List PS)
 |fptr (t:Ty)
 |fnA (a b:Ty)
 |clo (f:FuncId) (l:List AM)
 |nilS
def PS.dn:List PS->Type->Type
 |[],R=>R
 |.l::p,R=>PS.dn p R
 |.r::p,R=>PS.dn p R
 |.at::p,R=>Nat×PS.dn p R
def PS.mk {R:Type}:(p:List PS)->PS.dn p R->Bi×R
 |[],x=>([],x)
 |.l::p,x=>let q:=PS.mk p x;(.l::q.1,q.2)
 |.r::p,x=>let q:=PS.mk p x;(.r::q.1,q.2)
 |.at::p,x=>let q:=PS.mk p x.2;(.at x.1::q.1,q.2)
def PS.un {R:Type}:(p:List PS)->Bi->R->(PS.dn p R->Option β)->Option β
 |[],[],x,k=>k x
 |.l::p,.l::q,x,k=>PS.un p q x k
 |.r::p,.r::q,x,k=>PS.un p q x k
 |.at::p,.at n::q,x,k=>PS.un p q x fun y=>k (n,y)
 |_,_,_,_=>none
theorem PS.un_some {R:Type}:∀ (p:List PS) (q:Bi) (x:R) {k:PS.dn p R->Option β} {o:β},PS.un p q x k=some o->∃ y,PS.mk p y=(q,x)/\k y=some o
 |[],[],x,k,o,h=>⟨x,rfl,h⟩
 |.l::p,.l::q,x,k,o,h=>by
  obtain ⟨y,h1,h2⟩:=PS.un_some p q x h;exact ⟨y,by simp only [PS.mk,h1],h2⟩
 |.r::p,.r::q,x,k,o,h=>by
  obtain ⟨y,h1,h2⟩:=PS.un_some p q x h;exact ⟨y,by simp only [PS.mk,h1],h2⟩
 |.at::p,.at n::q,x,k,o,h=>by
  obtain ⟨y,h1,h2⟩:=PS.un_some p q x (k:=fun y=>k (n,y)) h;exact ⟨(n,y),by simp only [PS.mk,h1],h2⟩
 |[],_::_,x,k,o,h=>by simp [PS.un] at h
 |.l::_,[],x,k,o,h=>by simp [PS.un] at h
 |.r::_,[],x,k,o,h=>by simp [PS.un] at h
 |.at::_,[],x,k,o,h=>by simp [PS.un] at h
 |.l::_,.r::_,x,k,o,h=>by simp [PS.un] at h
 |.l::_,.at _::_,x,k,o,h=>by simp [PS.un] at h
 |.r::_,.l::_,x,k,o,h=>by simp [PS.un] at h
 |.r::_,.at _::_,x,k,o,h=>by simp [PS.un] at h
 |.at::_,.l::_,x,k,o,h=>by simp [PS.un] at h
 |.at::_,.r::_,x,k,o,h=>by simp [PS.un] at h
mutual
def AM.dn:AM->Type->Type
 |.undef,R=>R
 |.pv t,R=>t.den×R
 |.ref _ _ p,R=>PS.dn p R
 |.vw _ _ p,R=>Nat×Nat×PS.dn p R
 |.ptr _ p,R=>PS.dn p R
 |.fptr t,R=>t.den×R
 |.fnA a b,R=>(a.den->Option b.den)×R
 |.clo _ l,R=>AM.dnL l R
 |.nilS,R=>R
def AM.dnL:List AM->Type->Type
 |[],R=>R
 |s::l,R=>AM.dn s (AM.dnL l R)
end
mutual
def AM.mk {R:Type}:(s:AM)->AM.dn s R->Slot×R
 |.undef,x=>(.undef,x)
 |.pv t,x=>(.pv ⟨t,x.1⟩,x.2)
 |.ref t n p,x=>let q:=PS.mk p x;(.ref t ⟨n,q.1⟩,q.2)
 |.vw e n p,x=>let q:=PS.mk p x.2.2;(.vw e ⟨n,q.1⟩ x.1 x.2.1,q.2)
 |.ptr n p,x=>let q:=PS.mk p x;(.ptr ⟨n,q.1⟩,q.2)
 |.fptr t,x=>(.fptr ⟨t,x.1⟩,x.2)
 |.fnA a b,x=>(.fnA a b x.1,x.2)
 |.clo f l,x=>let q:=AM.mkL l x;(.clo f q.1,q.2)
 |.nilS,x=>(.nilS,x)
def AM.mkL {R:Type}:(l:List AM)->AM.dnL l R->List Slot×R
 |[],x=>([],x)
 |s::l,x=>let q:=AM.mk s x;let q' :=AM.mkL l q.2;(q.1::q'.1,q'.2)
end
mutual
def AM.un {R:Type}:(s:AM)->Slot->R->(AM.dn s R->Option β)->Option β
 |.undef,.undef,x,k=>k x
 |.pv t,.pv d,x,k=>AI (t' :=t) d.x fun y=>k (y,x)
 |.ref t n p,.ref t' q,x,k=>match decide (t'=t)&&Nat.beq q.name n with
  |true=>PS.un p q.path x k
  |false=>none
 |.vw e n p,.vw e' q lo hi,x,k=>match decide (e'=e)&&Nat.beq q.name n with
  |true=>PS.un p q.path x fun y=>k (lo,hi,y)
  |false=>none
 |.ptr n p,.ptr q,x,k=>match Nat.beq q.name n with
  |true=>PS.un p q.path x k
  |false=>none
 |.fptr t,.fptr d,x,k=>AI (t' :=t) d.x fun y=>k (y,x)
 |.fnA a b,.fnA a' b' φ,x,k=>if h:a'=a/\b'=b then k (h.1▸h.2▸φ,x) else none
 |.clo f l,.clo f' l',x,k=>match Nat.beq f' f with
  |true=>AM.unL l l' x k
  |false=>none
 |.nilS,.nilS,x,k=>k x
 |_,_,_,_=>none
def AM.unL {R:Type}:(l:List AM)->List Slot->R->(AM.dnL l R->Option β)->Option β
 |[],[],x,k=>k x
 |s::l,s'::l',x,k=>AM.unL l l' x fun y=>AM.un s s' y k
 |_,_,_,_=>none
end
mutual
theorem AM.un_some {R:Type}:∀ (s:AM) (sl:Slot) (x:R) {k:AM.dn s R->Option β} {r:β},AM.un s sl x k=some r->∃ y,AM.mk s y=(sl,x)/\k y=some r
 |.undef,sl,x,k,r,h=>by
  cases sl<;>simp only [AM.un] at h<;>try (cases h;done)
  exact ⟨x,rfl,h⟩
 |.nilS,sl,x,k,r,h=>by
  cases sl<;>simp only [AM.un] at h<;>try (cases h;done)
  exact ⟨x,rfl,h⟩
 |.pv t,sl,x,k,r,h=>by
  cases sl<;>simp only [AM.un] at h<;>try (cases h;done)
  rename_i d;obtain ⟨e,h⟩:=As h;subst e;exact ⟨(d.x,x),rfl,h⟩
 |.fptr t,sl,x,k,r,h=>by
  cases sl<;>simp only [AM.un] at h<;>try (cases h;done)
  rename_i d;obtain ⟨e,h⟩:=As h;subst e;exact ⟨(d.x,x),rfl,h⟩
 |.fnA a b,sl,x,k,r,h=>by
  cases sl<;>simp only [AM.un] at h<;>try (cases h;done)
  split at h
  ·rename_i e;obtain ⟨rfl,rfl⟩:=e;exact ⟨(_,x),rfl,h⟩
  ·cases h
 |.ref t n p,sl,x,k,r,h=>by
  cases sl<;>simp only [AM.un] at h<;>try (cases h;done)
  rename_i t' q;split at h
  ·rename_i e;simp only [Ajb,Ajg] at e;obtain ⟨rfl,e⟩:=e;obtain ⟨y,h1,h2⟩:=PS.un_some p q.path x h;obtain ⟨qn,qp⟩:=q;exact ⟨y,by simp only [AM.mk,h1];rw [<-Nat.eq_of_beq_eq_true e],h2⟩
  ·cases h
 |.vw t n p,sl,x,k,r,h=>by
  cases sl<;>simp only [AM.un] at h<;>try (cases h;done)
  rename_i t' q lo hi;split at h
  ·rename_i e;simp only [Ajb,Ajg] at e;obtain ⟨rfl,e⟩:=e;obtain ⟨y,h1,h2⟩:=PS.un_some p q.path x (k:=fun y=>k (lo,hi,y)) h;obtain ⟨qn,qp⟩:=q;exact ⟨(lo,hi,y),by simp only [AM.mk,h1];rw [<-Nat.eq_of_beq_eq_true e],h2⟩
  ·cases h
 |.ptr n p,sl,x,k,r,h=>by
  cases sl<;>simp only [AM.un] at h<;>try (cases h;done)
  rename_i q;split at h
  ·rename_i e;obtain ⟨y,h1,h2⟩:=PS.un_some p q.path x h;obtain ⟨qn,qp⟩:=q;exact ⟨y,by simp only [AM.mk,h1];rw [<-Nat.eq_of_beq_eq_true e],h2⟩
  ·cases h
 |.clo f l,sl,x,k,r,h=>by
  cases sl<;>simp only [AM.un] at h<;>try (cases h;done)
  rename_i f' l';split at h
  ·rename_i e;obtain ⟨y,h1,h2⟩:=AM.unL_some l l' x h;exact ⟨y,by simp only [AM.mk,h1];rw [<-Nat.eq_of_beq_eq_true e],h2⟩
  ·cases h
theorem AM.unL_some {R:Type}:∀ (l:List AM) (sl:List Slot) (x:R) {k:AM.dnL l R->Option β} {r:β},AM.unL l sl x k=some r->∃ y,AM.mkL l y=(sl,x)/\k y=some r
 |[],[],x,k,r,h=>⟨x,rfl,h⟩
 |[],_::_,x,k,r,h=>by simp [AM.unL] at h
 |_::_,[],x,k,r,h=>by simp [AM.unL] at h
 |s::l,s'::l',x,k,r,h=>by
  simp only [AM.unL] at h;obtain ⟨y,h1,h⟩:=AM.unL_some l l' x h;obtain ⟨z,h2,h⟩:=AM.un_some s s' y h;exact ⟨z,by simp only [AM.mkL,h2,h1],h⟩
end
inductive WG where
 |data (boxed:Bool) (t:Ty) (sh:Sh)
 |held (s:AM)
def WG.dn:WG->Type->Type
 |.data _ t _,R=>t.den×R
 |.held s,R=>s.dn R
def WG.mk {R:Type}:(s:WG)->s.dn R->AV×R
 |.data b t sh,x=>(.data b ⟨t,x.1⟩ sh,x.2)
 |.held s,x=>let q:=s.mk x;(.held q.1,q.2)
def WG.un {R:Type}:(s:WG)->AV->R->(s.dn R->Option β)->Option β
 |.data b t sh,.data b' d sh',x,k=>match (b==b')&&decide (sh'=sh) with
  |true=>AI (t' :=t) d.x fun y=>k (y,x)
  |false=>none
 |.held s,.held s',x,k=>s.un s' x k
 |_,_,_,_=>none
theorem WG.un_some {R:Type}:∀ (s:WG) (ro:AV) (x:R) {k:s.dn R->Option β} {r:β},s.un ro x k=some r->∃ y,s.mk y=(ro,x)/\k y=some r
 |.held s,ro,x,k,r,h=>by
  cases ro<;>simp only [WG.un] at h<;>try (cases h;done)
  obtain ⟨y,h1,h2⟩:=s.un_some _ x h;exact ⟨y,by simp only [WG.mk,h1],h2⟩
 |.data b t sh,ro,x,k,r,h=>by
  cases ro<;>simp only [WG.un] at h<;>try (cases h;done)
  rename_i b' d sh';split at h
  ·rename_i e;simp only [Ajb,Ajg,beq_iff_eq] at e;obtain ⟨rfl,rfl⟩:=e;obtain ⟨e,h⟩:=As h;subst e;exact ⟨(d.x,x),rfl,h⟩
  ·cases h
def MF:List (Nat×AM)->Type->Type
 |[],R=>R
 |s::l,R=>s.2.dn (MF l R)
def PN {R:Type}:(l:List (Nat×AM))->MF l R->List (Nat×Slot)×R
 |[],x=>([],x)
 |s::l,x=>let q:=s.2.mk x;let q' :=PN l q.2;((s.1,q.1)::q'.1,q'.2)
def KQ {R:Type}:(l:List (Nat×AM))->List (Nat×Slot)->R->(MF l R->Option β)->Option β
 |[],[],x,k=>k x
 |s::l,s'::l',x,k=>match Nat.beq s'.1 s.1 with
  |true=>KQ l l' x fun y=>s.2.un s'.2 y k
  |false=>none
 |_,_,_,_=>none
theorem MG {R:Type}:∀ (l:List (Nat×AM)) (l':List (Nat×Slot)) (x:R) {k:MF l R->Option β} {r:β},KQ l l' x k=some r->∃ y,PN l y=(l',x)/\k y=some r
 |[],[],x,k,r,h=>⟨x,rfl,h⟩
 |[],_::_,x,k,r,h=>by simp [KQ] at h
 |_::_,[],x,k,r,h=>by simp [KQ] at h
 |(i,s)::l,(j,s')::l',x,k,r,h=>by
  simp only [KQ] at h;split at h
  ·rename_i e;obtain ⟨y,h1,h⟩:=MG l l' x h;obtain ⟨z,h2,h⟩:=s.un_some s' y h;exact ⟨z,by simp only [PN,h2,h1];rw [<-Nat.eq_of_beq_eq_true e],h⟩
  ·cases h
def Xm:List (Name×WG)->Type->Type
 |[],R=>R
 |s::l,R=>s.2.dn (Xm l R)
def aR {R:Type}:(l:List (Name×WG))->Xm l R->List (Name×AV)×R
 |[],x=>([],x)
 |s::l,x=>let q:=s.2.mk x;let q' :=aR l q.2;((s.1,q.1)::q'.1,q'.2)
def memUn {R:Type}:(l:List (Name×WG))->List (Name×AV)->R->(Xm l R->Option β)->Option β
 |[],[],x,k=>k x
 |s::l,s'::l',x,k=>match Nat.beq s'.1 s.1 with
  |true=>memUn l l' x fun y=>s.2.un s'.2 y k
  |false=>none
 |_,_,_,_=>none
theorem Rb {R:Type}:∀ (l:List (Name×WG)) (l':List (Name×AV)) (x:R) {k:Xm l R->Option β} {r:β},memUn l l' x k=some r->∃ y,aR l y=(l',x)/\k y=some r
 |[],[],x,k,r,h=>⟨x,rfl,h⟩
 |[],_::_,x,k,r,h=>by simp [memUn] at h
 |_::_,[],x,k,r,h=>by simp [memUn] at h
 |(i,s)::l,(j,s')::l',x,k,r,h=>by
  simp only [memUn] at h;split at h
  ·rename_i e;obtain ⟨y,h1,h⟩:=Rb l l' x h;obtain ⟨z,h2,h⟩:=s.un_some s' y h;exact ⟨z,by simp only [aR,h2,h1];rw [<-Nat.eq_of_beq_eq_true e],h⟩
  ·cases h
structure eG where
 slots:List (Nat×AM)
 mem:List (Name×WG)
def eG.den (S:eG):Type:=MF S.slots (Xm S.mem Unit)
def eG.mk' (S:eG) (x:S.den):St:=let q:=PN S.slots x;⟨q.1,(aR S.mem q.2).1⟩
def eG.un (S:eG) (σ:St) (k:S.den->Option β):Option β:=
 memUn S.mem σ.mem () fun y=>KQ S.slots σ.slots y k
theorem eG.un_some (S:eG) (σ:St) {k:S.den->Option β} {r:β} (h:S.un σ k=some r):∃ x,S.mk' x=σ/\k x=some r:=by
 obtain ⟨y,h1,h⟩:=Rb S.mem σ.mem () h;obtain ⟨x,h2,h⟩:=MG S.slots σ.slots y h;exact ⟨x,by simp only [eG.mk',h2,h1],h⟩
def iter {X:Type} (R:(X->Option β)->X->Option β):Nat->X->Option β
 |0,_=>none
 |k+1,x=>R (iter R k) x
noncomputable def Af:Nat:=Classical.choose (⟨18446744073709551616,rfl⟩:∃ n,n=18446744073709551616)
theorem MH:Af=18446744073709551616:=Classical.choose_spec (⟨18446744073709551616,rfl⟩:∃ n,n=18446744073709551616)
structure At (β:Type) where
 id:Nat
 sh:eG
 R:Gw β->(sh.den->Option β)->sh.den->Option β
def Rc:List (At β)->Nat->Option (At β)
 |[],_=>none
 |L::l,i=>match Nat.beq L.id i with | true=>some L | false=>Rc l i
noncomputable def Gk (tbl:List (At β)) (i:Nat) (κ:Gw β) (σ:St):Option β:=
 match Rc tbl i with
 |some L=>L.sh.un σ fun x=>iter (L.R κ) Af x
 |none=>none
def Cu:Code->List Code
 |.seq a b=>Cu a++Cu b
 |.cond _ a b=>Cu a++Cu b
 |.block _ c=>Cu c
 |.loop c=>c::Cu c
 |_=>[]
def aS (env:Bf) (tbl:List (At β)) (c:Code):Prop:=
 Rc tbl (CJ c)=none\/∃ L,Rc tbl (CJ c)=some L/\∀ (κ:Gw β) (N:St->Option β) (x:L.sh.den),
  execK env (Gk tbl) c {κ with normal:=fun σ=>N (σ.keepAt env.hints (CJ c))} (L.sh.mk' x)=L.R κ (fun x=>N (L.sh.mk' x)) x
theorem Xn {env:Bf} {tbl:List (At β)} {c:Code} {L:At β}
  (h:∀ (κ:Gw β) (N:St->Option β) (x:L.sh.den),execK env (Gk tbl) c {κ with normal:=fun σ=>N (σ.keepAt env.hints (CJ c))} (L.sh.mk' x)=L.R κ (fun x=>N (L.sh.mk' x)) x)
  (κ:Gw β):∀ k x,QB env.hints (CJ c) (execK env (Gk tbl) c) κ k (L.sh.mk' x)=iter (L.R κ) k x
 |0,_=>rfl
 |k+1,x=>by
  refine (h κ (QB env.hints (CJ c) (execK env (Gk tbl) c) κ k) x).trans ?_;exact congrArg (fun f=>L.R κ f x) (funext fun y=>Xn h κ k y)
theorem KR {env:Bf} {tbl:List (At β)}:∀ {c:Code},(∀ b,b∈Cu c->aS env tbl b)->Dl env (Gk tbl) c:=by
 intro c;induction c with
 |seq a b iha ihb=>intro h;exact ⟨iha fun x hx=>h x (List.mem_append.2 (.inl hx)),ihb fun x hx=>h x (List.mem_append.2 (.inr hx))⟩
 |cond v a b iha ihb=>intro h;exact ⟨iha fun x hx=>h x (List.mem_append.2 (.inl hx)),ihb fun x hx=>h x (List.mem_append.2 (.inr hx))⟩
 |block id c ih=>intro h;exact ih h
 |loop c ih=>
  intro h;refine ⟨ih fun x hx=>h x (List.mem_cons_of_mem _ hx),?_⟩;intro κ σ r hr;rcases h c (List.mem_cons_self ..) with hN | ⟨L,hL,hR⟩
  ·unfold Gk at hr;rw [hN] at hr;cases hr
  unfold Gk at hr;rw [hL] at hr;dsimp only at hr;obtain ⟨x,hx,hq⟩:=L.sh.un_some σ hr;exact ⟨Af,by rw [<-hx];exact (Xn hR κ Af x).trans hq⟩
 |_=>intro _;trivial
end Go.V
namespace Go.V
def Ty.zcells:Ty->List Value
 |.int k=>[.int k 0]
 |.bool=>[.bool false]
 |.str=>[.string ⟨#[]⟩]
 |.unit=>[]
 |.pair a b=>a.zcells++b.zcells
 |.slice _=>[.slice none 0 0]
theorem Ie {w:World} {O:Ab}:∀ (t:Ty) (sh:Sh),t.flat=true->Rep w O t sh t.zero t.zcells Ab.none
 |.int k,_,_=>⟨rfl,fun _ h=>h⟩
 |.bool,_,_=>⟨rfl,fun _ h=>h⟩
 |.str,_,_=>⟨rfl,fun _ h=>h⟩
 |.unit,_,_=>⟨rfl,fun _ h=>h⟩
 |.pair a b,sh,h=>by
  simp only [Ty.flat,Ajb] at h;exact ⟨a.zcells,b.zcells,Ab.none,Ab.none,rfl,Ie a sh.l h.1,Ie b sh.r h.2,fun b=>⟨.inl,fun h=>h.elim id id⟩,fun _ h=>h.1⟩
 |.slice _,_,h=>by simp [Ty.flat] at h
theorem Rd {w:World} {O:Ab}:∀ (t:Ty),Rep w O t t.ownAll t.zero t.zcells Ab.none
 |.int k=>⟨rfl,fun _ h=>h⟩
 |.bool=>⟨rfl,fun _ h=>h⟩
 |.str=>⟨rfl,fun _ h=>h⟩
 |.unit=>⟨rfl,fun _ h=>h⟩
 |.slice _=>.inl ⟨rfl,rfl,fun _ h=>h⟩
 |.pair a b=>by
  cases hf:(Ty.pair a b).flat with
  |true=>exact Ie _ _ hf
  |false=>
   simp only [Ty.flat] at hf;have e:(Ty.pair a b).ownAll = .pr a.ownAll b.ownAll:=by simp only [Ty.ownAll,hf,Bool.false_eq_true,if_false]
   rw [e];exact ⟨a.zcells,b.zcells,Ab.none,Ab.none,rfl,Rd a,Rd b,fun b=>⟨.inl,fun h=>h.elim id id⟩,fun _ h=>h.1⟩
def Re:Value->Value->Bool
 |.int k n,.int k' n' =>decide (k=k')&&decide (n=n')
 |.bool a,.bool b=>a==b
 |.string a,.string b=>a.data.toList.isEmpty&&b.data.toList.isEmpty
 |.slice none 0 0,.slice none 0 0=>true
 |_,_=>false
theorem Xo {a b:Value} (h:Re a b=true):a=b:=by
 unfold Re at h;split at h
 ·simp only [Ajb,Ajg] at h;rw [h.1,h.2]
 ·simp only [beq_iff_eq] at h;rw [h]
 ·rename_i a b;simp only [Ajb,List.isEmpty_iff] at h;obtain ⟨⟨a⟩⟩:=a;obtain ⟨⟨b⟩⟩:=b;simp only at h;rw [h.1,h.2]
 ·rfl
 ·cases h
def Gl:List Value->List Value->Bool
 |[],[]=>true
 |a::l,b::m=>Re a b&&Gl l m
 |_,_=>false
theorem Je:∀ {l m:List Value},Gl l m=true->l=m
 |[],[],_=>rfl
 |a::l,b::m,h=>by
  simp only [Gl,Ajb] at h;rw [Xo h.1,Je h.2]
 |[],_::_,h=>by simp [Gl] at h
 |_::_,[],h=>by simp [Gl] at h
def fy (t:Ty) (z:Option Value):Bool:=
 match z with
 |some v=>match t.agg with
  |true=>match v with
   |.agg cs=>Gl cs.toList t.zcells
   |_=>false
  |false=>Gl [v] t.zcells
 |none=>false
theorem fz {t:Ty} {z:Option Value} (h:fy t z=true):∃ v cs,z=some v/\C_ t v cs/\∀ w O,Rep w O t t.ownAll t.zero cs Ab.none:=by
 unfold fy at h;split at h
 case h_2=>cases h
 case h_1 v=>
  refine ⟨v,t.zcells,rfl,?_,fun w O=>Rd t⟩;unfold C_;split at h
  ·rename_i ha;rw [ha];split at h
   ·rw [<-Je h]
   ·cases h
  ·rename_i ha;rw [ha];exact (Je h).symm
def aT (P:Program) (t:Ty) (i:TypeId):Bool:=
 match P.info? i with
 |some f=>Nat.beq f.size t.size&&(Nat.ble f.bytes 32768&&fy t f.zero)
 |none=>false
theorem Xp {P:Program} {t:Ty} {i:TypeId} (h:aT P t i=true) :
  ∃ f,P.info? i=some f/\f.size=t.size/\f.bytes<=32768/\∃ z cs,f.zero=some z/\C_ t z cs/\∀ w O,Rep w O t t.ownAll t.zero cs Ab.none:=by
 unfold aT at h;split at h
 ·rename_i f hf;simp only [Ajb] at h;exact ⟨f,hf,Nat.eq_of_beq_eq_true h.1,Nat.le_of_ble_eq_true h.2.1,fz h.2.2⟩
 ·cases h
def Tw (P:Program):Ty->(TypeId->Bool)×(List Field->Nat->Bool)
 |.int k=>(fun i=>match P.underlying i with | some (.int k')=>decide (k'=k) | _=>false,fun _ _=>false)
 |.bool=>(fun i=>match P.underlying i with | some .bool=>true | _=>false,fun _ _=>false)
 |.str=>(fun i=>match P.underlying i with | some .string=>true | _=>false,fun _ _=>false)
 |.slice e=>(fun i=>match P.underlying i with | some (.slice j)=>(Tw P e).1 j&&aT P e j | _=>false,fun _ _=>false)
 |.unit=>(fun i=>match P.underlying i with | some (.struct fs)=>!P.stoodInHeld i&&fs.toList.isEmpty | _=>false,fun fs _=>fs.isEmpty)
 |.pair a b=>
  let q:List Field->Nat->Bool:=fun fs off=>match fs with
   | f :: r => Nat.beq f.offset off && (!(f.name == "_") && ((Tw P a).1 f.type && ((match P.info? f.type with | some i => Nat.beq i.size a.size | none => false) && (Tw P b).2 r (off + a.size))))
   |[]=>false
  (fun i=>match P.underlying i with | some (.struct fs)=>!P.stoodInHeld i&&q fs.toList 0 | _=>false,q)
theorem nS {P:Program}:∀ {t:Ty},(∀ {i:TypeId},(Tw P t).1 i=true->(Bw P t).1 i)/\(∀ {fs:List Field} {off:Nat},(Tw P t).2 fs off=true->(Bw P t).2 fs off):=by
 intro t;induction t with
 |int k=>
  refine ⟨fun {i} h=>?_,fun h=>by simp [Tw] at h⟩;simp only [Tw] at h;split at h
  ·rename_i k' hk;simp only [Ajg] at h;subst h;exact hk
  ·cases h
 |bool=>
  refine ⟨fun {i} h=>?_,fun h=>by simp [Tw] at h⟩;simp only [Tw] at h;split at h
  ·rename_i hk;exact hk
  ·cases h
 |str=>
  refine ⟨fun {i} h=>?_,fun h=>by simp [Tw] at h⟩;simp only [Tw] at h;split at h
  ·rename_i hk;exact hk
  ·cases h
 |slice e ih=>
  refine ⟨fun {i} h=>?_,fun h=>by simp [Tw] at h⟩;simp only [Tw] at h;split at h
  ·rename_i j hj;simp only [Ajb] at h;exact ⟨j,hj,ih.1 h.1,Xp h.2⟩
  ·cases h
 |unit=>
  refine ⟨fun {i} h=>?_,fun {fs off} h=>?_⟩
  ·simp only [Tw] at h;split at h
   ·rename_i fs hk;simp only [Ajb,Bool.not_eq_true',List.isEmpty_iff] at h;exact ⟨fs,hk,h.1,h.2⟩
   ·cases h
  ·simp only [Tw,List.isEmpty_iff] at h;exact h
 |pair a b iha ihb=>
  have hq:∀ {fs:List Field} {off:Nat},(Tw P (.pair a b)).2 fs off=true->(Bw P (.pair a b)).2 fs off:=by
   intro fs off h;simp only [Tw] at h;split at h
   ·rename_i f r;simp only [Ajb,Bool.not_eq_true'] at h;obtain ⟨h1,h2,h3,h4,h5⟩:=h;refine ⟨f,r,rfl,Nat.eq_of_beq_eq_true h1,?_,iha.1 h3,?_,ihb.2 h5⟩
    ·intro e;rw [e] at h2;simp at h2
    ·split at h4
     ·rename_i i hi;exact ⟨i,hi,Nat.eq_of_beq_eq_true h4⟩
     ·cases h4
   ·cases h
  refine ⟨fun {i} h=>?_,hq⟩;simp only [Tw] at h;split at h
  ·rename_i fs hk;rw [Ajb,Bool.not_eq_true'] at h;exact ⟨fs,hk,h.1,hq (by simp only [Tw];exact h.2)⟩
  ·cases h
def f0 (P:Program) (i:TypeId) (t:Ty):Bool:=
 (Tw P t).1 i&&((!t.flat || !(P.eqGuardType P.depth i))&&(Nat.ble t.dep 10000&&aT P t i))
theorem f7 {P:Program} {i:TypeId} {t:Ty} (h:f0 P i t=true):V.TyOk P i t:=by
 unfold f0 at h;simp only [Ajb] at h;obtain ⟨h1,h2,h3,h4⟩:=h;obtain ⟨f,hf,hs,hb,hz⟩:=Xp h4;refine ⟨nS.1 h1,fun hfl=>?_,Nat.le_of_ble_eq_true h3,f,hf,hs,hb,hz⟩;rw [hfl] at h2;simpa using h2
def nT (P:Program) (i:TypeId):Bool:=
 (match P.underlying i with | some (.pointer _) | some (.func _ _ _)=>true | _=>false) &&
 match P.info? i with
 |some f=>Nat.beq f.size 1&&(match f.zero with | some (.agg _)=>false | some _=>true | none=>false)
 |none=>false
theorem jv {P:Program} {i:TypeId} (h:nT P i=true):(∀ w,(isAgg i).run P w = .ok false w)/\∃ f,P.info? i=some f/\f.size=1/\∃ z,f.zero=some z/\∀ cs,z≠.agg cs:=by
 unfold nT at h;rw [Ajb] at h;obtain ⟨h1,h2⟩:=h;constructor
 ·intro w;unfold isAgg;split at h1
  ·rename_i hu;simp [run_underlying hu]
  ·rename_i hu;simp [run_underlying hu]
  ·cases h1
 ·split at h2
  ·rename_i f hf;rw [Ajb] at h2;refine ⟨f,hf,Nat.eq_of_beq_eq_true h2.1,?_⟩;have h3:=h2.2;split at h3
   ·cases h3
   ·rename_i z hz hn;exact ⟨_,hn,fun cs e=>hz cs e⟩
   ·cases h3
  ·cases h2
def Et (l:List (TypeId×Ty)) (i:TypeId):Option Ty:=look l i
theorem KS {α:Type}:∀ {l:List (Nat×α)} {i:Nat} {a:α},look l i=some a->(i,a)∈l
 |[],i,a,h=>by simp [look] at h
 |(j,b)::l,i,a,h=>by
  simp only [look] at h;split at h
  ·rename_i e;injection h with h
   rw [h,Nat.eq_of_beq_eq_true e];exact List.mem_cons_self ..
  ·exact List.mem_cons_of_mem _ (KS h)
def CK (m:List TypeId) (i:TypeId):Bool:=m.any (Nat.beq i)
def nU (P:Program) (l:List (TypeId×Ty)) (m:List TypeId):Bool:=l.all (fun x=>f0 P x.1 x.2)&&m.all (nT P)
theorem tysC_ok {P:Program} {l:List (TypeId×Ty)} {m:List TypeId} (h:nU P l m=true) {env:Bf} (h1:env.ty=Et l) (h2:env.one=CK m):env.TyOk P:=by
 unfold nU at h;rw [Ajb,List.all_eq_true,List.all_eq_true] at h;constructor
 ·intro i t hi;rw [h1] at hi;exact f7 (h.1 _ (KS hi))
 ·intro i hi;rw [h2] at hi;simp only [CK,List.any_eq_true] at hi;obtain ⟨j,hj,e⟩:=hi;rw [Nat.eq_of_beq_eq_true e];exact jv (h.2 _ hj)
def Dj (l:List (FuncId×Av)) (f:FuncId):Option Av:=look l f
theorem Av.not_both {f:Av} (h:f.quiet=true):f.fresh=false:=by
 obtain ⟨ps,rs,F⟩:=f;unfold Av.quiet at h;unfold Av.fresh;cases rs with
 |nil=>simp
 |cons x rs=>
  obtain ⟨t,sh⟩:=x;simp only [Ajb,List.all_cons,Ajg] at h;rw [h.1.2.1];simp
inductive Ho (P:Program):List (FuncId×Av)->Prop where
 |nil:Ho P []
 |cons {f:FuncId} {fu:Av} {l:List (FuncId×Av)} (h:Aa P f fu) (r:Ho P l) (hq:fu.quiet=true:=by rfl):Ho P ((f,fu)::l)
 |consIo {f:FuncId} {fu:Av} {l:List (FuncId×Av)} (h:IoOk P f fu) (r:Ho P l) (hq:fu.quiet=false:=by rfl) (hr:fu.fresh=false:=by rfl):Ho P ((f,fu)::l)
 |consFr {f:FuncId} {fu:Av} {l:List (FuncId×Av)} (h:AO P f fu) (r:Ho P l) (hq:fu.quiet=false:=by rfl) (hr:fu.fresh=true:=by rfl):Ho P ((f,fu)::l)
theorem Ho.mem {P:Program} {l:List (FuncId×Av)} (h:Ho P l):∀ {f fu},(f,fu)∈l->(fu.quiet=true->Aa P f fu)/\(fu.quiet=false->fu.fresh=false->IoOk P f fu)/\(fu.fresh=true->AO P f fu):=by
 induction h with
 |nil=>intro f fu h;cases h
 |cons hq _ hqq ih=>
  intro f fu h;cases h with
  |head=>exact ⟨fun _=>hq,(fun e=>by rw [hqq] at e;cases e),fun e=>by rw [Av.not_both hqq] at e;cases e⟩
  |tail _ h=>exact ih h
 |consIo hq _ hqq hr ih=>
  intro f fu h;cases h with
  |head=>exact ⟨fun e=>(by rw [hqq] at e;cases e),fun _ _=>hq,fun e=>by rw [hr] at e;cases e⟩
  |tail _ h=>exact ih h
 |consFr hq _ hqq hr ih=>
  intro f fu h;cases h with
  |head=>exact ⟨fun e=>(by rw [hqq] at e;cases e),fun _ e=>(by rw [hr] at e;cases e),fun _=>hq⟩
  |tail _ h=>exact ih h
inductive JF (P:Program):List (FuncId×Av)->Prop where
 |nil:JF P []
 |cons {f:FuncId} {fu:Av} {l:List (FuncId×Av)} (h:Tg P f fu) (r:JF P l):JF P ((f,fu)::l)
theorem JF.mem {P:Program} {l:List (FuncId×Av)} (h:JF P l):∀ {f fu},(f,fu)∈l->Tg P f fu:=by
 induction h with
 |nil=>intro f fu h;cases h
 |cons hq _ ih=>
  intro f fu h;cases h with
  |head=>exact hq
  |tail _ h=>exact ih h
theorem Ho.fnOk {P:Program} {l:List (FuncId×Av)} (h:Ho P l) {env:Bf} (he:env.fn=Dj l) (hx:JF P env.ext:=by exact .nil):env.FnOk P:=by
 refine ⟨?_,fun f fu hf=>hx.mem (KS hf)⟩;intro f fu hf;rw [he] at hf;exact h.mem (KS hf)
end Go.V
namespace Go.V
variable {α β:Type}
def gd (c:Bool) (k:Option α):Option α:=match c with | true=>k | false=>none
@[simp] theorem Dt (k:Option α):gd true k=k:=rfl
@[simp] theorem rH (k:Option α):gd false k=none:=rfl
inductive Bx (env:Bf) (tbl:List (At β)):List Code->Prop where
 |nil:Bx env tbl []
 |cons {c:Code} {l:List Code} (L:At β) (hL:Rc tbl (CJ c)=some L)
   (h:∀ (κ:Gw β) (N:St->Option β) (x:L.sh.den),execK env (Gk tbl) c {κ with normal:=fun σ=>N (σ.keepAt env.hints (CJ c))} (L.sh.mk' x)=L.R κ (fun x=>N (L.sh.mk' x)) x)
   (r:Bx env tbl l):Bx env tbl (c::l)
 |skip {c:Code} {l:List Code} (hL:Rc tbl (CJ c)=none) (r:Bx env tbl l):Bx env tbl (c::l)
theorem Bx.all {env:Bf} {tbl:List (At β)} {l:List Code} (h:Bx env tbl l):∀ b,b∈l->aS env tbl b:=by
 induction h with
 |nil=>intro b hb;cases hb
 |cons L hL hr _ ih=>
  intro b hb;cases hb with
  |head=>exact .inr ⟨L,hL,hr⟩
  |tail _ h=>exact ih b h
 |skip hL _ ih=>
  intro b hb;cases hb with
  |head=>exact .inl hL
  |tail _ h=>exact ih b h
def CZ (c:Code) (k:Nat):Code:=((Cu c)[k]?).getD .skip
theorem rI {P:Program} {env:Bf} {f:FuncId} {fn:Func} {c:Code} {ps:List PM} {rs:List (Ty×Sh)} {F:Args ps->Option (CB (rs.map (·.1)++Bh ps))}
  {tbl:List (At (CB (rs.map (·.1)++Bh ps)))} {ls:List Code} {vars:List ResultVar}
  (hf:P.funcs[f]? = some fn) (hty:env.TyOk P) (hfn:env.FnOk P) (hmk:env.marks=[])
  (hb : fn.body = some c) (hname : fn.name ≠ "runtime.NumGoroutine")
  (hn:env.n=fn.ntmps) (hps:ps.length<=fn.ntmps) (hio:Bh ps=[]) (hrs:(rs.all fun x=>decide (x.2 = .z))=true)
  (hv:fn.results.toList=vars)
  (hls:Cu c=ls) (hlp:Bx env tbl ls)
  (he:GR env ps rs (Gk tbl) c vars=F):Aa P f ⟨ps,rs,F⟩:=by
 subst he;subst hv;exact ft hf hb hname hty hfn hmk hn ps rs hps hio hrs (Gk tbl) (KR (by rw [hls];exact hlp.all))
theorem nV {P:Program} {env:Bf} {f:FuncId} {fn:Func} {c:Code} {ps:List PM} {t:Ty} {sh:Sh} {rs:List (Ty×Sh)} {F:Args ps->Option (CB (((t,sh)::rs).map (·.1)++Bh ps))}
  {tbl:List (At (CB (((t,sh)::rs).map (·.1)++Bh ps)))} {ls:List Code} {vars:List ResultVar}
  (hf:P.funcs[f]? = some fn) (hty:env.TyOk P) (hfn:env.FnOk P) (hmk:env.marks=[])
  (hb : fn.body = some c) (hname : fn.name ≠ "runtime.NumGoroutine")
  (hn:env.n=fn.ntmps) (hps:ps.length<=fn.ntmps) (hio:Bh ps=[]) (hsh:sh≠.z) (hg:sh≠.gone) (hrs:(rs.all fun x=>decide (x.2 = .z))=true)
  (hv:fn.results.toList=vars)
  (hls:Cu c=ls) (hlp:Bx env tbl ls)
  (he:GR env ps ((t,sh)::rs) (Gk tbl) c vars=F):AO P f ⟨ps,(t,sh)::rs,F⟩:=by
 subst he;subst hv;exact fv hf hb hname hty hfn hmk hn ps t sh rs hps hio hsh hg hrs (Gk tbl) (KR (by rw [hls];exact hlp.all))
theorem nW {P:Program} {env:Bf} {f:FuncId} {fn:Func} {c:Code} {ps:List PM} {t:Ty} {rs:List (Ty×Sh)} {F:Args ps->Option (CB (((t,.gone)::rs).map (·.1)++Bh ps))}
  {tbl:List (At (CB (((t,.gone)::rs).map (·.1)++Bh ps)))} {ls:List Code} {vars:List ResultVar}
  (hf:P.funcs[f]? = some fn) (hty:env.TyOk P) (hfn:env.FnOk P) (hmk:env.marks=[])
  (hb : fn.body = some c) (hname : fn.name ≠ "runtime.NumGoroutine")
  (hn:env.n=fn.ntmps) (hps:ps.length<=fn.ntmps) (hio:Bh ps=[]) (hrs:(rs.all fun x=>decide (x.2 = .z))=true)
  (hv:fn.results.toList=vars)
  (hls:Cu c=ls) (hlp:Bx env tbl ls)
  (he:GR env ps ((t,.gone)::rs) (Gk tbl) c vars=F):AO P f ⟨ps,(t,.gone)::rs,F⟩:=by
 subst he;subst hv;exact nR hf hb hname hty hfn hmk hn ps t rs hps hio hrs (Gk tbl) (KR (by rw [hls];exact hlp.all))
theorem nX {P:Program} {env:Bf} {f:FuncId} {fn:Func} {c:Code} {t:Ty} {ps:List PM} {rs:List (Ty×Sh)} {F:Args (.io t .z::ps)->Option (CB (rs.map (·.1)++Bh (.io t .z::ps)))}
  {tbl:List (At (CB (rs.map (·.1)++Bh (.io t .z::ps))))} {ls:List Code} {vars:List ResultVar}
  (hf:P.funcs[f]? = some fn) (hty:env.TyOk P) (hfn:env.FnOk P) (hmk:env.marks=[])
  (hb : fn.body = some c) (hname : fn.name ≠ "runtime.NumGoroutine")
  (hn:env.n=fn.ntmps) (hps:ps.length+1<=fn.ntmps) (hno:IS ps=true) (hrs:(rs.all fun x=>decide (x.2 = .z))=true)
  (hv:fn.results.toList=vars)
  (hls:Cu c=ls) (hlp:∀ p,Bx {env with pin:=p} tbl ls)
  (he:∀ p,GR {env with pin:=p} (.io t .z::ps) rs (Gk tbl) c vars=F):IoOk P f ⟨.io t .z::ps,rs,F⟩:=by
 subst hv;exact rE hf hb hname hty hfn hmk hn t ps rs hps hno hrs F (Gk tbl) (fun p=>KR (by rw [hls];exact (hlp p).all)) he
theorem nZ {P:Program} {env:Bf} {f:FuncId} {fn:Func} {c:Code} {t:Ty} {sh:Sh} {ps:List PM} {rs:List (Ty×Sh)} {F:Args (.tk t sh::ps)->Option (CB (rs.map (·.1)++Bh (.tk t sh::ps)))}
  {tbl:List (At (CB (rs.map (·.1)++Bh (.tk t sh::ps))))} {ls:List Code} {vars:List ResultVar}
  (hf:P.funcs[f]? = some fn) (hty:env.TyOk P) (hfn:env.FnOk P) (hmk:env.marks=[])
  (hb : fn.body = some c) (hname : fn.name ≠ "runtime.NumGoroutine")
  (hn:env.n=fn.ntmps) (hps:ps.length+1<=fn.ntmps) (hno:IS ps=true) (hrs:(rs.all fun x=>x.1.flat&&decide (x.2 = .z))=true)
  (hv:fn.results.toList=vars)
  (hls:Cu c=ls) (hlp:Bx env tbl ls)
  (he:GR env (.tk t sh::ps) rs (Gk tbl) c vars=F) (hp:env.pin = .none:=by rfl):IoOk P f ⟨.tk t sh::ps,rs,F⟩:=by
 subst he;subst hv;exact rF hf hb hname hty hfn hmk hn t sh ps rs hps hno hrs (Gk tbl) (KR (by rw [hls];exact hlp.all)) hp
def KT (env:Bf) (tbl:List (At β)) (L:At β) (c:Code):Prop:=
 ∀ (κ:Gw β) (N:St->Option β) (x:L.sh.den),execK env (Gk tbl) c {κ with normal:=fun σ=>N (σ.keepAt env.hints (CJ c))} (L.sh.mk' x)=L.R κ (fun x=>N (L.sh.mk' x)) x
theorem tQ {P:Program} {f:FuncId} {fn:Func} {ps:List PM} {rs:List (Ty×Sh)} {F:Args ps->Option (CB (rs.map (·.1)++Bh ps))} {l:List (FuncId×Av)} (env:Bf) (tbl:List (At (CB (rs.map (·.1)++Bh ps)))) (ls:List Code)
  (hf:P.funcs[f]? = some fn) (hty:env.TyOk P) (hl:Ho P l) (hlp:Bx env tbl ls) (hx:JF P env.ext:=by exact .nil) (he1:env.fn=Dj l:=by rfl) (hmk:env.marks=[]:=by rfl)
  (hb : fn.body = some (Bq fn) := by kernel_rfl) (hname : fn.name ≠ "runtime.NumGoroutine" := by decide) (hn : env.n = fn.ntmps := by rfl) (hps : ps.length <= fn.ntmps := by decide) (hio : Bh ps = [] := by rfl)
  (hrs:(rs.all fun x=>decide (x.2 = .z))=true:=by rfl) (hls:Cu (Bq fn)=ls:=by kernel_rfl) (he:GR env ps rs (Gk tbl) (Bq fn) fn.results.toList=F:=by kernel_rfl):Aa P f ⟨ps,rs,F⟩:=
 rI hf hty (Ho.fnOk hl he1 hx) hmk hb hname hn hps hio hrs rfl hls hlp he
theorem tF {P:Program} {f:FuncId} {fn:Func} {ps:List PM} {t:Ty} {sh:Sh} {rs:List (Ty×Sh)} {F:Args ps->Option (CB (((t,sh)::rs).map (·.1)++Bh ps))} {l:List (FuncId×Av)} (env:Bf) (tbl:List (At (CB (((t,sh)::rs).map (·.1)++Bh ps)))) (ls:List Code)
  (hf:P.funcs[f]? = some fn) (hty:env.TyOk P) (hl:Ho P l) (hlp:Bx env tbl ls) (hx:JF P env.ext:=by exact .nil) (he1:env.fn=Dj l:=by rfl) (hmk:env.marks=[]:=by rfl)
  (hb : fn.body = some (Bq fn) := by kernel_rfl) (hname : fn.name ≠ "runtime.NumGoroutine" := by decide) (hn : env.n = fn.ntmps := by rfl) (hps : ps.length <= fn.ntmps := by decide) (hio : Bh ps = [] := by rfl) (hsh : sh ≠ .z := by decide) (hg : sh ≠ .gone := by decide)
  (hrs:(rs.all fun x=>decide (x.2 = .z))=true:=by rfl) (hls:Cu (Bq fn)=ls:=by kernel_rfl) (he:GR env ps ((t,sh)::rs) (Gk tbl) (Bq fn) fn.results.toList=F:=by kernel_rfl):AO P f ⟨ps,(t,sh)::rs,F⟩:=
 nV hf hty (Ho.fnOk hl he1 hx) hmk hb hname hn hps hio hsh hg hrs rfl hls hlp he
theorem tN {P:Program} {f:FuncId} {fn:Func} {ps:List PM} {t:Ty} {rs:List (Ty×Sh)} {F:Args ps->Option (CB (((t,.gone)::rs).map (·.1)++Bh ps))} {l:List (FuncId×Av)} (env:Bf) (tbl:List (At (CB (((t,.gone)::rs).map (·.1)++Bh ps)))) (ls:List Code)
  (hf:P.funcs[f]? = some fn) (hty:env.TyOk P) (hl:Ho P l) (hlp:Bx env tbl ls) (hx:JF P env.ext:=by exact .nil) (he1:env.fn=Dj l:=by rfl) (hmk:env.marks=[]:=by rfl)
  (hb : fn.body = some (Bq fn) := by kernel_rfl) (hname : fn.name ≠ "runtime.NumGoroutine" := by decide) (hn : env.n = fn.ntmps := by rfl) (hps : ps.length <= fn.ntmps := by decide) (hio : Bh ps = [] := by rfl)
  (hrs:(rs.all fun x=>decide (x.2 = .z))=true:=by rfl) (hls:Cu (Bq fn)=ls:=by kernel_rfl) (he:GR env ps ((t,.gone)::rs) (Gk tbl) (Bq fn) fn.results.toList=F:=by kernel_rfl):AO P f ⟨ps,(t,.gone)::rs,F⟩:=
 nW hf hty (Ho.fnOk hl he1 hx) hmk hb hname hn hps hio hrs rfl hls hlp he
theorem tI {P:Program} {f:FuncId} {fn:Func} {t:Ty} {ps:List PM} {rs:List (Ty×Sh)} {F:Args (.io t .z::ps)->Option (CB (rs.map (·.1)++Bh (.io t .z::ps)))} {l:List (FuncId×Av)} (env:Bf) (tbl:List (At (CB (rs.map (·.1)++Bh (.io t .z::ps))))) (ls:List Code)
  (hf:P.funcs[f]? = some fn) (hty:env.TyOk P) (hl:Ho P l) (hlp:∀ p,Bx {env with pin:=p} tbl ls) (hx:JF P env.ext:=by exact .nil) (he1:env.fn=Dj l:=by rfl) (hmk:env.marks=[]:=by rfl)
  (hb : fn.body = some (Bq fn) := by kernel_rfl) (hname : fn.name ≠ "runtime.NumGoroutine" := by decide) (hn : env.n = fn.ntmps := by rfl) (hps : ps.length + 1 <= fn.ntmps := by decide) (hno : IS ps = true := by rfl)
  (hrs:(rs.all fun x=>decide (x.2 = .z))=true:=by rfl) (hls:Cu (Bq fn)=ls:=by kernel_rfl) (he:∀ p,GR {env with pin:=p} (.io t .z::ps) rs (Gk tbl) (Bq fn) fn.results.toList=F:=by intro p;kernel_rfl):IoOk P f ⟨.io t .z::ps,rs,F⟩:=
 nX hf hty (Ho.fnOk hl he1 hx) hmk hb hname hn hps hno hrs rfl hls hlp he
theorem tK {P:Program} {f:FuncId} {fn:Func} {t:Ty} {sh:Sh} {ps:List PM} {rs:List (Ty×Sh)} {F:Args (.tk t sh::ps)->Option (CB (rs.map (·.1)++Bh (.tk t sh::ps)))} {l:List (FuncId×Av)} (env:Bf) (tbl:List (At (CB (rs.map (·.1)++Bh (.tk t sh::ps))))) (ls:List Code)
  (hf:P.funcs[f]? = some fn) (hty:env.TyOk P) (hl:Ho P l) (hlp:Bx env tbl ls) (hx:JF P env.ext:=by exact .nil) (he1:env.fn=Dj l:=by rfl) (hmk:env.marks=[]:=by rfl)
  (hb : fn.body = some (Bq fn) := by kernel_rfl) (hname : fn.name ≠ "runtime.NumGoroutine" := by decide) (hn : env.n = fn.ntmps := by rfl) (hps : ps.length + 1 <= fn.ntmps := by decide) (hno : IS ps = true := by rfl)
  (hrs:(rs.all fun x=>x.1.flat&&decide (x.2 = .z))=true:=by rfl) (hls:Cu (Bq fn)=ls:=by kernel_rfl) (he:GR env (.tk t sh::ps) rs (Gk tbl) (Bq fn) fn.results.toList=F:=by kernel_rfl) (hp:env.pin = .none:=by rfl):IoOk P f ⟨.tk t sh::ps,rs,F⟩:=
 nZ hf hty (Ho.fnOk hl he1 hx) hmk hb hname hn hps hno hrs rfl hls hlp he hp
theorem tT {P:Program} {f:FuncId} {fn:Func} {t u:Ty} {sh su:Sh} {ps:List PM} {rs:List (Ty×Sh)} {F:Args (.tk t sh::ps)->Option (CB (((.slice u,.own su)::rs).map (·.1)++Bh (.tk t sh::ps)))} {l:List (FuncId×Av)} (env:Bf) (tbl:List (At (CB (((.slice u,.own su)::rs).map (·.1)++Bh (.tk t sh::ps))))) (ls:List Code)
  (hf:P.funcs[f]? = some fn) (hty:env.TyOk P) (hl:Ho P l) (hlp:Bx env tbl ls) (hx:JF P env.ext:=by exact .nil) (he1:env.fn=Dj l:=by rfl) (hmk:env.marks=[]:=by rfl)
  (hb : fn.body = some (Bq fn) := by kernel_rfl) (hname : fn.name ≠ "runtime.NumGoroutine" := by decide) (hn : env.n = fn.ntmps := by rfl) (hps : ps.length + 1 <= fn.ntmps := by decide) (hno : IS ps = true := by rfl)
  (hrs:(rs.all fun x=>x.1.flat&&decide (x.2 = .z))=true:=by rfl) (hls:Cu (Bq fn)=ls:=by kernel_rfl) (he:GR env (.tk t sh::ps) ((.slice u,.own su)::rs) (Gk tbl) (Bq fn) fn.results.toList=F:=by kernel_rfl) (hp:env.pin = .none:=by rfl):IoOk P f ⟨.tk t sh::ps,(.slice u,.own su)::rs,F⟩:=by
 subst he;exact rG hf hb hname hty (Ho.fnOk hl he1 hx) hmk hn t sh ps u su rs hps hno hrs (Gk tbl) (KR (by rw [hls];exact hlp.all)) hp
theorem Aa.none {P : Program} {f : FuncId} {fn : Func} {fu : Av} (hf : P.funcs[f]? = some fn) (hb : fn.body.isSome = true) (hname : fn.name ≠ "runtime.NumGoroutine") (h : ∀ x, fu.F x = .none) : Aa P f fu := by
 refine ⟨⟨fn,hf,hb,hname⟩,?_⟩;intro w O az vs r _ _ hr;rw [h] at hr;cases hr
theorem AO.none {P : Program} {f : FuncId} {fn : Func} {ps : List PM} {t : Ty} {sh : Sh} {rs : List (Ty × Sh)} {F : Args ps -> Option (CB (((t, sh) :: rs).map (·.1) ++ Bh ps))} (hf : P.funcs[f]? = some fn) (hb : fn.body.isSome = true) (hname : fn.name ≠ "runtime.NumGoroutine") (h : ∀ x, F x = .none) :
  AO P f ⟨ps,(t,sh)::rs,F⟩:=by
 by_cases hg:sh = .gone
 ·subst hg;refine ⟨⟨fn,hf,hb,hname⟩,?_⟩;intro w O az vs r _ _ hr;rw [h] at hr;cases hr
 refine AO.of hg ⟨⟨fn,hf,hb,hname⟩,?_⟩;intro w O az vs r _ _ hr;rw [h] at hr;cases hr
theorem IoOk.none {P : Program} {f : FuncId} {fn : Func} {t : Ty} {ps : List PM} {rs : List (Ty × Sh)} {F : Args (.io t .z :: ps) -> Option (CB (rs.map (·.1) ++ Bh (.io t .z :: ps)))} (hf : P.funcs[f]? = some fn) (hb : fn.body.isSome = true) (hname : fn.name ≠ "runtime.NumGoroutine") (h : ∀ x, F x = .none) :
  IoOk P f ⟨.io t .z::ps,rs,F⟩:=by
 refine ⟨⟨fn,hf,hb,hname⟩,?_⟩;intro w O b off x az vs r _ _ _ _ hr;exact nomatch (h _).symm.trans hr
theorem IoOk.noneT {P : Program} {f : FuncId} {fn : Func} {t : Ty} {sh : Sh} {ps : List PM} {u : Ty} {su : Sh} {rs : List (Ty × Sh)} {F : Args (.tk t sh :: ps) -> Option (CB (((Ty.slice u, Sh.own su) :: rs).map (·.1) ++ Bh (.tk t sh :: ps)))} (hf : P.funcs[f]? = some fn) (hb : fn.body.isSome = true) (hname : fn.name ≠ "runtime.NumGoroutine") (h : ∀ x, F x = .none) :
  IoOk P f ⟨.tk t sh::ps,(.slice u,.own su)::rs,F⟩:=by
 refine ⟨⟨fn,hf,hb,hname⟩,?_⟩;intro w O x v cs G az vs r _ _ _ _ hr;exact nomatch (h _).symm.trans hr
end Go.V
namespace Go.V
def Wf:(t:Ty)->t.den->Prop
 |.int k,n=>(Lit.int k n).wf=true
 |.bool,_=>True
 |.str,l=>(Lk l).length<=maxLen
 |.unit,_=>True
 |.pair a b,x=>Wf a x.1/\Wf b x.2
 |.slice e,l=>(Bu l).length<=maxLen/\∀ y,y∈Bu l->Wf e y
def Ty.pos:Ty->Bool
 |.slice e=>Nat.blt 0 e.size&&e.pos
 |.pair a b=>a.pos&&b.pos
 |_=>true
variable {H:Type} {enc:TypeId×Value->H} {P:Program} {w:World} {spare:Nat->Bool} {held:Bool}
theorem Tx {α β:Type} {f:α->Option β}:∀ {l:List α} {ys:List β},l.mapM f=some ys->∀ x,x∈l->∃ y,f x=some y
 |[],_,_,x,hx=>by cases hx
 |a::l,ys,h,x,hx=>by
  rw [List.mapM_cons] at h;cases h1:f a with
  |none=>rw [h1] at h;cases h
  |some y=>
   rw [h1] at h;cases h2:l.mapM f with
   |none=>simp [h2] at h
   |some zs=>
    cases hx with
    |head=>exact ⟨y,h1⟩
    |tail _ hx=>exact Tx h2 x hx
theorem f8 {e:Ty} {n:Nat} {a:Addr} {Q:e.den->Prop}:∀ (m s:Nat),(∀ k,s<=k->k<s+m->∃ x cs,Rep w Ab.none e .z x cs Ab.none/\Q x/\cs.length=n/\∀ i,i<n->w.cell? ((a.add (k*n)).add i)=cs[i]?)->
  ∃ (xs:List e.den) (cl:List Value),xs.length=m/\Els (Rep w Ab.none e .z) xs cl Ab.none/\(∀ y,y∈xs->Q y)/\cl.length=m*n/\∀ i,i<m*n->w.cell? (a.add (s*n+i))=cl[i]?
 |0,s,_=>⟨[],[],rfl,⟨rfl,fun _ h=>h⟩,fun _ h=>(by cases h),(by simp),fun i hi=>(by omega)⟩
 |m+1,s,h=>by
  obtain ⟨x,cs,hr,hq,hl,hc⟩:=h s (Nat.le_refl _) (by omega);obtain ⟨xs,cl,g1,g2,g3,g4,g5⟩:=f8 (a:=a) (Q:=Q) m (s+1) fun k h1 h2=>h k (by omega) (by omega)
  have add_add:∀ p q:Nat,(a.add p).add q=a.add (p+q)\/(p=0/\q=0):=by
   intro p q;unfold Addr.add;by_cases hp:p=0
   ·by_cases hq:q=0
    ·exact .inr ⟨hp,hq⟩
    ·left;simp [hp,hq]
   ·left;by_cases hq:q=0
    ·simp [hp,hq]
    ·simp [hp,hq,Nat.add_assoc]
  refine ⟨x::xs,cs++cl,by simp [g1],⟨cs,cl,Ab.none,Ab.none,rfl,hr,g2,fun b=>⟨.inl,fun h=>h.elim id id⟩,fun _ h=>h.1⟩,?_,?_,?_⟩
  ·intro y hy;cases hy with
   |head=>exact hq
   |tail _ hy=>exact g3 y hy
  ·rw [Ai9,hl,g4,Nat.succ_mul];omega
  ·intro i hi;by_cases hin:i<n
   ·rw [List.getElem?_append_left (by rw [hl];exact hin),<-hc i hin];rcases add_add (s*n) i with h | ⟨h1,h2⟩
    ·rw [h]
    ·rw [h1,h2];rfl
   ·rw [List.getElem?_append_right (by rw [hl];omega),hl,<-g5 (i-n) (by rw [Nat.succ_mul] at hi;omega)];congr 2;rw [Nat.succ_mul];omega
theorem f9:∀ (t:Ty),t.pos=true->
  (∀ {i Af:Nat} {cs:List Value} {d:DataW H} {ps:List MemPlace},(Bw P t).1 i->DataW.trod enc P w 0 spare held Af i cs=some (d,ps)->P.cellsOf i=t.size->∃ x:t.den,Rep w Ab.none t .z x cs Ab.none/\Wf t x)/\
  (∀ {fs:List Field} {off Af:Nat} {cs:List Value} {xs:List (DataW H×List MemPlace)},(Bw P t).2 fs off->cs.length=off+t.size->
   (fs.mapM fun f=>DataW.trod enc P w 0 spare held Af f.type ((cs.drop f.offset).take (P.cellsOf f.type)))=some xs->∃ x:t.den,Rep w Ab.none t .z x (cs.drop off) Ab.none/\Wf t x):=by
 intro t;induction t with
 |int k=>
  intro _;refine ⟨fun {i Af cs d ps} hi h _=>?_,fun h=>h.elim⟩;have hi:P.underlying i=some (.int k):=hi;cases Af with
  |zero=>simp [DataW.trod] at h
  |succ Af=>
   unfold DataW.trod at h;split at h<;>rename_i h1<;>rw [hi] at h1<;>try (cases h1;done)
   ·injection h1 with h1
    injection h1 with h1
    subst h1;split at h
    ·rename_i hc;obtain ⟨rfl,hw⟩:=hc;exact ⟨_,⟨rfl,fun _ h=>h⟩,hw⟩
    ·cases h
   all_goals cases h
 |bool=>
  intro _;refine ⟨fun {i Af cs d ps} hi h _=>?_,fun h=>h.elim⟩;have hi:P.underlying i=some .bool:=hi;cases Af with
  |zero=>simp [DataW.trod] at h
  |succ Af=>
   unfold DataW.trod at h;split at h<;>rename_i h1<;>rw [hi] at h1<;>try (cases h1;done)
   ·exact ⟨_,⟨rfl,fun _ h=>h⟩,trivial⟩
   all_goals cases h
 |str=>
  intro _;refine ⟨fun {i Af cs d ps} hi h _=>?_,fun h=>h.elim⟩;have hi:P.underlying i=some .string:=hi;cases Af with
  |zero=>simp [DataW.trod] at h
  |succ Af=>
   unfold DataW.trod at h;split at h<;>rename_i h1<;>rw [hi] at h1<;>try (cases h1;done)
   ·rename_i s;split at h
    ·rename_i hs;refine ⟨s.data.toList,⟨by obtain ⟨⟨l⟩⟩:=s;rfl,fun _ h=>h⟩,?_⟩;obtain ⟨⟨l⟩⟩:=s;exact hs
    ·cases h
   all_goals cases h
 |unit=>
  intro _;refine ⟨fun {i Af cs d ps} hi h hsz=>?_,fun {fs off Af cs xs} _ hl _=>?_⟩
  ·obtain ⟨fs,hi,_,hfs⟩:=hi;cases Af with
   |zero=>simp [DataW.trod] at h
   |succ Af=>
    unfold DataW.trod at h;split at h<;>rename_i h1<;>rw [hi] at h1<;>try (cases h1;done)
    ·split at h
     ·rename_i hlen;rw [hsz] at hlen;exact ⟨(),⟨List.eq_nil_of_length_eq_zero hlen,fun _ h=>h⟩,trivial⟩
     ·cases h
    all_goals cases h
  ·exact ⟨(),⟨List.drop_eq_nil_of_le (by rw [hl];exact Nat.le_refl _),fun _ h=>h⟩,trivial⟩
 |pair a b iha ihb=>
  intro hpos;simp only [Ty.pos,Ajb] at hpos
  have second:∀ {fs:List Field} {off Af:Nat} {cs:List Value} {xs:List (DataW H×List MemPlace)},(Bw P (.pair a b)).2 fs off->cs.length=off+(Ty.pair a b).size->
    (fs.mapM fun f=>DataW.trod enc P w 0 spare held Af f.type ((cs.drop f.offset).take (P.cellsOf f.type)))=some xs->∃ x:(Ty.pair a b).den,Rep w Ab.none (.pair a b) .z x (cs.drop off) Ab.none/\Wf (.pair a b) x:=by
   intro fs off Af cs xs hq hl hx;obtain ⟨f,r,rfl,hoff,_,hta,⟨ii,hii,his⟩,htb⟩:=hq;rw [List.mapM_cons] at hx;cases h1:DataW.trod enc P w 0 spare held Af f.type ((cs.drop f.offset).take (P.cellsOf f.type)) with
   |none=>rw [h1] at hx;cases hx
   |some y=>
    rw [h1] at hx;cases h2:(r.mapM fun f=>DataW.trod enc P w 0 spare held Af f.type ((cs.drop f.offset).take (P.cellsOf f.type))) with
    |none=>simp [h2] at hx
    |some ys=>
     have hca:P.cellsOf f.type=a.size:=by unfold Program.cellsOf;rw [hii];exact his
     obtain ⟨x,hrx,hwx⟩:=(iha hpos.1).1 hta (d:=y.1) (ps:=y.2) h1 hca;obtain ⟨z,hrz,hwz⟩:=(ihb hpos.2).2 htb (by rw [hl];simp only [Ty.size];omega) h2;refine ⟨(x,z),⟨_,_,Ab.none,Ab.none,?_,hrx,hrz,fun b=>⟨.inl,fun h=>h.elim id id⟩,fun _ h=>h.1⟩,hwx,hwz⟩;rw [hoff,hca,<-List.drop_drop,List.take_append_drop]
  refine ⟨fun {i Af cs d ps} hi h hsz=>?_,fun hq hl hx=>second hq hl hx⟩;obtain ⟨fs,hi,_,hq⟩:=hi;cases Af with
  |zero=>simp [DataW.trod] at h
  |succ Af=>
   unfold DataW.trod at h;split at h<;>rename_i h1<;>rw [hi] at h1<;>try (cases h1;done)
   ·injection h1 with h1
    injection h1 with h1
    subst h1;split at h
    ·rename_i hlen;rw [hsz] at hlen;rw [Option.map_eq_some_iff] at h;obtain ⟨xs,hxs,_⟩:=h;have:=second (off:=0) hq (by rw [hlen];omega) hxs;rwa [List.drop_zero] at this
    ·cases h
   all_goals cases h
 |slice e ih=>
  intro hpos;simp only [Ty.pos,Ajb] at hpos;have hsz0:0<e.size:=by simpa using hpos.1
  refine ⟨fun {i Af cs d ps} hi h _=>?_,fun h=>h.elim⟩;obtain ⟨j,hi,hj,⟨f,hf,hfs,_⟩⟩:=hi;have hcells:P.cellsOf j=e.size:=by unfold Program.cellsOf;rw [hf];exact hfs
  cases Af with
  |zero=>simp [DataW.trod] at h
  |succ Af=>
   unfold DataW.trod at h;split at h<;>rename_i h1<;>rw [hi] at h1<;>try (cases h1;done)
   ·exact ⟨[],⟨fun _ h=>h,none,0,rfl,Nat.le_refl _,fun _=>rfl,fun _ h=>(by cases h),.inl rfl⟩,Nat.zero_le _,fun _ h=>(by cases h)⟩
   ·rename_i ad len cap;injection h1 with h1
    injection h1 with h1
    subst h1;dsimp only at h;split at h
    case isFalse=>cases h
    case isTrue hc=>
     obtain ⟨_,hlc,hcm⟩:=hc;cases hm:((List.range len).mapM fun i=>(w.cells? 0 (ad.add (i*P.cellsOf j)) (P.cellsOf j)).bind (DataW.trod enc P w 0 spare held Af j)) with
     |none=>rw [hm] at h;cases h
     |some elems=>
      obtain ⟨xs,cl,g1,g2,g3,g4,g5⟩:=f8 (w:=w) (e:=e) (n:=e.size) (a:=ad) (Q:=Wf e) len 0 fun k _ hk=>by
       obtain ⟨y,hy⟩:=Tx hm k (by simpa using hk);rw [hcells] at hy;cases hcs:w.cells? 0 (ad.add (k*e.size)) e.size with
       |none=>rw [hcs] at hy;cases hy
       |some cs=>
        rw [hcs] at hy;obtain ⟨_,hl,hcc⟩:=World.cells?_some hcs;obtain ⟨x,hr,hw⟩:=(ih hpos.2).1 hj (d:=y.1) (ps:=y.2) hy hcells;exact ⟨x,cs,hr,hw,hl,hcc⟩
      have hsp:0<len->ad.spot=none/\ad.block<w.heap.size:=by
       intro h0;have hpos':0<len*e.size:=Nat.mul_pos h0 hsz0;have hc0:=g5 0 hpos';rw [List.getElem?_eq_getElem (by omega)] at hc0;have ha:ad.add (0*e.size+0)=ad:=by simp [Addr.add]
       rw [ha] at hc0;unfold World.cell? at hc0;split at hc0
       ·rename_i C _ _ hb;refine ⟨?_,(Array.getElem?_eq_some_iff.1 hb).1⟩;cases hs:ad.spot with
        |none=>rfl
        |some _=>rw [hs] at hc0;simp at hc0
       ·cases hc0
      refine ⟨xs,⟨fun _ h=>h,some ad,cap,by rw [<-g1],by rw [<-g1] at hlc;exact hlc,fun h=>(by cases h),?_,?_⟩,?_,g3⟩
      ·intro _ _;rfl
      ·by_cases h0:len=0
       ·exact .inl (List.eq_nil_of_length_eq_zero (g1.trans h0))
       ·right;obtain ⟨hs,hb⟩:=hsp (Nat.pos_of_ne_zero h0);obtain ⟨b,off,sp⟩:=ad;dsimp only at hs hb;subst hs;refine ⟨b,off,cl,rfl,hb,fun h=>h,g2,fun i hi=>?_⟩;rw [<-g5 i (by omega)];congr 1;unfold Addr.add;by_cases hi0:i=0
        ·subst hi0;simp
        ·simp [hi0]
      ·rw [show (Bu xs).length=len from g1];omega
   all_goals cases h
end Go.V
namespace Go.V
variable {H:Type} {enc:TypeId×Value->H} {P:Program} {w w':World} {held:Bool} {sp:Nat->Bool}
theorem dm {a:Addr} {n:Nat} {cs:List Value} (h:w.cells? 0 a n=some cs) (hs:∀ p∈MemPlace.row a n,w.sameAt w' p):w'.cells? 0 a n=some cs:=
 World.cells?_carry h hs
theorem Rf {α β:Type} {f:α->Option β}:∀ {l:List α} {r:List β},l.mapM f=some r->r.length=l.length
 |[],r,h=>by
  rw [List.mapM_nil] at h;injection h with h
  subst h;rfl
 |a::l,r,h=>by
  rw [List.mapM_cons] at h;cases h1:f a with
  |none=>rw [h1] at h;cases h
  |some y=>
   rw [h1] at h;cases h2:l.mapM f with
   |none=>simp [h2] at h
   |some ys=>
    simp only [h2,Option.bind_eq_bind,Ai5,Option.pure_def,Option.some.injEq] at h;subst h;simp [Rf h2]
theorem Zt:∀ (t:Ty),t.pos=true->
  (∀ {i Af:Nat} {cs:List Value} {d:DataW H} {ps:List MemPlace},(Bw P t).1 i->P.cellsOf i=t.size->DataW.trod enc P w 0 (fun _=>true) held Af i cs=some (d,ps)->
   (∀ p∈ps,w.sameAt w' p)->(∀ p∈ps,sp p.block=true)->DataW.trod enc P w' 0 sp held Af i cs=some (d,ps))/\
  (∀ {fs:List Field} {off Af:Nat} {cs:List Value} {xs:List (DataW H×List MemPlace)},(Bw P t).2 fs off->
   (fs.mapM fun f=>DataW.trod enc P w 0 (fun _=>true) held Af f.type ((cs.drop f.offset).take (P.cellsOf f.type)))=some xs->
   (∀ p∈xs.flatMap (·.2),w.sameAt w' p)->(∀ p∈xs.flatMap (·.2),sp p.block=true)->
   (fs.mapM fun f=>DataW.trod enc P w' 0 sp held Af f.type ((cs.drop f.offset).take (P.cellsOf f.type)))=some xs):=by
 intro t;induction t with
 |int k=>
  intro _;refine ⟨fun {i Af cs d ps} hi _ h _ _=>?_,fun h=>h.elim⟩;have hi:P.underlying i=some (.int k):=hi;cases Af with
  |zero=>simp [DataW.trod] at h
  |succ Af=>
   unfold DataW.trod at h;split at h<;>rename_i h1<;>rw [hi] at h1<;>try (cases h1;done)
   ·injection h1 with h1
    injection h1 with h1
    subst h1;unfold DataW.trod;rw [hi];exact h
   all_goals cases h
 |bool=>
  intro _;refine ⟨fun {i Af cs d ps} hi _ h _ _=>?_,fun h=>h.elim⟩;have hi:P.underlying i=some .bool:=hi;cases Af with
  |zero=>simp [DataW.trod] at h
  |succ Af=>
   unfold DataW.trod at h;split at h<;>rename_i h1<;>rw [hi] at h1<;>try (cases h1;done)
   ·unfold DataW.trod;rw [hi];exact h
   all_goals cases h
 |str=>
  intro _;refine ⟨fun {i Af cs d ps} hi _ h _ _=>?_,fun h=>h.elim⟩;have hi:P.underlying i=some .string:=hi;cases Af with
  |zero=>simp [DataW.trod] at h
  |succ Af=>
   unfold DataW.trod at h;split at h<;>rename_i h1<;>rw [hi] at h1<;>try (cases h1;done)
   ·unfold DataW.trod;rw [hi];exact h
   all_goals cases h
 |unit=>
  intro _;refine ⟨fun {i Af cs d ps} hi _ h hs hq=>?_,fun {fs off Af cs xs} hf h _ _=>?_⟩
  ·obtain ⟨fs,hi,_,hfs⟩:=hi;cases Af with
   |zero=>simp [DataW.trod] at h
   |succ Af=>
    unfold DataW.trod at h ⊢;rw [hi] at h ⊢;dsimp only at h ⊢;rw [hfs] at h ⊢;exact h
  ·have hf:fs=[]:=hf;subst hf;exact h
 |pair a b iha ihb=>
  intro hpos;simp only [Ty.pos,Ajb] at hpos
  have second:∀ {fs:List Field} {off Af:Nat} {cs:List Value} {xs:List (DataW H×List MemPlace)},(Bw P (.pair a b)).2 fs off->
    (fs.mapM fun f=>DataW.trod enc P w 0 (fun _=>true) held Af f.type ((cs.drop f.offset).take (P.cellsOf f.type)))=some xs->
    (∀ p∈xs.flatMap (·.2),w.sameAt w' p)->(∀ p∈xs.flatMap (·.2),sp p.block=true)->
    (fs.mapM fun f=>DataW.trod enc P w' 0 sp held Af f.type ((cs.drop f.offset).take (P.cellsOf f.type)))=some xs:=by
   intro fs off Af cs xs hq hx hs hsp;obtain ⟨f,r,rfl,hoff,_,hta,⟨ii,hii,his⟩,htb⟩:=hq;rw [List.mapM_cons] at hx ⊢;cases h1:DataW.trod enc P w 0 (fun _=>true) held Af f.type ((cs.drop f.offset).take (P.cellsOf f.type)) with
   |none=>rw [h1] at hx;cases hx
   |some y=>
    rw [h1] at hx;cases h2:(r.mapM fun f=>DataW.trod enc P w 0 (fun _=>true) held Af f.type ((cs.drop f.offset).take (P.cellsOf f.type))) with
    |none=>simp [h2] at hx
    |some ys=>
     simp only [h2,Option.bind_eq_bind,Ai5,Option.pure_def,Option.some.injEq] at hx;subst hx;have hca:P.cellsOf f.type=a.size:=by unfold Program.cellsOf;rw [hii];exact his
     have g1:=(iha hpos.1).1 hta hca (d:=y.1) (ps:=y.2) h1 (fun p hp=>hs p (by simp [hp])) (fun p hp=>hsp p (by simp [hp]));have g2:=(ihb hpos.2).2 htb h2 (fun p hp=>hs p (by simp only [List.flatMap_cons,Ajf];exact .inr hp)) (fun p hp=>hsp p (by simp only [List.flatMap_cons,Ajf];exact .inr hp));rw [g1,g2];rfl
  refine ⟨fun {i Af cs d ps} hi hsz h hs hq=>?_,fun hq hx h1 h2=>second hq hx h1 h2⟩;obtain ⟨fs,hi,_,hq'⟩:=hi;cases Af with
  |zero=>simp [DataW.trod] at h
  |succ Af=>
   unfold DataW.trod at h ⊢;rw [hi] at h ⊢;dsimp only at h ⊢;split at h
   ·rename_i hlen;rw [if_pos hlen];rw [Option.map_eq_some_iff] at h;obtain ⟨xs,hxs,he⟩:=h;injection he with he1 he2
    subst he1;subst he2;rw [second (off:=0) hq' hxs hs hq];rfl
   ·cases h
 |slice e ih=>
  intro hpos;simp only [Ty.pos,Ajb] at hpos;have hsz0:0<e.size:=by simpa using hpos.1
  refine ⟨fun {i Af cs d ps} hi _ h hs hq=>?_,fun h=>h.elim⟩;obtain ⟨j,hi,hj,⟨f,hf,hfs,_⟩⟩:=hi;have hcells:P.cellsOf j=e.size:=by unfold Program.cellsOf;rw [hf];exact hfs
  cases Af with
  |zero=>simp [DataW.trod] at h
  |succ Af=>
   unfold DataW.trod at h;split at h<;>rename_i h1<;>rw [hi] at h1<;>try (cases h1;done)
   ·unfold DataW.trod;rw [hi];exact h
   ·rename_i ad len cap;injection h1 with h1
    injection h1 with h1
    subst h1;dsimp only at h;split at h
    case isFalse=>cases h
    case isTrue hc=>
     unfold DataW.trod;rw [hi];dsimp only;rw [if_pos hc];simp only [if_true] at h;cases hm:((List.range len).mapM fun i=>(w.cells? 0 (ad.add (i*P.cellsOf j)) (P.cellsOf j)).bind (DataW.trod enc P w 0 (fun _=>true) held Af j)) with
     |none=>rw [hm] at h;cases h
     |some elems=>
      rw [hm,Ai5] at h;cases hr:((List.range (cap-len)).mapM fun k=>(w.cells? 0 (ad.add ((len+k)*P.cellsOf j)) (P.cellsOf j)).bind (DataW.trod enc P w 0 (fun _=>true) held Af j)) with
      |none=>rw [hr] at h;cases h
      |some rest=>
       rw [hr,Option.map_some] at h;injection h with h
       injection h with h2 h3
       subst h2;subst h3;have l1:=Rf hm;have l2:=Rf hr;rw [List.length_range] at l1 l2
       have one:∀ (k:Nat) (y:DataW H×List MemPlace),k<elems.length+rest.length->(∀ p∈y.2,p∈(elems++rest).flatMap (·.2))->
         ((w.cells? 0 (ad.add (k*P.cellsOf j)) (P.cellsOf j)).bind (DataW.trod enc P w 0 (fun _=>true) held Af j))=some y->
         ((w'.cells? 0 (ad.add (k*P.cellsOf j)) (P.cellsOf j)).bind (DataW.trod enc P w' 0 sp held Af j))=some y:=by
        intro k y hk hy hh;cases hcs:w.cells? 0 (ad.add (k*P.cellsOf j)) (P.cellsOf j) with
        |none=>rw [hcs] at hh;cases hh
        |some cs=>
         rw [hcs,Ai5] at hh
         have hrow:∀ p∈MemPlace.row (ad.add (k*P.cellsOf j)) (P.cellsOf j),p∈MemPlace.row ad ((elems.length+rest.length)*P.cellsOf j):=by
          intro p hp;simp only [MemPlace.row,List.mem_map,List.mem_range] at hp ⊢;obtain ⟨q,hq1,rfl⟩:=hp;have hb:(ad.add (k*P.cellsOf j)).block=ad.block:=by unfold Addr.add;split<;>rfl
          have ho:(ad.add (k*P.cellsOf j)).off=ad.off+k*P.cellsOf j:=by
           unfold Addr.add;split
           ·rename_i h0;rw [h0];rfl
           ·rfl
          refine ⟨k*P.cellsOf j+q,?_,by rw [hb,ho,Nat.add_assoc]⟩;have:(k+1)*P.cellsOf j<=(elems.length+rest.length)*P.cellsOf j:=Nat.mul_le_mul_right _ hk;rw [Nat.succ_mul] at this;omega
         rw [dm hcs (fun p hp=>hs p (by simp only [Ajf];exact .inl (hrow p hp))),Ai5];exact (ih hpos.2).1 hj hcells (d:=y.1) (ps:=y.2) hh (fun p hp=>hs p (by simp only [Ajf];exact .inr (hy p hp))) (fun p hp=>hq p (by simp only [Ajf];exact .inr (hy p hp)))
       rw [mapM_carry hm fun k y hk hy hh=>one k y (by have:k<len:=(by simpa using hk);omega) (fun p hp=>List.mem_flatMap.2 ⟨y,List.mem_append_left _ hy,hp⟩) hh,Ai5]
       have hrest:∀ k y,k∈List.range (cap-len)->y∈rest->((w.cells? 0 (ad.add ((len+k)*P.cellsOf j)) (P.cellsOf j)).bind (DataW.trod enc P w 0 (fun _=>true) held Af j))=some y->
         ((w'.cells? 0 (ad.add ((len+k)*P.cellsOf j)) (P.cellsOf j)).bind (DataW.trod enc P w' 0 sp held Af j))=some y:=fun k y hk hy hh=>
        one (len+k) y (by have:k<cap-len:=(by simpa using hk);omega) (fun p hp=>List.mem_flatMap.2 ⟨y,List.mem_append_right _ hy,hp⟩) hh
       by_cases hlc:cap-len=0
       ·rw [hlc] at hr;have:rest=[]:=by rw [hlc] at l2;exact List.eq_nil_of_length_eq_zero l2
        subst this;cases sp ad.block
        ·rfl
        ·rw [hlc];rfl
       ·have hsp:sp ad.block=true:=by
         refine hq (.cell ad.block ad.off) ?_;simp only [Ajf];left;simp only [MemPlace.row,List.mem_map,List.mem_range];refine ⟨0,?_,rfl⟩;rw [hcells];exact Nat.mul_pos (by omega) hsz0
        rw [hsp,if_pos rfl,mapM_carry hr hrest];rfl
   all_goals cases h
theorem fA (h:AF Ab.none w w') (may:MemPlace->Prop):w.keptBut w' may:=by
 refine ⟨h.os,h.output,fun i hi=>?_⟩;rw [h.block i hi fun hf=>hf];cases w.heap[i]? with
 |none=>rfl
 |some o=>cases o<;>first | rfl | exact ⟨rfl,rfl,rfl,fun _ _=>rfl⟩ | exact .inr ⟨rfl,rfl⟩
theorem dp (h:AF Ab.none w w') {p:MemPlace} (hp:p.block<w.heap.size):w.sameAt w' p:=by
 cases p with
 |cell b off=>
  show w'.cell? _=w.cell? _;unfold World.cell?;rw [h.block b hp fun hf=>hf]
 |map b=>exact h.block b hp fun hf=>hf
theorem dr {t:Ty} {i:TypeId} {v:Value} {r:Reach} {base:Nat} (h:(Bw P t).1 i) (hv:Value.okWide P w r base i v):C_ t v v.cells.toList:=by
 cases t with
 |int k=>obtain ⟨n,rfl⟩:=WideShapes.okWide_int (show P.underlying i=some (.int k) from h) hv;rfl
 |bool=>obtain ⟨n,rfl⟩:=WideShapes.okWide_bool (show P.underlying i=some .bool from h) hv;rfl
 |str=>obtain ⟨n,rfl⟩:=WideShapes.okWide_string (show P.underlying i=some .string from h) hv;rfl
 |slice e=>obtain ⟨j,hj,_⟩:=h;obtain ⟨a,l,c,rfl⟩:=WideShapes.okWide_slice hj hv;rfl
 |unit=>obtain ⟨fs,hj,_⟩:=h;obtain ⟨cs,rfl,_⟩:=WideShapes.okWide_struct hj hv;simp [C_,Ty.agg,Value.cells]
 |pair a b=>obtain ⟨fs,hj,_⟩:=h;obtain ⟨cs,rfl,_⟩:=WideShapes.okWide_struct hj hv;simp [C_,Ty.agg,Value.cells]
def roAll:List Ty->List PM
 |[]=>[]
 |t::ts=>.ro t::roAll ts
def WfAll:(ts:List Ty)->Args (roAll ts)->Prop
 |[],_=>True
 |t::ts,az=>Wf t az.1/\WfAll ts az.2
def TyAll (P:Program):List Ty->List TypeId->Prop
 |[],[]=>True
 |t::ts,i::is=>TyOk P i t/\t.pos=true/\TyAll P ts is
 |_,_=>False
theorem Tz:∀ (ts:List Ty) (is:List TypeId) (vs:List Value) (ds:List (DataW H)) (ps:List MemPlace) {r:Reach} {base:Nat},TyAll P ts is->
  (∀ (j:Nat) t v,is[j]? = some t->vs[j]? = some v->Value.okWide P w r base t v)->DataW.TrodAll enc P w 0 (fun _=>true) held is vs ds ps->
  ∃ az:Args (roAll ts),AT P w Ab.none (roAll ts) az vs/\WfAll ts az/\ds.length=ts.length/\
   ∀ (w':World) (sp:Nat->Bool),(∀ p∈ps,w.sameAt w' p)->(∀ p∈ps,sp p.block=true)->DataW.TrodAll enc P w' 0 sp held is vs ds ps
 |[],[],vs,ds,ps,r,base,_,_,h=>by
  match vs,ds,h with
  |[],[],h=>exact ⟨(),rfl,trivial,rfl,fun _ _ _ _=>h⟩
 |t::ts,i::is,vs,ds,ps,r,base,ht,hok,h=>by
  match vs,ds,h with
  |v::vs,d::ds,⟨p,q,⟨Af,hd⟩,hrest,e⟩=>
   subst e;obtain ⟨hty,hpos,hts⟩:=ht;obtain ⟨az,g1,g2,g3,g4⟩:=Tz ts is vs ds q hts (fun j t v h1 h2=>hok (j+1) t v (by simpa using h1) (by simpa using h2)) hrest;obtain ⟨h1,_,_,f,hf,hfs,_⟩:=hty;have hc:P.cellsOf i=t.size:=by unfold Program.cellsOf;rw [hf];exact hfs
   obtain ⟨x,hx,hw⟩:=(f9 t hpos).1 h1 hd hc;refine ⟨(x,az),⟨v,vs,_,rfl,dr h1 (hok 0 i v rfl rfl),hx,g1⟩,⟨hw,g2⟩,by simp [g3],fun w' sp hs hq=>?_⟩;exact ⟨p,q,⟨Af,(Zt t hpos).1 h1 hc hd (fun x hx=>hs x (List.mem_append_left _ hx)) (fun x hx=>hq x (List.mem_append_left _ hx))⟩,g4 w' sp (fun x hx=>hs x (List.mem_append_right _ hx)) (fun x hx=>hq x (List.mem_append_right _ hx)),rfl⟩
theorem law_contract {f:FuncId} {fn:Func} {s:ChangeSpec} {ts:List Ty} {F:Args (roAll ts)->Option (CB ([(Ty.bool,Sh.z)].map (·.1)++Bh (roAll ts)))} {tb:TypeId}
  (hq:Aa P f ⟨roAll ts,[(.bool,.z)],F⟩) (law:∀ az,WfAll ts az->∃ r,F az=some r/\r.1=true) (hty:TyAll P ts fn.params.toList)
  (hres:fn.resultTypes = #[tb]) (htb:P.underlying tb=some .bool) (hvars:s.vars=[])
  (hspec:∀ (ds:List (DataW H)),ds.length=ts.length->s.fn H ds={results:=[.lit (.bool true)],args:=ds})
  {fresh Ur apart:Bool} (W:World) (base:Nat) (args:Array Value) (ds gs:List (DataW H)) (before:List MemPlace)
  (hval:∀ (j:Nat) t v,fn.params[j]? = some t->args[j]? = some v->Value.okWide P W .any base t v)
  (hW:DataW.Whole enc P fn.params.toList s.vars apart W args.toList ds gs before) :
  Calls P f args W fun e W' =>∃ v,e = .returned v/\s.post enc P fn apart fresh Ur false W args v W' :=by
 have hW' :=hW;have hlt:=hW.lt;obtain ⟨p,q,hA,hV,rfl,hfz,hnd⟩:=hW;rw [hvars] at hV
 obtain ⟨rfl,rfl⟩:gs=[]/\q=[]:=by
  cases gs with
  |nil=>exact ⟨rfl,hV⟩
  |cons g r=>exact absurd hV (by intro h;cases h)
 obtain ⟨az,g1,g2,g3,g4⟩:=Tz ts fn.params.toList args.toList ds p hty (fun j t v h1 h2=>hval j t v (by simpa using h1) (by simpa using h2)) hA;obtain ⟨r,hr,hr1⟩:=law az g2;have hc:=hq.2 W Ab.none az args.toList r (fun _ h=>h.elim) g1 hr;rw [Array.toArray_toList] at hc;refine hc.mono fun e W' ⟨rv,he,hk,hrv⟩=>?_
 obtain ⟨v,vs',cs,rfl,hv,hrep,h3⟩:=hrv;have h3:vs'=[]:=h3;subst h3;have h1:cs=[v]:=hv;have h2:cs=[.bool r.1]:=hrep.1;rw [h1] at h2;injection h2 with h2 _
 subst h2;have hsame:∀ x∈p,W.sameAt W' x:=fun x hx=>dp hk (hlt x (by simpa using hx))
 have hold:∀ x∈p,(fun b=>decide (b<W.heap.size)) x.block=true:=fun x hx=>by simpa using hlt x (by simpa using hx)
 refine ⟨_,he,ds,[],p++[],[],p,[],hW',?_,?_,?_,fA hk _,fun h=>by cases h⟩
 ·rw [List.append_nil,hspec ds g3,hres,hr1];exact ChangeShapes.trodAll_mk1 (RowKit.shut_bool htb true)
 ·rw [List.append_nil,hspec ds g3];exact g4 W' _ hsame hold
 ·rw [List.append_nil,hspec ds g3,hvars];rfl
end Go.V
