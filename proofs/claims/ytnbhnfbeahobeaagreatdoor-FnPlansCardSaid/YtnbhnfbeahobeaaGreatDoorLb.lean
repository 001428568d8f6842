/- What the functions compute, in plain words, and the laws. No condition. -/
import Derived.Test.YtnbhnfbeahobeaaGreatDoorLa
namespace Go.V
set_option linter.unusedVariables false
set_option linter.unusedSimpArgs false
set_option maxRecDepth 100000
theorem Ot (l:List Ew) {i:Nat} (h:i<l.length):Aw (l.take (i+1))=Aw (l.take i)++(Ah l i).2.1:=by
 unfold Aw;rw [List.take_add_one,Cs h,List.flatMap_append];simp
theorem Io (l:List Ew) (h:∀ p,p∈l->p.2.1.length<=4):∀ i,i<=l.length->(Aw (l.take i)).length<=4*i
 |0,_=>by simp [Aw]
 |i+1,hi=>by
  rw [Ot l (by omega),Ai9];have:=Io l h i (by omega);have:=h _ (Au (show i<l.length by omega));omega
theorem L_ (t:Bd) (h1:t.1.length<=60) (h2:∀ p,p∈t.1->p.2.1.length<=4):mj t=some (Aw t.1,()):=by
 unfold mj;refine (Ay (S:=Unit) (fun i _=>(t.1,((t.1.length:Nat):Int),(i:Int),Aw (t.1.take i),())) (fun _ _=>some (Aw t.1,())) t.1.length (fun _ _=>True) ?_ ?_ Af 0 () (Nat.zero_le _) (Aj (by omega)) trivial).trans rfl
 ·intro i _ hi _ rec hrec;have hl:=Io t.1 h2 i (by omega);have hp:=h2 _ (Au hi);simp only [Vv,Ad,hi,decide_true,Ai7,Ap,Ai hi,Ai5,Am i _ hi (by omega)];rw [Aq (by simp only [A_];omega),<-Ot t.1 hi];exact hrec () trivial
 ·intro _ _ rec;simp only [Vv,Ad,Nat.lt_irrefl,decide_false,Ai6,List.take_length]
theorem ef (l:List Int) (t:Int) (hl:l.length<=1048576):mm l t=some (l.any (fun x=>t==x),()):=by
 unfold mm qd
 have:iter (Ng (fun y6=>(some ((-(1:Int)),()))) (fun y7=>(some (y7.1,())))) Af (l,t,(((List.length l):Nat):Int),(0:Int),())=some (Ba (fun x=>t==x) 0 l,()):=by
  refine (Ay (S:=Unit) (fun i _=>(l,t,((l.length:Nat):Int),(i:Int),())) (fun i _=>some (Ba (fun x=>t==x) i (l.drop i),())) l.length (fun _ _=>True) ?_ ?_ Af 0 () (Nat.zero_le _) (Aj (by omega)) trivial).trans rfl
  ·intro i _ hi _ rec hrec;simp only [Ng,Ad,hi,decide_true,Ai7,Ap,Ai hi,Ai5,Am i _ hi (by omega)];rw [Ac hi,Ba,hrec () trivial];cases t==Ah l i<;>rfl
  ·intro _ _ rec;simp only [Ng,Ad,Nat.lt_irrefl,decide_false,Ai6,Ajh,Ba]
 rw [this,Ai5];simp only [GB]
theorem iK (l:List Ew) (z:Int):∀ i,i<=l.length->((l.take i).map (·.1)).any (fun x=>z==x) = !Bo (fun k=>!((Ah l k).1==z)) 0 i:=by
 intro i hi;rw [Bool.eq_iff_iff,List.any_eq_true,Bool.not_eq_true',<-Bool.not_eq_true,AY];constructor
 ·rintro ⟨x,hx,he⟩ h;obtain ⟨p,hp,rfl⟩:=List.mem_map.1 hx;obtain ⟨k,hk,rfl⟩:=List.getElem_of_mem hp;rw [List.length_take] at hk;have:=h k (Nat.zero_le _) (by omega);rw [Du (by omega:k<l.length)] at this;rw [List.getElem_take] at he;rw [beq_iff_eq] at he;rw [he] at this;simp at this
 ·intro h;by_cases hx:∃ k,k<i/\(Ah l k).1=z
  ·obtain ⟨k,hk,he⟩:=hx;refine ⟨z,List.mem_map.2 ⟨Ah l k,?_,he⟩,by simp⟩;rw [Du (by omega:k<l.length)];exact List.mem_iff_getElem.2 ⟨k,by rw [List.length_take];omega,by rw [List.getElem_take]⟩
  ·exfalso;refine h fun k _ hk=>?_
   have:¬(Ah l k).1=z:=fun e=>hx ⟨k,by omega,e⟩
   simpa using this
theorem Lx (t:Bd) (ht:Yy 1048576 t):vG t=some (JI t,()):=by
 unfold vG JI;have hl:=ht.1;simp only [CE,Ai5];cases h1:inR ((t.1.length:Nat):Int) 1 60
 ·rfl
 cases h2:inR t.2.1 2 100000
 ·rfl
 simp only [Bool.not_true,Ai6,Bool.true_and];have hT:2<=t.2.1/\t.2.1<=100000:=by simpa [inR] using h2
 have hn':1<=((t.1.length:Nat):Int)/\((t.1.length:Nat):Int)<=60:=by simpa [inR] using h1
 have hn:t.1.length<=60:=by omega
 have hw:IntKind.wrap IntKind.i64 (t.2.1-1)=t.2.1-1:=AN _ (by omega) (by omega)
 have rises:(∀ p,p∈t.1->p.2.1.length<=4)->(Option.bind (mj t) fun y16=>(iter (KW (fun y28=>(some (true,()))) (fun y29=>(some (y29.1,())))) Af ((((List.length y16.1):Nat):Int),(0:Int),y16.1,())))=some (In (Aw t.1),()):=by
  intro hp;rw [L_ t hn hp,Ai5]
  have hL:(Aw t.1).length<=240:=by
   have:=Io t.1 hp t.1.length (Nat.le_refl _);rw [List.take_length] at this;omega
  generalize Aw t.1=L at hL;refine (Ca (fun i=>(((L.length:Nat):Int),(i:Int),L,())) (fun i=>DN (Ah L i)&&(decide (i=0)||lessE (Ah L (i-1)) (Ah L i))) (some (true,())) (some (false,())) L.length 0 Af ?_ ?_ (Aj (by omega))).trans ?_
  ·intro i _ hi rec;have hi':i<L.length:=by omega
   simp only [KW,Ad,hi',decide_true,Ai7,Ap,Dt,Ai hi',Ai5,Wg,Am i _ hi' (by omega),Gt];cases DN (Ah L i)
   ·rfl
   cases i with
   |zero=>rfl
   |succ i=>
    have hi2:i<L.length:=by omega
    have e1:IntKind.wrap IntKind.i64 (((i+1:Nat):Int)-1)=(i:Int):=by rw [AN _ (by omega) (by omega)];omega
    simp only [Nat.succ_pos,decide_true,Ai7,Bool.not_true,Ai6,e1,Ap,Ad,hi2,Dt,Ai hi2,Ai5,Pj,nc,Nat.add_sub_cancel,Nat.succ_ne_zero,decide_false,Bool.false_or,Bool.true_and];cases lessE (Ah L i) (Ah L (i+1))<;>rfl
  ·intro rec;have:¬(0+L.length<L.length):=by omega
   simp only [KW,Ad,this,decide_false,Ai6]
  ·unfold In;cases Bo _ 0 L.length<;>rfl
 have key:∀ (m s k:Nat) (hs:s+m=t.1.length),m<k->(∀ i,i<s->(Ah t.1 i).2.1.length<=4)->
   iter (Rv (fun y14=>(Option.bind (mj y14.1) fun y16=>(iter (KW (fun y28=>(some (true,()))) (fun y29=>(some (y29.1,())))) Af ((((List.length y16.1):Nat):Int),(0:Int),y16.1,())))) (fun y15=>(some (y15.1,())))) k (t.1,(((List.length t.1):Nat):Int),(s:Int),t,(t.1.take s).map (·.1),()) =
   some (Bo (EG t) s m&&In (Aw t.1),()):=by
  intro m;induction m with
  |zero=>
   intro s k hs hk hb;cases k with
   |zero=>omega
   |succ k=>
    have:¬s<t.1.length:=by omega
    simp only [iter,Rv,Ad,this,decide_false,Ai6,Bo,Bool.true_and]
    exact rises fun p hp=>by
     obtain ⟨i,hi,rfl⟩:=Ez hp;exact hb i (by omega)
  |succ m ih=>
   intro s k hs hk hb;cases k with
   |zero=>omega
   |succ k=>
    have hi:s<t.1.length:=by omega
    have hcon:=ef ((t.1.take s).map (·.1)) (Ah t.1 s).1 (by simp;omega);rw [iK t.1 _ s (by omega)] at hcon;simp only [iter,Rv,Ad,hi,decide_true,Ai7,Ap,Ai hi,Ai5,hw,hcon,CE,Am s _ hi (by omega)];rw [Bo];have hp:EG t s=(inR (Ah t.1 s).1 1 (t.2.1-1)&&(decide ((((Ah t.1 s).2.1.length:Nat):Int)<=4)&&(!(((Ah t.1 s).2.1.length==0)&&decide (1<t.1.length))&&Bo (fun k=>!((Ah t.1 k).1==(Ah t.1 s).1)) 0 s))):=rfl;rw [hp];cases inR (Ah t.1 s).1 1 (t.2.1-1)
    ·rfl
    have hgt:decide ((((Ah t.1 s).2.1.length:Nat):Int)>4) = !decide ((((Ah t.1 s).2.1.length:Nat):Int)<=4):=by
     by_cases h:(((Ah t.1 s).2.1.length:Nat):Int)<=4
     ·have:¬(((Ah t.1 s).2.1.length:Nat):Int)>4:=by omega
      simp only [h,this,decide_true,decide_false,Bool.not_true]
     ·have:(((Ah t.1 s).2.1.length:Nat):Int)>4:=by omega
      simp only [h,this,decide_true,decide_false,Bool.not_false]
    have hgt1:decide (((t.1.length:Nat):Int)>1)=decide (1<t.1.length):=by
     by_cases h:1<t.1.length
     ·have:((t.1.length:Nat):Int)>1:=by omega
      simp only [h,this]
     ·have:¬((t.1.length:Nat):Int)>1:=by omega
      simp only [h,this]
    have heq:((((Ah t.1 s).2.1.length:Nat):Int)==0)=((Ah t.1 s).2.1.length==0):=by
     rw [Bool.eq_iff_iff,beq_iff_eq,beq_iff_eq];omega
    rw [hgt,hgt1,heq]
    have hnx:(t.1.take s).map (·.1)++[(Ah t.1 s).1]=(t.1.take (s+1)).map (·.1):=by
     rw [List.take_add_one,Cs hi];simp
    have hlim:((t.1.take s).map (·.1)).length+[(Ah t.1 s).1].length<=A_:=by
     simp only [List.length_map,List.length_take,Ai8,A_];omega
    cases Bo (fun k=>!((Ah t.1 k).1==(Ah t.1 s).1)) 0 s
    ·cases decide ((((Ah t.1 s).2.1.length:Nat):Int)<=4)<;>cases (Ah t.1 s).2.1.length==0<;>cases decide (1<t.1.length)<;>rfl
    cases h4:decide ((((Ah t.1 s).2.1.length:Nat):Int)<=4)
    ·rfl
    have h4' :=of_decide_eq_true h4
    have hb':∀ i,i<s+1->(Ah t.1 i).2.1.length<=4:=fun i hi' =>by
     by_cases e:i=s
     ·subst e;omega
     ·exact hb i (by omega)
    have nx:=ih (s+1) k (by omega) (by omega) hb';cases (Ah t.1 s).2.1.length==0
    ·simp only [Bool.not_true,Bool.false_and,Bool.not_false,Bool.true_and,Ai6,Bool.and_true];rw [Aq hlim,hnx];exact nx
    ·cases decide (1<t.1.length)
     ·simp only [Bool.not_true,Bool.and_false,Bool.not_false,Bool.true_and,Ai6,Ai7,Bool.and_true];rw [Aq hlim,hnx];exact nx
     ·rfl
 exact key t.1.length 0 Af (by omega) (Aj (by omega)) (fun i hi=>by omega)
theorem Nz {l:List Ar} {a:Ar} {r:List Ar} (h:l=a::r):l[Int.toNat (0:Int)]? = some a:=by subst h;rfl
theorem ab {l:List Ar}:decide (((l.length:Nat):Int)>0) = !l.isEmpty:=by
 cases l with
 |nil=>rfl
 |cons a r=>rw [decide_eq_true (by simp only [Aja];omega)];rfl
theorem Kt (e:Ar) (p:Ew) (l:List Ew) (i c:Nat):El e (p::l) i c=El e l (i+1) (match p.2.1 with | []=>c | a::_=>cond (lessE e a) c i):=rfl
theorem NA (t:Bd) (e:Ar) (h:t.1.length<=1048576) (h0:1<=t.1.length):gk t e=some (((AU t e:Nat):Int),()):=by
 unfold gk AU
 have e0:El e t.1 0 0=El e (t.1.drop 1) 1 0:=by
  cases ht:t.1 with
  |nil=>rw [ht] at h0;simp at h0
  |cons p l=>
   rw [List.drop_one,List.tail_cons,Kt];cases p.2.1 with
   |nil=>rfl
   |cons a r=>cases h:lessE e a<;>simp [h]
 rw [e0];refine (Ay (S:=Nat) (fun i c=>(((c:Nat):Int),(i:Int),t,e,())) (fun i c=>some (((El e (t.1.drop i) i c:Nat):Int),())) t.1.length (fun _ _=>True) ?_ ?_ Af 1 0 h0 (Aj (by omega)) trivial).trans rfl
 ·intro i c hi _ rec hrec;simp only [Qa,Ad,hi,decide_true,Ai7,Ap,Ai hi,Ai5,Am i _ hi (by omega),ab];rw [Ac hi,Kt];cases hp:(Ah t.1 i).2.1 with
  |nil=>exact hrec c trivial
  |cons a r=>
   simp only [List.isEmpty_cons,Bool.not_false,Ai7,Nz rfl,Ai5,Jv];cases lessE e a
   ·exact hrec i trivial
   ·exact hrec c trivial
 ·intro c _ rec;simp only [Qa,Ad,Nat.lt_irrefl,decide_false,Ai6,Ajh];rfl
theorem Wh (t:Bd) (e:Ar) (h:t.1.length<=1048576):xV t e=some (((AU t e:Nat):Int),()):=by
 unfold xV AU;refine (Ay (S:=Nat) (fun i c=>(((c:Nat):Int),t.1,((t.1.length:Nat):Int),(i:Int),e,())) (fun i c=>some (((El e (t.1.drop i) i c:Nat):Int),())) t.1.length (fun _ _=>True) ?_ ?_ Af 0 0 (Nat.zero_le _) (Aj (by omega)) trivial).trans rfl
 ·intro i c hi _ rec hrec;simp only [Vx,Ad,hi,decide_true,Ai7,Ap,Ai hi,Ai5,Am i _ hi (by omega),ab];rw [Ac hi,Kt];cases hp:(Ah t.1 i).2.1 with
  |nil=>exact hrec c trivial
  |cons a r=>
   simp only [List.isEmpty_cons,Bool.not_false,Ai7,Nz rfl,Ai5,Pj,nb];cases lessE e a
   ·exact hrec i trivial
   ·exact hrec c trivial
 ·intro c _ rec;simp only [Vx,Ad,Nat.lt_irrefl,decide_false,Ai6,Ajh];rfl
theorem Ou {t:Bd} (h:Tree t) (e:Ar):AU t e<t.1.length:=by
 rcases IM t e with h0 | h0
 ·rw [h0];exact h.one
 ·exact h0.1
theorem TQ (l:List Ew) {k:Nat} (h:k<l.length):Aw (l.drop k)=(Ah l k).2.1++Aw (l.drop (k+1)):=by
 rw [Ac h];unfold Aw;rw [List.flatMap_cons]
theorem Wi (t:Bd) (i:Az) (h:Tree t):∃ nums,mT t i=some (Em t i,nums,()):=by
 unfold mT;rw [NA t _ (by have:=h.len;omega) h.one,Ai5,YA h i];have hlt:=Ou h (i.1,-1,());generalize AU t (i.1,-1,())=b at hlt;have hfl:=h.flat_len;have hlen:=h.len
 have key:∀ (m k n:Nat) (out:List Ar) (nums:List Int),k+m=t.1.length->m<n->b<=k->nums.length<=k->out.length<=(Aw (t.1.take k)).length->
   ∃ nums',iter (Jh (fun y22=>(some (y22.1,(y22.2.1,()))))) n ((b:Int),(k:Int),t,i,out,nums,())=some (out++(Aw (t.1.drop k)).filter (fun e=>De i e.1),nums',()):=by
  intro m;induction m with
  |zero=>
   intro k n out nums hk hn _ _ _;cases n with
   |zero=>omega
   |succ n=>
    have:¬k<t.1.length:=by omega
    simp only [iter,Jh,Ad,this,decide_false,Ai6];rw [List.drop_eq_nil_of_le (by omega)];exact ⟨nums,by simp [Aw]⟩
  |succ m ih=>
   intro k n out nums hk hn hb hnl hol;cases n with
   |zero=>omega
   |succ n=>
    have hi:k<t.1.length:=by omega
    have hp4:=(h.page _ (Au hi)).1
    have hfs:(Aw (t.1.take (k+1))).length<=240:=by
     have:=EO t.1 (k+1);have e:=congrArg List.length this;rw [Ai9] at e;omega
    have hs:=Ot t.1 hi;have hs' :=congrArg List.length hs;rw [Ai9] at hs'
    have inner:∀ (nums:List Int) (hnl:nums.length<=k+1),∃ nums',iter (Ki (fun y21=>(iter (Jh (fun y22=>(some (y22.1,(y22.2.1,()))))) n (y21.1,(IntKind.wrap IntKind.i64 (y21.2.1+(1:Int))),y21.2.2.1,y21.2.2.2.1,y21.2.2.2.2.1,y21.2.2.2.2.2.1,())))) Af ((b:Int),(k:Int),(Ah t.1 k).2.1,(0:Int),t,i,out,nums,()) =
      some (out++(Aw (t.1.drop k)).filter (fun e=>De i e.1),nums',()):=by
     intro nums hnl;rw [TQ t.1 hi,List.filter_append,<-List.append_assoc]
     have len2:(out++(Ah t.1 k).2.1.filter fun e=>De i e.1).length<=(Aw (t.1.take (k+1))).length:=by
      have:=List.length_filter_le (fun e:Ar=>De i e.1) (Ah t.1 k).2.1;rw [Ai9];omega
     obtain ⟨nums',e⟩:=ih (k+1) n (out++(Ah t.1 k).2.1.filter fun e=>De i e.1) nums (by omega) (by omega) (by omega) hnl len2;refine ⟨nums',?_⟩;rw [<-e];refine (Ay (S:=List Ar) (fun j o=>((b:Int),(k:Int),(Ah t.1 k).2.1,(j:Int),t,i,o,nums,())) (fun j o=>iter (Jh (fun y22=>(some (y22.1,(y22.2.1,()))))) n ((b:Int),((k+1:Nat):Int),t,i,o++((Ah t.1 k).2.1.drop j).filter (fun e=>De i e.1),nums,())) (Ah t.1 k).2.1.length (fun j o=>o.length<=out.length+j) ?_ ?_ Af 0 out (Nat.zero_le _) (Aj (by omega)) (by omega)).trans (by rw [List.drop_zero])
     ·intro j o hj ho rec hrec;simp only [Ki,Ad,hj,decide_true,Ai7,Ap,Ai hj,Ai5,Z_,Am j _ hj (by omega)];rw [Ac hj];cases hh:De i (Ah (Ah t.1 k).2.1 j).1 with
      |true=>
       rw [Ai7,Aq (by simp only [A_,Ai8];omega),hrec _ (by simp only [Ai9,Ai8];omega),List.filter_cons_of_pos (by exact hh)];simp only [List.append_assoc,List.singleton_append]
      |false=>rw [Ai6,hrec _ (by omega),List.filter_cons_of_neg (by simp [hh])]
     ·intro o _ rec;simp only [Ki,Ad,Nat.lt_irrefl,decide_false,Ai6,Ajh,List.filter_nil,List.append_nil,Am k _ hi (by omega)]
    have hgl:nums.length+[(Ah t.1 k).1].length<=A_:=by simp only [A_,Ai8];have:=h.len;omega
    have hgt:decide ((k:Int)>(b:Int))=decide (b<k):=by
     by_cases hlt:b<k
     ·rw [decide_eq_true hlt,decide_eq_true (by omega)]
     ·rw [decide_eq_false hlt,decide_eq_false (by omega)]
    simp only [iter,Jh,Ad,hi,decide_true,Ai7,Ap,Ai hi,Ai5,ab,hgt,Aq hgl];have fin:=inner (nums++[(Ah t.1 k).1]) (by simp only [Ai9,Ai8];omega);cases decide (b<k)
    ·exact fin
    cases ho:i.2.2.1
    ·cases hp:(Ah t.1 k).2.1 with
     |nil=>rw [hp] at fin;exact fin
     |cons a r=>
      simp only [Bool.not_false,Ai7,List.isEmpty_cons,Nz rfl,Ai5];cases ha:Op.bytesLess a.1 i.2.1
      ·simp only [Bool.not_false,Ai7];exact ⟨nums,by rw [Wd h i hi hp ho ha,List.append_nil]⟩
      ·simp only [Bool.not_true,Ai6];rw [hp] at fin;exact fin
    ·exact fin
 obtain ⟨nums',e⟩:=key (t.1.length-b) b Af [] [] (by omega) (Aj (by have:=h.len;omega)) (Nat.le_refl _) (by simp) (by simp);exact ⟨nums',e⟩
theorem Wj (p:Ar->Bool) (l) (f) (hf:∀ x,x∈l->f x=some (p x)) (hl:l.length<=1048576):xT l f=some (l.filter (fun x=>!p x),()):=by
 unfold xT;rw [show xS l f=r5 l f from rfl,Ry p l f hf (by omega),Ai5];rcases HW p 0 l with ⟨h1,h2⟩ | ⟨j,h1,h2,h3⟩
 ·exact (V' _ _ h1 (fun a b=>iter _ Af (f,a,b,l,()))).trans (congrArg (fun x=>some (x,())) h2.symm)
 ·rw [Nat.zero_add] at h1;refine (V_ _ _ h1 h2 (by omega) (fun a b=>iter _ Af (f,a,b,l,()))).trans ?_;obtain ⟨i',s',e,g1,g2,g3⟩:=Nx p l f hf hl (iF (.pair .str (.pair (.int .i64) .unit))) (l.length-(j+1)) (j+1) j Af l (by omega) (Aj (by omega)) rfl (by omega) h3.symm rfl;have g4:i' <=s'.length:=by rw [g3];exact g2
  exact (e.trans (iG (.pair .str (.pair (.int .i64) .unit)) s' i' g4)).trans (congrArg (fun x=>some (x,())) g1)
theorem NB (t:Bd) (i:Az) (ht:Yy 1048576 t) (hm:JI t=true):∃ nums,r4 t i=some (Em t i,nums,0,()):=by
 have h:=Gq hm;unfold r4;rw [Lx t ht,Ai5,hm];simp only [Bool.not_true,Ai6];have hfl:=h.flat_len
 rw [L_ t h.len fun p hp=>(h.page p hp).1,Ai5,Wj (fun e=>!De i e.1) (Aw t.1) _ (fun e he=>by
  unfold F77;rw [aa];rfl) (by omega),Ai5,Wh t _ (by have:=h.len;omega),Ai5]
 simp only [Bool.not_not];have hlt:=Ou h (i.1,-1,());generalize AU t (i.1,-1,())=b at hlt
 try dsimp only
 rw [IE,Ap,Aq (by rw [Int.toNat_natCast];omega)];simp only [Int.toNat_natCast,List.take_length];have hDl:(t.1.drop b).length<=60:=by have:=h.len;simp;omega
 have hD:∀ p,p∈t.1.drop b->(1<(t.1.drop b).length->p.2.1≠[]):=fun p hp hlen=>(h.page p (List.mem_of_mem_drop hp)).2 (by rw [List.length_drop] at hlen;omega)
 generalize t.1.drop b=D at hDl hD
 have key:∀ (m k n:Nat) (nums:List Int),k+m=D.length->m<n->nums.length<=k->∃ nums',iter (Rw (fun y15=>(some (y15.1,(y15.2.1,((0:Int),())))))) n (D,((D.length:Nat):Int),(k:Int),i,(Aw t.1).filter (fun e=>De i e.1),nums,())=some ((Aw t.1).filter (fun e=>De i e.1),nums',0,()):=by
  intro m;induction m with
  |zero=>
   intro k n nums hk hn _;cases n with
   |zero=>omega
   |succ n=>
    have:¬k<D.length:=by omega
    simp only [iter,Rw,Ad,this,decide_false,Ai6];exact ⟨_,rfl⟩
  |succ m ih=>
   intro k n nums hk hn hnl;cases n with
   |zero=>omega
   |succ n=>
    have hi:k<D.length:=by omega
    have hgl:nums.length+[(Ah D k).1].length<=A_:=by simp only [A_,Ai8];omega
    simp only [iter,Rw,Ad,hi,decide_true,Ai7,Ap,Ai hi,Ai5,Aq hgl,Am k _ hi (by omega),Gt];have nx:=ih (k+1) n (nums++[(Ah D k).1]) (by omega) (by omega) (by simp only [Ai9,Ai8];omega);by_cases h0:0<k
    ·rw [decide_eq_true h0,Ai7];cases i.2.2.1
     ·cases hp:(Ah D k).2.1 with
      |nil=>exact absurd hp (hD _ (Au hi) (by omega))
      |cons a r=>
       simp only [Bool.not_false,Ai7,Nz rfl,Ai5];cases Op.bytesLess a.1 i.2.1
       ·exact ⟨_,rfl⟩
       ·exact nx
     ·exact nx
    ·rw [decide_eq_false h0,Ai6];exact nx
 obtain ⟨nums',e⟩:=key D.length 0 Af [] (by omega) (Aj (by omega)) (by simp);exact ⟨nums',e⟩
def Cv (x:BR):Bool:=Gn x.1&&JI x.2.1
def DG (l:List BR):Bool:=Bo (fun i=>Cv (Ah l i)&&Bo (fun k=>!((Ah l k).1.1==(Ah l i).1.1)) 0 i) 0 l.length&&decide (((l.length:Nat):Int)<=3)
def nE (l:List BR) (name:List UInt8):Int:=Ba (fun x:BR=>x.1.1==name) 0 l
theorem Wk (x:BR) (h:Im 1048576 x):xX x=some (Cv x,()):=by
 unfold xX Cv;rw [Nq x.1 h.1,Tb x.2.1 h.2,Ai5,Ai5];cases Gn x.1<;>rfl
theorem Wl (x:BR) (h:Im 1048576 x):xR x=some (Cv x,()):=by
 unfold xR Cv;rw [VJ x.1 h.1,Lx x.2.1 h.2,Ai5,Ai5];cases Gn x.1<;>rfl
theorem ae (l:List BR) (name:List UInt8) (h:l.length<=1048576):xZ l name=some (nE l name,()):=by
 unfold xZ nE;refine (Ay (S:=Unit) (fun i _=>(l,name,(i:Int),())) (fun i _=>some (Ba (fun x:BR=>x.1.1==name) i (l.drop i),())) l.length (fun _ _=>True) ?_ ?_ Af 0 () (Nat.zero_le _) (Aj (by omega)) trivial).trans rfl
 ·intro i _ hi _ rec hrec;simp only [VB,Ad,hi,decide_true,Ai7,Ap,Ai hi,Ai5,Am i _ hi (by omega)];rw [Ac hi,Ba,hrec () trivial];cases (Ah l i).1.1==name<;>rfl
 ·intro _ _ rec;simp only [VB,Ad,Nat.lt_irrefl,decide_false,Ai6,Ajh,Ba]
theorem Ma (l:List BR) (name:List UInt8) (h:l.length<=1048576):r0 l name=some (nE l name,()):=by
 unfold r0 nE;have e:=Ry (fun x:BR=>x.1.1==name) l (fun v3:BR=>Option.map (fun v4:Bool×Unit=>v4.1) (F69 v3 name)) (fun x _=>rfl) (by omega);exact congrArg (fun o:Option (Int×Unit)=>Option.bind o fun y0=>some (y0.1,())) e
theorem Tc {α:Type} [Inhabited α] (p:α->Bool) (l:List α) {i:Nat} (hi:i<l.length) (hp:p (Ah l i)=true):decide (Ba p 0 l<(i:Int)) = !Bo (fun k=>!p (Ah l k)) 0 i:=by
 rcases Ns p 0 l with ⟨_,h⟩ | ⟨r,hr,h1,h2,h3⟩
 ·rw [h i hi] at hp;cases hp
 ·rw [h1,Nat.zero_add];by_cases hlt:r<i
  ·rw [decide_eq_true (by omega),eq_comm,Bool.not_eq_true',<-Bool.not_eq_true,AY];intro g;have:=g r (Nat.zero_le _) (by omega);rw [h2] at this;cases this
  ·rw [decide_eq_false (by omega),eq_comm,Bool.not_eq_false',AY];intro k _ hk;rw [h3 k (by omega)];rfl
theorem RY (l:List BR) (h:LS Im 1048576 l):xY l=some (DG l,()):=by
 unfold xY DG;have hl:=h.1;refine (Ca (fun i=>(l,(i:Int),())) (fun i=>Cv (Ah l i)&&Bo (fun k=>!((Ah l k).1.1==(Ah l i).1.1)) 0 i) (some (decide (((l.length:Nat):Int)<=3),())) (some (false,())) l.length 0 Af ?_ ?_ (Aj (by omega))).trans ?_
 ·intro i _ hi rec;have hi':i<l.length:=by omega
  have hx:=h.2 _ (Au hi');simp only [VA,Ad,hi',decide_true,Ai7,Ap,Ai hi',Ai5,Wk _ hx];cases Cv (Ah l i)
  ·rfl
  simp only [Bool.not_true,Ai6,Bool.true_and];refine (Ca (fun k=>(l,(i:Int),(k:Int),())) (fun k=>!((Ah l k).1.1==(Ah l i).1.1)) (rec (l,((i+1:Nat):Int),())) (some (false,())) i 0 Af ?_ ?_ (Aj (by omega))).trans rfl
  ·intro k _ hk rec';have hk':k<i:=by omega
   have hkl:k<l.length:=by omega
   simp only [Vz,Ad,hk',decide_true,Ai7,Ap,Ai hi',Ai hkl,Ai5,Am k _ hkl (by omega)];cases (Ah l k).1.1==(Ah l i).1.1<;>rfl
  ·intro rec';have:¬(0+i<i):=by omega
   simp only [Vz,Ad,this,decide_false,Ai6,Am i _ hi' (by omega)]
 ·intro rec;have:¬(0+l.length<l.length):=by omega
  simp only [VA,Ad,this,decide_false,Ai6]
 ·cases Bo (fun i=>Cv (Ah l i)&&Bo (fun k=>!((Ah l k).1.1==(Ah l i).1.1)) 0 i) 0 l.length<;>rfl
theorem Ly (l:List BR) (h:LS Im 1048576 l):vK l=some (DG l,()):=by
 unfold vK DG;have hl:=h.1;refine (Ca (fun i=>(l,l,((l.length:Nat):Int),(i:Int),())) (fun i=>Cv (Ah l i)&&Bo (fun k=>!((Ah l k).1.1==(Ah l i).1.1)) 0 i) (some (decide (((l.length:Nat):Int)<=3),())) (some (false,())) l.length 0 Af ?_ ?_ (Aj (by omega))).trans ?_
 ·intro i _ hi rec;have hi':i<l.length:=by omega
  have hx:=h.2 _ (Au hi');have hb:=Tc (fun x:BR=>x.1.1==(Ah l i).1.1) l hi' (by simp);simp only [Vw,Ad,hi',decide_true,Ai7,Ap,Ai hi',Ai5,Wl _ hx,Ma l _ hl,Am i _ hi' (by omega)];unfold nE;rw [hb];cases Cv (Ah l i)
  ·rfl
  cases Bo (fun k=>!((Ah l k).1.1==(Ah l i).1.1)) 0 i<;>rfl
 ·intro rec;have:¬(0+l.length<l.length):=by omega
  simp only [Vw,Ad,this,decide_false,Ai6]
 ·cases Bo (fun i=>Cv (Ah l i)&&Bo (fun k=>!((Ah l k).1.1==(Ah l i).1.1)) 0 i) 0 l.length<;>rfl
theorem Gb {l:List BR} (h:DG l=true):∀ x,x∈l->Cv x=true:=by
 intro x hx;obtain ⟨i,hi,rfl⟩:=Ez hx;unfold DG at h;rw [Ajb,AY] at h;have:=h.1 i (Nat.zero_le _) (by omega);rw [Ajb] at this;exact this.1
theorem eh (p:Ar->Bool) (l) (f) (hf:∀ x,x∈l->f x=some (p x)) (hl:l.length<=1048577):F37 l f=some (l.any p,()):=KX p l f hf hl
def AZ (x y:List UInt8):Prop:=∃ p c c' s s',x=p++c::s/\y=p++c'::s' /\c<c'
theorem AZ.more {x y:List UInt8} (h:AZ x y) (s s':List UInt8):AZ (x++s) (y++s'):=by
 obtain ⟨p,c,c',r,r',rfl,rfl,hc⟩:=h;exact ⟨p,c,c',r++s,r'++s',by simp,by simp,hc⟩
theorem AZ.pre {x y:List UInt8} (h:AZ x y) (q:List UInt8):AZ (q++x) (q++y):=by
 obtain ⟨p,c,c',r,r',rfl,rfl,hc⟩:=h;exact ⟨q++p,c,c',r,r',by simp,by simp,hc⟩
theorem AZ.head {c c':UInt8} (h:c<c') (s s':List UInt8):AZ (c::s) (c'::s'):=⟨[],c,c',s,s',rfl,rfl,h⟩
theorem AZ.less {x y:List UInt8} (h:AZ x y):Op.bytesLess x y=true:=by
 obtain ⟨p,c,c',r,r',rfl,rfl,hc⟩:=h;induction p with
 |nil=>simp [Op.bytesLess,hc]
 |cons a p ih=>simp [Op.bytesLess,ih]
theorem AZ.ne {x y:List UInt8} (h:AZ x y):x≠y:=VF h.less
def Ip (t:List UInt8):List UInt8:=(t.flatMap fun b=>if b=0 then [0,255] else [b])++[0,0]
theorem G_ (b:UInt8) (t:List UInt8):Ip (b::t)=(if b=0 then [0,255] else [b])++Ip t:=by
 unfold Ip;rw [List.flatMap_cons,List.append_assoc]
theorem iL {b:UInt8} (h:b≠0):(0:UInt8)<b:=by
 rcases UInt8.lt_or_lt_of_ne h with h | h
 ·exact absurd h (by simp)
 ·exact h
theorem Mb:∀ (x y:List UInt8),Lib.compareBytes x y<0->AZ (Ip x) (Ip y)
 |[],[],h=>by simp [Lib.compareBytes] at h
 |_::_,[],h=>by simp [Lib.compareBytes] at h
 |[],b::y,_=>by
  rw [G_];by_cases hb:b=0
  ·rw [if_pos hb];exact ⟨[0],0,255,[],Ip y,rfl,rfl,by decide⟩
  ·rw [if_neg hb];exact AZ.head (iL hb) [0] (Ip y)
 |a::x,b::y,h=>by
  rw [G_,G_];simp only [Lib.compareBytes] at h;by_cases h1:a<b
  ·have hb:b≠0:=by rintro rfl;simp at h1
   rw [if_neg hb];by_cases ha:a=0
   ·rw [if_pos ha];exact AZ.head (iL hb) _ _
   ·rw [if_neg ha];exact AZ.head h1 _ _
  ·by_cases h2:b<a
   ·simp [h1,h2] at h
   ·simp only [h1,h2,if_false] at h
    have:a=b:=by
     rcases Classical.em (a=b) with e | e
     ·exact e
     ·rcases UInt8.lt_or_lt_of_ne e with e | e
      ·exact absurd e h1
      ·exact absurd e h2
    subst this;exact (Mb x y h).pre _
theorem qR (n m:Nat) (h:m<=7):GM (eI (n:Int) m)=UInt8.ofNat (n / 256 ^ m % 256):=by
 unfold GM eI;rw [show Min.min (8*m) 64=8*m from Nat.min_eq_left (by omega)]
 have e1:((2:Int) ^ (8*m))=((256 ^ m:Nat):Int):=by
  rw [Int.pow_mul];norm_cast
 rw [e1,Int.fdiv_eq_ediv_of_nonneg _ (Int.natCast_nonneg _),<-Int.natCast_ediv]
 have e2:IntKind.wrap .u8 ((n / 256 ^ m:Nat):Int)=((n / 256 ^ m % 256:Nat):Int):=by
  simp [IntKind.wrap,IntKind.bits,IntKind.signed]
 rw [e2,Int.toNat_natCast]
def Bm (n:Nat):Nat->List UInt8
 |0=>[]
 |m+1=>UInt8.ofNat (n / 256 ^ m % 256)::Bm n m
theorem HC (n:Nat):∀ m,m<=8->(Cz (n:Int) m).map GM=Bm n m
 |0,_=>rfl
 |m+1,h=>by
  simp only [Cz,Bm,List.map_cons];rw [qR n m (by omega),HC n m (by omega)]
theorem YB {a b:Nat} (h:a<b) (hb:b<256):UInt8.ofNat a<UInt8.ofNat b:=by
 rw [UInt8.lt_iff_toNat_lt,UInt8.toNat_ofNat',UInt8.toNat_ofNat'];rw [Nat.mod_eq_of_lt (show a<2 ^ 8 by omega),Nat.mod_eq_of_lt (show b<2 ^ 8 by omega)];exact h
theorem NC (n n':Nat):∀ m,n % 256 ^ m<n' % 256 ^ m->AZ (Bm n m) (Bm n' m)
 |0,h=>by simp [Nat.mod_one] at h
 |m+1,h=>by
  have e:=Nat.mod_pow_succ (x:=n) (b:=256) (k:=m);have e' :=Nat.mod_pow_succ (x:=n') (b:=256) (k:=m);rw [e,e'] at h;have l1:=Nat.mod_lt n (show 256 ^ m>0 from Nat.pow_pos (by decide));have l2:=Nat.mod_lt n' (show 256 ^ m>0 from Nat.pow_pos (by decide));have b1:=Nat.mod_lt (n / 256 ^ m) (show 256>0 by decide);have b2:=Nat.mod_lt (n' / 256 ^ m) (show 256>0 by decide);simp only [Bm];rcases Nat.lt_trichotomy (n / 256 ^ m % 256) (n' / 256 ^ m % 256) with g | g | g
  ·exact AZ.head (YB g b2) _ _
  ·rw [g] at h ⊢;exact (NC n n' m (by omega)).pre [_]
  ·exfalso;have:256 ^ m*(n' / 256 ^ m % 256+1)<=256 ^ m*(n / 256 ^ m % 256):=Nat.mul_le_mul_left _ g;rw [Nat.mul_add,Nat.mul_one] at this;omega
def ei (g:Ae->List UInt8) (k:Int) (v:Ae):List UInt8:=
 if k=0 then [] else if k=1 then [GM (IntKind.wrap .u8 v.2.1)] else if k=2 then (Cz (IntKind.wrap .i64 (v.2.1+4611686018427387904)) 8).map GM
  else if k=3 then Ip v.2.2.1 else if k=4 then (BZ v).flatMap g++[0] else (B_ v).flatMap (fun f=>1::(Ip f.1++g f.2.1))++[0]
def Td (g:Ae->List UInt8) (v:Ae):List UInt8:=GM (IntKind.wrap .u8 (v.1+1))::ei g v.1 v
def HD:Nat->Ae->List UInt8
 |0=>Td fun _=>[]
 |d+1=>Td (HD d)
theorem TR (d:Nat) (v:Ae):∃ s,HD d v=GM (IntKind.wrap .u8 (v.1+1))::s:=by
 cases d with
 |zero=>exact ⟨_,rfl⟩
 |succ d=>exact ⟨_,rfl⟩
theorem iM {k:Int} (h:k=0\/k=1\/k=2\/k=3\/k=4\/k=5):GM (IntKind.wrap .u8 (k+1))=UInt8.ofNat (k.toNat+1)/\(0:UInt8)<GM (IntKind.wrap .u8 (k+1)):=by
 rcases h with rfl | rfl | rfl | rfl | rfl | rfl<;>decide
theorem Mc {α:Type} {c:α->α->Int} {g:α->List UInt8}:∀ (x y:List α),(∀ a,a∈x->∀ b,b∈y->(c a b<0->AZ (g a) (g b))/\(c a b=0->a=b))->
  (∀ b,b∈y->∃ h s,g b=h::s/\(0:UInt8)<h)->CS c x y<0->AZ (x.flatMap g++[0]) (y.flatMap g++[0])
 |[],[],_,_,h=>by simp [CS] at h
 |_::_,[],_,_,h=>by simp [CS] at h
 |[],b::y,_,h2,_=>by
  obtain ⟨q,s,e,hq⟩:=h2 b (by simp);rw [List.flatMap_cons,e];exact AZ.head hq _ _
 |a::x,b::y,h1,h2,h=>by
  rw [List.flatMap_cons,List.flatMap_cons,List.append_assoc,List.append_assoc];simp only [CS] at h;obtain ⟨g1,g2⟩:=h1 a (by simp) b (by simp);by_cases hz:c a b=0
  ·rw [if_pos hz] at h;rw [g2 hz];exact (Mc x y (fun p hp q hq=>h1 p (by simp [hp]) q (by simp [hq])) (fun q hq=>h2 q (by simp [hq])) h).pre _
  ·rw [if_neg hz] at h;exact (g1 h).more _ _
theorem Wm {d:Nat} {v:Ae} (h:AH d v=true) (hk:v.1=2) : -1000000000000<=v.2.1/\v.2.1<=1000000000000:=by
 have:∀ g m,GL g m v=true->-1000000000000<=v.2.1/\v.2.1<=1000000000000:=by
  intro g m h;unfold GL at h;rw [if_neg (by omega),if_neg (by omega),if_pos hk] at h;simp only [inR,Ajb,Ajg] at h;exact h.1
 cases d with
 |zero=>exact this _ _ h
 |succ d=>exact this _ _ h
theorem RZ {d:Nat} {v:Ae} (h:AH d v=true) (hk:v.1=1):0<=v.2.1/\v.2.1<=1:=by
 have:∀ g m,GL g m v=true->0<=v.2.1/\v.2.1<=1:=by
  intro g m h;unfold GL at h;rw [if_neg (by omega),if_pos hk] at h;simp only [inR,Ajb,Ajg] at h;exact h.1
 cases d with
 |zero=>exact this _ _ h
 |succ d=>exact this _ _ h
theorem La {d:Nat} {v:Ae} (h:AH d v=true) (h1:v.1≠1) (h2:v.1≠2):v.2.1=0/\(v.1=0->v.2.2.1=[]):=by
 have:∀ g m,GL g m v=true->v.2.1=0/\(v.1=0->v.2.2.1=[]):=by
  intro g m h;unfold GL at h;rw [if_neg h1,if_neg h2] at h;by_cases k0:v.1=0
  ·rw [if_pos k0] at h;simp only [Ajb,beq_iff_eq] at h;exact ⟨h.1,fun _=>h.2⟩
  refine ⟨?_,fun e=>absurd e k0⟩;rw [if_neg k0] at h;by_cases k3:v.1=3
  ·rw [if_pos k3] at h;simp only [Ajb,beq_iff_eq] at h;exact h.1
  rw [if_neg k3] at h;by_cases k4:v.1=4
  ·rw [if_pos k4] at h;simp only [Ajb,beq_iff_eq] at h;exact h.1
  rw [if_neg k4] at h;by_cases k5:v.1=5
  ·rw [if_pos k5] at h;simp only [Ajb,beq_iff_eq] at h;exact h.1
  rw [if_neg k5] at h;cases h
 cases d with
 |zero=>exact this _ _ h
 |succ d=>exact this _ _ h
theorem ce {a b:Int} (h:II a b<0):a<b:=by
 unfold II at h;by_cases h1:a<b
 ·exact h1
 ·by_cases h2:a>b<;>simp [h1,h2] at h
theorem R_ (g:Ae->Ae->Int) (r:Ae->List UInt8) (d:Nat) (a b:Ae) (ha:AH d a=true) (hb:AH d b=true)
  (hg:∀ e,d=e+1->∀ x y,AH e x=true->AH e y=true->(g x y<0->AZ (r x) (r y))/\(g x y=0->x=y)/\∃ h s,r y=h::s/\(0:UInt8)<h)
  (h:GC g a b<0):AZ (Td r a) (Td r b):=by
 have ka:=BH ha;have kb:=BH hb;unfold Td;unfold GC at h;by_cases hk:II a.1 b.1≠0
 ·rw [if_pos hk] at h;have hlt:=ce h;rw [(iM ka).1,(iM kb).1];exact AZ.head (YB (by omega) (by omega)) _ _
 have hk':a.1=b.1:=(Cn _ _).1 (Classical.not_not.1 hk);rw [if_neg hk] at h;rw [hk'];rw [hk'] at h;refine AZ.pre (q:=[_]) ?_;by_cases hn:II a.2.1 b.2.1≠0
 ·rw [if_pos hn] at h;have hlt:=ce h;by_cases k1:b.1=1
  ·have a1:=RZ ha (hk'.trans k1);have b1:=RZ hb k1;rw [k1];have ea:a.2.1=0:=by omega
   have eb:b.2.1=1:=by omega
   show AZ [GM (IntKind.wrap .u8 a.2.1)] [GM (IntKind.wrap .u8 b.2.1)];rw [ea,eb];exact ⟨[],0,1,[],[],rfl,rfl,by decide⟩
  by_cases k2:b.1=2
  ·have a1:=Wm ha (hk'.trans k2);have b1:=Wm hb k2;rw [k2];show AZ ((Cz (IntKind.wrap .i64 (a.2.1+4611686018427387904)) 8).map GM) ((Cz (IntKind.wrap .i64 (b.2.1+4611686018427387904)) 8).map GM);rw [AN _ (by omega) (by omega),AN _ (by omega) (by omega)];obtain ⟨n,hn⟩:∃ n:Nat,a.2.1+4611686018427387904=(n:Int):=⟨(a.2.1+4611686018427387904).toNat,by omega⟩;obtain ⟨n',hn'⟩:∃ n:Nat,b.2.1+4611686018427387904=(n:Int):=⟨(b.2.1+4611686018427387904).toNat,by omega⟩;rw [hn,hn',HC _ _ (Nat.le_refl 8),HC _ _ (Nat.le_refl 8)];refine NC n n' 8 ?_;rw [Nat.mod_eq_of_lt (by omega),Nat.mod_eq_of_lt (by omega)];omega
  ·have:=(La ha (by omega) (by omega)).1;have:=(La hb k1 k2).1;omega
 rw [if_neg hn] at h;by_cases k4:b.1=4
 ·rw [if_pos k4] at h;obtain ⟨e,l,hd,i1,i2,_,_,i3⟩:=AQ ha (hk'.trans k4);obtain ⟨e',l',hd',j1,j2,_,_,j3⟩:=AQ hb k4;have:e'=e:=by omega
  subst this;rw [k4];show AZ ((BZ a).flatMap r++[0]) ((BZ b).flatMap r++[0]);rw [i2,j2] at h ⊢;exact Mc l l' (fun x hx y hy=>⟨(hg e' hd x y (i3 x hx) (j3 y hy)).1,(hg e' hd x y (i3 x hx) (j3 y hy)).2.1⟩) (fun y hy=>(hg e' hd y y (j3 y hy) (j3 y hy)).2.2) h
 by_cases k5:b.1=5
 ·rw [if_neg k4,if_pos k5] at h;obtain ⟨e,l,hd,i1,i2,_,_,i3⟩:=Bl ha (hk'.trans k5);obtain ⟨e',l',hd',j1,j2,_,_,j3⟩:=Bl hb k5;have:e'=e:=by omega
  subst this;rw [k5];show AZ ((B_ a).flatMap (fun f=>1::(Ip f.1++r f.2.1))++[0]) ((B_ b).flatMap (fun f=>1::(Ip f.1++r f.2.1))++[0]);rw [i2,j2] at h ⊢;refine Mc l l' (fun x hx y hy=>?_) (fun y hy=>⟨1,_,rfl,by decide⟩) h;have hv:=hg e' hd x.2.1 y.2.1 (i3 x hx) (j3 y hy);rw [Om];unfold DR;by_cases hz:Lib.compareBytes x.1 y.1=0
  ·rw [if_pos hz,(AC _ _).1 hz];refine ⟨fun hlt=>((hv.1 hlt).pre _).pre [1],fun h0=>?_⟩;have e1:=(AC _ _).1 hz;have e2:=hv.2.1 h0;obtain ⟨xn,xv,_⟩:=x;obtain ⟨yn,yv,_⟩:=y;simp only at e1 e2;subst e1;subst e2;rfl
  ·rw [if_neg hz];exact ⟨fun hlt=>((Mb _ _ hlt).more _ _).pre [1],fun h0=>absurd h0 hz⟩
 rw [if_neg k4,if_neg k5] at h;by_cases k3:b.1=3
 ·rw [k3];exact Mb _ _ h
 ·exfalso
  have hT:a.2.2.1=b.2.2.1:=by
   rcases Classical.em (b.1=0) with z | z
   ·rw [(La ha (by omega) (by omega)).2 (by omega),(La hb (by omega) (by omega)).2 z]
   ·have e0:∀ (v:Ae),AH d v=true->(v.1=1\/v.1=2)->v.2.2.1=[]:=by
     intro v hv hk
     have:∀ g m,GL g m v=true->v.2.2.1=[]:=by
      intro g m h;unfold GL at h;rw [if_neg (by omega)] at h;rcases hk with hk | hk
      ·rw [if_pos hk] at h;simp only [Ajb,beq_iff_eq] at h;exact h.2
      ·rw [if_neg (by omega),if_pos hk] at h;simp only [Ajb,beq_iff_eq] at h;exact h.2
     cases d with
     |zero=>exact this _ _ hv
     |succ d=>exact this _ _ hv
    rw [e0 a ha (by omega),e0 b hb (by omega)]
  rw [hT,(AC _ _).2 rfl] at h;omega
theorem Md:∀ (d:Nat) (a b:Ae),AH d a=true->AH d b=true->DF d a b<0->AZ (HD d a) (HD d b)
 |0,a,b,ha,hb,h=>R_ _ _ 0 a b ha hb (fun e he=>by omega) h
 |d+1,a,b,ha,hb,h=>R_ _ _ (d+1) a b ha hb (fun e he x y hx hy=>by
  have:e=d:=by omega
  subst this;refine ⟨Md e x y hx hy,(EN e x y hx hy).1,?_⟩;obtain ⟨s,hs⟩:=TR e y;exact ⟨_,s,hs,(iM (BH hy)).2⟩) h
def DH (t:List UInt8):List UInt8:=t.map fun b=>255-b
def AS (desc:Bool) (v:Ae):List UInt8:=cond desc (DH (HD 5 v)) (HD 5 v)
theorem qS {a b:UInt8} (h:a<b):255-b<255-a:=by
 rw [UInt8.lt_iff_toNat_lt] at h ⊢;rw [UInt8.toNat_sub_of_le _ _ (by rw [UInt8.le_iff_toNat_le];have:=b.toNat_lt;simp;omega),UInt8.toNat_sub_of_le _ _ (by rw [UInt8.le_iff_toNat_le];have:=a.toNat_lt;simp;omega)];have:=b.toNat_lt;simp;omega
theorem AZ.turn {x y:List UInt8} (h:AZ x y):AZ (DH y) (DH x):=by
 obtain ⟨p,c,c',s,s',rfl,rfl,hc⟩:=h;exact ⟨DH p,255-c',255-c,DH s',DH s,by simp [DH],by simp [DH],qS hc⟩
theorem cf {a b:Ae} (ha:AH 5 a=true) (hb:AH 5 b=true) (h:DF 5 a b<0):AZ (AS false a) (AS false b):=Md 5 a b ha hb h
theorem ci {a b:Ae} (ha:AH 5 a=true) (hb:AH 5 b=true) (h:DF 5 a b<0):AZ (AS true b) (AS true a):=(Md 5 a b ha hb h).turn
def Ex:List UInt8->Option (List UInt8)
 |[]=>none
 |b::t=>match Ex t with
  |some h=>some (b::h)
  |none=>if b<255 then some [b+1] else none
theorem Wn {b:UInt8} (h:b<255):b<b+1/\∀ c,b<c->¬c<b+1:=by
 rw [UInt8.lt_iff_toNat_lt] at h;have h:b.toNat<255:=h
 have e:(b+1).toNat=b.toNat+1:=by
  rw [UInt8.toNat_add];simp;omega
 refine ⟨by rw [UInt8.lt_iff_toNat_lt,e];omega,fun c hc=>?_⟩;rw [UInt8.lt_iff_toNat_lt] at hc ⊢;rw [e];omega
theorem ND:∀ (t h s:List UInt8),Ex t=some h->Op.bytesLess (t++s) h=true
 |[],h,s,e=>by cases e
 |b::t,h,s,e=>by
  unfold Ex at e;cases hb:Ex t with
  |some h' =>
   rw [hb] at e;injection e with e
   subst e;have:=ND t h' s hb;simp [Op.bytesLess,this]
  |none=>
   rw [hb] at e;dsimp only at e;split at e
   ·rename_i hlt;injection e with e
    subst e;simp [Op.bytesLess,(Wn hlt).1]
   ·cases e
theorem AZ.cons {x y:List UInt8} (h:AZ x y):(∃ c c' s s',x=c::s/\y=c'::s' /\c<c')\/∃ b x' y',x=b::x' /\y=b::y' /\AZ x' y' :=by
 obtain ⟨p,c,c',s,s',rfl,rfl,hc⟩:=h;cases p with
 |nil=>exact .inl ⟨c,c',s,s',rfl,rfl,hc⟩
 |cons b p=>exact .inr ⟨b,_,_,rfl,rfl,p,c,c',s,s',rfl,rfl,hc⟩
theorem qT {a b:UInt8} (h:a<b):a<255:=by
 rw [UInt8.lt_iff_toNat_lt] at h ⊢;have:=b.toNat_lt;simp;omega
theorem TS:∀ (t y:List UInt8),AZ t y->∃ h,Ex t=some h/\Op.bytesLess y h=false
 |[],y,hp=>by
  obtain ⟨p,c,c',s,s',e,_⟩:=hp;simp at e
 |b::t,y,hp=>by
  rcases hp.cons with ⟨c,c',s,s',e1,rfl,hc⟩ | ⟨b',x',y',e1,rfl,hp'⟩
  ·injection e1 with e1 e2
   subst e1 e2;unfold Ex;cases Ex t with
   |some h' =>
    refine ⟨b::h',rfl,?_⟩;have h1:¬c'<b:=fun h=>UInt8.lt_irrefl b (UInt8.lt_trans hc h)
    have h2:(c'==b)=false:=by rw [beq_eq_false_iff_ne];rintro rfl;exact UInt8.lt_irrefl _ hc
    simp [Op.bytesLess,h1,h2]
   |none=>
    have hlt:=qT hc;refine ⟨[b+1],by simp [hlt],?_⟩;have h1:=(Wn hlt).2 c' hc;cases s'<;>simp [Op.bytesLess,h1]
  ·injection e1 with e1 e2
   subst e1 e2;obtain ⟨h,h1,h2⟩:=TS t y' hp';refine ⟨b::h,by unfold Ex;rw [h1],?_⟩;have:¬b<b:=UInt8.lt_irrefl b;simp [Op.bytesLess,this,h2]
theorem Wo:∀ (t s:List UInt8),Op.bytesLess (t++s) t=false
 |[],s=>by cases s<;>rfl
 |b::t,s=>by
  have:¬b<b:=UInt8.lt_irrefl b;simp [Op.bytesLess,this,Wo t s]
theorem Jw {x y z:List UInt8} (h1:Op.bytesLess x y=false) (h2:Op.bytesLess y z=false):Op.bytesLess x z=false:=by
 cases h:Op.bytesLess x z with
 |false=>rfl
 |true=>
  exfalso;rcases HX h1 with e | e
  ·rw [<-e,h] at h2;cases h2
  ·have:=Cd _ _ _ e h;rw [this] at h2;cases h2
theorem nd {x y z:List UInt8} (h1:Op.bytesLess x y=true) (h2:Op.bytesLess z y=false):Op.bytesLess x z=true:=by
 cases h:Op.bytesLess x z with
 |true=>rfl
 |false=>
  exfalso;have:=Jw h h2;rw [this] at h1;cases h1
def Ku (t:List UInt8):Az:=match Ex t with | some h=>(t,h,false,()) | none=>(t,[],true,())
theorem cj (t s:List UInt8):De (Ku t) (t++s)=true:=by
 unfold Ku De;cases h:Ex t with
 |some h' =>dsimp only;rw [Wo,ND t h' s h];rfl
 |none=>dsimp only;rw [Wo];rfl
def HY (i j:Az):Prop:=Op.bytesLess i.1 j.1=false/\(j.2.2.1=true\/i.2.2.1=false/\Op.bytesLess j.2.1 i.2.1=false)
theorem HY.has {i j:Az} (h:HY i j) {k:List UInt8} (hk:De i k=true):De j k=true:=by
 unfold De at hk ⊢;simp only [Ajb,Bool.not_eq_true',Ajc] at hk ⊢;refine ⟨Jw hk.1 h.1,?_⟩;rcases h.2 with h2 | ⟨h2,h3⟩
 ·exact .inl h2
 ·rcases hk.2 with h4 | h4
  ·rw [h2] at h4;cases h4
  ·exact .inr (nd h4 h3)
def Wp:Az:=([],[],true,())
theorem ck (k:List UInt8):De Wp k=true:=by
 unfold De Wp;cases k<;>rfl
def BY (desc:Bool) (k:Int):UInt8:=cond desc (255-GM (IntKind.wrap .u8 (k+1))) (GM (IntKind.wrap .u8 (k+1)))
theorem Lb (desc:Bool) (v:Ae):∃ s,AS desc v=BY desc v.1::s:=by
 obtain ⟨s,hs⟩:=TR 5 v;unfold AS BY;cases desc
 ·exact ⟨s,hs⟩
 ·exact ⟨DH s,by rw [hs];rfl⟩
theorem Sa {desc:Bool} {k:Int} (h:k=0\/k=1\/k=2\/k=3\/k=4\/k=5):BY desc k<255:=by
 cases desc<;>rcases h with rfl | rfl | rfl | rfl | rfl | rfl<;>decide
theorem Kv {desc:Bool} {k:Int} (h:k=0\/k=1\/k=2\/k=3\/k=4\/k=5):Ex [BY desc k]=some [BY desc k+1]:=by
 unfold Ex;rw [show Ex []=none from rfl];simp [Sa h]
theorem Kw {desc:Bool} {x:Ae} (hx:AH 5 x=true) (s:List UInt8):De (Ku [BY desc x.1]) (AS desc x++s)=true:=by
 obtain ⟨r,hr⟩:=Lb desc x;rw [hr];exact cj [BY desc x.1] (r++s)
theorem Sb {desc:Bool} {x v:Ae} (hx:AH 5 x=true) (hk:x.1=v.1) (hp:AZ (AS desc v) (AS desc x)) (s:List UInt8) :
  ∃ h,Ex (AS desc v)=some h/\De (h,[BY desc v.1+1],false,()) (AS desc x++s)=true:=by
 have hp':AZ (AS desc v) (AS desc x++s):=by have:=hp.more [] s;rwa [List.append_nil] at this
 obtain ⟨h,h1,h2⟩:=TS _ _ hp';refine ⟨h,h1,?_⟩;have h3:=Kw (desc:=desc) hx s;unfold Ku at h3;rw [Kv (BH hx)] at h3;unfold De at h3 ⊢;rw [h2,<-hk];simp only [Ajb] at h3;exact h3.2
theorem YC {desc:Bool} {x v:Ae} (hx:AH 5 x=true) (hk:x.1=v.1) (hp:AZ (AS desc v) (AS desc x)\/x=v) (s:List UInt8) :
  De (AS desc v,[BY desc v.1+1],false,()) (AS desc x++s)=true:=by
 have h3:=Kw (desc:=desc) hx s;unfold Ku at h3;rw [Kv (BH hx)] at h3;unfold De at h3 ⊢;rw [<-hk]
 have:Op.bytesLess (AS desc x++s) (AS desc v)=false:=by
  rcases hp with hp | rfl
  ·have hl:=(show AZ (AS desc v) (AS desc x++s) by have:=hp.more [] s;rwa [List.append_nil] at this).less;cases h:Op.bytesLess (AS desc x++s) (AS desc v) with
   |false=>rfl
   |true=>have:=Cd _ _ _ h hl;rw [Bj] at this;cases this
  ·exact Wo _ _
 rw [this];simp only [Ajb] at h3;exact h3.2
theorem TT {desc:Bool} {x v:Ae} (hx:AH 5 x=true) (hk:x.1=v.1) (hp:AZ (AS desc x) (AS desc v)) (s:List UInt8) :
  De ([BY desc v.1],AS desc v,false,()) (AS desc x++s)=true:=by
 have h3:=Kw (desc:=desc) hx s;unfold Ku at h3;rw [Kv (BH hx)] at h3;unfold De at h3 ⊢;rw [<-hk];simp only [Ajb] at h3;have hl:=(show AZ (AS desc x++s) (AS desc v) by have:=hp.more s [];rwa [List.append_nil] at this).less;dsimp only at h3 ⊢;rw [h3.1,hl];rfl
theorem YD {desc:Bool} {x v:Ae} (hx:AH 5 x=true) (hk:x.1=v.1) (hp:AZ (AS desc x) (AS desc v)\/x=v) {h:List UInt8} (hb:Ex (AS desc v)=some h) (s:List UInt8) :
  De ([BY desc v.1],h,false,()) (AS desc x++s)=true:=by
 have h3:=Kw (desc:=desc) hx s;unfold Ku at h3;rw [Kv (BH hx)] at h3;unfold De at h3 ⊢;rw [<-hk];simp only [Ajb] at h3
 have:Op.bytesLess (AS desc x++s) h=true:=by
  rcases hp with hp | rfl
  ·have hl:=(show AZ (AS desc x++s) (AS desc v) by have:=hp.more s [];rwa [List.append_nil] at this).less;have:=ND (AS desc v) h [] hb;rw [List.append_nil] at this;exact Cd _ _ _ hl this
  ·exact ND _ h s hb
 dsimp only at h3 ⊢;rw [h3.1,this];rfl
theorem cn (desc:Bool) {v:Ae} (hv:AH 5 v=true):∃ h,Ex (AS desc v)=some h:=by
 obtain ⟨s,hs⟩:=Lb desc v;rw [hs];unfold Ex;cases Ex s with
 |some h=>exact ⟨_,rfl⟩
 |none=>exact ⟨_,by dsimp only;rw [if_pos (Sa (BH hv))]⟩
def HZ (desc:Bool) (t:CI):Az:=
 if t.1=1 then Ku (AS desc t.2.2.1)
 else if t.1=9 then Ku [BY desc t.2.2.1.2.1]
 else if t.1=cond desc 3 5 then ((Ex (AS desc t.2.2.1)).getD [],[BY desc t.2.2.1.1+1],false,())
 else if t.1=cond desc 4 6 then (AS desc t.2.2.1,[BY desc t.2.2.1.1+1],false,())
 else if t.1=cond desc 5 3 then ([BY desc t.2.2.1.1],AS desc t.2.2.1,false,())
 else if t.1=cond desc 6 4 then ([BY desc t.2.2.1.1],(Ex (AS desc t.2.2.1)).getD [],false,())
 else Wp
theorem ej {a b:Ae} (ha:AH 5 a=true) (hb:AH 5 b=true):DF 5 b a = - DF 5 a b:=(VY 5).an a b ha hb
theorem Lc {x v:Ae} (hx:AH 5 x=true) (hv:AH 5 v=true):(DF 5 x v<0/\AZ (AS false x) (AS false v)/\AZ (AS true v) (AS true x))\/x=v\/(DF 5 x v>0/\AZ (AS false v) (AS false x)/\AZ (AS true x) (AS true v)):=by
 by_cases h1:DF 5 x v<0
 ·exact .inl ⟨h1,cf hx hv h1,ci hx hv h1⟩
 by_cases h2:DF 5 x v=0
 ·exact .inr (.inl ((EN 5 x v hx hv).1 h2))
 ·have h3:DF 5 v x<0:=by rw [ej hx hv];omega
  exact .inr (.inr ⟨by omega,cf hv hx h3,ci hv hx h3⟩)
theorem iN {t:CI} {x:Ae} (desc:Bool) (ht:BV t=true) (hx:AH 5 x=true) (hh:EY t x=true) (s:List UInt8):De (HZ desc t) (AS desc x++s)=true:=by
 obtain ⟨hv,_,_,_,_⟩:=EZ ht;have hv:AH 5 t.2.2.1=true:=hv;unfold EY at hh;dsimp only at hh;unfold HZ;by_cases h1:t.1=1
 ·rw [if_pos (.inl h1)] at hh;have:x=t.2.2.1:=(EN 5 _ _ hx hv).1 (of_decide_eq_true hh);rw [if_pos h1,<-this];exact cj _ _
 by_cases h9:t.1=9
 ·rw [if_neg (by omega),if_neg (by omega),if_neg (by omega),if_neg (by omega),if_neg (by omega),if_neg (by omega),if_pos h9,beq_iff_eq] at hh;rw [if_neg h1,if_pos h9,<-hh];exact Kw hx s
 rw [if_neg h1,if_neg h9];obtain ⟨bh,hbh⟩:=cn desc hv;by_cases h3:t.1=3
 ·rw [if_neg (by omega),if_pos h3,Ajb,beq_iff_eq,Ajg] at hh;rcases Lc hx hv with ⟨_,p1,p2⟩ | e | ⟨h,_,_⟩
  ·cases desc
   ·rw [if_neg (by simp [h3]),if_neg (by simp [h3]),if_pos (by simp [h3])];exact TT hx hh.1 p1 s
   ·obtain ⟨h,e1,e2⟩:=Sb hx hh.1 p2 s;rw [if_pos (by simp [h3]),e1];exact e2
  ·rw [e,(EN 5 _ _ hv hv).2 rfl] at hh;have:=hh.2;omega
  ·omega
 by_cases h4:t.1=4
 ·rw [if_neg (by omega),if_neg h3,if_pos h4,Ajb,beq_iff_eq,Ajg] at hh
  have hp:AZ (AS false x) (AS false t.2.2.1)/\AZ (AS true t.2.2.1) (AS true x)\/x=t.2.2.1:=by
   rcases Lc hx hv with ⟨_,p1,p2⟩ | e | ⟨h,_,_⟩
   ·exact .inl ⟨p1,p2⟩
   ·exact .inr e
   ·omega
  cases desc
  ·rw [if_neg (by simp [h4]),if_neg (by simp [h4]),if_neg (by simp [h4]),if_pos (by simp [h4]),hbh];exact YD hx hh.1 (hp.imp (·.1) id) hbh s
  ·rw [if_neg (by simp [h4]),if_pos (by simp [h4])];exact YC hx hh.1 (hp.imp (·.2) id) s
 by_cases h5:t.1=5
 ·rw [if_neg (by omega),if_neg h3,if_neg h4,if_pos h5,Ajb,beq_iff_eq,Ajg] at hh;rcases Lc hx hv with ⟨h,_,_⟩ | e | ⟨_,p1,p2⟩
  ·omega
  ·rw [e,(EN 5 _ _ hv hv).2 rfl] at hh;have:=hh.2;omega
  ·cases desc
   ·obtain ⟨h,e1,e2⟩:=Sb hx hh.1 p1 s;rw [if_pos (by simp [h5]),e1];exact e2
   ·rw [if_neg (by simp [h5]),if_neg (by simp [h5]),if_pos (by simp [h5])];exact TT hx hh.1 p2 s
 by_cases h6:t.1=6
 ·rw [if_neg (by omega),if_neg h3,if_neg h4,if_neg h5,if_pos h6,Ajb,beq_iff_eq,Ajg] at hh
  have hp:AZ (AS false t.2.2.1) (AS false x)/\AZ (AS true x) (AS true t.2.2.1)\/x=t.2.2.1:=by
   rcases Lc hx hv with ⟨h,_,_⟩ | e | ⟨_,p1,p2⟩
   ·omega
   ·exact .inr e
   ·exact .inl ⟨p1,p2⟩
  cases desc
  ·rw [if_neg (by simp [h6]),if_pos (by simp [h6])];exact YC hx hh.1 (hp.imp (·.1) id) s
  ·rw [if_neg (by simp [h6]),if_neg (by simp [h6]),if_neg (by simp [h6]),if_pos (by simp [h6]),hbh];exact YD hx hh.1 (hp.imp (·.2) id) hbh s
 rw [if_neg (by cases desc<;>simp<;>omega),if_neg (by cases desc<;>simp<;>omega),if_neg (by cases desc<;>simp<;>omega),if_neg (by cases desc<;>simp<;>omega)];exact ck _
def PE (t:CI):Bool:=decide (t.1=2)||(decide (t.1=7)||(decide (t.1=8)||decide (t.1=10)))
def Dy (p:BG) (c:DQ):Az:=match c.1.find? fun t=>t.2.1==p.1 && !PE t with | some t=>HZ p.2.1 t | none=>Wp
def D_ (doc:Ae) (path:List UInt8):List Ae:=if (BQ doc path).length=0 then [RI] else BQ doc path
theorem H' {doc:Ae} {path:List UInt8} (h:AH 5 doc=true):∀ x,x∈D_ doc path->AH 5 x=true:=by
 unfold D_;split
 ·intro x hx;rw [List.mem_singleton.1 hx];exact RK
 ·exact (IJ h).2
theorem Pl (doc:Ae) (path:List UInt8):∃ x,x∈D_ doc path:=by
 unfold D_;split
 ·exact ⟨RI,by simp⟩
 ·rename_i h;cases hp:BQ doc path with
  |nil=>rw [hp] at h;simp at h
  |cons a l=>exact ⟨a,by simp⟩
theorem af {c:DQ} {doc:Ae} (p:BG) (ht:∀ t,t∈c.1->BV t=true) (hd:AH 5 doc=true) (hm:(c.1.all fun t=>JH t doc)=true) :
  ∃ x,x∈D_ doc p.1/\∀ s,De (Dy p c) (AS p.2.1 x++s)=true:=by
 unfold Dy;cases hf:c.1.find? fun t=>t.2.1==p.1 && !PE t with
 |none=>
  obtain ⟨x,hx⟩:=Pl doc p.1;exact ⟨x,hx,fun s=>ck _⟩
 |some t=>
  have hmem:=List.mem_of_find?_eq_some hf;have hsat:=List.find?_some hf;rw [Ajb,beq_iff_eq,Bool.not_eq_true'] at hsat;have hdo:=List.all_eq_true.1 hm t hmem;obtain ⟨hp,hmu⟩:=hsat;unfold PE at hmu;simp only [Bool.or_eq_false_iff,decide_eq_false_iff_not] at hmu;obtain ⟨n2,n7,n8,n10⟩:=hmu;rw [RN,if_neg n8] at hdo
  have e2:(t.1==2)=false:=by rw [beq_eq_false_iff_ne];exact n2
  rw [e2] at hdo
  have hany:(Ge t doc).any (EY t)=true:=by simpa using hdo
  obtain ⟨x,hx,hh⟩:=List.any_eq_true.1 hany;have hox:=(RM (t:=t) hd).2 x hx;refine ⟨x,?_,fun s=>iN p.2.1 (ht t hmem) hox hh s⟩;unfold Ge at hx;unfold D_;rw [hp] at hx;by_cases h0:(BQ doc p.1).length=0
  ·rw [if_pos h0];by_cases h9:t.1=9
   ·rw [if_neg (by omega)] at hx;rw [List.eq_nil_of_length_eq_zero h0] at hx;cases hx
   ·rw [if_pos ⟨h0,h9⟩] at hx;exact hx
  ·rw [if_neg h0];rw [if_neg (fun h=>h0 h.1)] at hx;exact hx
def Lz (d:Ht) (doc:Ae):List (List UInt8):=match d.2.1 with
 |[p]=>(D_ doc p.1).map (AS p.2.1)
 |p::p'::_=>(D_ doc p.1).flatMap fun x=>(D_ doc p'.1).map fun y=>AS p.2.1 x++AS p'.2.1 y
 |[]=>[]
def NE (t:Bd) (d:Ht) (docs:List Ae):Prop:=∀ key id,(key,id,())∈Aw t.1↔∃ doc,doc∈docs/\CA doc=id/\key∈Lz d doc
def iO (f:Dv) (p:BG) (i:Az):Prop:=∀ c,c∈f.1->HY (Dy p c) i\/∀ k,De (Dy p c) k=true->De i k=true
theorem ag {q:BD} {t:Bd} {d:Ht} {docs:List Ae} {i:Az} {p:BG} {r:List BG} (hd:d.2.1=p::r) (hq:BW q.1=true) (hI:NE t d docs) (hc:iO q.1 p i)
  {doc:Ae} (hm:doc∈docs) (ho:AH 5 doc=true) (hf:CL q.1 doc=true):Yz (Em t i) doc=true:=by
 unfold CL at hf;obtain ⟨c,hcm,hcd⟩:=List.any_eq_true.1 hf;obtain ⟨x,hx,hs⟩:=af p ((Jr hq).2 c hcm).2 ho hcd
 have wide:∀ k,De (Dy p c) k=true->De i k=true:=by
  rcases hc c hcm with h | h
  ·exact fun k hk=>h.has hk
  ·exact h
 obtain ⟨s,hk⟩:∃ s,AS p.2.1 x++s∈Lz d doc:=by
  unfold Lz;rw [hd];cases r with
  |nil=>exact ⟨[],by rw [List.append_nil];exact List.mem_map.2 ⟨x,hx,rfl⟩⟩
  |cons p' r=>
   obtain ⟨y,hy⟩:=Pl doc p'.1;exact ⟨AS p'.2.1 y,List.mem_flatMap.2 ⟨x,hx,List.mem_map.2 ⟨y,hy,rfl⟩⟩⟩
 have he:=(hI _ (CA doc)).2 ⟨doc,hm,rfl,hk⟩;unfold Yz;rw [List.any_eq_true];exact ⟨(AS p.2.1 x++s,CA doc,()),List.mem_filter.2 ⟨he,wide _ (hs s)⟩,by simp⟩
theorem ek (q:BD) (docs:List Ae) (E:List Ar) (h:∀ doc,doc∈docs->CL q.1 doc=true->Yz E doc=true):GE q (docs.filter (Yz E))=GE q docs:=by
 unfold GE
 have:(docs.filter (Yz E)).filter (CL q.1)=docs.filter (CL q.1):=by
  rw [List.filter_filter];refine List.filter_congr fun d hd=>?_
  cases hm:CL q.1 d with
  |false=>rfl
  |true=>rw [h d hd hm];rfl
 rw [this]
structure IN (t:Bd):Prop extends Tree t where
 num:∀ p,p∈t.1->1<=p.1/\p.1<=t.2.1-1
 one':(t.1.map (·.1)).Pairwise (·≠·)
theorem Jx (e:Ar):DN e=true↔e.1.length<=2000/\0<=e.2.1/\e.2.1<=9999:=by
 unfold DN inR;simp only [Ajb,Ajg];omega
theorem el {l:List Ar} (h1:l.Pairwise fun a b=>lessE a b=true) (h2:∀ e,e∈l->e.1.length<=2000/\0<=e.2.1/\e.2.1<=9999):In l=true:=by
 unfold In;rw [AY];intro i _ hi;have hi':i<l.length:=by omega
 rw [Ajb,Ajc];refine ⟨(Jx _).2 (h2 _ (Au hi')),?_⟩;by_cases h0:i=0
 ·exact .inl (decide_eq_true h0)
 ·right;have:=List.pairwise_iff_getElem.1 h1 (i-1) i (by omega) hi' (by omega);rw [Du (by omega:i-1<l.length),Du hi'];exact this
theorem TU (t:Bd):JI t=true↔IN t:=by
 constructor
 ·intro h;have hT:=Gq h;unfold JI at h;simp only [Ajb] at h;have hp:=(AY _ _ _).1 h.2.2.1
  have g:∀ i,i<t.1.length->(1<=(Ah t.1 i).1/\(Ah t.1 i).1<=t.2.1-1)/\∀ k,k<i->(Ah t.1 k).1≠(Ah t.1 i).1:=fun i hi=>by
   have:=hp i (Nat.zero_le _) (by omega);unfold EG inR at this;simp only [Ajb,Ajg] at this;refine ⟨this.1,fun k hk=>?_⟩;have:=(AY _ _ _).1 this.2.2.2 k (Nat.zero_le _) (by omega);simpa using this
  refine ⟨hT,fun p hp=>?_,?_⟩
  ·obtain ⟨i,hi,rfl⟩:=Ez hp;exact (g i hi).1
  ·rw [List.pairwise_map,List.pairwise_iff_getElem];intro i j hi hj hij;have:=(g j hj).2 i hij;rwa [Du hi,Du hj] at this
 ·intro h;unfold JI inR;simp only [Ajb,Ajg];have h1:=h.one;have h2:=h.len;refine ⟨⟨by omega,by omega⟩,⟨h.lo,h.hi⟩,?_,el h.pw h.ent⟩;rw [AY];intro i _ hi;have hi':i<t.1.length:=by omega
  have hp:=Au hi';have h3:=h.page _ hp;have h4:=h.num _ hp;unfold EG inR;simp only [Ajb,Ajg,Bool.not_eq_true',Bool.and_eq_false_iff,beq_eq_false_iff_ne,decide_eq_false_iff_not];refine ⟨h4,by omega,?_,?_⟩
  ·by_cases hn:1<t.1.length
   ·left;intro e;exact h3.2 hn (List.eq_nil_of_length_eq_zero e)
   ·exact .inr hn
  ·rw [AY];intro k _ hk;have hk':k<i:=by omega
   have:=h.one';rw [List.pairwise_map,List.pairwise_iff_getElem] at this;have:=this k i (by omega) hi' hk';rw [Du (by omega:k<t.1.length),Du hi'];simpa using this
def Cf (e:Ar) (l:List Ar):Nat:=(l.takeWhile fun x=>lessE x e).length
def EH (e:Ar) (l:List Ar):List Ar:=(l.take (Cf e l)++[e])++l.drop (Cf e l)
def Jy (e:Ar) (l:List Ar):Bool:=match l.drop (Cf e l) with | x::_=>decide (x=e) | []=>false
def Lj (t:Bd) (e:Ar):Bd×Int×Int:=
 let k:=AU t e
 let l:=(Ah t.1 k).2.1
 if Jy e l=true then (t,0,12)
 else if l.length=4/\(t.1.length=60\/t.2.1=100000) then (t,0,7)
 else if l.length<4 then ((t.1.set k ((Ah t.1 k).1,EH e l,()),t.2.1,()),0,0)
 else (((t.1.take k++[((Ah t.1 k).1,(EH e l).take 2,()),(t.2.1,(EH e l).drop 2,())])++t.1.drop (k+1),t.2.1+1,()),t.2.1,0)
theorem Pm {a b:Ar} (h1:lessE a b=false) (h2:a≠b):lessE b a=true:=by
 unfold lessE at h1 ⊢;simp only [Bool.or_eq_false_iff,Bool.and_eq_false_iff,beq_eq_false_iff_ne,decide_eq_false_iff_not] at h1;rcases HX h1.1 with e | e
 ·have h3:=h1.2.resolve_left (fun h=>h e)
  have:a.2.1≠b.2.1:=fun e2=>h2 (by
   obtain ⟨a1,a2,_⟩:=a;obtain ⟨b1,b2,_⟩:=b;simp only at e e2;subst e;subst e2;rfl)
  have:b.2.1<a.2.1:=by omega
  simp [e,this]
 ·simp [e]
theorem TV (e:Ar) (l:List Ar):Cf e l<=l.length:=by
 unfold Cf;exact (List.takeWhile_prefix _).length_le
theorem Sc (e:Ar) (l:List Ar):l.take (Cf e l)=l.takeWhile fun x=>lessE x e:=by
 unfold Cf;exact (List.prefix_iff_eq_take.1 (List.takeWhile_prefix _)).symm
theorem ah (e:Ar) (l:List Ar):l.drop (Cf e l)=l.dropWhile fun x=>lessE x e:=by
 have h1:=List.takeWhile_append_dropWhile (p:=fun x=>lessE x e) (l:=l);have h2:=List.take_append_drop (Cf e l) l;rw [Sc] at h2;exact List.append_cancel_left (h2.trans h1.symm)
theorem ai {e:Ar} {l:List Ar} (h:l.Pairwise fun a b=>lessE a b=true) (ht:Jy e l=false):(EH e l).Pairwise fun a b=>lessE a b=true:=by
 unfold EH;have hs:=h;rw [<-List.take_append_drop (Cf e l) l] at hs;obtain ⟨g1,g2,g3⟩:=List.pairwise_append.1 hs
 have ha:∀ x,x∈l.take (Cf e l)->lessE x e=true:=fun x hx=>by
  rw [Sc] at hx;have:=List.all_takeWhile (p:=fun x=>lessE x e) (l:=l);exact List.all_eq_true.1 this x hx
 have hb:∀ x,x∈l.drop (Cf e l)->lessE e x=true:=by
  cases hd:l.drop (Cf e l) with
  |nil=>intro x hx;cases hx
  |cons y r=>
   have hy:lessE y e=false:=by
    have:=List.head?_dropWhile_not (fun x=>lessE x e) l;rw [<-ah,hd] at this;simpa using this
   have hye:y≠e:=by
    unfold Jy at ht;rw [hd] at ht;exact of_decide_eq_false ht
   have h0:=Pm hy hye;intro x hx;rcases List.mem_cons.1 hx with rfl | hx
   ·exact h0
   ·rw [hd] at g2;exact GF _ _ _ h0 (List.rel_of_pairwise_cons g2 hx)
 refine List.pairwise_append.2 ⟨List.pairwise_append.2 ⟨g1,List.pairwise_singleton _ _,fun a ha' b hb' =>?_⟩,g2,fun a ha' b hb' =>?_⟩
 ·rw [List.mem_singleton.1 hb'];exact ha a ha'
 ·rcases List.mem_append.1 ha' with h | h
  ·exact g3 a h b hb'
  ·rw [List.mem_singleton.1 h];exact hb b hb'
theorem Sd {e x:Ar} {l:List Ar}:x∈EH e l↔x=e\/x∈l:=by
 unfold EH;conv=>rhs;rw [<-List.take_append_drop (Cf e l) l]
 simp only [Ajf,List.mem_singleton];constructor
 ·rintro ((h | h) | h)
  ·exact .inr (.inl h)
  ·exact .inl h
  ·exact .inr (.inr h)
 ·rintro (h | h | h)
  ·exact .inl (.inr h)
  ·exact .inl (.inl h)
  ·exact .inr h
theorem NF (e:Ar) (l:List Ar):(EH e l).length=l.length+1:=by
 unfold EH;have:=TV e l;simp only [Ai9,List.length_take,List.length_drop,Ai8];omega
theorem Pn (e:Ar) (l:List Ew):∀ (m s c:Nat),s+m=l.length->∀ i,El e (l.drop s) s c<i->s<=i->i<l.length->∀ a r,(Ah l i).2.1=a::r->lessE e a=true
 |0,s,c,hs,i,_,h1,h2,_,_,_=>by omega
 |m+1,s,c,hs,i,hp,h1,h2,a,r,ha=>by
  have hi:s<l.length:=by omega
  rw [Ac hi] at hp;unfold El at hp;by_cases hsi:i=s
  ·subst hsi;rw [ha] at hp;dsimp only at hp;cases hl:lessE e a with
   |true=>rfl
   |false=>
    rw [hl,Ai6] at hp;exfalso
    have:∀ (l:List Ew) (j c:Nat),c<j->c<=El e l j c:=by
     intro l;induction l with
     |nil=>intro j c _;exact Nat.le_refl _
     |cons p l ih=>
      intro j c hc;unfold El;cases p.2.1 with
      |nil=>exact ih _ _ (by omega)
      |cons b r=>
       dsimp only;cases lessE e b
       ·have:=ih (j+1) j (by omega);exact Nat.le_trans (Nat.le_of_lt hc) this
       ·exact ih _ _ (by omega)
    have:=this (l.drop (i+1)) (i+1) i (by omega);omega
  ·exact Pn e l m (s+1) _ (by omega) i hp (by omega) h2 a r ha
theorem YE (t:Bd) (e:Ar) {i:Nat} (h1:AU t e<i) (h2:i<t.1.length) {a:Ar} {r:List Ar} (ha:(Ah t.1 i).2.1=a::r):lessE e a=true:=by
 have:=Pn e t.1 t.1.length 0 0 (by omega) i (by rw [List.drop_zero];exact h1) (Nat.zero_le _) h2 a r ha;exact this
theorem GV (a b:List Ew):Aw (a++b)=Aw a++Aw b:=by unfold Aw;rw [List.flatMap_append]
theorem eo (p:Ew):Aw [p]=p.2.1:=by simp [Aw]
theorem Qt (l:List Ew) {k:Nat} (h:k<l.length):Aw l=Aw (l.take k)++((Ah l k).2.1++Aw (l.drop (k+1))):=by
 conv=>lhs;rw [EO l k,Ac h]
 rw [show Aw (Ah l k::l.drop (k+1))=(Ah l k).2.1++Aw (l.drop (k+1)) by unfold Aw;rw [List.flatMap_cons]]
theorem YF {α:Type} (l:List α) {k:Nat} (h:k<l.length) (y:α):l.set k y=l.take k++([y]++l.drop (k+1)):=by
 rw [List.set_eq_take_append_cons_drop,if_pos h];rfl
theorem nf {x a e:Ar} (h1:lessE x a=true) (h2:lessE e a=false):lessE x e=true:=by
 by_cases h:e=a
 ·rw [h];exact h1
 ·exact GF _ _ _ h1 (Pm h2 h)
theorem YG {t:Bd} (h:Tree t) (e:Ar):(∀ x,x∈Aw (t.1.take (AU t e))->lessE x e=true)/\∀ x,x∈Aw (t.1.drop (AU t e+1))->lessE e x=true:=by
 have hk:AU t e<t.1.length:=by
  rcases IM t e with h0 | h0
  ·rw [h0];exact h.one
  ·exact h0.1
 have hp:=h.pw;rw [Qt t.1 hk] at hp;obtain ⟨_,_,hx⟩:=List.pairwise_append.1 hp;constructor
 ·intro x hxm;rcases IM t e with h0 | ⟨_,a,r,ha,hl⟩
  ·rw [h0] at hxm;simp [Aw] at hxm
  ·exact nf (hx x hxm a (List.mem_append_left _ (by rw [ha];simp))) hl
 ·intro x hxm;unfold Aw at hxm;obtain ⟨p,hpm,hxp⟩:=List.mem_flatMap.1 hxm;obtain ⟨j,hj,rfl⟩:=List.getElem_of_mem hpm;rw [List.length_drop] at hj;rw [List.getElem_drop] at hxp;have hi:AU t e+1+j<t.1.length:=by omega
  cases hq:(Ah t.1 (AU t e+1+j)).2.1 with
  |nil=>rw [Du hi] at hq;rw [hq] at hxp;cases hxp
  |cons a r=>
   have h1:=YE t e (show AU t e<AU t e+1+j by omega) hi hq;rw [<-Du hi,hq] at hxp;rcases List.mem_cons.1 hxp with rfl | hxr
   ·exact h1
   ·have hp2:=h.pw;rw [Qt t.1 hi] at hp2;have:=(List.pairwise_append.1 (List.pairwise_append.1 hp2).2.1).1;rw [hq] at this;exact GF _ _ _ h1 (List.rel_of_pairwise_cons this hxr)
theorem qU {t:Bd} (h:Tree t) {e:Ar} (hth:Jy e (Ah t.1 (AU t e)).2.1=false) (hk:AU t e<t.1.length) :
  (Aw (t.1.take (AU t e))++(EH e (Ah t.1 (AU t e)).2.1++Aw (t.1.drop (AU t e+1)))).Pairwise fun a b=>lessE a b=true:=by
 obtain ⟨s1,s2⟩:=YG h e;have hp:=h.pw;rw [Qt t.1 hk] at hp;obtain ⟨p1,p2,p3⟩:=List.pairwise_append.1 hp;obtain ⟨q1,q2,q3⟩:=List.pairwise_append.1 p2;refine List.pairwise_append.2 ⟨p1,List.pairwise_append.2 ⟨ai q1 hth,q2,fun a ha b hb=>?_⟩,fun a ha b hb=>?_⟩
 ·rcases Sd.1 ha with rfl | ha
  ·exact s2 b hb
  ·exact q3 a ha b hb
 ·rcases List.mem_append.1 hb with hb | hb
  ·rcases Sd.1 hb with rfl | hb
   ·exact s1 a ha
   ·exact p3 a ha b (List.mem_append_left _ hb)
  ·exact p3 a ha b (List.mem_append_right _ hb)
theorem ng {t:Bd} {e x:Ar} {k:Nat} (hk:k<t.1.length):x∈Aw (t.1.take k)++(EH e (Ah t.1 k).2.1++Aw (t.1.drop (k+1)))↔x=e\/x∈Aw t.1:=by
 rw [Qt t.1 hk];simp only [Ajf,Sd];constructor
 ·rintro (h | (h | h) | h)
  ·exact .inr (.inl h)
  ·exact .inl h
  ·exact .inr (.inr (.inl h))
  ·exact .inr (.inr (.inr h))
 ·rintro (h | h | h | h)
  ·exact .inr (.inl (.inl h))
  ·exact .inl h
  ·exact .inr (.inl (.inr h))
  ·exact .inr (.inr h)
theorem co {t:Bd} {e:Ar} (h:IN t) (he:DN e=true) (hc:(Lj t e).2.2=0):IN (Lj t e).1/\∀ x,x∈Aw (Lj t e).1.1↔x=e\/x∈Aw t.1:=by
 have hT:Tree t:=h.toTree
 have hk:AU t e<t.1.length:=by
  rcases IM t e with h0 | h0
  ·rw [h0];exact h.one
  ·exact h0.1
 unfold Lj at hc ⊢;dsimp only at hc ⊢;have hpg:=h.page _ (Au hk);have hnm:=h.num _ (Au hk)
 have ent:∀ x,x=e\/x∈Aw t.1->x.1.length<=2000/\0<=x.2.1/\x.2.1<=9999:=fun x hx=>by
  rcases hx with rfl | hx
  ·exact (Jx _).1 he
  ·exact h.ent x hx
 cases hth:Jy e (Ah t.1 (AU t e)).2.1 with
 |true=>rw [hth] at hc;exact absurd hc (by simp)
 |false=>
  rw [hth] at hc;rw [if_neg (by decide)] at hc ⊢;by_cases hfull:(Ah t.1 (AU t e)).2.1.length=4/\(t.1.length=60\/t.2.1=100000)
  ·rw [if_pos hfull] at hc;exact absurd hc (by simp)
  rw [if_neg hfull];have hpw:=qU hT hth hk;have hmm:=fun x=>ng (e:=e) (x:=x) hk
  generalize AU t e=k at *;by_cases hl:(Ah t.1 k).2.1.length<4
  ·rw [if_pos hl];dsimp only
   have hf:Aw (t.1.set k ((Ah t.1 k).1,EH e (Ah t.1 k).2.1,()))=Aw (t.1.take k)++(EH e (Ah t.1 k).2.1++Aw (t.1.drop (k+1))):=by
    rw [YF _ hk,GV,GV,eo]
   refine ⟨⟨⟨by rw [List.length_set];exact h.one,by rw [List.length_set];exact h.len,h.lo,h.hi,fun p hp=>?_,by rw [hf];exact hpw,fun x hx=>by rw [hf] at hx;exact ent x ((hmm x).1 hx)⟩,fun p hp=>?_,?_⟩,fun x=>by rw [hf];exact hmm x⟩
   ·rw [List.length_set];rcases List.mem_or_eq_of_mem_set hp with hp | rfl
    ·exact h.page p hp
    ·refine ⟨by rw [NF];omega,fun _ e0=>?_⟩;have:=congrArg List.length e0;rw [NF] at this;simp at this
   ·rcases List.mem_or_eq_of_mem_set hp with hp | rfl
    ·exact h.num p hp
    ·exact hnm
   ·have:(t.1.set k ((Ah t.1 k).1,EH e (Ah t.1 k).2.1,())).map (·.1)=t.1.map (·.1):=by
     rw [List.map_set];have hk':k<(t.1.map (·.1)).length:=by simpa using hk
     conv=>rhs;rw [<-List.set_getElem_self hk']
     rw [List.getElem_map,Du hk]
    rw [this];exact h.one'
  ·rw [if_neg hl];dsimp only;have h4:(Ah t.1 k).2.1.length=4:=by omega
   have hn:t.1.length≠60/\t.2.1≠100000:=⟨fun e=>hfull ⟨h4,.inl e⟩,fun e=>hfull ⟨h4,.inr e⟩⟩;have h5:=NF e (Ah t.1 k).2.1;have hlen:=h.len;have hhi:=h.hi;have hlo:=h.lo
   have hf:Aw ((t.1.take k++[((Ah t.1 k).1,(EH e (Ah t.1 k).2.1).take 2,()),(t.2.1,(EH e (Ah t.1 k).2.1).drop 2,())])++t.1.drop (k+1))=Aw (t.1.take k)++(EH e (Ah t.1 k).2.1++Aw (t.1.drop (k+1))):=by
    rw [GV,GV,List.append_assoc];congr 2;show ((EH e (Ah t.1 k).2.1).take 2++((EH e (Ah t.1 k).2.1).drop 2++[]))=_;rw [List.append_nil,List.take_append_drop]
   have hsz:((t.1.take k++[((Ah t.1 k).1,(EH e (Ah t.1 k).2.1).take 2,()),(t.2.1,(EH e (Ah t.1 k).2.1).drop 2,())])++t.1.drop (k+1)).length=t.1.length+1:=by
    simp only [Ai9,List.length_take,List.length_drop,Aja,Ajd];omega
   have pages:∀ p,p∈(t.1.take k++[((Ah t.1 k).1,(EH e (Ah t.1 k).2.1).take 2,()),(t.2.1,(EH e (Ah t.1 k).2.1).drop 2,())])++t.1.drop (k+1)->(p∈t.1/\1<t.1.length)\/p=((Ah t.1 k).1,(EH e (Ah t.1 k).2.1).take 2,())\/p=(t.2.1,(EH e (Ah t.1 k).2.1).drop 2,()):=by
    intro p hp;rcases List.mem_append.1 hp with hp | hp
    ·rcases List.mem_append.1 hp with hp | hp
     ·refine .inl ⟨List.mem_of_mem_take hp,?_⟩;have:=List.length_pos_of_mem hp;rw [List.length_take] at this;omega
     ·rcases List.mem_cons.1 hp with hp | hp
      ·exact .inr (.inl hp)
      ·exact .inr (.inr (List.mem_singleton.1 hp))
    ·refine .inl ⟨List.mem_of_mem_drop hp,?_⟩;have:=List.length_pos_of_mem hp;rw [List.length_drop] at this;omega
   refine ⟨⟨⟨by rw [hsz];omega,by rw [hsz];omega,by dsimp only;omega,by dsimp only;omega,fun p hp=>?_,by rw [hf];exact hpw,fun x hx=>by rw [hf] at hx;exact ent x ((hmm x).1 hx)⟩,fun p hp=>?_,?_⟩,fun x=>by rw [hf];exact hmm x⟩
   ·rcases pages p hp with ⟨hp,h1⟩ | rfl | rfl
    ·exact ⟨(h.page p hp).1,fun _=>(h.page p hp).2 h1⟩
    ·refine ⟨by dsimp only;rw [List.length_take];omega,fun _ e0=>?_⟩;have:=congrArg List.length e0;dsimp only at this;rw [List.length_take,Ajd] at this;omega
    ·refine ⟨by dsimp only;rw [List.length_drop];omega,fun _ e0=>?_⟩;have:=congrArg List.length e0;dsimp only at this;rw [List.length_drop,Ajd] at this;omega
   ·rcases pages p hp with ⟨hp,_⟩ | rfl | rfl
    ·have:=h.num p hp;dsimp only;omega
    ·dsimp only;omega
    ·dsimp only;omega
   ·have hperm:(((t.1.take k++[((Ah t.1 k).1,(EH e (Ah t.1 k).2.1).take 2,()),(t.2.1,(EH e (Ah t.1 k).2.1).drop 2,())])++t.1.drop (k+1)).map (·.1)).Perm (t.2.1::t.1.map (·.1)):=by
     have e1:t.1.map (·.1)=(t.1.take k).map (·.1)++([(Ah t.1 k).1]++(t.1.drop (k+1)).map (·.1)):=by
      conv=>lhs;rw [<-List.take_append_drop k t.1,Ac hk]
      rw [List.map_append,List.map_cons];rfl
     rw [e1,List.map_append,List.map_append];simp only [List.map_cons,List.map_nil];have:(List.map (fun x=>x.1) (t.1.take k)++[(Ah t.1 k).1,t.2.1]++List.map (fun x=>x.1) (t.1.drop (k+1)))=(List.map (fun x=>x.1) (t.1.take k)++[(Ah t.1 k).1])++t.2.1::List.map (fun x=>x.1) (t.1.drop (k+1)):=by simp
     rw [this];refine List.perm_middle.trans ?_;simp
    refine (hperm.pairwise_iff (fun h=>Ne.symm h)).2 (List.pairwise_cons.2 ⟨fun z hz=>?_,h.one'⟩);obtain ⟨p,hp,rfl⟩:=List.mem_map.1 hz;have:=h.num p hp;omega
def Df (v:Ae):Nat:=if v.1=0 then 1 else if v.1=1 then 2 else if v.1=2 then 9 else 3+v.2.2.1.length
theorem YH:∀ {t:List UInt8} {v:Ae} {r:List UInt8},Br t=some (v,r)->Df v+r.length=t.length
 |[],v,r,h=>by cases h
 |k::t,v,r,h=>by
  simp only [Br] at h;by_cases k0:k=0
  ·rw [if_pos k0] at h;injection h with h;injection h with h1 h2;subst h1 h2;simp [Df];omega
  rw [if_neg k0] at h;by_cases k1:k=1
  ·rw [if_pos k1] at h;split at h
   ·cases h
   ·injection h with h;injection h with h1 h2;subst h1 h2;simp [Df];omega
  rw [if_neg k1] at h;by_cases k2:k=2
  ·rw [if_pos k2] at h;split at h
   ·cases h
   split at h
   ·cases h
   ·injection h with h;injection h with h1 h2;subst h1 h2;simp [Df];omega
  rw [if_neg k2] at h;by_cases k3:k=3\/k=4\/k=5
  ·rw [if_pos k3] at h;split at h
   ·cases h
   split at h
   ·cases h
   ·injection h with h;injection h with h1 h2;subst h1 h2
    unfold Df;dsimp only
    have:((k.toNat:Nat):Int)=3\/((k.toNat:Nat):Int)=4\/((k.toNat:Nat):Int)=5:=by
     rcases k3 with rfl | rfl | rfl
     ·exact .inl rfl
     ·exact .inr (.inl rfl)
     ·exact .inr (.inr rfl)
    rw [if_neg (by omega),if_neg (by omega),if_neg (by omega)];simp only [List.length_take,List.length_drop,Aja];omega
  ·rw [if_neg k3] at h;cases h
theorem TW:∀ (n:Nat) (t:List UInt8) (l:List Ae),t.length<=n->BU t=some l->(l.map Df).sum=t.length
 |_,[],l,_,h=>by rw [Gp] at h;injection h with h;subst h;rfl
 |n+1,a::t,l,hn,h=>by
  rw [DX (by simp)] at h;cases hx:Br (a::t) with
  |none=>rw [hx] at h;cases h
  |some x=>
   rw [hx,Ai5] at h;obtain ⟨l',h',e⟩:=Option.map_eq_some_iff.1 h;subst e;have h1:=YH (v:=x.1) (r:=x.2) hx;have h2:=EE (v:=x.1) (r:=x.2) hx;simp only [Aja] at h1 h2 hn;have h3:=TW n x.2 l' (by omega) h';simp only [List.map_cons,List.sum_cons,Aja];omega
theorem Me:∀ (n:Nat) (t:List UInt8) (l:List Bk),t.length<=n->AG t=some l->(l.map fun f=>1+f.1.length+Df f.2.1).sum=t.length
 |_,[],l,_,h=>by
  have:AG []=some []:=rfl;rw [this] at h;injection h with h;subst h;rfl
 |n+1,a::t,l,hn,h=>by
  rw [CR (by simp)] at h;cases hx:Ce (a::t) with
  |none=>rw [hx] at h;cases h
  |some x=>
   rw [hx,Ai5] at h;obtain ⟨l',h',e⟩:=Option.map_eq_some_iff.1 h;subst e;have h2:=HS (v:=x.1) (r:=x.2) hx
   have h1:1+x.1.1.length+Df x.1.2.1+x.2.length=(a::t).length:=by
    simp only [Ce] at hx;split at hx
    ·cases hx
    ·rename_i hlt;cases hv:Br (t.drop a.toNat) with
     |none=>rw [hv] at hx;cases hx
     |some y=>
      rw [hv,Ai5] at hx;injection hx with hx
      subst hx;have:=YH (v:=y.1) (r:=y.2) hv;simp only [List.length_drop] at this;simp only [List.length_take,Aja];omega
   simp only [Aja] at h1 h2 hn;have h3:=Me n x.2 l' (by omega) h';simp only [List.map_cons,List.sum_cons,Aja];omega
theorem NG (t:List UInt8):(Ip t).length<=2*t.length+2:=by
 induction t with
 |nil=>simp [Ip]
 |cons b t ih=>
  rw [G_,Ai9,Aja];have:(if b=0 then [0,255] else [b]:List UInt8).length<=2:=by split<;>simp
  omega
theorem Se {α:Type} (g:α->List UInt8) (n:α->Nat):∀ (l:List α),(∀ x,x∈l->(g x).length<=3*n x)->(l.flatMap g).length<=3*(l.map n).sum
 |[],_=>by simp
 |a::l,h=>by
  have h1:=h a (by simp);have h2:=Se g n l fun x hx=>h x (by simp [hx])
  rw [List.flatMap_cons,Ai9,List.map_cons,List.sum_cons];omega
theorem YI (g:Ae->List UInt8) (d:Nat) (v:Ae) (hv:AH d v=true) (hg:∀ e,d=e+1->∀ x,AH e x=true->(g x).length<=3*Df x):(Td g v).length<=3*Df v:=by
 unfold Td ei Df;rw [Aja];rcases BH hv with k | k | k | k | k | k
 ·simp [k]
 ·simp [k]
 ·simp [k,Cz]
 ·rw [k];simp only [show ¬((3:Int)=0) by decide,show ¬((3:Int)=1) by decide,show ¬((3:Int)=2) by decide,if_false,if_true];have:=NG v.2.2.1;omega
 ·obtain ⟨e,l,hd,i1,i2,_,_,i3⟩:=AQ hv k;rw [k];simp only [show ¬((4:Int)=0) by decide,show ¬((4:Int)=1) by decide,show ¬((4:Int)=2) by decide,show ¬((4:Int)=3) by decide,if_false,if_true];rw [i2,Ai9,Ai8];have h1:=Se g Df l fun x hx=>hg e hd x (i3 x hx)
  have h2:=TW _ _ l (Nat.le_refl _) i1;omega
 ·obtain ⟨e,l,hd,i1,i2,_,_,i3⟩:=Bl hv k;rw [k];simp only [show ¬((5:Int)=0) by decide,show ¬((5:Int)=1) by decide,show ¬((5:Int)=2) by decide,show ¬((5:Int)=3) by decide,show ¬((5:Int)=4) by decide,if_false];rw [i2,Ai9,Ai8]
  have h1:=Se (fun f:Bk=>1::(Ip f.1++g f.2.1)) (fun f=>1+f.1.length+Df f.2.1) l fun f hf=>by
   have e1:=hg e hd f.2.1 (i3 f hf);have e2:=NG f.1;rw [Aja,Ai9];omega
  have h2:=Me _ _ l (Nat.le_refl _) i1;omega
theorem Sf:∀ (d:Nat) (v:Ae),AH d v=true->(HD d v).length<=3*Df v
 |0,v,h=>YI _ 0 v h fun e he=>by omega
 |d+1,v,h=>YI _ (d+1) v h fun e he x hx=>by
  have:e=d:=by omega
  subst this;exact Sf e x hx
theorem IP (desc:Bool) {v:Ae} (h:AH 5 v=true):(AS desc v).length<=909:=by
 have h1:=Sf 5 v h;have h2:=AR h;have h3:Df v<=303:=by unfold Df;split<;>(try split)<;>(try split)<;>omega
 have h4:(AS desc v).length=(HD 5 v).length:=by
  unfold AS;cases desc
  ·rfl
  ·simp [DH]
 omega
theorem Ov (d:Ht) {doc:Ae} (hd:AH 5 doc=true):∀ k,k∈Lz d doc->k.length<=2000:=by
 intro k hk;unfold Lz at hk;split at hk
 ·obtain ⟨x,hx,rfl⟩:=List.mem_map.1 hk;exact Nat.le_trans (IP _ (H' hd x hx)) (by decide)
 ·obtain ⟨x,hx,hk⟩:=List.mem_flatMap.1 hk;obtain ⟨y,hy,rfl⟩:=List.mem_map.1 hk;rw [Ai9];exact Nat.le_trans (Nat.add_le_add (IP _ (H' hd x hx)) (IP _ (H' hd y hy))) (by decide)
 ·cases hk
def IQ (id:Int):List (List UInt8)->Bd->Bd×Int
 |[],t=>(t,0)
 |k::ks,t=>if (Lj t (k,id,())).2.2=0 then IQ id ks (Lj t (k,id,())).1 else (t,(Lj t (k,id,())).2.2)
theorem Wq {id:Int} (hid:0<=id/\id<=9999):∀ (ks:List (List UInt8)) (t:Bd),IN t->(∀ k,k∈ks->k.length<=2000)->(IQ id ks t).2=0->IN (IQ id ks t).1/\∀ x,x∈Aw (IQ id ks t).1.1↔x∈Aw t.1\/∃ k,k∈ks/\x=(k,id,())
 |[],t,h,_,_=>⟨h,fun x=>by simp [IQ]⟩
 |k::ks,t,h,hk,hc=>by
  unfold IQ at hc ⊢;by_cases h0:(Lj t (k,id,())).2.2=0
  ·rw [if_pos h0] at hc ⊢;obtain ⟨g1,g2⟩:=co h ((Jx _).2 ⟨hk k (by simp),hid.1,hid.2⟩) h0;obtain ⟨f1,f2⟩:=Wq hid ks _ g1 (fun k' hk' =>hk k' (by simp [hk'])) hc;refine ⟨f1,fun x=>?_⟩;rw [f2 x,g2 x];constructor
   ·rintro ((rfl | h) | ⟨k',h1,rfl⟩)
    ·exact .inr ⟨k,by simp,rfl⟩
    ·exact .inl h
    ·exact .inr ⟨k',by simp [h1],rfl⟩
   ·rintro (h | ⟨k',h1,rfl⟩)
    ·exact .inl (.inr h)
    ·rcases List.mem_cons.1 h1 with rfl | h1
     ·exact .inl (.inl rfl)
     ·exact .inr ⟨k',h1,rfl⟩
  ·rw [if_neg h0] at hc;exact absurd hc h0
def Ea (keys:Ae->List (List UInt8)):List Ae->Bd->Bd×Int
 |[],t=>(t,0)
 |d::ds,t=>if (IQ (CA d) (keys d) t).2=0 then Ea keys ds (IQ (CA d) (keys d) t).1 else (t,(IQ (CA d) (keys d) t).2)
def Ow:Bd:=([(1,[],())],2,())
theorem cq:IN Ow:=(TU Ow).1 (by decide)
theorem TX (def':Ht) (keys:Ae->List (List UInt8)) (hkeys:∀ d,AH 5 d=true->∀ k,k∈keys d↔k∈Lz def' d):∀ (ds:List Ae) (t:Bd),IN t->(∀ d,d∈ds->AH 5 d=true/\0<=CA d/\CA d<=9999)->(Ea keys ds t).2=0->
  IN (Ea keys ds t).1/\∀ x,x∈Aw (Ea keys ds t).1.1↔x∈Aw t.1\/∃ d,d∈ds/\∃ k,k∈Lz def' d/\x=(k,CA d,())
 |[],t,h,_,_=>⟨h,fun x=>by simp [Ea]⟩
 |d::ds,t,h,hd,hc=>by
  unfold Ea at hc ⊢;obtain ⟨ho,hid⟩:=hd d (by simp);by_cases h0:(IQ (CA d) (keys d) t).2=0
  ·rw [if_pos h0] at hc ⊢;obtain ⟨g1,g2⟩:=Wq hid (keys d) t h (fun k hk=>Ov def' ho k ((hkeys d ho k).1 hk)) h0;obtain ⟨f1,f2⟩:=TX def' keys hkeys ds _ g1 (fun d' hd' =>hd d' (by simp [hd'])) hc;refine ⟨f1,fun x=>?_⟩;rw [f2 x,g2 x];constructor
   ·rintro ((h | ⟨k,h1,rfl⟩) | ⟨d',h1,k,h2,rfl⟩)
    ·exact .inl h
    ·exact .inr ⟨d,by simp,k,(hkeys d ho k).1 h1,rfl⟩
    ·exact .inr ⟨d',by simp [h1],k,h2,rfl⟩
   ·rintro (h | ⟨d',h1,k,h2,rfl⟩)
    ·exact .inl (.inl h)
    ·rcases List.mem_cons.1 h1 with rfl | h1
     ·exact .inl (.inr ⟨k,(hkeys d' ho k).2 h2,rfl⟩)
     ·exact .inr ⟨d',h1,k,h2,rfl⟩
  ·rw [if_neg h0] at hc;exact absurd hc h0
theorem YJ (def':Ht) (keys:Ae->List (List UInt8)) (hkeys:∀ d,AH 5 d=true->∀ k,k∈keys d↔k∈Lz def' d) (ds:List Ae) (hd:∀ d,d∈ds->AH 5 d=true/\0<=CA d/\CA d<=9999) (hc:(Ea keys ds Ow).2=0) :
  IN (Ea keys ds Ow).1/\NE (Ea keys ds Ow).1 def' ds:=by
 obtain ⟨h1,h2⟩:=TX def' keys hkeys ds Ow cq hd hc;refine ⟨h1,fun key id=>?_⟩;rw [h2];constructor
 ·rintro (h | ⟨d,hd,k,hk,e⟩)
  ·simp [Ow,Aw] at h
  ·injection e with e1 e2
   injection e2 with e2 _
   subst e1;exact ⟨d,hd,e2.symm,hk⟩
 ·rintro ⟨d,hd,rfl,hk⟩;exact .inr ⟨d,hd,key,hk,rfl⟩
abbrev DT:Type:=List Int×(Int×(Int×Unit))
structure Ey (s:DT):Prop where
 bytes:∀ b∈s.1,0<=b/\b<256
 short:s.1.length<=1099511627776
 at0:0<=s.2.1
 seed0:0<=s.2.2.1
 seed1:s.2.2.1<2147483648
def Dr {α:Type} (c:Nat) (Q:α->Prop) (G:DT->Option (α×DT×Unit)):Prop:=
 ∀ s,Ey s->s.2.1+c<=1099511627776->∃ r s',G s=some (r,s',())/\Ey s' /\s'.2.1<=s.2.1+c/\Q r
theorem Ox (code:List Int) (h:∀ b∈code,0<=b/\b<256) (hl:code.length<=1099511627776) :
  ∃ s,sI code=some (s,())/\Ey s/\s.2.1=0:=by
 refine ⟨(code,((0:Int),(Int.tmod ((code.length:Nat):Int) 1000,()))),rfl,⟨h,hl,Int.le_refl _,?_,?_⟩,rfl⟩
 ·exact Int.tmod_nonneg 1000 (Int.natCast_nonneg code.length)
 ·have:Int.tmod ((code.length:Nat):Int) 1000<1000:=Int.tmod_lt_of_pos ((code.length:Nat):Int) (by decide);exact Int.lt_trans this (by decide)
theorem nh:Dr 1 (fun r:Int=>0<=r/\r<256) jO:=by
 rintro ⟨code,at_,seed,⟨⟩⟩ ⟨hb,hl,h0,hs0,hs1⟩ hc;dsimp only at hb hl h0 hs0 hs1 hc;have w1:IntKind.wrap .i64 (at_+1)=at_+1:=AN _ (by omega) (by omega);have w2:IntKind.wrap .i64 (at_+1-1)=at_+1-1:=AN _ (by omega) (by omega);have e1:at_+1-1=at_:=by omega
 by_cases hlt:at_+1<=((code.length:Nat):Int)
 ·have hi:at_.toNat<code.length:=by omega
  have hm:=hb _ (List.getElem_mem hi);refine ⟨code[at_.toNat],(code,(at_+1,(Int.tmod (seed*31+code[at_.toNat]+7) 2147483648,()))),?_,⟨hb,hl,by dsimp only;omega,?_,?_⟩,by dsimp only;omega,hm⟩
  ·unfold jO;dsimp only;rw [w1,w2,e1,decide_eq_true hlt,decide_eq_true h0,List.getElem?_eq_getElem hi];simp only [Ai7,Dt,Ai5];rw [AN (seed*31) (by omega) (by omega),AN code[at_.toNat] (by omega) (by omega),AN (seed*31+_) (by omega) (by omega),AN (seed*31+_+7) (by omega) (by omega)]
  ·exact Int.tmod_nonneg _ (by omega)
  ·exact Int.tmod_lt_of_pos _ (by decide)
 ·have hn:decide (at_+1<=((code.length:Nat):Int))=false:=decide_eq_false hlt;by_cases h3:at_+1>3000
  ·refine ⟨0,(code,(at_+1,(seed,()))),?_,⟨hb,hl,by dsimp only;omega,hs0,hs1⟩,by dsimp only;omega,by omega,by omega⟩;unfold jO;dsimp only;rw [w1,hn,decide_eq_true h3];rfl
  ·have k0:0<=Int.tmod (seed*1103515245+12345) 2147483648:=Int.tmod_nonneg _ (by omega);have k1:Int.tmod (seed*1103515245+12345) 2147483648<2147483648:=Int.tmod_lt_of_pos _ (by decide);have k2:0<=Int.tdiv (Int.tmod (seed*1103515245+12345) 2147483648) 65536:=Int.tdiv_nonneg k0 (by decide)
   have k3:Int.tdiv (Int.tmod (seed*1103515245+12345) 2147483648) 65536<=Int.tmod (seed*1103515245+12345) 2147483648:=by
    rw [Int.tdiv_eq_ediv_of_nonneg k0];omega
   refine ⟨Int.tmod (Int.tdiv (Int.tmod (seed*1103515245+12345) 2147483648) 65536) 256,(code,(at_+1,(Int.tmod (seed*1103515245+12345) 2147483648,()))),?_,⟨hb,hl,by dsimp only;omega,k0,k1⟩,by dsimp only;omega,Int.tmod_nonneg _ k2,Int.tmod_lt_of_pos _ (by decide)⟩;unfold jO;dsimp only;rw [w1,hn,decide_eq_false h3,AN (seed*1103515245) (by omega) (by omega),AN (seed*1103515245+12345) (by omega) (by omega),AN (Int.tdiv _ _) (by omega) (by omega)];rfl
theorem Dr.more {α:Type} {c d:Nat} {Q:α->Prop} {G:DT->Option (α×DT×Unit)} (h:Dr c Q G) (hcd:c<=d):Dr d Q G:=fun s hs hc=>by
 obtain ⟨r,s',h1,h2,h3,h4⟩:=h s hs (by omega);exact ⟨r,s',h1,h2,by omega,h4⟩
theorem BL (n:Int) (h1:1<=n) (h2:n<=256):Dr 1 (fun r:Int=>0<=r/\r<n) fun s=>Ef s n:=by
 intro s hs hc;by_cases h:n<=1
 ·refine ⟨0,s,?_,hs,by omega,by omega,by omega⟩;show Ef s n=_;unfold Ef;rw [decide_eq_true h];rfl
 ·obtain ⟨r,s',e1,e2,e3,e4⟩:=nh s hs hc;refine ⟨Int.tmod r n,s',?_,e2,e3,Int.tmod_nonneg _ e4.1,Int.tmod_lt_of_pos _ (by omega)⟩;show Ef s n=_;unfold Ef;rw [decide_eq_false h,decide_eq_true h2,e1,decide_eq_false (show ¬n=0 by omega)];rfl
theorem Ei (n:Int) (h1:1<=n) (h2:n<=256):Dr 1 (fun _:Bool=>True) fun s=>OY s n:=by
 intro s hs hc;obtain ⟨r,s',e1,e2,e3,e4⟩:=BL n h1 h2 s hs hc;refine ⟨r==IntKind.wrap .i64 (n-1),s',?_,e2,e3,trivial⟩;show OY s n=_;unfold OY;rw [show Ef s n=_ from e1];rfl
theorem GW (l:List (List UInt8)) (h1:1<=l.length) (h2:l.length<=256):Dr 1 (fun t=>t∈l) fun s=>NP s l:=by
 intro s hs hc;obtain ⟨r,s',e1,e2,e3,e4⟩:=BL ((l.length:Nat):Int) (by omega) (by omega) s hs hc;have hi:r.toNat<l.length:=by omega
 refine ⟨l[r.toNat],s',?_,e2,e3,List.getElem_mem hi⟩;show NP s l=_;unfold NP;rw [show Ef s _=_ from e1,show ((((l.length:Nat):Int))==(0:Int))=false from by rw [beq_eq_false_iff_ne];omega];simp only [Ai6,Ai5];rw [decide_eq_true e4.1,List.getElem?_eq_getElem hi];rfl
def Sg (l:List Ae):Ae:=(4,0,l.flatMap Js,())
theorem TY (n:Int):d7 n=some ((2,n,[],()),()):=rfl
theorem Si (l:List Ae) (hl:l.length<=300) (hf:∀ v,v∈l->AH 5 v=true):ZA l=some (Sg l,()):=by
 unfold ZA Sg;refine (Ay (S:=List UInt8) (fun i s=>(l,s,(i:Int),(0,0,[],()),())) (fun i s=>some ((4,0,s++(l.drop i).flatMap Js,()),())) l.length (fun i s=>s.length<=i*400) ?_ ?_ Af 0 [] (Nat.zero_le _) (Aj (by omega)) (by simp)).trans rfl
 ·intro i s hi hs rec hrec;have h2:=hf _ (Au hi);have h3:=Kq (AR h2);have h4:(Js (Ah l i)).length<=303:=by unfold Js;rw [List.length_map];exact h3
  simp only [PT,Ad,hi,decide_true,Ai7,Ap,Ai hi,Ai5,Jt _ h2,Am i _ hi (by omega)];rw [Aq (by omega)];rw [hrec _ (by simp only [Ai9];omega),Ac hi,List.flatMap_cons];simp only [List.append_assoc]
 ·intro s _ rec;simp only [PT,Ad,Nat.lt_irrefl,decide_false,Ai6,Ajh,List.flatMap_nil,List.append_nil]
theorem HE (l:List Bk) (hl:l.length<=300) (hf:∀ f,f∈l->f.1.length<=12/\AH 5 f.2.1=true):PA l=some (GD l,()):=by
 unfold PA GD;refine (Ay (S:=List UInt8) (fun i s=>(l,s,(i:Int),(0,0,[],()),())) (fun i s=>some ((5,0,s++(l.drop i).flatMap Li,()),())) l.length (fun i s=>s.length<=i*400) ?_ ?_ Af 0 [] (Nat.zero_le _) (Aj (by omega)) (by simp)).trans rfl
 ·intro i s hi hs rec hrec;obtain ⟨h1,h2⟩:=hf _ (Au hi);have h3:=Kq (AR h2);have h4:(Js (Ah l i).2.1).length<=303:=by unfold Js;rw [List.length_map];exact h3
  simp only [KV,Ad,hi,decide_true,Ai7,Ap,Ai hi,Ai5,DZ,Ko,List.map_cons,List.map_nil,Jt _ h2,Am i _ hi (by omega)];rw [Aq (by simp only [Ai8];omega),Aq (by simp only [Ai9,Ai8];omega),Aq (by simp only [Ai9,Ai8];omega)];rw [hrec _ (by simp only [Ai9,Ai8];omega),Ac hi,List.flatMap_cons];simp only [Li,List.append_assoc,List.cons_append,List.nil_append]
 ·intro s _ rec;simp only [KV,Ad,Nat.lt_irrefl,decide_false,Ai6,Ajh,List.flatMap_nil,List.append_nil]
theorem Sj {v:Ae} (h:AH 5 v=true):(Js v).length<=303:=by
 unfold Js;rw [List.length_map];exact Kq (AR h)
theorem Ld {α:Type} {f:α->List UInt8} {m:Nat}:∀ (l:List α),(∀ x∈l,(f x).length<=m)->(l.flatMap f).length<=l.length*m
 |[],_=>by simp
 |x::l,h=>by
  have h1:=h x (by simp);have h2:=Ld l fun y hy=>h y (by simp [hy])
  rw [List.flatMap_cons,Ai9,Aja,Nat.succ_mul];omega
theorem Sk (g:DT->Int->Option (Ae×DT×Unit)) (d:Int) (hd:IntKind.wrap .i64 (d-1)=d-1) (c:Nat) (hg:Dr c (fun v=>AH 5 v=true) fun s=>g s (d-1)) (e:DT×Ae×List Ae×Unit->Option (Ae×DT×Unit)) (z:Ae) :
  ∀ (i k:Nat) (s:DT) (acc:List Ae),i<k->acc.length+i<=20->(∀ v∈acc,AH 5 v=true)->Ey s->s.2.1+((i*c:Nat):Int)<=1099511627776->
   ∃ acc' s',iter (GA g e) k (d,(i:Int),s,z,acc,())=e (s',z,acc',())/\acc'.length<=acc.length+i/\(∀ v∈acc',AH 5 v=true)/\Ey s' /\s'.2.1<=s.2.1+((i*c:Nat):Int)
 |0,k+1,s,acc,_,_,ha,hs,_=>by
  refine ⟨acc,s,?_,by omega,ha,hs,by simp⟩;simp only [iter,GA];rfl
 |i+1,k+1,s,acc,hk,hl,ha,hs,hc=>by
  have hm:(i+1)*c=i*c+c:=Nat.succ_mul i c;obtain ⟨v,s1,e1,e2,e3,e4⟩:=hg s hs (by rw [hm] at hc;omega)
  obtain ⟨acc',s2,f1,f2,f3,f4,f5⟩:=Sk g d hd c hg e z i k s1 (acc++[v]) (by omega) (by simp only [Ai9,Ai8];omega)
   (fun x hx=>by rcases List.mem_append.1 hx with h | h;exact ha x h;rw [List.mem_singleton.1 h];exact e4) e2 (by rw [hm] at hc;omega)
  refine ⟨acc',s2,?_,by simp only [Ai9,Ai8] at f2;omega,f3,f4,by rw [hm];omega⟩;rw [<-f1];show GA g e (iter (GA g e) k) (d,((i+1:Nat):Int),s,z,acc,())=_;conv=>lhs;unfold GA
  dsimp only;rw [decide_eq_true (show ((i+1:Nat):Int)>0 by omega),hd,show g s (d-1)=_ from e1,AN _ (by omega) (by omega)];simp only [Ai7,Ai5];rw [Aq (by simp only [A_,Ai8];omega),show ((i+1:Nat):Int)-1=(i:Int) by omega];rfl
theorem Kx (g:DT->Int->Option (Ae×DT×Unit)) (d:Int) (c:Nat) (hg:Dr c (fun v=>AH 5 v=true) fun s=>g s d) (e:DT×Ae×List Bk×Unit->Option (Ae×DT×Unit)) (z:Ae) :
  ∀ (m i k:Nat) (s:DT) (acc:List Bk),i+m=4->m<k->acc.length+m<=20->(∀ f∈acc,f.1.length<=12/\AH 5 f.2.1=true)->Ey s->s.2.1+((m*(c+1):Nat):Int)<=1099511627776->
   ∃ acc' s',iter (Jf g e) k (d,(i:Int),s,z,acc,())=e (s',z,acc',())/\acc'.length<=acc.length+m/\(∀ f∈acc',f.1.length<=12/\AH 5 f.2.1=true)/\Ey s' /\s'.2.1<=s.2.1+((m*(c+1):Nat):Int)
 |0,i,k+1,s,acc,hi,_,_,ha,hs,_=>by
  refine ⟨acc,s,?_,by omega,ha,hs,by simp⟩;have:i=4:=by omega
  subst this;simp only [iter,Jf];rfl
 |m+1,i,k+1,s,acc,hi,hk,hl,ha,hs,hc=>by
  have hm:(m+1)*(c+1)=m*(c+1)+(c+1):=Nat.succ_mul m (c+1);rw [hm] at hc
  obtain ⟨nm,hn1,hn2⟩:∃ nm,[[(97:UInt8)],[(98:UInt8)],[(99:UInt8)],[(116:UInt8),(97:UInt8),(103:UInt8),(115:UInt8)]][(Int.toNat (i:Int))]? = some nm/\nm.length<=12:=by
   have:i=0\/i=1\/i=2\/i=3:=by omega
   rcases this with rfl | rfl | rfl | rfl<;>exact ⟨_,rfl,by decide⟩
  obtain ⟨b,s1,e1,e2,e3,-⟩:=Ei 2 (by decide) (by decide) s hs (by omega)
  have step:Jf g e (iter (Jf g e) k) (d,(i:Int),s,z,acc,()) =
    cond b (Option.bind (g s1 d) fun y7=>gd (decide ((List.length acc)+(List.length [(nm,(y7.1,()))])<=A_)) (iter (Jf g e) k (d,((i+1:Nat):Int),y7.2.1,z,acc++[(nm,(y7.1,()))],())))
     (iter (Jf g e) k (d,((i+1:Nat):Int),s1,z,acc,())):=by
   have w:IntKind.wrap .i64 ((i:Int)+1)=((i+1:Nat):Int):=(AN _ (by omega) (by omega)).trans (by omega);conv=>lhs;unfold Jf
   dsimp only;rw [decide_eq_true (show (i:Int)<4 by omega),show OY s 2=_ from e1];simp only [Ai7,Ai5];rw [Aq (by omega),hn1,w];rfl
  cases b with
  |false=>
   obtain ⟨acc',s2,f1,f2,f3,f4,f5⟩:=Kx g d c hg e z m (i+1) k s1 acc (by omega) (by omega) (by omega) ha e2 (by omega);exact ⟨acc',s2,(step.trans f1),by omega,f3,f4,by rw [hm];omega⟩
  |true=>
   obtain ⟨v,s2,h1,h2,h3,h4⟩:=hg s1 e2 (by omega)
   obtain ⟨acc',s3,f1,f2,f3,f4,f5⟩:=Kx g d c hg e z m (i+1) k s2 (acc++[(nm,v,())]) (by omega) (by omega) (by simp only [Ai9,Ai8];omega)
    (fun x hx=>by rcases List.mem_append.1 hx with h | h;exact ha x h;rw [List.mem_singleton.1 h];exact ⟨hn2,h4⟩) h2 (by omega)
   refine ⟨acc',s3,?_,by simp only [Ai9,Ai8] at f2;omega,f3,f4,by rw [hm];omega⟩;refine step.trans ?_;rw [Ai7,show g s1 d=_ from h1,Ai5,Aq (by simp only [A_,Ai8];omega)];exact f1
theorem Ky {v:Ae} (h:v.2.2.1.length<=1048576):eH v=some (AH 5 v,()):=Hy v h
theorem iP (g:DT->Int->Option (Ae×DT×Unit)) (d:Int) (c:Nat) (hg:Dr c (fun v=>AH 5 v=true) fun s=>g s d) :
  Dr (4*(c+1)) (fun v=>AH 5 v=true/\v.1=5) fun s=>o5 g s d:=by
 intro s hs hc;obtain ⟨acc,s',f1,f2,f3,f4,f5⟩:=Kx g d c hg (fun y10=>(Option.bind (PA y10.2.2.1) fun y11=>(Option.bind (eH y11.1) fun y13=>(cond (!y13.1) (Option.bind (PA []) fun y14=>(some (y14.1,(y10.1,())))) (some (y11.1,(y10.1,()))))))) ((0:Int),((0:Int),([],()))) 4 0 Af s [] rfl (Aj (by omega)) (by simp) (by simp) hs hc;have h0:o5 g s d=_:=f1;have hl:acc.length<=4:=by simpa using f2
 have hlen:(GD acc).2.2.1.length<=1048576:=by
  have:=Ld (f:=Li) (m:=400) acc fun f hf=>by
   have:=f3 f hf;have h2:=Sj this.2;simp only [Li,Aja,Ai9];omega
  show (acc.flatMap Li).length<=_;omega
 dsimp only at h0;rw [HE acc (by omega) f3,Ai5,Ky hlen,Ai5] at h0;cases hv:AH 5 (GD acc) with
 |true=>
  rw [hv] at h0;exact ⟨_,s',h0,f4,f5,hv,rfl⟩
 |false=>
  rw [hv,HE [] (by simp) (by simp)] at h0;exact ⟨_,s',h0,f4,f5,rfl,rfl⟩
theorem Gc {n:Int} (h1 : -1000000000000<=n) (h2:n<=1000000000000):AH 5 (2,n,[],())=true:=by
 show GL (AH 4) true (2,n,[],())=true;simp [GL,inR,h1,h2]
theorem Sl (g:DT->Int->Option (Ae×DT×Unit)) (d:Int) (hd0:0<=d) (hd1:d<=10) (c:Nat) (hg:d≠0->Dr c (fun v=>AH 5 v=true) fun s=>g s (d-1)) :
  Dr (4*(c+1)+2) (fun v=>AH 5 v=true) fun s=>Xv g s d:=by
 intro s hs hc;obtain ⟨r,s1,e1,e2,e3,e4⟩:=BL 8 (by decide) (by decide) s hs (by omega);show ∃ r s',Xv g s d=_/\_;unfold Xv;rw [show Ef s 8=_ from e1,Ai5]
 extract_lets j40 j3
 have w:IntKind.wrap .i64 (d-1)=d-1:=AN _ (by omega) (by omega)
 have hj:∀ (k:Int) (t:DT),0<=k->k<8->(d=0->k<6)->Ey t->t.2.1+((4*(c+1):Nat):Int)<=1099511627776->
   ∃ r s',j3 (d,k,t,((0:Int),((0:Int),([],()))),())=some (r,s',())/\Ey s' /\s'.2.1<=t.2.1+((4*(c+1):Nat):Int)/\AH 5 r=true:=by
  intro k t k0 k1 k2 ht hct;have k8:k=0\/k=1\/k=2\/k=3\/k=4\/k=5\/k=6\/k=7:=by omega
  have num:∀ q:Int,0<=q/\q<9->IntKind.wrap .i64 (q-3)=q-3:=fun q hq=>AN _ (by omega) (by omega)
  rcases k8 with rfl | rfl | rfl | rfl | rfl | rfl | rfl | rfl
  ·exact ⟨_,t,rfl,ht,by omega,rfl⟩
  ·obtain ⟨q,t1,q1,q2,q3,q4⟩:=BL 2 (by decide) (by decide) t ht (by omega);refine ⟨(1,q,[],()),t1,?_,q2,by omega,?_⟩
   ·show Option.bind (Ef t 2) _=_;rw [show Ef t 2=_ from q1];rfl
   ·have:q=0\/q=1:=by omega
    rcases this with rfl | rfl<;>rfl
  ·obtain ⟨q,t1,q1,q2,q3,q4⟩:=BL 9 (by decide) (by decide) t ht (by omega);refine ⟨(2,q-3,[],()),t1,?_,q2,by omega,Gc (by omega) (by omega)⟩;show Option.bind (Ef t 9) _=_;rw [show Ef t 9=_ from q1,Ai5];dsimp only;rw [num q q4];rfl
  ·obtain ⟨q,t1,q1,q2,q3,q4⟩:=BL 9 (by decide) (by decide) t ht (by omega);refine ⟨(2,q-3,[],()),t1,?_,q2,by omega,Gc (by omega) (by omega)⟩;show Option.bind (Ef t 9) _=_;rw [show Ef t 9=_ from q1,Ai5];dsimp only;rw [num q q4];rfl
  ·obtain ⟨q,t1,q1,q2,q3,q4⟩:=GW [[],[(97:UInt8)],[(97:UInt8),(98:UInt8)],[(98:UInt8)],[(0:UInt8)]] (by decide) (by decide) t ht (by omega);refine ⟨(3,0,q,()),t1,?_,q2,by omega,?_⟩
   ·show Option.bind (NP t _) _=_;rw [show NP t _=_ from q1];rfl
   ·simp only [List.mem_cons,List.not_mem_nil,or_false] at q4;rcases q4 with rfl | rfl | rfl | rfl | rfl<;>rfl
  ·obtain ⟨q,t1,q1,q2,q3,q4⟩:=BL 3 (by decide) (by decide) t ht (by omega);have:q=0\/q=1\/q=2:=by omega
   rcases this with rfl | rfl | rfl
   ·exact ⟨(2,1000000000000,[],()),t1,by show Option.bind (Ef t 3) _=_;rw [show Ef t 3=_ from q1];rfl,q2,by omega,Gc (by decide) (by decide)⟩
   ·exact ⟨(2,-1000000000000,[],()),t1,by show Option.bind (Ef t 3) _=_;rw [show Ef t 3=_ from q1];rfl,q2,by omega,Gc (by decide) (by decide)⟩
   ·exact ⟨(2,300,[],()),t1,by show Option.bind (Ef t 3) _=_;rw [show Ef t 3=_ from q1];rfl,q2,by omega,Gc (by decide) (by decide)⟩
  ·have hdn:d≠0:=fun h=>by have:=k2 h;omega
   obtain ⟨q,t1,q1,q2,q3,q4⟩:=BL 4 (by decide) (by decide) t ht (by omega);obtain ⟨n,rfl⟩:∃ n:Nat,q=(n:Int):=⟨q.toNat,by omega⟩;have hn:n<=3:=by omega
   have hnc:n*c<=3*c:=Nat.mul_le_mul_right c hn;obtain ⟨acc,t2,f1,f2,f3,f4,f5⟩:=Sk g d w c (hg hdn) (fun y21=>(Option.bind (ZA y21.2.2.1) fun y22=>(Option.bind (eH y22.1) fun y24=>(cond (!y24.1) (Option.bind (d7 (1:Int)) fun y25=>(some (y25.1,(y21.1,())))) (some (y22.1,(y21.1,()))))))) ((0:Int),((0:Int),([],()))) n Af t1 [] (Aj (by omega)) (by simp;omega) (by simp) q2 (by omega);have hl:acc.length<=3:=by simp at f2;omega
   have h0:=f1
   have hlen:(Sg acc).2.2.1.length<=1048576:=by
    have:=Ld (f:=Js) (m:=400) acc fun f hf=>by
     have:=Sj (f3 f hf);omega
    show (acc.flatMap Js).length<=_;omega
   dsimp only at h0;rw [Si acc (by omega) f3,Ai5,Ky hlen,Ai5] at h0;cases hv:AH 5 (Sg acc) with
   |true=>
    rw [hv] at h0;refine ⟨_,t2,Eq.trans ?_ h0,f4,by omega,hv⟩;show Option.bind (Ef t 4) _=_;rw [show Ef t 4=_ from q1,Ai5]
   |false=>
    rw [hv,TY] at h0;refine ⟨_,t2,Eq.trans ?_ h0,f4,by omega,rfl⟩;show Option.bind (Ef t 4) _=_;rw [show Ef t 4=_ from q1,Ai5];rfl
  ·have hdn:d≠0:=fun h=>by have:=k2 h;omega
   obtain ⟨v,t1,q1,q2,q3,q4⟩:=iP g (d-1) c (hg hdn) t ht hct;refine ⟨v,t1,?_,q2,q3,q4.1⟩;show Option.bind (o5 g t (IntKind.wrap .i64 (d-1))) _=_;rw [w,show o5 g t (d-1)=_ from q1];rfl
 cases hd:d==0 with
 |true=>
  obtain ⟨r2,s2,f1,f2,f3,f4⟩:=BL 6 (by decide) (by decide) s1 e2 (by omega);obtain ⟨v,s3,h1,h2,h3,h4⟩:=hj r2 s2 f4.1 (by omega) (fun _=>f4.2) f2 (by omega);refine ⟨v,s3,?_,h2,by omega,h4⟩;rw [Ai7,show Ef s1 6=_ from f1,Ai5];exact h1
 |false=>
  have hdn:d≠0:=by simpa using hd
  obtain ⟨v,s3,h1,h2,h3,h4⟩:=hj r s1 e4.1 e4.2 (fun h=>absurd h hdn) e2 (by omega);exact ⟨v,s3,h1,h2,by omega,h4⟩
def cV:Nat->Nat
 |0=>6
 |d+1=>4*(cV d+1)+2
theorem TZ:∀ (d k:Nat),d<=10->Dr (cV d) (fun v=>AH 5 v=true) fun s=>ZB (k+d+1) s (d:Int)
 |0,k,_=>Sl (ZB k) 0 (by decide) (by decide) 0 fun h=>absurd rfl h
 |d+1,k,h=>Sl (ZB (k+d+1)) ((d+1:Nat):Int) (by omega) (by omega) (cV d) fun _=>by
  rw [show ((d+1:Nat):Int)-1=(d:Int) by omega];exact TZ d k (by omega)
theorem YK (d:Nat) (h:d<=10):Dr (cV d) (fun v=>AH 5 v=true) fun s=>MP s (d:Int):=by
 have hk:Af=(Af-d-1)+d+1:=by have:=MH;omega
 unfold MP;rw [hk];exact TZ d _ h
theorem YL (d:Nat) (h:d<=10):Dr (4*(cV d+1)) (fun v=>AH 5 v=true/\v.1=5) fun s=>yW s (d:Int):=iP _ _ _ (YK d h)
def EI:List Ae:=[(0,0,[],()),(1,0,[],()),(1,1,[],()),(2,-3,[],()),(2,-2,[],()),(2,-1,[],()),(2,0,[],()),(2,1,[],()),(2,2,[],()),(2,3,[],()),(2,4,[],()),(2,5,[],()),
 (2,1000000000000,[],()),(2,-1000000000000,[],()),(2,300,[],()),(3,0,[],()),(3,0,[97],()),(3,0,[97,98],()),(3,0,[98],()),(3,0,[0],())]
theorem ep:(EI.all fun a=>EI.all fun b=>AH 5 (Sg [a,b]))=true:=by kernel_rfl
theorem iQ {a b:Ae} (ha:a∈EI) (hb:b∈EI):AH 5 (Sg [a,b])=true:=
 List.all_eq_true.1 (List.all_eq_true.1 ep a ha) b hb
theorem eq:(EI.all fun a=>AH 5 a)=true:=by kernel_rfl
theorem YM {q:Int} (h:0<=q/\q<9):((2,q-3,[],()):Ae)∈EI:=by
 have:q=0\/q=1\/q=2\/q=3\/q=4\/q=5\/q=6\/q=7\/q=8:=by omega
 rcases this with rfl | rfl | rfl | rfl | rfl | rfl | rfl | rfl | rfl<;>simp [EI]
theorem YN (g:DT->Int->Option (Ae×DT×Unit)):Dr 6 (fun v=>v∈EI) fun s=>Xv g s 0:=by
 intro s hs hc;obtain ⟨r,s1,e1,e2,e3,e4⟩:=BL 8 (by decide) (by decide) s hs (by omega);show ∃ r s',Xv g s 0=_/\_;unfold Xv;rw [show Ef s 8=_ from e1,Ai5]
 extract_lets j40 j3
 obtain ⟨k,t,e1,ht,e3',k0,k1⟩:=BL 6 (by decide) (by decide) s1 e2 (by omega);rw [show ((0:Int)==0)=true from rfl,Ai7,show Ef s1 6=_ from e1,Ai5];show ∃ r s',j3 (0,k,t,((0:Int),((0:Int),([],()))),())=_/\_;have num:∀ q:Int,0<=q/\q<9->IntKind.wrap .i64 (q-3)=q-3:=fun q hq=>AN _ (by omega) (by omega)
 have k8:k=0\/k=1\/k=2\/k=3\/k=4\/k=5:=by omega
 rcases k8 with rfl | rfl | rfl | rfl | rfl | rfl
 ·exact ⟨_,t,rfl,ht,by omega,by simp [EI]⟩
 ·obtain ⟨q,t1,q1,q2,q3,q4⟩:=BL 2 (by decide) (by decide) t ht (by omega);refine ⟨(1,q,[],()),t1,?_,q2,by omega,?_⟩
  ·show Option.bind (Ef t 2) _=_;rw [show Ef t 2=_ from q1];rfl
  ·have:q=0\/q=1:=by omega
   rcases this with rfl | rfl<;>simp [EI]
 ·obtain ⟨q,t1,q1,q2,q3,q4⟩:=BL 9 (by decide) (by decide) t ht (by omega);refine ⟨(2,q-3,[],()),t1,?_,q2,by omega,YM q4⟩;show Option.bind (Ef t 9) _=_;rw [show Ef t 9=_ from q1,Ai5];dsimp only;rw [num q q4];rfl
 ·obtain ⟨q,t1,q1,q2,q3,q4⟩:=BL 9 (by decide) (by decide) t ht (by omega);refine ⟨(2,q-3,[],()),t1,?_,q2,by omega,YM q4⟩;show Option.bind (Ef t 9) _=_;rw [show Ef t 9=_ from q1,Ai5];dsimp only;rw [num q q4];rfl
 ·obtain ⟨q,t1,q1,q2,q3,q4⟩:=GW [[],[(97:UInt8)],[(97:UInt8),(98:UInt8)],[(98:UInt8)],[(0:UInt8)]] (by decide) (by decide) t ht (by omega);refine ⟨(3,0,q,()),t1,?_,q2,by omega,?_⟩
  ·show Option.bind (NP t _) _=_;rw [show NP t _=_ from q1];rfl
  ·simp only [List.mem_cons,List.not_mem_nil,or_false] at q4;rcases q4 with rfl | rfl | rfl | rfl | rfl<;>simp [EI]
 ·obtain ⟨q,t1,q1,q2,q3,q4⟩:=BL 3 (by decide) (by decide) t ht (by omega);have:q=0\/q=1\/q=2:=by omega
  rcases this with rfl | rfl | rfl
  ·exact ⟨(2,1000000000000,[],()),t1,by show Option.bind (Ef t 3) _=_;rw [show Ef t 3=_ from q1];rfl,q2,by omega,by simp [EI]⟩
  ·exact ⟨(2,-1000000000000,[],()),t1,by show Option.bind (Ef t 3) _=_;rw [show Ef t 3=_ from q1];rfl,q2,by omega,by simp [EI]⟩
  ·exact ⟨(2,300,[],()),t1,by show Option.bind (Ef t 3) _=_;rw [show Ef t 3=_ from q1];rfl,q2,by omega,by simp [EI]⟩
theorem T_:Dr 6 (fun v=>v∈EI) fun s=>MP s 0:=by
 have hk:Af=(Af-1)+1:=by have:=MH;omega
 unfold MP;rw [hk];exact YN _
def Wr:List (List UInt8):=[[(97:UInt8)],[(98:UInt8)],[(99:UInt8)],[(116:UInt8),(97:UInt8),(103:UInt8),(115:UInt8)],[(97:UInt8),(46:UInt8),(98:UInt8)],[(116:UInt8),(97:UInt8),(103:UInt8),(115:UInt8),(46:UInt8),(97:UInt8)],[(105:UInt8),(100:UInt8)]]
theorem ew:(Wr.all Cm)=true:=by kernel_rfl
theorem Kz {op:Int} {p:List UInt8} {v:Ae} (hp:Cm p=true) (hv:AH 5 v=true) (h:(if op=7 then v.1==4 else if op=8 then v.1==1 else if op=9 then (v.1==2)&&inR v.2.1 0 5
  else if op=10 then (v.1==2)&&decide (v.2.1>=0) else inR op 1 6)=true):BV (op,p,v,())=true:=by
 unfold BV;rw [Ajb,Ajb];exact ⟨hp,hv,h⟩
theorem ni:Dr 60 (fun t=>BV t=true) wY:=by
 intro s hs hc;obtain ⟨r,s1,a1,a2,a3,a4⟩:=BL 10 (by decide) (by decide) s hs (by omega);obtain ⟨p,s2,b1,b2,b3,b4⟩:=GW Wr (by decide) (by decide) s1 a2 (by omega);obtain ⟨v,s3,c1,c2,c3,c4⟩:=YK 1 (by decide) s2 b2 (by have:cV 1=30:=rfl;omega);have hcv:cV 1=30:=rfl;rw [hcv] at c3;have hp:Cm p=true:=List.all_eq_true.1 ew p b4;have w:IntKind.wrap .i64 (1+r)=1+r:=AN _ (by omega) (by omega);unfold wY;rw [show Ef s 10=_ from a1,Ai5];dsimp only
 replace b1:NP s1 Wr=some (p,s2,()):=b1
 unfold Wr at b1;rw [b1,Ai5];dsimp only;rw [show MP s2 1=_ from c1,Ai5,w];dsimp only;have r10:r=6\/r=7\/r=8\/r=9\/(0<=r/\r<=5):=by omega
 rcases r10 with rfl | rfl | rfl | rfl | hr
 ·obtain ⟨x,s4,d1,d2,d3,d4⟩:=T_ s3 c2 (by omega);obtain ⟨y,s5,f1,f2,f3,f4⟩:=T_ s4 d2 (by omega);refine ⟨(7,p,Sg [x,y],()),s5,?_,f2,by omega,Kz hp (iQ d4 f4) rfl⟩
  have hxy:∀ z∈[x,y],AH 5 z=true:=fun z hz=>by
   have:=List.all_eq_true.1 eq;simp only [List.mem_cons,List.not_mem_nil,or_false] at hz;rcases hz with rfl | rfl
   ·exact this _ d4
   ·exact this _ f4
  rw [show ((1:Int)+6==7)=true from rfl,Ai7,show MP s3 0=_ from d1,Ai5];dsimp only;rw [show MP s4 0=_ from f1,Ai5];dsimp only;rw [Si [x,y] (by simp) hxy];rfl
 ·obtain ⟨q,s4,d1,d2,d3,d4⟩:=BL 2 (by decide) (by decide) s3 c2 (by omega);have hq:q=0\/q=1:=by omega
  refine ⟨(8,p,(1,q,[],()),()),s4,?_,d2,by omega,Kz hp (by rcases hq with rfl | rfl<;>rfl) rfl⟩
  rw [show ((1:Int)+7==7)=false from rfl,show ((1:Int)+7==8)=true from rfl,Ai6,Ai7,show Ef s3 2=_ from d1];rfl
 ·obtain ⟨q,s4,d1,d2,d3,d4⟩:=BL 6 (by decide) (by decide) s3 c2 (by omega);have hq:q=0\/q=1\/q=2\/q=3\/q=4\/q=5:=by omega
  refine ⟨(9,p,(2,q,[],()),()),s4,?_,d2,by omega,Kz hp (Gc (by omega) (by omega)) (by rcases hq with rfl | rfl | rfl | rfl | rfl | rfl<;>rfl)⟩
  rw [show ((1:Int)+8==7)=false from rfl,show ((1:Int)+8==8)=false from rfl,show ((1:Int)+8==9)=true from rfl,Ai6,Ai6,Ai7,show Ef s3 6=_ from d1];rfl
 ·obtain ⟨q,s4,d1,d2,d3,d4⟩:=BL 3 (by decide) (by decide) s3 c2 (by omega);have hq:q=0\/q=1\/q=2:=by omega
  refine ⟨(10,p,(2,q,[],()),()),s4,?_,d2,by omega,Kz hp (Gc (by omega) (by omega)) (by rcases hq with rfl | rfl | rfl<;>rfl)⟩
  rw [show ((1:Int)+9==7)=false from rfl,show ((1:Int)+9==8)=false from rfl,show ((1:Int)+9==9)=false from rfl,show ((1:Int)+9==10)=true from rfl,Ai6,Ai6,Ai6,Ai7,show Ef s3 3=_ from d1];rfl
 ·have e7:((1:Int)+r==7)=false:=by rw [beq_eq_false_iff_ne];omega
  have e8:((1:Int)+r==8)=false:=by rw [beq_eq_false_iff_ne];omega
  have e9:((1:Int)+r==9)=false:=by rw [beq_eq_false_iff_ne];omega
  have e10:((1:Int)+r==10)=false:=by rw [beq_eq_false_iff_ne];omega
  refine ⟨(1+r,p,v,()),s3,?_,c2,by omega,Kz hp c4 ?_⟩
  ·rw [e7,e8,e9,e10];rfl
  ·rw [if_neg (by omega),if_neg (by omega),if_neg (by omega),if_neg (by omega)];simp [inR];omega
abbrev nj:Type:=List CI×Unit
abbrev nk:Type:=List nj×Unit
def wv (c:nj):Prop:=c.1.length<=4/\∀ t∈c.1,BV t=true
theorem Sm (e:Int×DT×nk×nk×nj×Unit->Option (nk×DT×Unit)) (i:Int) (z f:nk) :
  ∀ (k K:Nat) (s:DT) (acc:List CI),k<K->acc.length+k<=4->(∀ t∈acc,BV t=true)->Ey s->s.2.1+((k*60:Nat):Int)<=1099511627776->
   ∃ acc' s',iter (LQ e) K (i,(k:Int),s,z,f,(acc,()),())=e (i,s',z,f,(acc',()),())/\acc'.length<=4/\(∀ t∈acc',BV t=true)/\Ey s' /\s'.2.1<=s.2.1+((k*60:Nat):Int)
 |0,K+1,s,acc,_,hl,ha,hs,_=>by
  refine ⟨acc,s,?_,by omega,ha,hs,by simp⟩;simp only [iter,LQ];rfl
 |k+1,K+1,s,acc,hk,hl,ha,hs,hc=>by
  obtain ⟨v,s1,e1,e2,e3,e4⟩:=ni s hs (by omega)
  obtain ⟨acc',s2,f1,f2,f3,f4,f5⟩:=Sm e i z f k K s1 (acc++[v]) (by omega) (by simp only [Ai9,Ai8];omega)
   (fun x hx=>by rcases List.mem_append.1 hx with h | h;exact ha x h;rw [List.mem_singleton.1 h];exact e4) e2 (by omega)
  refine ⟨acc',s2,?_,f2,f3,f4,by omega⟩;rw [<-f1];show LQ e (iter (LQ e) K) (i,((k+1:Nat):Int),s,z,f,(acc,()),())=_;conv=>lhs;unfold LQ
  dsimp only;rw [decide_eq_true (show ((k+1:Nat):Int)>0 by omega),e1,AN _ (by omega) (by omega)];simp only [Ai7,Ai5];rw [Aq (by simp only [A_,Ai8];omega),show ((k+1:Nat):Int)-1=(k:Int) by omega];rfl
theorem NH (e:DT×nk×nk×Unit->Option (nk×DT×Unit)) (z:nk) :
  ∀ (n K:Nat) (s:DT) (acc:List nj),n<K->acc.length+n<=3->(∀ c∈acc,wv c)->Ey s->s.2.1+((n*200:Nat):Int)<=1099511627776->
   ∃ acc' s',iter (Kg e) K ((n:Int),s,z,(acc,()),())=e (s',z,(acc',()),())/\acc'.length=acc.length+n/\(∀ c∈acc',wv c)/\Ey s' /\s'.2.1<=s.2.1+((n*200:Nat):Int)
 |0,K+1,s,acc,_,hl,ha,hs,_=>by
  refine ⟨acc,s,?_,by omega,ha,hs,by simp⟩;simp only [iter,Kg];rfl
 |n+1,K+1,s,acc,hk,hl,ha,hs,hc=>by
  obtain ⟨q,s1,e1,e2,e3,e4⟩:=BL 3 (by decide) (by decide) s hs (by omega);obtain ⟨k,rfl⟩:∃ k:Nat,q=(k:Int):=⟨q.toNat,by omega⟩;obtain ⟨ts,s2,g1,g2,g3,g4,g5⟩:=Sm (fun y12=>(gd (decide (((List.length y12.2.2.2.1.1)+(List.length [y12.2.2.2.2.1]))<=A_)) (iter (Kg e) K ((IntKind.wrap IntKind.i64 (y12.1-(1:Int))),y12.2.1,y12.2.2.1,((y12.2.2.2.1.1++[y12.2.2.2.2.1]),y12.2.2.2.1.2),())))) ((n+1:Nat):Int) z (acc,()) k Af s1 [] (Aj (by omega)) (by simp;omega) (by simp) e2 (by omega)
  obtain ⟨acc',s3,f1,f2,f3,f4,f5⟩:=NH e z n K s2 (acc++[(ts,())]) (by omega) (by simp only [Ai9,Ai8];omega)
   (fun x hx=>by rcases List.mem_append.1 hx with h | h;exact ha x h;rw [List.mem_singleton.1 h];exact ⟨g2,g3⟩) g4 (by omega)
  refine ⟨acc',s3,?_,by simp only [Ai9,Ai8] at f2;omega,f3,f4,by omega⟩;rw [<-f1];dsimp only at g1;rw [AN _ (by omega) (by omega),Aq (by simp only [A_,Ai8];omega),show ((n+1:Nat):Int)-1=(n:Int) by omega] at g1;rw [<-g1];show Kg e (iter (Kg e) K) (((n+1:Nat):Int),s,z,(acc,()),())=_;conv=>lhs;unfold Kg
  dsimp only;rw [decide_eq_true (show ((n+1:Nat):Int)>0 by omega),show Ef s 3=_ from e1];simp only [Ai7,Ai5];rfl
theorem ey:Dr 401 (fun f:nk=>BW f=true) wZ:=by
 intro s hs hc;obtain ⟨q,s1,e1,e2,e3,e4⟩:=BL 4 (by decide) (by decide) s hs (by omega)
 obtain ⟨n,hn,hn1,hn2⟩:∃ n:Nat,IntKind.wrap .i64 (1+IntKind.wrap .i64 (Int.tdiv q 3))=(n:Int)/\1<=n/\n<=2:=by
  have:q=0\/q=1\/q=2\/q=3:=by omega
  rcases this with rfl | rfl | rfl | rfl
  ·exact ⟨1,rfl,by decide,by decide⟩
  ·exact ⟨1,rfl,by decide,by decide⟩
  ·exact ⟨1,rfl,by decide,by decide⟩
  ·exact ⟨2,rfl,by decide,by decide⟩
 obtain ⟨acc,s2,f1,f2,f3,f4,f5⟩:=NH (fun y13=>(some (y13.2.2.1,(y13.1,())))) ([],()) n Af s1 [] (Aj (by omega)) (by simp;omega) (by simp) e2 (by omega);refine ⟨(acc,()),s2,?_,f4,by omega,?_⟩
 ·unfold wZ;rw [show Ef s 4=_ from e1,Ai5];dsimp only;rw [hn];exact f1
 ·show BW (acc,())=true;unfold BW;rw [Ajb,List.all_eq_true];have hl:acc.length=n:=by simpa using f2
  refine ⟨by dsimp only;simp [inR];omega,fun c hc=>?_⟩;rw [Ajb,List.all_eq_true];exact ⟨decide_eq_true (by have:=(f3 c hc).1;omega),(f3 c hc).2⟩
theorem Sn {a b:List UInt8} (h:Op.bytesLess a b=true):Op.bytesLess b a=false:=by
 cases h2:Op.bytesLess b a with
 |false=>rfl
 |true=>have:=Cd a b a h h2;rw [Bj] at this;cases this
theorem cr (a b:List UInt8):Op.bytesLess a (GQ a b)=false/\Op.bytesLess b (GQ a b)=false:=by
 unfold GQ;cases h1:Op.bytesLess a b with
 |true=>
  exact ⟨Bj a,Sn h1⟩
 |false=>
  cases h2:a==b with
  |true=>rw [beq_iff_eq] at h2;subst h2;exact ⟨Bj a,Bj a⟩
  |false=>exact ⟨h1,Bj b⟩
theorem ct (a b:List UInt8):Op.bytesLess (EP a b) a=false/\Op.bytesLess (EP a b) b=false:=by
 unfold EP;cases h1:Op.bytesLess a b with
 |true=>exact ⟨Sn h1,Bj b⟩
 |false=>exact ⟨Bj a,h1⟩
def JJ (a b:Az):Az:=(GQ a.1 b.1,EP a.2.1 b.2.1,a.2.2.1||b.2.2.1,())
def Mf (r:Az):Az:=(r.1,cond r.2.2.1 [] r.2.1,r.2.2.1,())
def GP (p:BG) (f:Dv):Az:=match f.1 with
 |[]=>Wp
 |c::l=>Mf (l.foldl (fun a c=>JJ a (Dy p c)) (Dy p c))
theorem HY.refl (i:Az):HY i i:=⟨Bj _,by cases h:i.2.2.1 with | true=>exact .inl rfl | false=>exact .inr ⟨rfl,Bj _⟩⟩
theorem HY.trans {i j k:Az} (h1:HY i j) (h2:HY j k):HY i k:=by
 refine ⟨Jw h1.1 h2.1,?_⟩;rcases h2.2 with h | ⟨h,h'⟩
 ·exact .inl h
 ·rcases h1.2 with h3 | ⟨h3,h4⟩
  ·rw [h] at h3;cases h3
  ·exact .inr ⟨h3,Jw h' h4⟩
theorem nl (a b:Az):HY a (JJ a b):=by
 refine ⟨(cr _ _).1,?_⟩;cases h:a.2.2.1||b.2.2.1 with
 |true=>exact .inl h
 |false=>exact .inr ⟨(Bool.or_eq_false_iff.1 h).1,(ct _ _).1⟩
theorem nn (a b:Az):HY b (JJ a b):=by
 refine ⟨(cr _ _).2,?_⟩;cases h:a.2.2.1||b.2.2.1 with
 |true=>exact .inl h
 |false=>exact .inr ⟨(Bool.or_eq_false_iff.1 h).2,(ct _ _).2⟩
theorem YO (r:Az):HY r (Mf r):=by
 refine ⟨Bj _,?_⟩;cases h:r.2.2.1 with
 |true=>exact .inl h
 |false=>
  refine .inr ⟨rfl,?_⟩;unfold Mf;rw [h];exact Bj _
theorem So (g:DQ->Az):∀ (l:List DQ) (a:Az),HY a (l.foldl (fun a c=>JJ a (g c)) a)/\∀ c∈l,HY (g c) (l.foldl (fun a c=>JJ a (g c)) a)
 |[],a=>⟨.refl a,by simp⟩
 |c::l,a=>by
  obtain ⟨h1,h2⟩:=So g l (JJ a (g c));refine ⟨(nl a (g c)).trans h1,fun x hx=>?_⟩;rcases List.mem_cons.1 hx with rfl | hx
  ·exact (nn a (g x)).trans h1
  ·exact h2 x hx
theorem Ws (p:BG) (f:Dv):iO f p (GP p f):=by
 intro c hc;refine .inl ?_;unfold GP;cases h:f.1 with
 |nil=>rw [h] at hc;cases hc
 |cons c₀ l=>
  rw [h] at hc;obtain ⟨h1,h2⟩:=So (Dy p) l (Dy p c₀);rcases List.mem_cons.1 hc with rfl | hc
  ·exact h1.trans (YO _)
  ·exact (h2 c hc).trans (YO _)
theorem Iq (n:Nat):∀ m,(Bm n m).length=m
 |0=>rfl
 |m+1=>by simp [Bm,Iq n m]
theorem Oy (n:Nat):∀ (m a:Nat),TI a (Bm n m)=a*256 ^ m+n % 256 ^ m
 |0,a=>by simp [Bm,TI,Nat.mod_one]
 |m+1,a=>by
  have h:(UInt8.ofNat (n / 256 ^ m % 256)).toNat=n / 256 ^ m % 256:=by
   rw [UInt8.toNat_ofNat'];exact Nat.mod_eq_of_lt (Nat.lt_of_lt_of_le (Nat.mod_lt _ (by decide)) (by decide))
  show TI (a*256+(UInt8.ofNat (n / 256 ^ m % 256)).toNat) (Bm n m)=_;rw [h,Oy n m,Nat.mod_pow_succ,Nat.pow_succ];rw [Nat.add_mul,Nat.mul_assoc a,Nat.mul_comm 256 (256 ^ m),Nat.mul_comm (256 ^ m) (n / 256 ^ m % 256)];omega
theorem cu {d:Nat} {v:Ae} (h:AH d v=true) (hk:v.1=1\/v.1=2):v.2.2.1=[]:=by
 have:∀ g m,GL g m v=true->v.2.2.1=[]:=by
  intro g m h;unfold GL at h;rcases hk with hk | hk
  ·rw [if_neg (by omega),if_pos hk,Ajb,beq_iff_eq] at h;exact h.2
  ·rw [if_neg (by omega),if_neg (by omega),if_pos hk,Ajb,beq_iff_eq] at h;exact h.2
 cases d with
 |zero=>exact this _ _ h
 |succ d=>exact this _ _ h
theorem Oz (t r:List UInt8) (k:UInt8) (hk:k=3\/k=4\/k=5) (hb:(Bm t.length 2).length=2) (hx:JL (Bm t.length 2)=(t.length:Int))
  (ht:(Bm t.length 2++t++r).take 2=Bm t.length 2) (hd:(Bm t.length 2++t++r).drop 2=t++r) :
  Br (k::(Bm t.length 2++t++r))=some (((k.toNat:Int),0,t,()),r):=by
 have n0:¬k=0:=by rcases hk with rfl | rfl | rfl<;>decide
 have n1:¬k=1:=by rcases hk with rfl | rfl | rfl<;>decide
 have n2:¬k=2:=by rcases hk with rfl | rfl | rfl<;>decide
 unfold Br;dsimp only;rw [if_neg n0,if_neg n1,if_neg n2,if_pos hk,ht,hx,Int.toNat_natCast,hd,if_neg (by simp only [Ai9];omega),if_neg (by simp only [Ai9];omega)];rw [<-List.drop_drop,hd,List.take_append_of_le_length (Nat.le_refl _),List.take_length,List.drop_append_of_le_length (Nat.le_refl _),Ajh];rfl
theorem eA {v:Ae} (h:AH 5 v=true) (r:List UInt8):Br (Js v++r)=some (v,r):=by
 obtain ⟨k,n,t,u⟩:=v;have hk:=BH h;have hs:=AR h;dsimp only at hk hs;unfold Js ZY;dsimp only;rcases hk with rfl | rfl | rfl | rfl | rfl | rfl
 ·obtain ⟨h1,h2⟩:=La h (by dsimp only;decide) (by dsimp only;decide);have h3:=h2 rfl;dsimp only at h1 h3;subst h1 h3;rfl
 ·have h1:=RZ h rfl;have h2:=cu h (.inl rfl);dsimp only at h1 h2;subst h2;have:n=0\/n=1:=by omega
  rcases this with rfl | rfl<;>rfl
 ·have h1:=Wm h rfl;have h2:=cu h (.inr rfl);dsimp only at h1 h2;subst h2;obtain ⟨m,hm⟩:∃ m:Nat,n+4611686018427387904=(m:Int):=⟨(n+4611686018427387904).toNat,by omega⟩;have hw:IntKind.wrap .i64 (n+4611686018427387904)=(m:Int):=(AN _ (by omega) (by omega)).trans hm;rw [if_neg (by decide),if_neg (by decide),if_pos rfl,hw,List.map_cons,HC m 8 (by decide)];have hb:(Bm m 8).length=8:=Iq m 8;have hm9:m<9223372036854775808:=by omega
  have hlt:m<256 ^ 8:=Nat.lt_trans hm9 (by decide);have hx:TI 0 (Bm m 8)=m:=by rw [Oy,Nat.zero_mul,Nat.zero_add,Nat.mod_eq_of_lt hlt]
  have h0:¬IF (Bm m 8) 0>127:=by
   have:Ah (Bm m 8) 0=UInt8.ofNat (m / 256 ^ 7 % 256):=rfl;unfold IF;rw [this,UInt8.toNat_ofNat'];have:m / 256 ^ 7<128:=Nat.div_lt_of_lt_mul (Nat.lt_of_lt_of_eq hm9 (by decide));rw [Nat.mod_eq_of_lt (a:=m / 256 ^ 7) (by omega),Nat.mod_eq_of_lt (by omega)];omega
  have ht:(Bm m 8++r).take 8=Bm m 8:=by rw [List.take_append_of_le_length (by omega),List.take_of_length_le (by omega)]
  have hd:(Bm m 8++r).drop 8=r:=by rw [List.drop_append_of_le_length (by omega),List.drop_of_length_le (by omega)];rfl
  have hb0:IF (Bm m 8++r) 0=IF (Bm m 8) 0:=rfl;show Br (GM (IntKind.wrap .u8 2)::(Bm m 8++r))=_;rw [show GM (IntKind.wrap .u8 2)=(2:UInt8) from by decide];unfold Br;dsimp only;rw [if_neg (by decide),if_neg (by decide),if_pos rfl,if_neg (by rw [Ai9];omega),hb0,if_neg h0,ht,hd,(VR hb h0).1,hx,show IntKind.wrap .i64 ((m:Int)-4611686018427387904)=n from (AN _ (by omega) (by omega)).trans (by omega)]
 all_goals
  obtain ⟨h1,_⟩:=La h (by dsimp only;decide) (by dsimp only;decide);dsimp only at h1;subst h1;have hb:(Bm t.length 2).length=2:=Iq t.length 2
  have hx:JL (Bm t.length 2)=(t.length:Int):=by
   rw [VQ hb,Oy,Nat.zero_mul,Nat.zero_add,Nat.mod_eq_of_lt (show t.length<256 ^ 2 from Nat.lt_of_le_of_lt hs (by decide))]
  have hmap:(t.map fun v:UInt8=>((v.toNat:Nat):Int)).map GM=t:=by
   rw [List.map_map];conv=>rhs;rw [<-List.map_id t]
   refine List.map_congr_left fun b _=>?_
   show UInt8.ofNat (Int.toNat ((b.toNat:Nat):Int))=b;rw [Int.toNat_natCast];simp
  rw [if_neg (by decide),if_neg (by decide),if_neg (by decide),List.map_cons,List.map_append,HC t.length 2 (by decide),hmap]
  have ht:(Bm t.length 2++t++r).take 2=Bm t.length 2:=by
   rw [List.append_assoc,List.take_append_of_le_length (by omega),List.take_of_length_le (by omega)]
  have hd2:(Bm t.length 2++t++r).drop 2=t++r:=by
   rw [List.append_assoc,List.drop_append_of_le_length (by omega),List.drop_of_length_le (by omega)];rfl
 ·show Br (GM (IntKind.wrap .u8 3)::(Bm t.length 2++t++r))=_;rw [show GM (IntKind.wrap .u8 3)=(3:UInt8) from by decide];exact Oz t r 3 (by decide) hb hx ht hd2
 ·show Br (GM (IntKind.wrap .u8 4)::(Bm t.length 2++t++r))=_;rw [show GM (IntKind.wrap .u8 4)=(4:UInt8) from by decide];exact Oz t r 4 (by decide) hb hx ht hd2
 ·show Br (GM (IntKind.wrap .u8 5)::(Bm t.length 2++t++r))=_;rw [show GM (IntKind.wrap .u8 5)=(5:UInt8) from by decide];exact Oz t r 5 (by decide) hb hx ht hd2
theorem aj (f:Bk) (r:List UInt8) (hn:f.1.length<=12) (hv:AH 5 f.2.1=true):Ce (Li f++r)=some (f,r):=by
 obtain ⟨nm,v,u⟩:=f;dsimp only at hn hv
 have hb:(GM (IntKind.wrap .u8 ((nm.length:Nat):Int))).toNat=nm.length:=by
  have:∀ k:Fin 13,(GM (IntKind.wrap .u8 ((k.val:Nat):Int))).toNat=k.val:=by decide
  exact this ⟨nm.length,by omega⟩
 show Ce (GM (IntKind.wrap .u8 ((nm.length:Nat):Int))::((nm++Js v)++r))=_;unfold Ce;dsimp only
 rw [hb,if_neg (by simp only [Ai9];omega),List.append_assoc,List.drop_append_of_le_length (Nat.le_refl _),Ajh,List.nil_append,eA hv,Ai5,
  List.take_append_of_le_length (Nat.le_refl _),List.take_length]
theorem KA:∀ (l:List Bk),(∀ f∈l,f.1.length<=12/\AH 5 f.2.1=true)->AG (l.flatMap Li)=some l
 |[],_=>rfl
 |f::l,h=>by
  have hf:=h f (by simp);rw [List.flatMap_cons,CR (by unfold Li;simp),aj f _ hf.1 hf.2,Ai5,KA l fun x hx=>h x (by simp [hx])];rfl
def EQ (name:List UInt8) (v:Ae):Bool->List Bk->Bool×List Bk
 |done,[]=>(done,[])
 |done,f::l=>((EQ name v (done || !(Op.bytesLess f.1 name)) l).1,(cond (!done && !(Op.bytesLess f.1 name)) [(name,v,())] []++(cond (f.1==name) [] [f]++(EQ name v (done || !(Op.bytesLess f.1 name)) l).2)))
def HJ (name:List UInt8) (v:Ae) (l:List Bk):List Bk:=(EQ name v false l).2++cond (EQ name v false l).1 [] [(name,v,())]
theorem YP (name:List UInt8) (v:Ae):∀ (l:List Bk) (d:Bool),(EQ name v d l).2.length<=2*l.length
 |[],d=>by simp [EQ]
 |f::l,d=>by
  have:=YP name v l (d || !(Op.bytesLess f.1 name));simp only [EQ,Ai9,Aja];cases (!d && !(Op.bytesLess f.1 name))<;>cases (f.1==name)<;>simp<;>omega
theorem YQ (name:List UInt8) (v:Ae):∀ (l:List Bk) (d:Bool) (x:Bk),x∈(EQ name v d l).2->x=(name,v,())\/(x∈l/\x.1≠name)
 |[],d,x,h=>by simp [EQ] at h
 |f::l,d,x,h=>by
  simp only [EQ,Ajf] at h;rcases h with h | h | h
  ·cases hc:(!d && !(Op.bytesLess f.1 name))<;>rw [hc] at h
   ·cases h
   ·exact .inl (List.mem_singleton.1 h)
  ·cases hc:(f.1==name)<;>rw [hc] at h
   ·rw [List.mem_singleton.1 h];exact .inr ⟨by simp,by simpa using hc⟩
   ·cases h
  ·rcases YQ name v l _ x h with h | h
   ·exact .inl h
   ·exact .inr ⟨by simp [h.1],h.2⟩
theorem Sp (name:List UInt8) (v:Ae):∀ (l:List Bk),(EQ name v false l).1=true->(name,v,())∈(EQ name v false l).2
 |[],h=>by simp [EQ] at h
 |f::l,h=>by
  simp only [EQ,Bool.false_or,Bool.not_false,Bool.true_and,Ajf] at h ⊢;cases hc:(!(Op.bytesLess f.1 name)) with
  |true=>left;simp
  |false=>rw [hc] at h;exact .inr (.inr (Sp name v l h))
theorem Sq {name:List UInt8} {v:Ae} {l:List Bk} {x:Bk} (h:x∈HJ name v l):x=(name,v,())\/(x∈l/\x.1≠name):=by
 unfold HJ at h;rcases List.mem_append.1 h with h | h
 ·exact YQ name v l false x h
 ·cases hc:(EQ name v false l).1<;>rw [hc] at h
  ·exact .inl (List.mem_singleton.1 h)
  ·cases h
theorem ak (name:List UInt8) (v:Ae) (l:List Bk):(name,v,())∈HJ name v l:=by
 unfold HJ;cases hc:(EQ name v false l).1 with
 |false=>simp
 |true=>exact List.mem_append.2 (.inl (Sp name v l hc))
theorem eB (name:List UInt8) (v:Ae) (l:List Bk):(HJ name v l).find? (fun f=>f.1==name)=some (name,v,()):=by
 cases h:(HJ name v l).find? (fun f=>f.1==name) with
 |none=>have:=List.find?_eq_none.1 h _ (ak name v l);simp at this
 |some x=>
  have h1:=List.find?_some h;rcases Sq (List.mem_of_find?_eq_some h) with e | e
  ·rw [e]
  ·exact absurd (by simpa using h1) e.2
theorem YR (name:List UInt8) (v:Ae) (l:List Bk):(HJ name v l).length<=2*l.length+1:=by
 have:=YP name v l false;unfold HJ;cases (EQ name v false l).1<;>simp<;>omega
theorem eC (doc:Ae) (name:List UInt8) (v:Ae) (l:List Bk) (hs:doc.2.2.1.length<=1048576) (hl:AG doc.2.2.1=some l) (hlen:l.length<=100) (hok:∀ f∈l,f.1.length<=12/\AH 5 f.2.1=true)
  (hn:name.length<=12) (hv:AH 5 v=true):xc doc name v true=some (GD (HJ name v l),()):=by
 have hp:∀ f∈HJ name v l,f.1.length<=12/\AH 5 f.2.1=true:=fun f hf=>by
  rcases Sq hf with e | e
  ·rw [e];exact ⟨hn,hv⟩
  ·exact hok f e.1
 have hpl:=YR name v l;unfold xc;rw [Dx _ hs,hl,Ai5];dsimp only
 refine (Ay (S:=Bool×List Bk) (fun i s=>(name,l,s.1,(i:Int),v,(0,0,[],()),s.2,())) (fun i s=>some (GD (s.2++((EQ name v s.1 (l.drop i)).2++cond (EQ name v s.1 (l.drop i)).1 [] [(name,v,())])),())) l.length
  (fun i s=>s.2.length<=2*i/\s.2++((EQ name v s.1 (l.drop i)).2++cond (EQ name v s.1 (l.drop i)).1 [] [(name,v,())])=HJ name v l) ?_ ?_ Af 0 (false,[]) (Nat.zero_le _) (Aj (by omega)) ⟨by simp,by simp [HJ]⟩).trans ?_
 ·intro i s hi hs rec hrec;obtain ⟨h1,h2⟩:=hs;obtain ⟨d,out⟩:=s;dsimp only at h1 h2 ⊢;rw [Ac hi] at h2;simp only [EQ] at h2;simp only [UZ,Ad,hi,decide_true,Ai7,Ap,Ai hi,Ai5,Am i _ hi (by omega)]
  have fin:∀ (d':Bool) (o₁:List Bk),d'=(d || !(Op.bytesLess (Ah l i).1 name))->o₁=out++cond (!d && !(Op.bytesLess (Ah l i).1 name)) [(name,v,())] []->o₁.length<=2*i+1->
    cond (!((Ah l i).1==name)) (gd (decide (o₁.length+[Ah l i].length<=A_)) (rec (name,l,d',((i+1:Nat):Int),v,(0,0,[],()),o₁++[Ah l i],()))) (rec (name,l,d',((i+1:Nat):Int),v,(0,0,[],()),o₁,()))=some (GD (HJ name v l),()):=by
   intro d' o₁ hd ho hol;rw [<-hd] at h2;cases he:((Ah l i).1==name) with
   |true=>
    rw [he] at h2
    have e2:o₁++((EQ name v d' (l.drop (i+1))).2++cond (EQ name v d' (l.drop (i+1))).1 [] [(name,v,())])=HJ name v l:=by
     rw [<-h2,ho];simp only [Ai7,List.nil_append,List.append_assoc]
    have:=hrec (d',o₁) ⟨by dsimp only;omega,e2⟩;dsimp only at this;rw [Bool.not_true,Ai6,this,e2]
   |false=>
    rw [he] at h2
    have e2:(o₁++[Ah l i])++((EQ name v d' (l.drop (i+1))).2++cond (EQ name v d' (l.drop (i+1))).1 [] [(name,v,())])=HJ name v l:=by
     rw [<-h2,ho];simp only [Ai6,List.append_assoc]
    have:=hrec (d',o₁++[Ah l i]) ⟨by simp only [Ai9,Ai8];omega,e2⟩;dsimp only at this;rw [Bool.not_false,Ai7,Aq (by simp only [A_,Ai8];omega),this,e2]
  have goal:(out++((cond (!d && !(Op.bytesLess (Ah l i).1 name)) [(name,v,())] []++(cond ((Ah l i).1==name) [] [Ah l i]++(EQ name v (d || !(Op.bytesLess (Ah l i).1 name)) (l.drop (i+1))).2)) ++
    cond (EQ name v (d || !(Op.bytesLess (Ah l i).1 name)) (l.drop (i+1))).1 [] [(name,v,())]))=HJ name v l:=h2
  rw [Ac hi];simp only [EQ];rw [goal];cases d with
  |true=>simpa using fin true out rfl (by simp) (by omega)
  |false=>
   cases hb:Op.bytesLess (Ah l i).1 name with
   |true=>
    have:=fin false out (by rw [hb];rfl) (by rw [hb];simp) (by omega);simpa using this
   |false=>
    have:=fin true (out++[(name,v,())]) (by rw [hb];rfl) (by rw [hb];simp) (by simp only [Ai9,Ai8];omega);rw [Bool.not_false,Ai7,Aq (by simp only [A_,Ai8];omega)];simpa using this
 ·intro s hs rec;obtain ⟨h1,h2⟩:=hs;obtain ⟨d,out⟩:=s;dsimp only at h1 h2 ⊢;rw [Ajh] at h2 ⊢;simp only [EQ,List.nil_append] at h2 ⊢;simp only [UZ,Ad,Nat.lt_irrefl,decide_false,Ai6];rw [h2];cases d with
  |true=>
   simp only [Bool.not_true,Ai6];rw [Ai7,List.append_nil] at h2;rw [h2,HE _ (by omega) hp];rfl
  |false=>
   simp only [Bool.not_false,Ai7];rw [Ai6] at h2;rw [Aq (by simp only [A_,Ai8];omega),h2,HE _ (by omega) hp];rfl
 ·simp [HJ]
def ww (id:Int):List Bk:=[([105,100],(2,id,[],()),())]
theorem iR:∀ k:Fin 9,AH 5 (GD (ww ((k.val:Nat):Int)))=true:=by decide
theorem YS {doc:Ae} {l:List Bk} {id:Int} (h:AG doc.2.2.1=some l) (hf:l.find? (fun f=>f.1==([105,100]:List UInt8))=some ([105,100],(2,id,[],()),())) (h0:0<=id) (h1:id<=99):CA doc=id:=by
 unfold CA;rw [h];dsimp only;unfold bR BJ;rw [hf];unfold TD;dsimp only;simp [inR,h0,h1]
theorem PF {v:Ae} (h:AH 5 v=true) (hk:v.1=5):∃ l,AG v.2.2.1=some l/\l.length<=100/\∀ f∈l,f.1.length<=12/\AH 5 f.2.1=true:=by
 have hd:Dw v=true:=by unfold Dw;rw [hk];exact h
 obtain ⟨l,h1,_,hr,hs,hf⟩:=LX hd;have hl:=Me v.2.2.1.length v.2.2.1 l (Nat.le_refl _) h1;refine ⟨l,h1,?_,fun f hf' =>⟨?_,VS (by decide) (hf f hf').1⟩⟩
 ·have:∀ m:List Bk,3*m.length<=(m.map fun f=>1+f.1.length+Df f.2.1).sum\/¬ ∀ f∈m,shortM f.1=true:=by
   intro m;induction m with
   |nil=>left;simp
   |cons f m ih=>
    by_cases hall:∀ x∈f::m,shortM x.1=true
    ·left
     have h3:1<=f.1.length:=by
      have:=hall f (by simp);unfold shortM Nn inR at this;simp only [Ajb,Ajg] at this;omega
     have h4:1<=Df f.2.1:=by unfold Df;split<;>(try split)<;>(try split)<;>omega
     rcases ih with ih | ih
     ·simp only [List.map_cons,List.sum_cons,Aja];omega
     ·exact absurd (fun x hx=>hall x (by simp [hx])) ih
    ·right;exact hall
  rcases this l with h | h
  ·omega
  ·exact absurd (fun f hf' =>(hf f hf').2) h
 ·have:=(hf f hf').2;unfold shortM at this;rw [Ajb,Ajg] at this;omega
theorem iS (id:Int) (h0:0<=id) (h1:id<=8):Dr 508 (fun v=>AH 5 v=true/\v.1=5/\CA v=id) fun s=>oD s id:=by
 intro s hs hc;obtain ⟨v,s1,e1,e2,e3,e4,e5⟩:=YL 2 (by decide) s hs (by have:4*(cV 2+1)=508:=rfl;omega);have hcv:4*(cV 2+1)=508:=rfl;rw [hcv] at e3;obtain ⟨l,f1,f2,f3⟩:=PF e4 e5
 have hp:∀ f∈HJ [105,100] (2,id,[],()) l,f.1.length<=12/\AH 5 f.2.1=true:=fun f hf=>by
  rcases Sq hf with e | e
  ·rw [e];exact ⟨(by show (2:Nat)<=12;decide),Gc (by omega) (by omega)⟩
  ·exact f3 f e.1
 have hpl:=YR [105,100] (2,id,[],()) l;have hput:=eC v [105,100] (2,id,[],()) l (by have:=AR e4;omega) f1 f2 f3 (by decide) (Gc (by omega) (by omega))
 have hsh:(GD (HJ [105,100] (2,id,[],()) l)).2.2.1.length<=1048576:=by
  have:=Ld (f:=Li) (m:=400) (HJ [105,100] (2,id,[],()) l) fun f hf=>by
   have:=hp f hf;have h2:=Sj this.2;simp only [Li,Aja,Ai9];omega
  show ((HJ [105,100] (2,id,[],()) l).flatMap Li).length<=_;omega
 show ∃ r s',oD s id=_/\_;unfold oD;rw [show yW s 2=_ from e1,Ai5,TY,Ai5];dsimp only;rw [hput,Ai5];dsimp only;rw [Ky hsh,Ai5];dsimp only;cases hv:AH 5 (GD (HJ [105,100] (2,id,[],()) l)) with
 |true=>
  refine ⟨_,s1,rfl,e2,e3,hv,rfl,YS (KA _ hp) (eB _ _ _) h0 (by omega)⟩
 |false=>
  have hd:=HE (ww id) (by simp [ww]) fun f hf=>by rw [List.mem_singleton.1 hf];exact ⟨(by show (2:Nat)<=12;decide),Gc (by omega) (by omega)⟩
  unfold ww at hd;rw [Bool.not_false,Ai7,Ai5];dsimp only;rw [hd,Ai5];have hid:=iR ⟨id.toNat,by omega⟩;rw [show (((⟨id.toNat,by omega⟩:Fin 9).val:Nat):Int)=id by show ((id.toNat:Nat):Int)=id;omega] at hid;exact ⟨_,s1,rfl,e2,e3,hid,rfl,YS (KA (ww id) fun f hf=>by rw [List.mem_singleton.1 hf];exact ⟨(by show (2:Nat)<=12;decide),Gc (by omega) (by omega)⟩) rfl h0 (by omega)⟩
structure qV (i:Nat) (l:List Ae):Prop where
 good:∀ x∈l,AH 5 x=true/\x.1=5/\0<=CA x/\CA x<(i:Int)
 rise:l.Pairwise fun a b=>CA a<CA b
 len:l.length<=i
theorem OA (e:DT×List Ae×Unit->Option (List Ae×DT×Unit)):∀ (m i K:Nat) (s:DT) (acc:List Ae),i+m=9->m<K->qV i acc->Ey s->s.2.1+((m*509:Nat):Int)<=1099511627776->
  ∃ acc' s',iter (GJ e) K ((i:Int),s,acc,())=e (s',acc',())/\qV 9 acc' /\Ey s' /\s'.2.1<=s.2.1+((m*509:Nat):Int)
 |0,i,K+1,s,acc,hi,_,ha,hs,_=>by
  have:i=9:=by omega
  subst this;refine ⟨acc,s,?_,ha,hs,by simp⟩;simp only [iter,GJ];rfl
 |m+1,i,K+1,s,acc,hi,hk,ha,hs,hc=>by
  have up:qV 9 acc:=⟨fun x hx=>by have:=ha.good x hx;exact ⟨this.1,this.2.1,this.2.2.1,by omega⟩,ha.rise,by have:=ha.len;omega⟩;have up1:qV (i+1) acc:=⟨fun x hx=>by have:=ha.good x hx;exact ⟨this.1,this.2.1,this.2.2.1,by omega⟩,ha.rise,by have:=ha.len;omega⟩;by_cases h6:acc.length<6
  ·obtain ⟨b,s1,e1,e2,e3,-⟩:=Ei 2 (by decide) (by decide) s hs (by omega);have w:IntKind.wrap .i64 ((i:Int)+1)=((i+1:Nat):Int):=(AN _ (by omega) (by omega)).trans (by omega)
   have step:GJ e (iter (GJ e) K) ((i:Int),s,acc,()) =
     cond b (Option.bind (oD s1 (i:Int)) fun y=>gd (decide (acc.length+[y.1].length<=A_)) (iter (GJ e) K (((i+1:Nat):Int),y.2.1,acc++[y.1],())))
      (iter (GJ e) K (((i+1:Nat):Int),s1,acc,())):=by
    conv=>lhs;unfold GJ
    dsimp only;rw [decide_eq_true (show (i:Int)<9 by omega),decide_eq_true (show ((acc.length:Nat):Int)<6 by omega),show OY s 2=_ from e1];simp only [Ai7,Ai5];rw [w];rfl
   cases b with
   |false=>
    obtain ⟨acc',s2,g1,g2,g3,g4⟩:=OA e m (i+1) K s1 acc (by omega) (by omega) up1 e2 (by omega);exact ⟨acc',s2,step.trans g1,g2,g3,by omega⟩
   |true=>
    obtain ⟨v,s2,v1,v2,v3,v4,v5,v6⟩:=iS (i:Int) (by omega) (by omega) s1 e2 (by omega)
    obtain ⟨acc',s3,g1,g2,g3,g4⟩:=OA e m (i+1) K s2 (acc++[v]) (by omega) (by omega)
     ⟨fun x hx=>by
      rcases List.mem_append.1 hx with h | h
      ·exact up1.good x h
      ·rw [List.mem_singleton.1 h];exact ⟨v4,v5,by omega,by omega⟩,
      List.pairwise_append.2 ⟨ha.rise,List.pairwise_singleton _ _,fun a ha' b hb=>by rw [List.mem_singleton.1 hb,v6];exact (ha.good a ha').2.2.2⟩,
      by have:=ha.len;simp only [Ai9,Ai8];omega⟩ v2 (by omega)
    refine ⟨acc',s3,step.trans ?_,g2,g3,by omega⟩;rw [Ai7,show oD s1 (i:Int)=_ from v1,Ai5,Aq (by simp only [A_,Ai8];omega)];exact g1
  ·refine ⟨acc,s,?_,up,hs,by omega⟩;show GJ e (iter (GJ e) K) ((i:Int),s,acc,())=_;conv=>lhs;unfold GJ
   dsimp only;rw [decide_eq_true (show (i:Int)<9 by omega),decide_eq_false (show ¬((acc.length:Nat):Int)<6 by omega)];rfl
theorem np:Dr 4581 (fun l=>qV 9 l) yY:=by
 intro s hs hc;obtain ⟨acc,s',h1,h2,h3,h4⟩:=OA (fun y9=>some (y9.2.1,(y9.1,()))) 9 0 Af s [] rfl (Aj (by omega)) ⟨by simp,List.Pairwise.nil,by simp⟩ hs (by omega);exact ⟨acc,s',h1,h3,by omega,h2⟩
theorem qV.ok {i:Nat} {l:List Ae} (h:qV i l) (hi:i<=20):Eg l=true:=by
 unfold Eg;rw [Ajb,AY];refine ⟨fun k _ hk=>?_,decide_eq_true (by have:=h.len;omega)⟩;have hk:k<l.length:=by omega
 have hg:=h.good _ (Au hk);unfold Pg;simp only [Ajb,Ajc,Ajg];refine ⟨by unfold Dw;rw [hg.2.1];exact hg.1,hg.2.2.1,?_⟩;by_cases h0:k=0
 ·exact .inl h0
 ·right;have:=List.pairwise_iff_getElem.1 h.rise (k-1) k (by omega) hk (by omega);rwa [<-Du (by omega),<-Du hk] at this
def Jz:List (List UInt8):=[[(111:UInt8),(110:UInt8),(101:UInt8)],[(116:UInt8),(119:UInt8),(111:UInt8)]]
def Wt:List (List UInt8):=[[(97:UInt8)],[(98:UInt8)],[(116:UInt8),(97:UInt8),(103:UInt8),(115:UInt8)],[(97:UInt8),(46:UInt8),(98:UInt8)]]
def Wu:List (List UInt8):=[[(99:UInt8)],[(105:UInt8),(100:UInt8)]]
theorem iT:(Jz.all fun n=>Wt.all fun p=>[true,false].all fun b=>Gn (n,[(p,b,())],())&&Wu.all fun p' =>[true,false].all fun b' =>Gn (n,[(p,b,()),(p',b',())],()))=true:=by kernel_rfl
theorem nF (b:Bool):b∈[true,false]:=by cases b<;>simp
theorem qW:Dr 6 (fun d:Ht=>Gn d=true/\(∀ n∈Jz,Gn (n,d.2)=true)/\d.2.1.length<=2) xe:=by
 intro s hs hc;obtain ⟨n,s1,a1,a2,a3,a4⟩:=GW Jz (by decide) (by decide) s hs (by omega);obtain ⟨p,s2,b1,b2,b3,b4⟩:=GW Wt (by decide) (by decide) s1 a2 (by omega);obtain ⟨b,s3,c1,c2,c3,-⟩:=Ei 3 (by decide) (by decide) s2 b2 (by omega);obtain ⟨x,s4,d1,d2,d3,-⟩:=Ei 3 (by decide) (by decide) s3 c2 (by omega);have key:=fun m (hm:m∈Jz)=>List.all_eq_true.1 (List.all_eq_true.1 (List.all_eq_true.1 iT m hm) p b4) b (nF b)
 simp only [Ajb] at key;unfold xe
 replace a1:NP s Jz=some (n,s1,()):=a1
 unfold Jz at a1;rw [a1,Ai5];dsimp only
 replace b1:NP s1 Wt=some (p,s2,()):=b1
 unfold Wt at b1;rw [b1,Ai5];dsimp only;rw [show OY s2 3=_ from c1,Ai5];dsimp only;rw [show OY s3 3=_ from d1,Ai5];dsimp only;cases x with
 |false=>exact ⟨_,s4,rfl,d2,by omega,(key n a4).1,fun m hm=>(key m hm).1,by simp⟩
 |true=>
  obtain ⟨p',s5,f1,f2,f3,f4⟩:=GW Wu (by decide) (by decide) s4 d2 (by omega);obtain ⟨b',s6,g1,g2,g3,-⟩:=Ei 3 (by decide) (by decide) s5 f2 (by omega)
  replace f1:NP s4 Wu=some (p',s5,()):=f1
  unfold Wu at f1;rw [Ai7,f1,Ai5];dsimp only;rw [show OY s5 3=_ from g1,Ai5];have key2:=fun m hm=>List.all_eq_true.1 (List.all_eq_true.1 (key m hm).2 p' f4) b' (nF b')
  exact ⟨_,s6,rfl,g2,by omega,key2 n a4,fun m hm=>key2 m hm,by simp⟩
def Wv:List (List UInt8):=[[(97:UInt8)],[(98:UInt8)],[(99:UInt8)],[(116:UInt8),(97:UInt8),(103:UInt8),(115:UInt8)],[(97:UInt8),(46:UInt8),(98:UInt8)],[(97:UInt8),(46:UInt8),(97:UInt8)],[(98:UInt8),(46:UInt8),(99:UInt8)],[(116:UInt8),(97:UInt8),(103:UInt8),(115:UInt8),(46:UInt8),(97:UInt8)],[(97:UInt8),(46:UInt8),(98:UInt8),(46:UInt8),(99:UInt8)]]
theorem am:(Wv.all Cm)=true:=by kernel_rfl
theorem nq:Dr 1 (fun p=>Cm p=true) w_:=by
 intro s hs hc;obtain ⟨p,s1,a1,a2,a3,a4⟩:=GW Wv (by decide) (by decide) s hs hc;refine ⟨p,s1,?_,a2,a3,List.all_eq_true.1 am p a4⟩;unfold w_
 replace a1:NP s Wv=some (p,s1,()):=a1
 unfold Wv at a1;rw [a1];rfl
theorem Ss (e:DT×BD×BD×Unit->Option (BD×DT×Unit)) (z q:BD):∀ (k K:Nat) (s:DT) (acc:List BG),k<K->acc.length+k<=2->Ek acc=true->Ey s->s.2.1+((k*2:Nat):Int)<=1099511627776->
  ∃ acc' s',iter (LR e) K ((k:Int),s,z,(q.1,acc,q.2.2),())=e (s',z,(q.1,acc',q.2.2),())/\acc'.length<=2/\Ek acc'=true/\Ey s' /\s'.2.1<=s.2.1+((k*2:Nat):Int)
 |0,K+1,s,acc,_,hl,ha,hs,_=>by
  refine ⟨acc,s,?_,by omega,ha,hs,by simp⟩;simp only [iter,LR];rfl
 |k+1,K+1,s,acc,hk,hl,ha,hs,hc=>by
  obtain ⟨p,s1,e1,e2,e3,e4⟩:=nq s hs (by omega);obtain ⟨b,s2,f1,f2,f3,-⟩:=Ei 2 (by decide) (by decide) s1 e2 (by omega)
  obtain ⟨acc',s3,g1,g2,g3,g4,g5⟩:=Ss e z q k K s2 (acc++[(p,b,())]) (by omega) (by simp only [Ai9,Ai8];omega)
   (by unfold Ek at ha ⊢;rw [List.all_append,ha];simp [e4]) f2 (by omega)
  refine ⟨acc',s3,?_,g2,g3,g4,by omega⟩;rw [<-g1];show LR e (iter (LR e) K) (((k+1:Nat):Int),s,z,(q.1,acc,q.2.2),())=_;conv=>lhs;unfold LR
  dsimp only;rw [decide_eq_true (show ((k+1:Nat):Int)>0 by omega),e1];simp only [Ai7,Ai5];rw [show OY s1 2=_ from f1];simp only [Ai5];rw [AN _ (by omega) (by omega),Aq (by simp only [A_,Ai8];omega),show ((k+1:Nat):Int)-1=(k:Int) by omega];rfl
def Mg:List (List UInt8):=[[(97:UInt8)],[(98:UInt8)]]
def KB:List (List UInt8):=[[(111:UInt8),(110:UInt8),(101:UInt8)],[(116:UInt8),(119:UInt8),(111:UInt8)],[(110:UInt8),(111:UInt8),(110:UInt8),(101:UInt8)]]
theorem iU:Dr 420 (fun q:BD=>CG q=true) xa:=by
 intro s hs hc;obtain ⟨f,s1,a1,a2,a3,a4⟩:=ey s hs (by omega);obtain ⟨n,s2,b1,b2,b3,b4⟩:=BL 3 (by decide) (by decide) s1 a2 (by omega);obtain ⟨k,rfl⟩:∃ k:Nat,n=(k:Int):=⟨n.toNat,by omega⟩
 have Q:∀ (ps:List BG) (sk li:Int) (ke:List (List UInt8)) (h:List UInt8),ps.length<=2->Ek ps=true->0<=sk/\sk<3->0<=li/\li<3->(ke=[]\/∃ x∈Mg,ke=[x])->(h=[]\/h∈KB)->
   CG (f,ps,sk,li,ke,h,())=true:=by
  intro ps sk li ke h h1 h2 h3 h4 h5 h6
  have e5:ke.length<=4/\ke.all shortM=true:=by
   rcases h5 with rfl | ⟨x,hx,rfl⟩
   ·exact ⟨by simp,rfl⟩
   ·have:(Mg.all shortM)=true:=by kernel_rfl
    exact ⟨by simp,by simp [List.all_eq_true.1 this x hx]⟩
  have e6:((h==[])||shortM h)=true:=by
   rcases h6 with rfl | h6
   ·rfl
   ·have:(KB.all shortM)=true:=by kernel_rfl
    rw [List.all_eq_true.1 this h h6,Bool.or_true]
  unfold CG inR;dsimp only;rw [a4,h2,e5.2,e6,decide_eq_true (show ((ps.length:Nat):Int)<=2 by omega),decide_eq_true (show ((ke.length:Nat):Int)<=4 by omega),decide_eq_true h3.1,decide_eq_true (show sk<=100 by omega),decide_eq_true h4.1,decide_eq_true (show li<=100 by omega)];rfl
 unfold xa;rw [a1,Ai5];dsimp only;rw [show Ef s1 3=_ from b1,Ai5];dsimp only;have L:=fun e=>Ss e (([],()),[],0,0,[],[],()) (f,[],0,0,[],[],()) k Af s2 [] (Aj (by omega)) (by simp;omega) rfl b2 (by omega)
 obtain ⟨ps,s3,g1,g2,g3,g4,g5⟩:=L _;dsimp only at g1;rw [g1];clear g1 L;obtain ⟨x,s4,c1,c2,c3,-⟩:=Ei 4 (by decide) (by decide) s3 g4 (by omega);rw [show OY s3 4=_ from c1,Ai5];dsimp only
 have last:∀ (t:DT) (sk li:Int) (ke:List (List UInt8)),Ey t->t.2.1+2<=1099511627776->0<=sk/\sk<3->0<=li/\li<3->(ke=[]\/∃ x∈Mg,ke=[x])->
   ∃ q t',(Option.bind (OY t 3) fun y21=>cond y21.1 (Option.bind (NP y21.2.1 KB) fun y22=>some (((f,ps,sk,li,ke,y22.1,()):BD),y22.2.1,())) (some ((f,ps,sk,li,ke,[],()),y21.2.1,())))=some (q,t',())/\
    Ey t' /\t'.2.1<=t.2.1+2/\CG q=true:=by
  intro t sk li ke ht htc h3 h4 h5;obtain ⟨y,t1,d1,d2,d3,-⟩:=Ei 3 (by decide) (by decide) t ht (by omega);rw [show OY t 3=_ from d1,Ai5];cases y with
  |false=>exact ⟨_,t1,rfl,d2,by omega,Q _ _ _ _ _ g2 g3 h3 h4 h5 (.inl rfl)⟩
  |true=>
   obtain ⟨h,t2,f1,f2,f3,f4⟩:=GW KB (by decide) (by decide) t1 d2 (by omega);rw [Ai7,show NP t1 KB=_ from f1,Ai5];exact ⟨_,t2,rfl,f2,by omega,Q _ _ _ _ _ g2 g3 h3 h4 h5 (.inr f4)⟩
 have mid:∀ (t:DT) (sk li:Int),Ey t->t.2.1+4<=1099511627776->0<=sk/\sk<3->0<=li/\li<3->
   ∃ q t',(Option.bind (OY t 4) fun y16=>cond y16.1 (Option.bind (NP y16.2.1 Mg) fun y17=>gd (decide (([]:List (List UInt8)).length+[y17.1].length<=A_))
     (Option.bind (OY y17.2.1 3) fun y21=>cond y21.1 (Option.bind (NP y21.2.1 KB) fun y22=>some (((f,ps,sk,li,([]++[y17.1]),y22.1,()):BD),y22.2.1,())) (some ((f,ps,sk,li,([]++[y17.1]),[],()),y21.2.1,()))))
     (Option.bind (OY y16.2.1 3) fun y21=>cond y21.1 (Option.bind (NP y21.2.1 KB) fun y22=>some (((f,ps,sk,li,[],y22.1,()):BD),y22.2.1,())) (some ((f,ps,sk,li,[],[],()),y21.2.1,()))))=some (q,t',())/\
    Ey t' /\t'.2.1<=t.2.1+4/\CG q=true:=by
  intro t sk li ht htc h3 h4;obtain ⟨y,t1,d1,d2,d3,-⟩:=Ei 4 (by decide) (by decide) t ht (by omega);rw [show OY t 4=_ from d1,Ai5];dsimp only;cases y with
  |false=>
   obtain ⟨q,t2,h1,h2,h5,h6⟩:=last t1 sk li [] d2 (by omega) h3 h4 (.inl rfl);exact ⟨q,t2,h1,h2,by omega,h6⟩
  |true=>
   obtain ⟨h,t2,f1,f2,f3,f4⟩:=GW Mg (by decide) (by decide) t1 d2 (by omega);rw [Ai7,show NP t1 Mg=_ from f1,Ai5];dsimp only;rw [Aq (by simp [A_])];obtain ⟨q,t3,h1,h2,h5,h6⟩:=last t2 sk li [h] f2 (by omega) h3 h4 (.inr ⟨h,f4,rfl⟩);exact ⟨q,t3,h1,h2,by omega,h6⟩
 unfold Mg KB at mid;cases x with
 |false=>
  obtain ⟨q,t2,h1,h2,h5,h6⟩:=mid s4 0 0 c2 (by omega) (by decide) (by decide);exact ⟨q,t2,h1,h2,by omega,h6⟩
 |true=>
  obtain ⟨sk,s5,d1,d2,d3,d4⟩:=BL 3 (by decide) (by decide) s4 c2 (by omega);obtain ⟨li,s6,f1,f2,f3,f4⟩:=BL 3 (by decide) (by decide) s5 d2 (by omega);rw [Ai7,show Ef s4 3=_ from d1,Ai5];dsimp only;rw [show Ef s5 3=_ from f1,Ai5];dsimp only;obtain ⟨q,t2,h1,h2,h5,h6⟩:=mid s6 sk li f2 (by omega) d4 f4;exact ⟨q,t2,h1,h2,by omega,h6⟩
def B8 (t:List UInt8):List Int:=t.map fun x:UInt8=>((x.toNat:Nat):Int)
theorem Ha (t:List UInt8):(B8 t).length=t.length:=List.length_map _
theorem IR (a b:List UInt8):B8 (a++b)=B8 a++B8 b:=List.map_append
theorem cw (t:List UInt8):(B8 t).map (fun v:Int=>UInt8.ofNat (Int.toNat v))=t:=Kp t
theorem Ww (z:Int):((GM (IntKind.wrap .u8 z)).toNat:Int)=IntKind.wrap .u8 z:=by
 have h:0<=IntKind.wrap .u8 z/\IntKind.wrap .u8 z<256:=by
  simp only [IntKind.wrap,IntKind.bits,IntKind.signed];have e:((2:Int) ^ 8)=256:=by decide
  simp only [Bool.false_eq_true,if_false,e];exact ⟨Int.emod_nonneg _ (by decide),Int.emod_lt_of_pos _ (by decide)⟩
 unfold GM;rw [UInt8.toNat_ofNat',Nat.mod_eq_of_lt (by omega)];omega
theorem Wx (n:Int):∀ m,B8 ((Cz n m).map GM)=Cz n m
 |0=>rfl
 |m+1=>by
  have:=Wx n m;unfold B8 at this ⊢;simp only [Cz,List.map_cons];rw [this];unfold eI;rw [Ww]
theorem cA (d:Nat) (v:Ae):HD d v=Td (match d with | 0=>fun _=>[] | e+1=>HD e) v:=by cases d<;>rfl
theorem Ua (t:List UInt8) (h:t.length<=100000):gf t=some (Ip t,()):=by
 unfold gf;refine (Ay (S:=List Int) (fun i s=>(t,(i:Int),s,())) (fun i s=>some (s.map (fun v:Int=>UInt8.ofNat (Int.toNat v))++Ip (t.drop i),())) t.length (fun i s=>s.length<=2*i) ?_ ?_ Af 0 [] (Nat.zero_le _) (Aj (by omega)) (by simp)).trans (by simp)
 ·intro i s hi hs rec hrec;simp only [PY,Ad,hi,decide_true,Ai7,Ap,Ai hi,Ai5,Am i _ hi (by omega)];rw [Aq (by simp only [A_,Ai8];omega),Ac hi,G_];by_cases hz:Ah t i=0
  ·rw [hz,if_pos rfl];rw [show (((((0:UInt8).toNat:Nat):Int))==(0:Int))=true from rfl,Ai7,Aq (by simp only [A_,Ai9,Ai8];omega)];rw [hrec _ (by simp only [Ai9,Ai8];omega)];simp only [List.map_append,List.map_cons,List.map_nil,List.append_assoc];rfl
  ·have hne:((((Ah t i).toNat:Nat):Int)==(0:Int))=false:=by
    rw [beq_eq_false_iff_ne];intro h;exact hz (UInt8.toNat_inj.1 (by show (Ah t i).toNat=0;omega))
   rw [hne,Ai6,if_neg hz,hrec _ (by simp only [Ai9,Ai8];omega)];simp only [List.map_append,List.map_cons,List.map_nil,List.append_assoc,Int.toNat_natCast,UInt8.ofNat_toNat]
 ·intro s hs rec;simp only [PY,Ad,Nat.lt_irrefl,decide_false,Ai6];rw [Aq (by simp only [A_,Aja,Ajd];omega),Ajh];simp [Ip]
theorem iV (b:UInt8):UInt8.ofNat (Int.toNat (IntKind.wrap .u8 (255-((b.toNat:Nat):Int))))=255-b:=by
 have:∀ k:Fin 256,UInt8.ofNat (Int.toNat (IntKind.wrap .u8 (255-((k.val:Nat):Int))))=255-UInt8.ofNat k.val:=by decide +kernel
 have h:=this ⟨b.toNat,b.toNat_lt⟩;simpa using h
theorem cB (t:List UInt8) (h:t.length<=100000):ge t=some (DH t,()):=by
 unfold ge;refine (Ay (S:=List Int) (fun i s=>(t,(i:Int),s,())) (fun i s=>some (s.map (fun v:Int=>UInt8.ofNat (Int.toNat v))++DH (t.drop i),())) t.length (fun i s=>s.length=i) ?_ ?_ Af 0 [] (Nat.zero_le _) (Aj (by omega)) rfl).trans (by simp)
 ·intro i s hi hs rec hrec;simp only [PX,Ad,hi,decide_true,Ai7,Ap,Ai hi,Ai5,Am i _ hi (by omega)];rw [Aq (by simp only [A_,Ai8];omega),hrec _ (by simp only [Ai9,Ai8];omega),Ac hi];simp only [List.map_append,List.map_cons,List.map_nil,List.append_assoc,iV,DH];rfl
 ·intro s hs rec;simp only [PX,Ad,Nat.lt_irrefl,decide_false,Ai6,Ajh];simp [DH]
theorem Hb {d:Nat} {v:Ae} (h:AH d v=true):(HD d v).length<=909:=by
 have h1:=Sf d v h;have h2:=AR h;unfold Df at h1;split at h1
 ·omega
 split at h1
 ·omega
 split at h1
 ·omega
 ·omega
theorem NI (g:Ae->Option (List UInt8×Unit)) (d:Nat) (v:Ae) (h:AH d v=true) (hg:∀ e,d=e+1->∀ x,AH e x=true->g x=some (HD e x,())):ku g v=some (HD d v,()):=by
 have hs:=AR h;have hk:=BH h;rw [cA];unfold ku Td;rw [DZ,Ai5,Ko,List.map_cons,List.map_nil];have hw:IntKind.wrap .i64 (v.1+1)=v.1+1:=by rcases hk with k | k | k | k | k | k<;>rw [k]<;>decide
 rw [hw];dsimp only;rcases hk with k | k | k | k | k | k
 ·rw [k];rfl
 ·rw [k];rw [show ((1:Int)==0)=false from rfl,show ((1:Int)==1)=true from rfl,Ai6,Ai7,DZ,Ai5,Ko,Aq (by simp)];rfl
 ·rw [k];rw [show ((2:Int)==0)=false from rfl,show ((2:Int)==1)=false from rfl,show ((2:Int)==2)=true from rfl,Ai6,Ai6,Ai7,RV,Ai5,Aq (by simp only [List.length_map,Cz,Aja,Ajd];omega)];rfl
 ·rw [k];have:=NG v.2.2.1;rw [show ((3:Int)==0)=false from rfl,show ((3:Int)==1)=false from rfl,show ((3:Int)==2)=false from rfl,show ((3:Int)==3)=true from rfl,Ai6,Ai6,Ai6,Ai7,Ua _ (by omega),Ai5,Aq (by simp only [Aja,Ajd];omega)];rfl
 ·obtain ⟨e,l,rfl,h1,h2,_,_,h5⟩:=AQ h k;have hl:=(BA v.2.2.1.length v.2.2.1 l (Nat.le_refl _) h1).1;rw [k]
  rw [show ((4:Int)==0)=false from rfl,show ((4:Int)==1)=false from rfl,show ((4:Int)==2)=false from rfl,show ((4:Int)==3)=false from rfl,show ((4:Int)==4)=true from rfl,Ai6,Ai6,Ai6,Ai6,Ai7,
   Dk _ (by omega),h1,Ai5]
  unfold ei;rw [if_neg (by decide),if_neg (by decide),if_neg (by decide),if_neg (by decide),if_pos rfl,h2];refine (Ay (S:=List UInt8) (fun i s=>(s,l,(i:Int),())) (fun i s=>some (s++((l.drop i).flatMap (HD e)++[0]),())) l.length (fun i s=>s.length<=1+i*1000) ?_ ?_ Af 0 _ (Nat.zero_le _) (Aj (by omega)) (by simp)).trans (by simp)
  ·intro i s hi hs' rec hrec;have hx:=h5 _ (Au hi);have hr:=Hb hx;simp only [MT,Ad,hi,decide_true,Ai7,Ap,Ai hi,Ai5,hg e rfl _ hx,Am i _ hi (by omega)];rw [Aq (by omega),hrec _ (by simp only [Ai9];omega),Ac hi,List.flatMap_cons];simp only [List.append_assoc]
  ·intro s hs' rec;simp only [MT,Ad,Nat.lt_irrefl,decide_false,Ai6];rw [Aq (by simp only [Ai8];omega),Ajh];simp
 ·obtain ⟨e,l,rfl,h1,h2,_,_,h5⟩:=Bl h k;obtain ⟨hl,hn⟩:=Cy v.2.2.1.length v.2.2.1 l (Nat.le_refl _) h1;rw [k]
  rw [show ((5:Int)==0)=false from rfl,show ((5:Int)==1)=false from rfl,show ((5:Int)==2)=false from rfl,show ((5:Int)==3)=false from rfl,show ((5:Int)==4)=false from rfl,Ai6,Ai6,Ai6,Ai6,Ai6,
   Dx _ (by omega),h1,Ai5]
  unfold ei;rw [if_neg (by decide),if_neg (by decide),if_neg (by decide),if_neg (by decide),if_neg (by decide),h2];refine (Ay (S:=List UInt8) (fun i s=>(s,l,(i:Int),())) (fun i s=>some (s++((l.drop i).flatMap (fun f=>1::(Ip f.1++HD e f.2.1))++[0]),())) l.length (fun i s=>s.length<=1+i*2000) ?_ ?_ Af 0 _ (Nat.zero_le _) (Aj (by omega)) (by simp)).trans (by simp)
  ·intro i s hi hs' rec hrec;have hx:=h5 _ (Au hi);have hr:=Hb hx;have hnm:=(hn _ (Au hi)).1;have he:=NG (Ah l i).1;simp only [MU,Ad,hi,decide_true,Ai7,Ap,Ai hi,Ai5,Ua _ (by omega:(Ah l i).1.length<=100000),hg e rfl _ hx,Am i _ hi (by omega)];rw [Aq (by simp only [Ai8];omega),Aq (by simp only [Ai9,Ai8];omega),Aq (by simp only [Ai9,Ai8];omega),hrec _ (by simp only [Ai9,Ai8];omega),Ac hi,List.flatMap_cons];simp only [List.append_assoc,List.singleton_append,List.cons_append,List.nil_append]
  ·intro s hs' rec;simp only [MU,Ad,Nat.lt_irrefl,decide_false,Ai6];rw [Aq (by simp only [Ai8];omega),Ajh];simp
theorem Po:∀ (d k:Nat) (v:Ae),d<k->AH d v=true->gh k v=some (HD d v,())
 |0,k+1,v,_,h=>NI _ 0 v h fun e he=>by omega
 |d+1,k+1,v,hk,h=>NI _ (d+1) v h fun e he x hx=>by
  have:e=d:=by omega
  subst this;exact Po e k x (by omega) hx
theorem Su (v:Ae) (desc:Bool) (h:AH 5 v=true):gi v desc=some (AS desc v,()):=by
 have e:kw v=some (HD 5 v,()):=Po 5 Af v (Aj (by decide)) h;have:=Hb h;unfold gi AS;cases desc with
 |false=>rw [Ai6,e];rfl
 |true=>
  rw [Ai7,e,Ai5];dsimp only;rw [cB _ (by omega)];rfl
theorem nr (x:UInt8) (t:List UInt8):B8 (x::t)=((x.toNat:Nat):Int)::B8 t:=rfl
theorem Sv (b:List Int) (t:List UInt8) (h:t.length<=100000) (hb:b.length<=1000000000):hZ b t=some (b++B8 (Ip t),()):=by
 unfold hZ;refine (Ay (S:=List Int) (fun i s=>(t,((t.length:Nat):Int),(i:Int),s,())) (fun i s=>some (s++B8 (Ip (t.drop i)),())) t.length (fun i s=>s.length<=b.length+2*i) ?_ ?_ Af 0 b (Nat.zero_le _) (Aj (by omega)) (by simp)).trans rfl
 ·intro i s hi hs rec hrec;simp only [Qm,Ad,hi,decide_true,Ai7,Ap,Ai hi,Ai5,Am i _ hi (by omega)];rw [Aq (by simp only [A_,Ai8];omega),Ac hi,G_];by_cases hz:Ah t i=0
  ·rw [hz,if_pos rfl];rw [show (((((0:UInt8).toNat:Nat):Int))==(0:Int))=true from rfl,Ai7,Aq (by simp only [A_,Ai9,Ai8];omega)];rw [hrec _ (by simp only [Ai9,Ai8];omega),IR];simp only [List.append_assoc];rfl
  ·have hne:((((Ah t i).toNat:Nat):Int)==(0:Int))=false:=by
    rw [beq_eq_false_iff_ne];intro h;exact hz (UInt8.toNat_inj.1 (by show (Ah t i).toNat=0;omega))
   rw [hne,Ai6,if_neg hz,hrec _ (by simp only [Ai9,Ai8];omega),IR];simp only [List.append_assoc];rfl
 ·intro s hs rec;simp only [Qm,Ad,Nat.lt_irrefl,decide_false,Ai6];rw [Aq (by simp only [A_,Aja,Ajd];omega),Ajh];rfl
theorem NJ (g:List Int->Ae->Option (List Int×Unit)) (d:Nat) (b:List Int) (v:Ae) (h:AH d v=true) (hb:b.length<=100000000)
  (hg:∀ e,d=e+1->∀ (b':List Int) x,AH e x=true->b'.length<=b.length+1000000->g b' x=some (b'++B8 (HD e x),())):mz g b v=some (b++B8 (HD d v),()):=by
 have hs:=AR h;have hk:=BH h;have hv:Dd 1048576 v:=Ct h;rw [cA];unfold mz Td;have hw:IntKind.wrap .i64 (v.1+1)=v.1+1:=by rcases hk with k | k | k | k | k | k<;>rw [k]<;>decide
 rw [hw,Aq (by simp only [A_,Ai8];omega)]
 have hB:∀ t,b++B8 (GM (IntKind.wrap .u8 (v.1+1))::t)=(b++[IntKind.wrap .u8 (v.1+1)])++B8 t:=fun t=>by
  show b++(((GM (IntKind.wrap .u8 (v.1+1))).toNat:Int)::B8 t)=_;rw [Ww];simp
 rw [hB];have hbl:(b++[IntKind.wrap .u8 (v.1+1)]).length=b.length+1:=by simp
 generalize b++[IntKind.wrap .u8 (v.1+1)]=b₁ at hbl;rcases hk with k | k | k | k | k | k
 ·rw [k];rw [show ((0:Int)==1)=false from rfl,show ((0:Int)==2)=false from rfl,show ((0:Int)==3)=false from rfl,show ((0:Int)==4)=false from rfl,show ((0:Int)==5)=false from rfl,Ai6,Ai6,Ai6,Ai6,Ai6];show some (b₁,())=some (b₁++[],());rw [List.append_nil]
 ·rw [k];rw [show ((1:Int)==1)=true from rfl,Ai7,Aq (by simp only [A_,Ai8];omega)];show _=some (b₁++[((GM (IntKind.wrap .u8 v.2.1)).toNat:Int)],());rw [Ww]
 ·rw [k];rw [show ((2:Int)==1)=false from rfl,show ((2:Int)==2)=true from rfl,Ai6,Ai7,Yu,Ai5,Aq (by simp only [A_,Cz,Aja,Ajd];omega)];show _=some (b₁++B8 ((Cz (IntKind.wrap .i64 (v.2.1+4611686018427387904)) 8).map GM),());rw [Wx]
 ·rw [k];rw [show ((3:Int)==1)=false from rfl,show ((3:Int)==2)=false from rfl,show ((3:Int)==3)=true from rfl,Ai6,Ai6,Ai7,Sv _ _ (by omega) (by omega)];rfl
 ·obtain ⟨e,l,rfl,h1,h2,_,_,h5⟩:=AQ h k;have hl:=(BA v.2.2.1.length v.2.2.1 l (Nat.le_refl _) h1).1;rw [k];rw [show ((4:Int)==1)=false from rfl,show ((4:Int)==2)=false from rfl,show ((4:Int)==3)=false from rfl,show ((4:Int)==4)=true from rfl,Ai6,Ai6,Ai6,Ai7,CF hv h1,Ai5];unfold ei;rw [if_neg (by decide),if_neg (by decide),if_neg (by decide),if_neg (by decide),if_pos rfl,h2];refine (Ay (S:=List Int) (fun i s=>(l,((l.length:Nat):Int),(i:Int),s,())) (fun i s=>some (s++B8 ((l.drop i).flatMap (HD e)++[0]),())) l.length (fun i s=>s.length<=b.length+1+i*1000) ?_ ?_ Af 0 _ (Nat.zero_le _) (Aj (by omega)) (by omega)).trans rfl
  ·intro i s hi hs' rec hrec;have hx:=h5 _ (Au hi);have hr:=Hb hx;simp only [Nh,Ad,hi,decide_true,Ai7,Ap,Ai hi,Ai5,hg e rfl s _ hx (by omega),Am i _ hi (by omega)];rw [hrec _ (by simp only [Ai9,Ha];omega),Ac hi,List.flatMap_cons];simp only [List.append_assoc,IR]
  ·intro s hs' rec;simp only [Nh,Ad,Nat.lt_irrefl,decide_false,Ai6];rw [Aq (by simp only [A_,Ai8];omega),Ajh];rfl
 ·obtain ⟨e,l,rfl,h1,h2,_,_,h5⟩:=Bl h k;obtain ⟨hl,hn⟩:=Cy v.2.2.1.length v.2.2.1 l (Nat.le_refl _) h1;rw [k];rw [show ((5:Int)==1)=false from rfl,show ((5:Int)==2)=false from rfl,show ((5:Int)==3)=false from rfl,show ((5:Int)==4)=false from rfl,show ((5:Int)==5)=true from rfl,Ai6,Ai6,Ai6,Ai6,Ai7,EA hv h1,Ai5];unfold ei;rw [if_neg (by decide),if_neg (by decide),if_neg (by decide),if_neg (by decide),if_neg (by decide),h2];refine (Ay (S:=List Int) (fun i s=>(((l.length:Nat):Int),(i:Int),s,l,())) (fun i s=>some (s++B8 ((l.drop i).flatMap (fun f=>1::(Ip f.1++HD e f.2.1))++[0]),())) l.length (fun i s=>s.length<=b.length+1+i*2000) ?_ ?_ Af 0 _ (Nat.zero_le _) (Aj (by omega)) (by omega)).trans rfl
  ·intro i s hi hs' rec hrec;have hx:=h5 _ (Au hi);have hr:=Hb hx;have hnm:=(hn _ (Au hi)).1;have he:=NG (Ah l i).1;simp only [Ni,Ad,hi,decide_true,Ai7,Ap,Ai hi,Ai5,Am i _ hi (by omega)];rw [Aq (by simp only [A_,Ai8];omega),Sv _ _ (by omega) (by simp only [Ai9,Ai8];omega),Ai5];dsimp only;rw [hg e rfl _ _ hx (by simp only [Ai9,Ai8,Ha];omega),Ai5];dsimp only;rw [hrec _ (by simp only [Ai9,Ai8,Ha];omega),Ac hi,List.flatMap_cons];simp only [show ∀ x:Option (List Int×Unit),gd true x=x from fun _=>rfl,List.append_assoc,IR,nr,List.cons_append,List.nil_append];rfl
  ·intro s hs' rec;simp only [Ni,Ad,Nat.lt_irrefl,decide_false,Ai6];rw [Aq (by simp only [A_,Ai8];omega),Ajh];rfl
theorem Pp:∀ (d k:Nat) (b:List Int) (v:Ae),d<k->AH d v=true->b.length<=100000000-(5-d)*1000000-d*1000000->d<=5->b.length+d*1000000<=90000000->h_ k b v=some (b++B8 (HD d v),())
 |0,k+1,b,v,_,h,_,_,hb=>NJ _ 0 b v h (by omega) fun e he=>by omega
 |d+1,k+1,b,v,hk,h,_,hd,hb=>NJ _ (d+1) b v h (by omega) fun e he b' x hx hb' =>by
  have:e=d:=by omega
  subst this;exact Pp e k b' x (by omega) hx (by omega) (by omega) (by omega)
theorem Ub (t:List UInt8) (desc:Bool) (h:t.length<=100000):dL (B8 t) desc=some (cond desc (DH t) t,()):=by
 unfold dL;cases desc with
 |false=>
  show some ((B8 t).map (fun v:Int=>UInt8.ofNat (Int.toNat v)),())=_;rw [cw];rfl
 |true=>
  rw [Ai7,Ai7];have hl:(((B8 t).length:Nat):Int)=((t.length:Nat):Int):=by rw [Ha]
  rw [hl];refine (Ay (S:=List Int) (fun i s=>(((t.length:Nat):Int),(i:Int),s,())) (fun i s=>some (DH t,())) t.length (fun i s=>s=B8 (DH (t.take i))++B8 (t.drop i)) ?_ ?_ Af 0 (B8 t) (Nat.zero_le _) (Aj (by omega)) (by simp [DH,B8])).trans rfl
  ·intro i s hi hs rec hrec;have hlt:(B8 (DH (t.take i))).length=i:=by rw [Ha];unfold DH;rw [List.length_map,List.length_take];omega
   have hsl:s.length=t.length:=by rw [hs,Ai9,hlt,Ha,List.length_drop];omega
   have hi':i<s.length:=by omega
   have hget:Ah s i=(((Ah t i).toNat:Nat):Int):=by
    have h1:s[i]? = some (((Ah t i).toNat:Nat):Int):=by
     rw [hs,List.getElem?_append_right (by omega),hlt,Nat.sub_self,Ac hi];rfl
    unfold Ah;rw [h1];rfl
   simp only [Ql,Ad,hi,hi',decide_true,Ai7,Ap,Ai hi',Ai5,Am i _ hi (by omega)];refine hrec _ ?_;rw [hget,Int.toNat_natCast,hs,Ac hi];show (B8 (DH (t.take i))++((((Ah t i).toNat:Nat):Int)::B8 (t.drop (i+1)))).set i (IntKind.wrap .u8 (255-(((Ah t i).toNat:Nat):Int)))=_;rw [List.set_append_right _ _ (by omega),hlt,Nat.sub_self,List.set_cons_zero];have e1:t.take (i+1)=t.take i++[Ah t i]:=by rw [List.take_add_one,Cs hi];rfl
   have e2:IntKind.wrap .u8 (255-(((Ah t i).toNat:Nat):Int))=(((255-Ah t i:UInt8).toNat:Nat):Int):=by
    have:=Ww (255-(((Ah t i).toNat:Nat):Int));rw [<-this];unfold GM;rw [iV]
   rw [e1,e2];unfold DH;rw [List.map_append,IR,List.append_assoc];rfl
  ·intro s hs rec;simp only [Ql,Ad,Nat.lt_irrefl,decide_false,Ai6];rw [hs,List.take_length,Ajh];show some ((B8 (DH t)++[]).map (fun v:Int=>UInt8.ofNat (Int.toNat v)),())=_;rw [List.append_nil,cw]
theorem ao (v:Ae) (desc:Bool) (h:AH 5 v=true):m5 v desc=some (AS desc v,()):=by
 have e:qo [] v=some ([]++B8 (HD 5 v),()):=Pp 5 Af [] v (Aj (by decide)) h (by simp) (by decide) (by simp);have:=Hb h;unfold m5;rw [e,List.nil_append,Ai5];dsimp only;rw [Ub _ _ (by omega)];rfl
theorem OB (b:UInt8):∀ l:List UInt8,Ex (l++[b])=if b<255 then some (l++[b+1]) else Ex l
 |[]=>by
  show (if b<255 then some [b+1] else none)=_;rfl
 |a::l=>by
  rw [List.cons_append];unfold Ex;rw [OB b l];by_cases h:b<255
  ·rw [if_pos h,if_pos h];rfl
  ·rw [if_neg h,if_neg h]
theorem Wy (b:UInt8) (h:b<255):(List.map (fun v:Int=>UInt8.ofNat (Int.toNat v)) [IntKind.wrap .u8 (((b.toNat:Nat):Int)+1)])=[b+1]:=by
 have:∀ k:Fin 256,UInt8.ofNat (Int.toNat (IntKind.wrap .u8 (((k.val:Nat):Int)+1)))=UInt8.ofNat k.val+1:=by decide +kernel
 have h:=this ⟨b.toNat,b.toNat_lt⟩;simpa using h
theorem YT (b:UInt8):decide (((b.toNat:Nat):Int)<255)=decide (b<255):=by
 have:(b<255)=(b.toNat<255):=by rw [UInt8.lt_iff_toNat_lt];rfl
 rw [decide_eq_decide,this];omega
theorem Uc {t:List UInt8} {n:Nat} (h:n<t.length):t.take (n+1)=t.take n++[Ah t n]:=by rw [List.take_add_one,Cs h];rfl
theorem cC (t:List UInt8) (n:Nat):List.drop (Int.toNat (0:Int)) (List.take (Int.toNat (n:Int)) t)=t.take n:=by simp
theorem Pq (t:List UInt8) (ht:t.length<=100000):∀ (n K:Nat),n<K->n<=t.length->iter (Nk (fun y7=>some ([],(false,()))) (fun y8=>some (y8.1,(y8.2.1,())))) K (t,(n:Int),())=some ((Ex (t.take n)).getD [],(Ex (t.take n)).isSome,())
 |0,K+1,_,_=>by simp only [iter,Nk];rfl
 |n+1,K+1,hk,hn=>by
  have hi:n<t.length:=by omega
  have w:IntKind.wrap .i64 (((n+1:Nat):Int)-1)=(n:Int):=(AN _ (by omega) (by omega)).trans (by omega);simp only [iter,Nk];rw [decide_eq_true (show ((n+1:Nat):Int)>0 by omega)];simp only [Ai7,w,Ap,Ai hi,Ai5,YT];rw [Uc hi,OB];by_cases hb:Ah t n<255
  ·rw [decide_eq_true hb,Ai7,if_pos hb,Aq (by omega),Aq (by rw [cC,Wy _ hb];simp only [List.length_take,Ai8];omega),cC,Wy _ hb];rfl
  ·rw [decide_eq_false hb,Ai6,if_neg hb];exact Pq t ht n K (by omega) (by omega)
theorem eD (t:List UInt8) (ht:t.length<=100000):qz t=some ((Ex t).getD [],(Ex t).isSome,()):=by
 have:=Pq t ht t.length Af (Aj (by omega)) (Nat.le_refl _);rw [List.take_length] at this;exact this
theorem Sw (t:List UInt8) (ht:t.length<=100000):VC t=some (Ku t,()):=by
 unfold VC Ku;rw [eD t ht];cases Ex t<;>rfl
theorem Pr (t:List UInt8) (ht:t.length<=100000):∀ (n K:Nat),n<K->n<=t.length->iter (Nj (fun y7=>some ((y7.1,([],(true,()))),())) (fun y8=>some (y8.1,()))) K (t,(n:Int)-1,([],([],(false,()))),())=some ((match Ex (t.take n) with | some h=>(t,h,false,()) | none=>(t,[],true,())),())
 |0,K+1,_,_=>by simp only [iter,Nj];rfl
 |n+1,K+1,hk,hn=>by
  have hi:n<t.length:=by omega
  have w:((n+1:Nat):Int)-1=(n:Int):=by omega
  have w2:IntKind.wrap .i64 ((n:Int)-1)=(n:Int)-1:=AN _ (by omega) (by omega);rw [w];simp only [iter,Nj];rw [decide_eq_true (show (n:Int)>=0 by omega)];simp only [Ai7,w2,Ap,Ai hi,Ai5,YT];rw [Uc hi,OB];by_cases hb:Ah t n<255
  ·rw [decide_eq_true hb,Ai7,if_pos hb,Aq (by omega),Aq (by rw [cC,Wy _ hb];simp only [List.length_take,Ai8];omega),cC,Wy _ hb];rfl
  ·rw [decide_eq_false hb,Ai6,if_neg hb];exact Pr t ht n K (by omega) (by omega)
theorem OC (t:List UInt8) (ht:t.length<=100000):XJ t=some (Ku t,()):=by
 unfold XJ Ku;rw [AN _ (by omega) (by omega)];have:=Pr t ht t.length Af (Aj (by omega)) (Nat.le_refl _);rw [List.take_length] at this;exact this
def cD (a b:Az):Az:=(EP a.1 b.1,cond a.2.2.1 (cond b.2.2.1 [] b.2.1) (cond b.2.2.1 a.2.1 (GQ a.2.1 b.2.1)),a.2.2.1&&b.2.2.1,())
theorem Qu (a b:Az):Gm a b=some (cD a b,()):=by
 obtain ⟨a1,a2,a3,u⟩:=a;obtain ⟨b1,b2,b3,u'⟩:=b;unfold Gm cD;cases a3<;>cases b3<;>rfl
theorem Ud (t:List UInt8) (desc:Bool) (h:t.length<=100000):XK t desc=some (cond desc (DH t) t,()):=by
 unfold XK;cases desc with
 |false=>rfl
 |true=>rw [Ai7,cB t h];rfl
theorem iW (a:List UInt8):EP a []=a:=by
 unfold EP;cases a<;>rfl
theorem aq {k:Int} (desc:Bool) (h:k=0\/k=1\/k=2\/k=3\/k=4\/k=5):Ku [BY desc k]=([BY desc k],[BY desc k+1],false,()):=by
 unfold Ku;rw [Kv h]
theorem iX {v:Ae} (desc:Bool) (h:AH 5 v=true):∃ x,Ex (AS desc v)=some x/\Ku (AS desc v)=(AS desc v,x,false,())/\GQ [BY desc v.1+1] (AS desc v)=AS desc v/\GQ [BY desc v.1+1] x=x:=by
 obtain ⟨x,hx⟩:=cn desc h;obtain ⟨s,hs⟩:=Lb desc v;have hk:=Sa (desc:=desc) (BH h);have hlt:=(Wn hk).1
 have pre:∀ s',Op.bytesLess [BY desc v.1+1] (BY desc v.1::s')=false:=fun s' =>by
  have h1:¬BY desc v.1+1<BY desc v.1:=fun h=>by rw [UInt8.lt_iff_toNat_lt] at h hlt;omega
  have h2:(BY desc v.1+1==BY desc v.1)=false:=by
   rw [beq_eq_false_iff_ne];intro e;rw [e] at hlt;exact UInt8.lt_irrefl _ hlt
  unfold Op.bytesLess;rw [decide_eq_false h1,h2];rfl
 have ne:∀ s',([BY desc v.1+1]==BY desc v.1::s')=false:=fun s' =>by
  rw [beq_eq_false_iff_ne];intro e;injection e with e _
  rw [e] at hlt;exact UInt8.lt_irrefl _ hlt
 refine ⟨x,hx,by unfold Ku;rw [hx],by rw [hs];unfold GQ;rw [pre,ne];rfl,?_⟩;rw [hs] at hx;unfold Ex at hx;cases hb:Ex s with
 |some h' =>rw [hb] at hx;injection hx with hx;rw [<-hx];unfold GQ;rw [pre,ne];rfl
 |none=>
  rw [hb] at hx;dsimp only at hx;rw [if_pos hk] at hx;injection hx with hx
  rw [<-hx];unfold GQ;rw [Bj];simp
theorem KC (k:Int) (desc:Bool) (h:k=0\/k=1\/k=2\/k=3\/k=4\/k=5):cond desc (DH ((Cz (IntKind.wrap .i64 (k+1)) 1).map GM)) ((Cz (IntKind.wrap .i64 (k+1)) 1).map GM)=[BY desc k]:=by
 rw [Ko];rcases h with rfl | rfl | rfl | rfl | rfl | rfl<;>cases desc<;>rfl
theorem Ue {v:Ae} (desc:Bool) (h:AH 5 v=true):(AS desc v).length<=100000:=Nat.le_trans (IP desc h) (by decide)
theorem Mh {t:CI} (h:BV t=true) (h9:t.1=9):0<=t.2.2.1.2.1/\t.2.2.1.2.1<=5:=by
 unfold BV at h;simp only [Ajb] at h;have h3:=h.2.2;rw [if_neg (by omega),if_neg (by omega),if_pos h9] at h3;simp only [inR,Ajb,Ajg] at h3;exact h3.2
theorem Wz (t:CI) (desc:Bool) (ht:BV t=true):mL t desc=some (HZ desc t,()):=by
 have h9:=Mh ht;obtain ⟨hv,_,hop1,hop2,_⟩:=EZ ht;obtain ⟨op,p,v,u⟩:=t;dsimp only at hv h9 hop1 hop2;have hv:AH 5 v=true:=hv;have hk:=BH hv;obtain ⟨x,hx,h1,m1,m2⟩:=iX desc hv;have hb2:=aq desc hk;have hln:((Cz (IntKind.wrap .i64 (v.1+1)) 1).map GM).length<=100000:=by rw [Ko];simp
 have hln':((Cz (IntKind.wrap .i64 (v.2.1+1)) 1).map GM).length<=100000:=by rw [Ko];simp
 unfold mL;dsimp only;rw [DZ,Ai5];dsimp only;rw [Ud _ _ hln,KC v.1 desc hk,Ai5];dsimp only;rw [Sw _ (by simp),hb2,Ai5,Su v desc hv,Ai5];dsimp only;rw [Sw _ (Ue desc hv),h1,Ai5];dsimp only;unfold HZ;dsimp only;rw [hx,h1]
 have mt1:∀ (o:Bool) (z:List UInt8),o=false->GQ [BY desc v.1+1] z=z->cD ([BY desc v.1],[BY desc v.1+1],false,()) ([],z,o,())=([BY desc v.1],z,false,()):=fun o z ho hz=>by
  subst ho;unfold cD;dsimp only;rw [iW,Ai6,Ai6,hz];rfl
 have ops:op=1\/op=2\/op=3\/op=4\/op=5\/op=6\/op=7\/op=8\/op=9\/op=10:=by omega
 rcases ops with rfl | rfl | rfl | rfl | rfl | rfl | rfl | rfl | rfl | rfl
 ·rfl
 ·cases desc<;>rfl
 ·cases desc
  ·simp only [Qu,Ai5,mt1 false _ rfl m1,mt1 false _ rfl m2];rfl
  ·rfl
 ·cases desc
  ·simp only [Qu,Ai5,mt1 false _ rfl m1,mt1 false _ rfl m2];rfl
  ·rfl
 ·cases desc
  ·rfl
  ·simp only [Qu,Ai5,mt1 false _ rfl m1,mt1 false _ rfl m2];rfl
 ·cases desc
  ·rfl
  ·simp only [Qu,Ai5,mt1 false _ rfl m1,mt1 false _ rfl m2];rfl
 ·cases desc<;>rfl
 ·cases desc<;>rfl
 ·have hN:=h9 rfl;simp only [DZ,Ai5,Ud _ _ hln',KC v.2.1 desc (by omega),Sw [BY desc v.2.1] (by simp)];cases desc<;>rfl
 ·cases desc<;>rfl
theorem WA (t:CI) (desc:Bool) (ht:BV t=true):m8 t desc=some (HZ desc t,()):=by
 have h9:=Mh ht;obtain ⟨hv,_,hop1,hop2,_⟩:=EZ ht;obtain ⟨op,p,v,u⟩:=t;dsimp only at hv h9 hop1 hop2;have hv:AH 5 v=true:=hv;have hk:=BH hv;obtain ⟨x,hx,h1,m1,m2⟩:=iX desc hv;have hb2:=aq desc hk;obtain ⟨s,hs⟩:=Lb desc v;unfold m8;dsimp only;rw [ao v desc hv,Ai5];dsimp only;have hcut:List.drop (Int.toNat (0:Int)) (List.take (Int.toNat (1:Int)) (AS desc v))=[BY desc v.1]:=by rw [hs];rfl
 rw [hcut,Aq (by rw [hs];simp only [Aja];omega),OC _ (by simp),hb2,Ai5,OC _ (Ue desc hv),h1];dsimp only;unfold HZ;dsimp only;rw [hx,h1];have ops:op=1\/op=2\/op=3\/op=4\/op=5\/op=6\/op=7\/op=8\/op=9\/op=10:=by omega
 rcases ops with rfl | rfl | rfl | rfl | rfl | rfl | rfl | rfl | rfl | rfl
 all_goals try (cases desc<;>rfl)
 have hN:=h9 rfl
 have hh:dL [IntKind.wrap .u8 (IntKind.wrap .i64 (v.2.1+1))] desc=some ([BY desc v.2.1],()):=by
  have e:[IntKind.wrap .u8 (IntKind.wrap .i64 (v.2.1+1))]=B8 ((Cz (IntKind.wrap .i64 (v.2.1+1)) 1).map GM):=by rw [Wx,Ko]
  rw [e,Ub _ _ (by rw [Ko];simp),KC v.2.1 desc (by omega)]
 simp only [hh,Ai5,OC [BY desc v.2.1] (by simp)];cases desc<;>rfl
theorem au {t:CI} (desc:Bool) (ht:BV t=true):(PE t=true->HZ desc t=Wp)/\(PE t=false->(HZ desc t).2.2.1=false):=by
 obtain ⟨hv,_,hop1,hop2,_⟩:=EZ ht;have h9:=Mh ht;obtain ⟨op,p,v,u⟩:=t;dsimp only at hv h9 hop1 hop2;obtain ⟨x,hx,h1,_,_⟩:=iX desc (v:=v) hv;have ops:op=1\/op=2\/op=3\/op=4\/op=5\/op=6\/op=7\/op=8\/op=9\/op=10:=by omega
 unfold HZ;dsimp only;rw [h1];rcases ops with rfl | rfl | rfl | rfl | rfl | rfl | rfl | rfl | rfl | rfl
 ·exact ⟨fun h=>(by cases h),fun _=>rfl⟩
 ·exact ⟨fun _=>(by cases desc<;>rfl),fun h=>(by cases h)⟩
 ·exact ⟨fun h=>(by cases h),fun _=>by cases desc<;>rfl⟩
 ·exact ⟨fun h=>(by cases h),fun _=>by cases desc<;>rfl⟩
 ·exact ⟨fun h=>(by cases h),fun _=>by cases desc<;>rfl⟩
 ·exact ⟨fun h=>(by cases h),fun _=>by cases desc<;>rfl⟩
 ·exact ⟨fun _=>(by cases desc<;>rfl),fun h=>(by cases h)⟩
 ·exact ⟨fun _=>(by cases desc<;>rfl),fun h=>(by cases h)⟩
 ·refine ⟨fun h=>(by cases h),fun _=>?_⟩;have hN:=h9 rfl;rw [if_neg (by decide),if_pos rfl,aq desc (by omega)]
 ·exact ⟨fun _=>(by cases desc<;>rfl),fun h=>(by cases h)⟩
def YU (p:BG) (l:List CI):Az:=match l.find? fun t=>t.2.1==p.1 && !PE t with | some t=>HZ p.2.1 t | none=>Wp
theorem Sx (p:BG) (t:CI) (l:List CI):YU p (t::l)=cond (t.2.1==p.1 && !PE t) (HZ p.2.1 t) (YU p l):=by
 unfold YU;rw [List.find?_cons];cases (t.2.1==p.1 && !PE t)<;>rfl
theorem nt (t:CI):mu t=some (PE t,()):=by
 unfold mu PE;have e:∀ n:Int,(t.1==n)=decide (t.1=n):=fun n=>by rw [Bool.eq_iff_iff];simp
 rw [e,e,e,e];cases decide (t.1=2)<;>cases decide (t.1=7)<;>cases decide (t.1=8)<;>simp
theorem NK (c:DQ) (p:BG) (hc:c.1.length<=1000) (ht:∀ t,t∈c.1->BV t=true):ia c p=some (Dy p c,()):=by
 unfold ia;refine (Ay (S:=Unit) (fun i _=>(c.1,((c.1.length:Nat):Int),(i:Int),p,([],([],(false,()))),())) (fun i _=>some (YU p (c.1.drop i),())) c.1.length (fun _ _=>True) ?_ ?_ Af 0 () (Nat.zero_le _) (Aj (by omega)) trivial).trans rfl
 ·intro i _ hi _ rec hrec;have hr:=hrec () trivial;have htm:=ht _ (Au hi);simp only [Qn,Ad,hi,decide_true,Ai7,Ap,Ai hi,Ai5,Am i _ hi (by omega),nt,WA _ _ htm,hr];rw [Ac hi,Sx];cases (Ah c.1 i).2.1==p.1<;>cases PE (Ah c.1 i)<;>rfl
 ·intro _ _ rec;simp only [Qn,Ad,Nat.lt_irrefl,decide_false,Ai6,Ajh];rfl
theorem NL (c:DQ) (p:BG) (hc:c.1.length<=1000) (ht:∀ t,t∈c.1->BV t=true):ib c p=some (Dy p c,()):=by
 unfold ib;refine (Ay (S:=Az) (fun i s=>((i:Int),c,p,([],([],(false,()))),s,())) (fun i s=>some (cond s.2.2.1 (YU p (c.1.drop i)) s,())) c.1.length (fun _ s=>s=Wp\/s.2.2.1=false) ?_ ?_ Af 0 Wp (Nat.zero_le _) (Aj (by omega)) (.inl rfl)).trans rfl
 ·intro i s hi hs rec hrec;have htm:=ht _ (Au hi);obtain ⟨m1,m2⟩:=au p.2.1 htm;have hr:=hrec s hs;simp only [Qo,Ad,hi,decide_true,Ai7,Ap,Ai hi,Ai5,Am i _ hi (by omega),Wz _ _ htm];rw [Ac hi,Sx];rcases hs with rfl | hs
  ·cases hp:(Ah c.1 i).2.1==p.1 with
   |false=>rw [hr];rfl
   |true=>
    show rec _=_;cases hm:PE (Ah c.1 i) with
    |true=>
     have h2:=hrec (HZ p.2.1 (Ah c.1 i)) (.inl (m1 hm));rw [h2,m1 hm];rfl
    |false=>
     have h2:=hrec (HZ p.2.1 (Ah c.1 i)) (.inr (m2 hm));rw [h2,m2 hm];rfl
  ·rw [hs] at hr ⊢;cases (Ah c.1 i).2.1==p.1<;>exact hr
 ·intro s hs rec;simp only [Qo,Ad,Nat.lt_irrefl,decide_false,Ai6,Ajh];rcases hs with rfl | hs
  ·rfl
  ·rw [hs];rfl
theorem LA {f:Dv} (h:BW f=true):∃ c l,f.1=c::l/\f.1.length<=3/\∀ x,x∈f.1->x.1.length<=1000/\∀ t,t∈x.1->BV t=true:=by
 unfold BW at h;rw [Ajb,List.all_eq_true] at h;obtain ⟨h1,h2⟩:=h;simp only [inR,Ajb,Ajg] at h1;cases hf:f.1 with
 |nil=>rw [hf] at h1;simp at h1
 |cons c l=>
  refine ⟨c,l,rfl,by rw [<-hf];omega,fun x hx=>?_⟩;have:=h2 x (by rw [hf];exact hx);rw [Ajb,List.all_eq_true,Ajg] at this;exact ⟨by omega,this.2⟩
theorem Uf (a b:Az):(cond a.2.2.1 ((GQ a.1 b.1),((EP a.2.1 b.2.1),(true,a.2.2.2))) ((GQ a.1 b.1),((EP a.2.1 b.2.1),(b.2.2.1,a.2.2.2))):Az)=JJ a b:=by
 unfold JJ;cases a.2.2.1<;>rfl
theorem Sy (r:Az):(cond r.2.2.1 (some ((r.1,([],r.2.2)),())) (some (r,())):Option (Az×Unit))=some (Mf r,()):=by
 obtain ⟨a,b,o,u⟩:=r;unfold Mf;cases o<;>rfl
theorem WB (f:Dv) (p:BG) (h:BW f=true):mP f p=some (GP p f,()):=by
 obtain ⟨c,l,hf,hl,hc⟩:=LA h;have h0:0<f.1.length:=by rw [hf];simp
 unfold mP GP;have e0:f.1[Int.toNat (0:Int)]? = some c:=by rw [hf];rfl
 rw [e0,Ai5,NL c p (hc c (by rw [hf];simp)).1 (hc c (by rw [hf];simp)).2,Ai5];dsimp only;refine (Ay (S:=Az) (fun i s=>((i:Int),f,p,([],([],(false,()))),s,())) (fun i s=>some (Mf ((f.1.drop i).foldl (fun a c=>JJ a (Dy p c)) s),())) f.1.length (fun _ _=>True) ?_ ?_ Af 1 _ (by omega) (Aj (by omega)) trivial).trans ?_
 ·intro i s hi _ rec hrec;obtain ⟨g1,g2⟩:=hc _ (Au hi);simp only [Qp,Ad,hi,decide_true,Ai7,Ap,Ai hi,Ai5,Am i _ hi (by omega),NL _ p g1 g2];have hr:=hrec (JJ s (Dy p (Ah f.1 i))) trivial;rw [Ac hi,List.foldl_cons,<-hr,<-Uf];cases s.2.2.1<;>rfl
 ·intro s _ rec;simp only [Qp,Ad,Nat.lt_irrefl,decide_false,Ai6,Ajh,List.foldl_nil];exact Sy s
 ·rw [hf];rfl
theorem WC (f:Dv) (p:BG) (h:BW f=true):xW f p=some (GP p f,()):=by
 obtain ⟨c,l,hf,hl,hc⟩:=LA h;have h0:0<f.1.length:=by rw [hf];simp
 unfold xW GP;have e0:f.1[Int.toNat (0:Int)]? = some c:=by rw [hf];rfl
 rw [e0,Ai5,NK c p (hc c (by rw [hf];simp)).1 (hc c (by rw [hf];simp)).2,Ai5,Aq (Int.le_refl _),Aq (by rw [Int.toNat_natCast];omega)];dsimp only;have ecut:List.drop (Int.toNat (1:Int)) (List.take (Int.toNat ((f.1.length:Nat):Int)) f.1)=l:=by rw [Int.toNat_natCast,List.take_length,hf];rfl
 rw [ecut];have hll:l.length<=3:=by rw [hf] at hl;simp only [Aja] at hl;omega
 have hcl:∀ x,x∈l->x.1.length<=1000/\∀ t,t∈x.1->BV t=true:=fun x hx=>hc x (by rw [hf];simp [hx])
 refine (Ay (S:=Az) (fun i s=>(l,((l.length:Nat):Int),(i:Int),p,([],([],(false,()))),s,())) (fun i s=>some (Mf ((l.drop i).foldl (fun a c=>JJ a (Dy p c)) s),())) l.length (fun _ _=>True) ?_ ?_ Af 0 _ (Nat.zero_le _) (Aj (by omega)) trivial).trans ?_
 ·intro i s hi _ rec hrec;obtain ⟨g1,g2⟩:=hcl _ (Au hi);simp only [Vy,Ad,hi,decide_true,Ai7,Ap,Ai hi,Ai5,Am i _ hi (by omega),NK _ p g1 g2];have hr:=hrec (JJ s (Dy p (Ah l i))) trivial;rw [Ac hi,List.foldl_cons,<-hr,<-Uf];cases s.2.2.1<;>rfl
 ·intro s _ rec;simp only [Vy,Ad,Nat.lt_irrefl,decide_false,Ai6,Ajh,List.foldl_nil];exact Sy s
 ·rw [hf];rfl
def iY (q:BD) (x:BR):TO:=(x.1.1,GP (Ah x.1.2.1 0) q.1,(((Em x.2.1 (GP (Ah x.1.2.1 0) q.1)).length:Nat):Int),())
def YV:TO:=([],([],[],false,()),0,())
def KD (q:BD) (x:BR):TO:=cond (x.1.1==q.2.2.2.2.2.1) (iY q x) (cond (decide ((((Em x.2.1 (GP (Ah x.1.2.1 0) q.1)).length:Nat):Int)<(((Aw x.2.1.1).length:Nat):Int))) (iY q x) YV)
theorem Sz {d:Ht} (h:Gn d=true):d.2.1[Int.toNat (0:Int)]? = some (Ah d.2.1 0)/\∃ r,d.2.1=Ah d.2.1 0::r:=by
 unfold Gn at h;simp only [Ajb,inR,Ajg] at h;have h1:0<d.2.1.length:=by omega
 refine ⟨Ai (i:=0) h1,d.2.1.drop 1,?_⟩;have:=Ac h1;rwa [List.drop_zero] at this
theorem SA (q:BD) (x:BR) (hq:BW q.1=true) (hx:Cv x=true):q9 q x=some (iY q x,()):=by
 unfold Cv at hx;rw [Ajb] at hx;unfold q9 iY;rw [(Sz hx.1).1,Ai5,WB _ _ hq,Ai5];dsimp only;obtain ⟨nums,e⟩:=Wi x.2.1 (GP (Ah x.1.2.1 0) q.1) (Gq hx.2);rw [e];rfl
theorem Ug (q:BD) (x:BR) (hq:BW q.1=true) (hx:Cv x=true) (hl:Im 1048576 x):qr q x=some (iY q x,()):=by
 unfold Cv at hx;rw [Ajb] at hx;unfold qr iY;rw [(Sz hx.1).1,Ai5,WC _ _ hq,Ai5];dsimp only;obtain ⟨nums,e⟩:=NB x.2.1 (GP (Ah x.1.2.1 0) q.1) hl.2 hx.2;rw [e];rfl
theorem nu (t:Bd) (h:Tree t):wq t=some ((((Aw t.1).length:Nat):Int),()):=by
 have hlen:=h.len;have h4:=fun p hp=>(h.page p hp).1
 unfold wq;refine (Ay (S:=Nat) (fun i n=>((n:Int),(i:Int),t,())) (fun i n=>some ((((n+(Aw (t.1.drop i)).length):Nat):Int),())) t.1.length (fun i n=>n<=4*i) ?_ ?_ Af 0 0 (Nat.zero_le _) (Aj (by omega)) (by omega)).trans (by simp)
 ·intro i n hi hn rec hrec;have hp:=h4 _ (Au hi);simp only [VD,Ad,hi,decide_true,Ai7,Ap,Ai hi,Ai5,Am i _ hi (by omega)];rw [AN _ (by omega) (by omega),show ((n:Int)+(((Ah t.1 i).2.1.length:Nat):Int))=((n+(Ah t.1 i).2.1.length:Nat):Int) by omega,hrec _ (by omega),TQ t.1 hi,Ai9];rw [Nat.add_assoc]
 ·intro n _ rec;simp only [VD,Ad,Nat.lt_irrefl,decide_false,Ai6,Ajh];rfl
theorem av (x:BR) (name:List UInt8):nE [x] name=cond (x.1.1==name) 0 (-1):=by
 unfold nE Ba;cases x.1.1==name<;>rfl
theorem WD (q:BD) (x:BR) (hq:CG q=true) (hx:Cv x=true):x_ q [x]=some (KD q x,()):=by
 have hf:=(Eh hq).1;have hx2:=hx;unfold Cv at hx2;rw [Ajb] at hx2;unfold x_ KD;rw [ae [x] _ (by simp),av,Ai5];cases hn:x.1.1==q.2.2.2.2.2.1 with
 |true=>
  show Option.bind (q9 q x) _=_;rw [SA q x hf hx];rfl
 |false=>
  obtain ⟨k,hk⟩:=GZ;rw [hk];show Option.bind (q9 q x) _=_;rw [SA q x hf hx,Ai5];show Option.bind (wq x.2.1) _=_;rw [nu _ (Gq hx2.2),Ai5];show cond (decide ((((Em x.2.1 (GP (Ah x.1.2.1 0) q.1)).length:Nat):Int)<(((Aw x.2.1.1).length:Nat):Int))) _ _=_;cases decide ((((Em x.2.1 (GP (Ah x.1.2.1 0) q.1)).length:Nat):Int)<(((Aw x.2.1.1).length:Nat):Int))<;>rfl
theorem SB (q:BD) (x:BR) (hq:CG q=true) (hQ:On 1048576 q) (hx:DG [x]=true) (hX:LS Im 1048576 [x]):ya q [x]=some (KD q x,0,()):=by
 have hi:=Gb hx x (by simp);unfold ya;rw [Km q hQ,hq,RY [x] hX,hx,WD q x hq hi];rfl
theorem KE (q:BD) (x:BR) (hq:CG q=true) (hQ:On 1048576 q) (hx:DG [x]=true) (hX:LS Im 1048576 [x]):vZ q [x]=some (KD q x,0,()):=by
 have hi:=Gb hx x (by simp);have hf:=(Eh hq).1;have hx2:=hi;unfold Cv at hx2;rw [Ajb] at hx2;have T:=Gq hx2.2;unfold vZ;rw [E_ q hQ,hq,Ly [x] hX,hx,Ma [x] _ (by simp),av];simp only [Ai5,Bool.not_true,Ai6];rw [show decide ((((([x]:List BR).length:Nat)):Int)>4096)=false from rfl,Ai6];unfold KD;cases hn:x.1.1==q.2.2.2.2.2.1 with
 |true=>
  show Option.bind (qr q x) _=_;rw [Ug q x hf hi (hX.2 x (by simp))];rfl
 |false=>
  obtain ⟨k,hk⟩:=GZ;rw [hk];show Option.bind (qr q x) _=_;rw [Ug q x hf hi (hX.2 x (by simp)),Ai5];show Option.bind (mj x.2.1) _=_;rw [L_ _ T.len (fun p hp=>(T.page p hp).1),Ai5];show cond (decide ((((Em x.2.1 (GP (Ah x.1.2.1 0) q.1)).length:Nat):Int)<(((Aw x.2.1.1).length:Nat):Int))) _ _=_;cases decide ((((Em x.2.1 (GP (Ah x.1.2.1 0) q.1)).length:Nat):Int)<(((Aw x.2.1.1).length:Nat):Int))<;>rfl
theorem YW (p:TO) (q:BD) (docs:List Ae) (x:BR) (hq:CG q=true) (hQ:On 1048576 q) (hd:Eg docs=true) (hD:LS Dd 1048576 docs) (hx:DG [x]=true) (hX:LS Im 1048576 [x]) (hp:p.1=[]\/p.1=x.1.1) :
  qH p q docs [x]=some ((if p.1=[] then GE q docs else GE q (docs.filter (Yz (Em x.2.1 p.2.1)))),0,()):=by
 obtain ⟨hDo,h20⟩:=CU hd;unfold qH;rw [E_ q hQ,hq,RT docs hD,hd,Ly [x] hX,hx,Ma [x] p.1 (by simp)];simp only [Ai5,Bool.not_true,Ai6];rw [decide_eq_false (show ¬((docs.length:Nat):Int)>4096 by omega),show decide ((((([x]:List BR).length:Nat)):Int)>4096)=false from rfl,Ai6,Ai6];by_cases he:p.1=[]
 ·rw [he,if_pos rfl];rw [Wb q docs hq hDo];rfl
 have he':(p.1==([]:List UInt8))=false:=by rw [beq_eq_false_iff_ne];exact he
 have hpx:p.1=x.1.1:=by rcases hp with h | h;exact absurd h he;exact h
 have ha:nE [x] p.1=0:=by rw [av,hpx];simp
 rw [if_neg he];simp only [he',Bool.not_false,Ai7,Ai6,ha];have hxx:=hX.2 x (by simp);have hm:JI x.2.1=true:=by have:=Gb hx x (by simp);unfold Cv at this;rw [Ajb] at this;exact this.2
 obtain ⟨nums,e⟩:=NB x.2.1 p.2.1 hxx.2 hm;have hfl:(Em x.2.1 p.2.1).length<=240:=Nat.le_trans (List.length_filter_le _ _) (Gq hm).flat_len;show Option.bind (r4 x.2.1 p.2.1) _=_;rw [e];simp only [Ai5];generalize Em x.2.1 p.2.1=E at hfl;have hDf:=hDo.filter (Yz E)
 rw [Kn docs hDo.len,Ai5,Ny (fun d=>!Yz E d) docs _ (fun d hd' =>by
  have hg:=hDo.good d hd';unfold F35;rw [Qr d hg.sm hg.1 hg.2,Ai5];have g:=eh (fun e=>e.2.1==CA d) E (fun v4=>Option.map (fun v5:Bool×Unit=>v5.1) (F38 v4 (CA d))) (fun e _=>rfl) (by omega);exact congrArg (fun o:Option (Bool×Unit)=>Option.map (fun v14:Bool×Unit=>v14.1) (Option.bind o fun y1=>some (!y1.1,()))) g) hDo.len,Ai5]
 simp only [Bool.not_not];rw [Wb q _ hq hDf,Ai5]
def NM:List Ae->List Ae->List Ae
 |out,[]=>out
 |out,x::l=>NM (cond (out.any fun o=>decide (o=x)) out (out++[x])) l
theorem Uh:∀ (l out:List Ae) (x:Ae),x∈NM out l↔x∈out\/x∈l
 |[],out,x=>by simp [NM]
 |a::l,out,x=>by
  unfold NM;rw [Uh l];cases h:out.any fun o=>decide (o=a) with
  |true=>
   obtain ⟨o,ho,e⟩:=List.any_eq_true.1 h;have:=of_decide_eq_true e;subst this;rw [Ai7];constructor
   ·rintro (h | h)
    ·exact .inl h
    ·exact .inr (by simp [h])
   ·rintro (h | h)
    ·exact .inl h
    ·rcases List.mem_cons.1 h with rfl | h
     ·exact .inl ho
     ·exact .inr h
  |false=>
   rw [Ai6,Ajf,List.mem_singleton,List.mem_cons,or_assoc]
theorem Ui:∀ (l out:List Ae),(NM out l).length<=out.length+l.length
 |[],out=>by simp [NM]
 |a::l,out=>by
  unfold NM;have:=Ui l (cond (out.any fun o=>decide (o=a)) out (out++[a]))
  have:(cond (out.any fun o=>decide (o=a)) out (out++[a])).length<=out.length+1:=by
   cases out.any fun o=>decide (o=a)<;>simp
  rw [Aja];omega
def H_ (doc:Ae) (path:List UInt8):List Ae:=if (BQ doc path).length=0 then [RI] else NM [] (BQ doc path)
theorem OD (doc:Ae) (path:List UInt8) (x:Ae):x∈H_ doc path↔x∈D_ doc path:=by
 unfold H_ D_;split
 ·exact Iff.rfl
 ·rw [Uh];simp
theorem Uj {doc:Ae} (path:List UInt8) (hd:AH 5 doc=true):(H_ doc path).length<=301:=by
 unfold H_;split
 ·simp
 ·have:=Ui (BQ doc path) [];have h1:=HB (BO 46 path) 5 doc hd;have h2:=AR hd;have:(BQ doc path).length<=301:=by unfold BQ;omega
  simp only [Ajd] at *;omega
theorem YX (a b:Ae):(decide (a.1=b.1)&&(decide (a.2.1=b.2.1)&&((a.2.2.1==b.2.2.1)&&true)))=decide (a=b):=by
 obtain ⟨a1,a2,a3,_⟩:=a;obtain ⟨b1,b2,b3,_⟩:=b;rw [Bool.eq_iff_iff];simp
theorem WE (doc:Ae) (path:List UInt8) (hd:AH 5 doc=true) (hp:path.length<=1048576):kp doc path=some (H_ doc path,()):=by
 unfold kp H_;rw [Jq doc path hd hp,Ai5]
 have h301:(BQ doc path).length<=301:=by
  have h1:=HB (BO 46 path) 5 doc hd;have h2:=AR hd;unfold BQ;omega
 generalize BQ doc path=L at h301;dsimp only;rw [Ji];by_cases h0:L.length=0
 ·rw [decide_eq_true h0,Ai7,if_pos h0];rfl
 rw [decide_eq_false h0,Ai6,if_neg h0];refine (Ay (S:=List Ae) (fun i out=>(L,(i:Int),out,())) (fun i out=>some (NM out (L.drop i),())) L.length (fun i out=>out.length<=i) ?_ ?_ Af 0 [] (Nat.zero_le _) (Aj (by omega)) (Nat.le_refl _)).trans rfl
 ·intro i out hi ho rec hrec;simp only [PW,Ad,hi,decide_true,Ai7];refine (Ay (S:=Bool) (fun n s=>(L,(i:Int),s,(n:Int),out,())) (fun n s=>rec (L,((i+1:Nat):Int),cond (s||(out.drop n).any fun o=>decide (o=Ah L i)) out (out++[Ah L i]),())) out.length (fun _ _=>True) ?_ ?_ Af 0 false (Nat.zero_le _) (Aj (by omega)) trivial).trans ?_
  ·intro n s hn _ rec' hrec';simp only [MS,Ad,hn,decide_true,Ai7,Ap,Ai hi,Ai hn,Ai5,YX,Am n _ hn (by omega)];rw [Ac hn,List.any_cons];cases s with
   |true=>rw [Ai7,hrec' true trivial];simp only [Bool.true_or]
   |false=>rw [Ai6,hrec' _ trivial];simp only [Bool.false_or];rfl
  ·intro s _ rec';simp only [MS,Ad,Nat.lt_irrefl,decide_false,Ai6,Ajh,List.any_nil,Bool.or_false,Ap,Ai hi,Ai5,Am i _ hi (by omega)];cases s with
   |true=>rfl
   |false=>rw [Bool.not_false,Ai7,Aq (by simp only [A_,Ai8];omega)];rfl
  ·rw [List.drop_zero,Bool.false_or,Ac hi]
   have hc:(cond (out.any fun o=>decide (o=Ah L i)) out (out++[Ah L i])).length<=i+1:=by
    cases out.any fun o=>decide (o=Ah L i)
    ·simp;omega
    ·simp;omega
   rw [hrec _ hc];rfl
 ·intro out _ rec;simp only [PW,Ad,Nat.lt_irrefl,decide_false,Ai6,Ajh];rfl
def Ps (doc:Ae):List BG->List (List UInt8)->List (List UInt8)
 |[],out=>out
 |p::ps,out=>Ps doc ps (out.flatMap fun o=>(H_ doc p.1).map fun v=>o++AS p.2.1 v)
def Eb (d:Ht) (doc:Ae):List (List UInt8):=Ps doc d.2.1 [[]]
theorem OE {d:Ht} (h:Gn d=true) (doc:Ae) (k:List UInt8):k∈Eb d doc↔k∈Lz d doc:=by
 unfold Gn at h;simp only [Ajb,inR,Ajg] at h;obtain ⟨_,hl,_⟩:=h;unfold Eb Lz
 match hd:d.2.1 with
 |[]=>rw [hd] at hl;simp at hl
 |[p]=>
  simp only [Ps,List.flatMap_cons,List.flatMap_nil,List.append_nil,List.nil_append,List.mem_map,OD]
 |[p,p']=>
  simp only [Ps,List.flatMap_cons,List.flatMap_nil,List.append_nil,List.nil_append,List.mem_flatMap,List.mem_map,OD];constructor
  ·rintro ⟨_,⟨x,hx,rfl⟩,y,hy,rfl⟩;exact ⟨x,hx,y,hy,rfl⟩
  ·rintro ⟨x,hx,y,hy,rfl⟩;exact ⟨_,⟨x,hx,rfl⟩,y,hy,rfl⟩
 |_::_::_::_=>rw [hd] at hl;simp only [Aja] at hl;omega
theorem flatMap_len {α β:Type} (g:α->List β) (n:Nat):∀ (l:List α),(∀ x,x∈l->(g x).length=n)->(l.flatMap g).length=l.length*n
 |[],_=>by simp
 |a::l,h=>by
  rw [List.flatMap_cons,Ai9,h a (by simp),flatMap_len g n l fun x hx=>h x (by simp [hx]),Aja,Nat.succ_mul];omega
theorem SC (doc:Ae) (p:BG) (out:List (List UInt8)):(out.flatMap fun o=>(H_ doc p.1).map fun v=>o++AS p.2.1 v).length=out.length*(H_ doc p.1).length:=
 flatMap_len _ _ _ fun x _=>by rw [List.length_map]
theorem Le {d:Ht} (h:Gn d=true):1<=d.2.1.length/\d.2.1.length<=2/\∀ p,p∈d.2.1->p.1.length<=1048576:=by
 unfold Gn at h;simp only [Ajb,inR,Ajg] at h;obtain ⟨_,hl,hp,_⟩:=h;exact ⟨by omega,by omega,fun p hm=>IK (List.all_eq_true.1 hp p hm)⟩
theorem a6 (d:Ht) (doc:Ae) (h:Gn d=true) (hd:AH 5 doc=true):ky d doc=some (Eb d doc,()):=by
 obtain ⟨l1,l2,lp⟩:=Le h;unfold ky Eb;refine (Ay (S:=List (List UInt8)) (fun i out=>((i:Int),d,doc,out,())) (fun i out=>some (Ps doc (d.2.1.drop i) out,())) d.2.1.length (fun i out=>out.length<=301 ^ i/\∀ o,o∈out->o.length<=1000*i) ?_ ?_ Af 0 [[]] (Nat.zero_le _) (Aj (by omega)) ⟨by simp,fun o ho=>by rw [List.mem_singleton.1 ho];simp⟩).trans rfl
 ·intro i out hi ho rec hrec;have hpl:=lp _ (Au hi);simp only [P',Ad,hi,decide_true,Ai7,Ap,Ai hi,Ai5];rw [WE doc _ hd hpl,Ai5,Ac hi];have hV:=Uj (Ah d.2.1 i).1 hd;have hok:∀ x,x∈H_ doc (Ah d.2.1 i).1->AH 5 x=true:=fun x hx=>H' hd x ((OD _ _ _).1 hx)
  have ho1:out.length<=301:=Nat.le_trans ho.1 (by
   have:i=0\/i=1:=by omega
   rcases this with rfl | rfl<;>decide)
  have hst:=SC doc (Ah d.2.1 i) out;show _=some (Ps doc (d.2.1.drop (i+1)) (out.flatMap fun o=>(H_ doc (Ah d.2.1 i).1).map fun v=>o++AS (Ah d.2.1 i).2.1 v),())
  have hpow:(out.flatMap fun o=>(H_ doc (Ah d.2.1 i).1).map fun v=>o++AS (Ah d.2.1 i).2.1 v).length<=301 ^ (i+1):=by
   rw [hst,Nat.pow_succ];exact Nat.mul_le_mul ho.1 hV
  have hlen:∀ o,o∈(out.flatMap fun o=>(H_ doc (Ah d.2.1 i).1).map fun v=>o++AS (Ah d.2.1 i).2.1 v)->o.length<=1000*(i+1):=fun o hm=>by
   obtain ⟨a,ha,hb⟩:=List.mem_flatMap.1 hm;obtain ⟨v,hv,rfl⟩:=List.mem_map.1 hb;have h1:=ho.2 a ha;have h2:=IP (Ah d.2.1 i).2.1 (hok v hv);rw [Ai9];omega
  rw [<-hrec _ ⟨hpow,hlen⟩];generalize H_ doc (Ah d.2.1 i).1=V at hV hok hst hpow hlen;dsimp only;refine (Ay (S:=List (List UInt8)) (fun k nx=>((i:Int),V,(k:Int),d,doc,out,nx,())) (fun k nx=>rec (((i+1:Nat):Int),d,doc,nx++(out.drop k).flatMap (fun o=>V.map fun v=>o++AS (Ah d.2.1 i).2.1 v),())) out.length (fun k nx=>nx.length=k*V.length) ?_ ?_ Af 0 [] (Nat.zero_le _) (Aj (by omega)) (by simp)).trans (by rw [List.drop_zero,List.nil_append])
  ·intro k nx hk hn rec' hrec';simp only [PZ,Ad,hk,decide_true,Ai7];rw [Ac hk,List.flatMap_cons,<-List.append_assoc];have hkm:k*V.length<=301*301:=Nat.mul_le_mul (by omega) hV;have hol:=ho.2 _ (Au hk);refine (Ay (S:=List (List UInt8)) (fun n nx=>((i:Int),V,(k:Int),(n:Int),d,doc,out,nx,())) (fun n nx=>rec' ((i:Int),V,((k+1:Nat):Int),d,doc,out,nx++(V.drop n).map (fun v=>Ah out k++AS (Ah d.2.1 i).2.1 v),())) V.length (fun n nx=>nx.length=k*V.length+n) ?_ ?_ Af 0 nx (Nat.zero_le _) (Aj (by omega)) (by omega)).trans ?_
   ·intro n nx' hn' hx rec'' hrec'';have hkb:=IP (Ah d.2.1 i).2.1 (hok _ (Au hn'));simp only [MV,Ad,hn',hk,hi,decide_true,Ai7,Ap,Ai hi,Ai hk,Ai hn',Ai5,Su _ _ (hok _ (Au hn')),Am n _ hn' (by omega)];rw [Aq (by omega),Aq (by simp only [A_,Ai8];omega),hrec'' _ (by rw [Ai9,hx,Ai8];omega),Ac hn',List.map_cons,List.append_assoc];rfl
   ·intro nx' hx rec'';simp only [MV,Ad,Nat.lt_irrefl,decide_false,Ai6,Ajh,List.map_nil,List.append_nil,Am k _ hk (by omega)]
   ·rw [List.drop_zero,hrec' _ (by rw [Ai9,List.length_map,hn,Nat.succ_mul])]
  ·intro nx hn rec';simp only [PZ,Ad,Nat.lt_irrefl,decide_false,Ai6,Ajh,List.flatMap_nil,List.append_nil,Am i _ hi (by omega)]
 ·intro out _ rec;simp only [P',Ad,Nat.lt_irrefl,decide_false,Ai6,Ajh];rfl
theorem SD (t:Bd) (hl:t.1.length<=60) (h4:∀ p,p∈t.1->p.2.1.length<=4):gj t=some (t,()):=by
 unfold gj;refine (Ay (S:=List Ew) (fun i acc=>((i:Int),t,([],((0:Int),())),acc,())) (fun i acc=>some ((acc++t.1.drop i,t.2),())) t.1.length (fun i acc=>acc.length=i) ?_ ?_ Af 0 [] (Nat.zero_le _) (Aj (by omega)) rfl).trans (by rw [List.drop_zero,List.nil_append])
 ·intro i acc hi ha rec hrec;have hp:=h4 _ (Au hi);simp only [P_,Ad,hi,decide_true,Ai7,Ap,Ai hi,Ai5,Am i _ hi (by omega),List.nil_append];rw [Aq (by simp only [A_,Ajd];omega),Aq (by simp only [A_,Ai8];omega),hrec _ (by rw [Ai9,ha,Ai8]),Ac hi,List.append_assoc];rfl
 ·intro acc _ rec;simp only [P_,Ad,Nat.lt_irrefl,decide_false,Ai6,Ajh,List.append_nil]
theorem a7 (e a:Ar) (l:List Ar):Cf e (a::l)=cond (lessE a e) (Cf e l+1) 0:=by
 unfold Cf;rw [List.takeWhile_cons];cases lessE a e<;>simp
theorem YY (a b:Ar):((a.1==b.1)&&(decide (a.2.1=b.2.1)&&true))=decide (a=b):=by
 obtain ⟨a1,a2,_⟩:=a;obtain ⟨b1,b2,_⟩:=b;rw [Bool.eq_iff_iff];simp
theorem iZ (e:Ar) (l:List Ar):Jy e l=(decide (Cf e l<l.length)&&decide (Ah l (Cf e l)=e)):=by
 unfold Jy;by_cases h:Cf e l<l.length
 ·rw [Ac h,decide_eq_true h,Bool.true_and]
 ·rw [List.drop_eq_nil_of_le (by omega),decide_eq_false h,Bool.false_and]
theorem i_ (o:Int×List Ar×Int×Bd×Ar×Bd×Unit->Option (Bd×Int×Int×Unit)) (k:Int) (l:List Ar) (t:Bd) (e:Ar) (z:Bd) (hl:l.length<=4) :
  iter (MW o) Af (k,l,(0:Int),t,e,z,())=o (k,l,((Cf e l:Nat):Int),t,e,z,()):=by
 refine (Ay (S:=Unit) (fun i _=>(k,l,(i:Int),t,e,z,())) (fun i _=>o (k,l,((i+Cf e (l.drop i):Nat):Int),t,e,z,())) l.length (fun _ _=>True) ?_ ?_ Af 0 () (Nat.zero_le _) (Aj (by omega)) trivial).trans (by rw [List.drop_zero,Nat.zero_add])
 ·intro i _ hi _ rec hrec;simp only [MW,Ad,hi,decide_true,Ai7,Ap,Ai hi,Ai5,Jv,Am i _ hi (by omega)];rw [Ac hi,a7];cases lessE (Ah l i) e with
  |true=>rw [Ai7,Ai7,hrec () trivial,Nat.add_comm (Cf _ _) 1,Nat.add_assoc]
  |false=>rfl
 ·intro _ _ rec;simp only [MW,Ad,Nat.lt_irrefl,decide_false,Ai6,Ajh];rfl
theorem nv (t:Bd) (e:Ar):Lj t e=if Jy e (Ah t.1 (AU t e)).2.1=true then (t,0,12)
 else if (Ah t.1 (AU t e)).2.1.length=4/\(t.1.length=60\/t.2.1=100000) then (t,0,7)
 else if (Ah t.1 (AU t e)).2.1.length<4 then ((t.1.set (AU t e) ((Ah t.1 (AU t e)).1,EH e (Ah t.1 (AU t e)).2.1,()),t.2.1,()),0,0)
 else (((t.1.take (AU t e)++[((Ah t.1 (AU t e)).1,(EH e (Ah t.1 (AU t e)).2.1).take 2,()),(t.2.1,(EH e (Ah t.1 (AU t e)).2.1).drop 2,())])++t.1.drop (AU t e+1),t.2.1+1,()),t.2.1,0):=rfl
theorem aA (t:Bd) (e:Ar) (h:Tree t):k9 t e=some ((Lj t e).1,(Lj t e).2.1,(Lj t e).2.2,()):=by
 have hk:=Ou h e;have h60:=h.len;have h4:=(h.page _ (Au hk)).1;have hlo:=h.lo;have hhi:=h.hi;unfold k9;rw [NA t e (by omega) h.one,Ai5];dsimp -zeta only;rw [nv];generalize AU t e=k at *;rw [Ap,Ai hk,Ai5,i_ _ _ _ _ _ _ h4];dsimp -zeta only;have hla:Cf e (Ah t.1 k).2.1<=(Ah t.1 k).2.1.length:=TV e _;have hth:=iZ e (Ah t.1 k).2.1;have hpl:=NF e (Ah t.1 k).2.1;have hL:((Ah t.1 k).2.1.take (Cf e (Ah t.1 k).2.1)++[e])++(Ah t.1 k).2.1.drop (Cf e (Ah t.1 k).2.1)=EH e (Ah t.1 k).2.1:=rfl;revert hla hth hpl hL h4;generalize (Ah t.1 k).2.1=l;generalize Cf e l=a;intro h4 hla hth hpl hL
 extract_lets j14 j11
 cases hthe:Jy e l with
 |true=>
  rw [hthe] at hth;have hth:=hth.symm;rw [Ajb,Ajg] at hth;rw [Ad,decide_eq_true hth.1,Ai7,Ap,Ai hth.1,Ai5,YY,hth.2,Ai7];rfl
 |false=>
  simp only [Bool.false_eq_true,if_false]
  have hga:(cond (decide (((a:Nat):Int)<((l.length:Nat):Int))) (gd (decide ((0:Int)<=((a:Nat):Int))) (Option.bind l[Int.toNat ((a:Nat):Int)]? fun y10=>cond ((y10.1==e.1)&&(decide (y10.2.1=e.2.1)&&true)) (some (t,((0:Int),((12:Int),())))) (j11 ((k:Int),l,(a:Int),t,e,([],((0:Int),())),())))) (j11 ((k:Int),l,(a:Int),t,e,([],((0:Int),())),())))=j11 ((k:Int),l,(a:Int),t,e,([],((0:Int),())),()):=by
   rw [Ad];by_cases hal:a<l.length
   ·rw [decide_eq_true hal,Ai7,Ap,Ai hal,Ai5,YY];rw [hthe,decide_eq_true hal,Bool.true_and] at hth;rw [<-hth,Ai6]
   ·rw [decide_eq_false hal,Ai6]
  rw [hga];simp only [j11];by_cases hf:l.length=4/\(t.1.length=60\/t.2.1=100000)
  ·rw [if_pos hf,hf.1];rw [show (((4:Nat):Int)==4)=true from rfl,Ai7];rcases hf.2 with h1 | h1
   ·rw [h1];rfl
   ·rw [h1];cases (((t.1.length:Nat):Int)==60)<;>rfl
  rw [if_neg hf]
  have hgo:(cond (((l.length:Nat):Int)==(4:Int)) (cond (((t.1.length:Nat):Int)==(60:Int)) (some (t,((0:Int),((7:Int),())))) (cond (t.2.1==(100000:Int)) (some (t,((0:Int),((7:Int),())))) (j14 ((k:Int),l,(a:Int),t,e,([],((0:Int),())),())))) (j14 ((k:Int),l,(a:Int),t,e,([],((0:Int),())),())))=j14 ((k:Int),l,(a:Int),t,e,([],((0:Int),())),()):=by
   by_cases h4':l.length=4
   ·have h1:¬t.1.length=60:=fun h=>hf ⟨h4',.inl h⟩
    have h2:¬t.2.1=100000:=fun h=>hf ⟨h4',.inr h⟩
    rw [h4',show (((4:Nat):Int)==4)=true from rfl,Ai7,beq_eq_false_iff_ne.2 (show ((t.1.length:Nat):Int)≠60 by omega),Ai6,beq_eq_false_iff_ne.2 h2,Ai6]
   ·rw [beq_eq_false_iff_ne.2 (show ((l.length:Nat):Int)≠4 by omega),Ai6]
  rw [hgo];simp only [j14];clear hgo hga j11 j14;rw [SD t h60 (fun p hp=>(h.page p hp).1),Ai5];simp only [Int.toNat_natCast,List.nil_append,show Int.toNat 0=0 from rfl,List.drop_zero,List.take_length,hL,Ap,IE];rw [Aq (show ((a:Nat):Int)<=((l.length:Nat):Int) by omega),Aq (show ((a:Nat):Int)<=((l.length:Nat):Int) by omega),Aq (by simp only [A_,Ajd,List.length_take];omega),Aq (by simp only [A_,Ai8,List.length_take];omega),Aq (by simp only [A_,Ai9,Ai8,List.length_take,List.length_drop];omega),Aq (by omega),Cs hk,Ai5,hpl];by_cases h3:l.length<4
  ·rw [if_pos h3,decide_eq_true (show (((l.length+1:Nat)):Int)<=4 by omega),Ai7]
  ·rw [if_neg h3,decide_eq_false (show ¬(((l.length+1:Nat)):Int)<=4 by omega),Ai6];have h5:l.length=4:=by omega
   rw [h5];simp only [show IntKind.wrap .i64 (Int.tdiv (((4+1:Nat):Nat):Int) 2)=((2:Nat):Int) from rfl,Int.toNat_natCast,Am k _ hk (by omega),Ap,IE];rw [h5] at hpl
   have hs:∀ y:Ew,(t.1.set k y).take (k+1)=t.1.take k++[y]:=fun y=>by
    rw [YF _ hk,<-List.append_assoc,List.take_append_of_le_length (by simp;omega),List.take_of_length_le (by simp only [Ai9,List.length_take,Ai8];omega)]
   have hdr:∀ y:Ew,(t.1.set k y).drop (k+1)=t.1.drop (k+1):=fun y=>by rw [List.drop_set_of_lt (Nat.lt_succ_self k)]
   rw [Aq (by decide),Aq (by simp only [A_,Ajd,List.length_take];omega),Aq (by rw [List.length_set];omega),List.getElem?_set_self hk,Ai5];simp only [List.set_set,List.length_set,hs,hdr];rw [Aq (by decide),Aq (by simp only [A_,Ajd,List.length_drop];omega),Aq (by omega),Aq (by omega)];rw [Aq (by simp only [A_,Ajd,Ai9,List.length_take,Ai8];omega),Aq (by simp only [A_,Ai9,List.length_take,Ai8];omega),Aq (by simp only [A_,Ai9,List.length_take,List.length_drop,Ai8];omega),AN _ (by omega) (by omega)];simp only [List.append_assoc,List.cons_append,List.nil_append]
theorem aB (v:Ae):CA v<=99:=by
 have hx:∀ x,TD x<=99:=fun x=>by
  unfold TD inR;cases x.2.1
  ·exact (by decide:(-1:Int)<=99)
  cases x.1.1==2
  ·exact (by decide:(-1:Int)<=99)
  rw [Ai7,Ai7];cases h:decide (0<=x.1.2.1)&&decide (x.1.2.1<=99)
  ·exact (by decide:(-1:Int)<=99)
  ·rw [Ajb,Ajg,Ajg] at h;exact h.2
 unfold CA;split
 ·decide
 ·exact hx _
theorem eE {d:Ht} {doc:Ae} (hd:Gn d=true) (ho:AH 5 doc=true):(Eb d doc).length<=90601:=by
 obtain ⟨_,l2,_⟩:=Le hd
 have g:∀ (ps:List BG) (out:List (List UInt8)),(Ps doc ps out).length<=out.length*301 ^ ps.length:=by
  intro ps;induction ps with
  |nil=>intro out;simp [Ps]
  |cons p ps ih=>
   intro out;refine Nat.le_trans (ih _) ?_;rw [SC,Aja,Nat.pow_succ,Nat.mul_comm (301 ^ ps.length) 301,<-Nat.mul_assoc];exact Nat.mul_le_mul_right _ (Nat.mul_le_mul_left _ (Uj _ ho))
 have h1:=g d.2.1 [[]];have h2:301 ^ d.2.1.length<=301 ^ 2:=Nat.pow_le_pow_right (by decide) l2;unfold Eb;simp only [Ai8,Nat.one_mul] at h1;have h3:301 ^ 2=90601:=by decide
 omega
def ja:BR:=(([],([],())),(([],((0:Int),())),()))
theorem aC (d:Ht) (t:Bd) (doc:Ae) (hd:Gn d=true) (ht:IN t) (hg:DS doc) :
  xk (d,t,()) doc=some (cond ((IQ (CA doc) (Eb d doc) t).2==0) (d,(IQ (CA doc) (Eb d doc) t).1,()) (d,t,()),(IQ (CA doc) (Eb d doc) t).2,()):=by
 unfold xk;rw [a6 d doc hd hg.ok,Ai5];have hkl:∀ k,k∈Eb d doc->k.length<=2000:=fun k hk=>Ov d hg.ok k ((OE hd doc k).1 hk)
 have hfu:(Eb d doc).length<=90601:=eE hd hg.ok;generalize Eb d doc=K at hkl hfu;dsimp only;refine (Ay (S:=Bd) (fun i s=>(K,(i:Int),(d,t,()),doc,(([],([],())),(([],((0:Int),())),())),s,())) (fun i s=>some (cond ((IQ (CA doc) (K.drop i) s).2==0) (d,(IQ (CA doc) (K.drop i) s).1,()) (d,t,()),(IQ (CA doc) (K.drop i) s).2,())) K.length (fun _ s=>IN s) ?_ ?_ Af 0 t (Nat.zero_le _) (Aj (by omega)) ht).trans (by rw [List.drop_zero])
 ·intro i s hi hs rec hrec;simp only [Vd,Ad,hi,decide_true,Ai7,Ap,Ai hi,Ai5,Kl doc hg.sm,aA s _ hs.toTree];rw [Ac hi];unfold IQ;by_cases h0:(Lj s (Ah K i,CA doc,())).2.2=0
  ·rw [if_pos h0];have e:((Lj s (Ah K i,CA doc,())).2.2 != 0)=false:=by rw [h0];rfl
   rw [e,Ai6,AN _ (by omega) (by omega)];exact hrec _ (co hs ((Jx _).2 ⟨hkl _ (Au hi),hg.2,by have:=aB doc;dsimp only;omega⟩) h0).1
  ·rw [if_neg h0];have e:((Lj s (Ah K i,CA doc,())).2.2 != 0)=true:=by rw [bne_iff_ne];exact h0
   have e':((Lj s (Ah K i,CA doc,())).2.2==0)=false:=by rw [beq_eq_false_iff_ne];exact h0
   rw [e,Ai7];dsimp only;rw [e',Ai6]
 ·intro s _ rec;simp only [Vd,Ad,Nat.lt_irrefl,decide_false,Ai6,Ajh];rfl
theorem YZ (d:Ht) (t:Bd) (hd:Gn d=true) (h:Tree t):xl (d,t,())=some ((d,t,()),()):=by
 unfold xl;obtain ⟨_,l2,_⟩:=Le hd;dsimp only;rw [Aq (by simp only [A_,Ajd];omega),SD t h.len (fun p hp=>(h.page p hp).1)];rfl
theorem WF (d:Ht) (docs:List Ae) (hd:Gn d=true) (hD:Lh docs) :
  xm d docs=some (cond ((Ea (Eb d) docs Ow).2==0) (d,(Ea (Eb d) docs Ow).1,()) ja,(Ea (Eb d) docs Ow).2,()):=by
 unfold xm;rw [show zc=some (Ow,()) from rfl,Ai5];have hlen:=hD.len;dsimp only;refine (Ay (S:=Bd) (fun i s=>(docs,(i:Int),ja,(d,s,()),())) (fun i s=>some (cond ((Ea (Eb d) (docs.drop i) s).2==0) (d,(Ea (Eb d) (docs.drop i) s).1,()) ja,(Ea (Eb d) (docs.drop i) s).2,())) docs.length (fun _ s=>IN s) ?_ ?_ Af 0 Ow (Nat.zero_le _) (Aj (by omega)) cq).trans (by rw [List.drop_zero])
 ·intro i s hi hs rec hrec;have hg:=hD.good _ (Au hi);simp only [Ve,Ad,hi,decide_true,Ai7,Ap,Ai hi,Ai5,aC d s _ hd hs hg];rw [Ac hi];unfold Ea;by_cases h0:(IQ (CA (Ah docs i)) (Eb d (Ah docs i)) s).2=0
  ·rw [if_pos h0,h0,show ((0:Int) != 0)=false from rfl,show ((0:Int)==0)=true from rfl,Ai6,Ai7,Am i _ hi (by omega)];exact hrec _ (Wq ⟨hg.2,by have:=aB (Ah docs i);omega⟩ _ _ hs (fun k hk=>Ov d hg.ok k ((OE hd _ k).1 hk)) h0).1
  ·rw [if_neg h0];have e:((IQ (CA (Ah docs i)) (Eb d (Ah docs i)) s).2 != 0)=true:=by rw [bne_iff_ne];exact h0
   have e':((IQ (CA (Ah docs i)) (Eb d (Ah docs i)) s).2==0)=false:=by rw [beq_eq_false_iff_ne];exact h0
   rw [e,e',Ai7];rfl
 ·intro s hs rec;simp only [Ve,Ad,Nat.lt_irrefl,decide_false,Ai6,Ajh,YZ d s hd hs.toTree,Ai5];rfl
theorem NN (d:Ht) (docs:List Ae) (hd:Gn d=true) (hL:ij 1048576 d) (hD:Eg docs=true) (hDL:LS Dd 1048576 docs) :
  ∃ x c,F7 d docs=some (x,c,())/\(c=0->x.1=d/\IN x.2.1/\NE x.2.1 d docs):=by
 obtain ⟨hDo,h20⟩:=CU hD;unfold F7;rw [decide_eq_false (show ¬((docs.length:Nat):Int)>4096 by omega),Ai6,Nq d hL,hd,RS docs hDL,hD,WF d docs hd hDo];refine ⟨_,_,rfl,fun hc=>?_⟩;rw [show ((Ea (Eb d) docs Ow).2==0)=true by rw [beq_iff_eq];exact hc,Ai7];exact ⟨rfl,YJ d (Eb d) (fun doc _ k=>OE hd doc k) docs (fun x hx=>⟨(hDo.good x hx).ok,(hDo.good x hx).2,by have:=aB x;omega⟩) hc⟩
theorem wfBytes (x:List Int) (h:Wf (.slice (.int .u8)) x):∀ b∈x,0<=b/\b<256:=fun b hb=>by
 have g:(Lit.int .u8 b).wf=true:=h.2 b hb;unfold Lit.wf at g;rw [Ajb,Ajg,Ajg] at g;have h1:IntKind.u8.min=0:=rfl;have h2:IntKind.u8.max=255:=rfl;omega
theorem JA {t:List UInt8} (h:shortM t=true):t.length<=1048576:=by
 unfold shortM at h;simp only [Ajb,Ajg] at h;omega
theorem Dz {q:BD} (h:CG q=true):On 1048576 q:=by
 obtain ⟨h1,h2,h3,_,_,_,_,h8⟩:=Eh h;unfold CG at h;simp only [Ajb,Ajc] at h;obtain ⟨_,_,_,_,_,_,hk,hh⟩:=h;refine ⟨?_,Ju h3 h2,⟨by omega,fun k hm=>JA (List.all_eq_true.1 hk k hm)⟩,?_⟩
 ·unfold BW inR at h1;simp only [Ajb,Ajg] at h1;refine ⟨by omega,fun c hc=>?_⟩;have:=List.all_eq_true.1 h1.2 c hc;simp only [Ajb,Ajg] at this;refine ⟨by omega,fun t ht=>?_⟩;have g:=List.all_eq_true.1 this.2 t ht;obtain ⟨g1,g2,_⟩:=EZ g;exact ⟨IK g2,Ct g1⟩
 ·rcases hh with hh | hh
  ·rw [beq_iff_eq] at hh;rw [hh];simp
  ·exact JA hh
theorem SE {d:Ht} (h:Gn d=true):ij 1048576 d:=by
 obtain ⟨_,l2,l3⟩:=Le h;unfold Gn at h;rw [Ajb] at h;exact ⟨JA h.1,by omega,l3⟩
theorem JB {l:List Ae} (h:Eg l=true):LS Dd 1048576 l:=
 ⟨(CU h).1.len,fun x hx=>((CU h).1.good x hx).sm⟩
theorem aD {t:Bd} (h:Tree t):Yy 1048576 t:=
 ⟨by have:=h.len;omega,fun p hp=>⟨by have:=(h.page p hp).1;omega,fun e he=>by
  have:=(h.ent e (by unfold Aw;exact List.mem_flatMap.2 ⟨p,hp,he⟩)).1;show e.1.length<=_;omega⟩⟩
theorem JK (l:List Ae) (h:l.length<=1048576):qL l l=some (true,()):=by
 unfold qL;rw [bne_self_eq_false,Ai6];refine Eq.trans (Ca (fun i=>(l,l,(i:Int),())) (fun _=>true) (some (true,())) (some (false,())) l.length 0 Af ?_ ?_ (Aj (by omega))) ?_
 ·intro i _ hi rec;have hi':i<l.length:=by omega
  simp only [VE,Ad,hi',decide_true,Ai7,Ap,Ai hi',Ai5,YX,decide_true,Bool.not_true,Ai6,Am i _ hi' (by omega)]
 ·intro rec;have:¬(0+l.length<l.length):=by omega
  simp only [VE,Ad,this,decide_false,Ai6]
 ·rw [(AY _ _ _).2 fun _ _ _=>rfl];rfl
theorem eF (q:BD) (docs:List Ae) (hq:CG q=true) (hd:Eg docs=true):F8 q docs=some (GE q docs,0,())/\F9 q docs=some (GE q docs,0,()):=by
 obtain ⟨hD,h3⟩:=CU hd;unfold F9 F8;rw [Km q (Dz hq),E_ q (Dz hq),RS docs (JB hd),RT docs (JB hd),hq,hd];simp only [Ai5];rw [decide_eq_false (show ¬((docs.length:Nat):Int)>4096 by omega),Ta q docs hq hD,Wb q docs hq hD];exact ⟨rfl,rfl⟩
theorem jb (q:BD) (x:BR):KD q x=iY q x\/KD q x=YV:=by
 unfold KD;cases x.1.1==q.2.2.2.2.2.1
 ·cases decide ((((Em x.2.1 (GP (Ah x.1.2.1 0) q.1)).length:Nat):Int)<(((Aw x.2.1.1).length:Nat):Int))
  ·exact .inr rfl
  ·exact .inl rfl
 ·exact .inl rfl
theorem OF (q:BD) (docs:List Ae) (x:BR) (hq:CG q=true) (hd:Eg docs=true) (hx:DG [x]=true) (hX:LS Im 1048576 [x]) (hI:NE x.2.1 x.1 docs) (p:TO) (hp:p=iY q x\/p=YV) :
  qH p q docs [x]=some (GE q docs,0,()):=by
 have hQ:=Dz hq;have hi:=Gb hx x (by simp);unfold Cv at hi;rw [Ajb] at hi;obtain ⟨hDo,h20⟩:=CU hd;rw [YW p q docs x hq hQ hd (JB hd) hx hX (by rcases hp with rfl | rfl;exact .inr rfl;exact .inl rfl)]
 by_cases he:p.1=[]
 ·rw [if_pos he]
 ·rw [if_neg he];rcases hp with rfl | rfl
  ·obtain ⟨r,hr⟩:=(Sz hi.1).2;have:=ek q docs (Em x.2.1 (iY q x).2.1) fun doc hm hf=>ag hr (Eh hq).1 hI (Ws _ _) hm (hDo.good doc hm).ok hf
   rw [this]
  ·exact absurd rfl he
theorem fnPlans_law (code more:List Int) (hc:∀ b∈code,0<=b/\b<256) (hm:∀ b∈more,0<=b/\b<256):F3 code more=some (true,()):=by
 unfold F3;rcases Nat.lt_or_ge 1048576 code.length with l1 | l1
 ·rw [decide_eq_true (show ((code.length:Nat):Int)>1048576 by omega),Ai7]
 rcases Nat.lt_or_ge 1048576 more.length with l2 | l2
 ·rw [decide_eq_true (show ((more.length:Nat):Int)>1048576 by omega),Ai7];cases decide (((code.length:Nat):Int)>1048576)<;>rfl
 rw [decide_eq_false (show ¬((code.length:Nat):Int)>1048576 by omega),decide_eq_false (show ¬((more.length:Nat):Int)>1048576 by omega),Ai6,Ai6];obtain ⟨s1,a1,a2,a3⟩:=Ox code hc (by omega);obtain ⟨q,_,b1,_,_,hq⟩:=iU s1 a2 (by omega);have e1:F4 code=some (q,()):=by unfold F4;rw [a1,Ai5,b1];rfl
 obtain ⟨s2,a1,a2,a3⟩:=Ox more hm (by omega);obtain ⟨docs,_,b1,_,_,hu⟩:=np s2 a2 (by omega);have e2:F5 more=some (docs,()):=by unfold F5;rw [a1,Ai5,b1];rfl
 obtain ⟨s3,a1,a2,a3⟩:=Ox ([(2:Int)]++code) (fun b hb=>by
  rcases List.mem_append.1 hb with hb | hb
  ·rw [List.mem_singleton.1 hb];omega
  ·exact hc b hb) (by simp only [Ai9,Ai8];omega)
 obtain ⟨d0,_,b1,_,_,hd1,hdn,_⟩:=qW s3 a2 (by omega);have e3:F6 ([(2:Int)]++code)=some (d0,()):=by unfold F6;rw [a1,Ai5,b1];rfl
 have hd:=hu.ok (by omega);have hdef:=hdn [(111:UInt8),(110:UInt8),(101:UInt8)] (by simp [Jz]);obtain ⟨x,c,e4,hcx⟩:=NN ([(111:UInt8),(110:UInt8),(101:UInt8)],d0.2) docs hdef (SE hdef) hd (JB hd);rw [e1,Ai5,e2,Ai5,Aq (by simp only [A_,Ai8];omega),e3,Ai5];dsimp only;rw [e4,Ai5];dsimp only;by_cases h0:¬c=0
 ·rw [show (c != 0)=true by rw [bne_iff_ne];exact h0,Ai7]
 have h0:c=0:=Classical.not_not.1 h0;obtain ⟨hxd,hT,hI⟩:=hcx h0
 have hxi:DG [x]=true:=by
  have hix:Cv x=true:=by unfold Cv;rw [hxd,hdef,(TU _).2 hT];rfl
  unfold DG;rw [Ajb];refine ⟨(AY _ _ _).2 fun i _ hi=>?_,rfl⟩;have:i=0:=by simp at hi;omega
  subst this;show (Cv x&&true)=true;rw [hix];rfl
 have hX:LS Im 1048576 [x]:=⟨by simp,fun y hy=>by
  rw [List.mem_singleton.1 hy];exact ⟨by rw [hxd];exact SE hdef,aD hT.toTree⟩⟩
 have hI':NE x.2.1 x.1 docs:=by rw [hxd];exact hI
 have hname:x.1.1=[(111:UInt8),(110:UInt8),(101:UInt8)]:=by rw [hxd]
 have hq2:CG (q.1,q.2.1,q.2.2.1,q.2.2.2.1,q.2.2.2.2.1,[(111:UInt8),(110:UInt8),(101:UInt8)],())=true:=by
  have:=hq;unfold CG at this ⊢;simp only [Ajb] at this ⊢;obtain ⟨g1,g2,g3,g4,g5,g6,g7,_⟩:=this;exact ⟨g1,g2,g3,g4,g5,g6,g7,by decide⟩
 have hlen:(GE q docs).length<=1048576:=Nat.le_trans (ed q (CU hd).1) (CU hd).1.len;have f1:=eF q docs hq hd;have p1:=KE q x hq (Dz hq) hxi hX;have p2:=SB q x hq (Dz hq) hxi hX;have r1:=OF q docs x hq hd hxi hX hI' (KD q x) (jb q x);have p3:=KE _ x hq2 (Dz hq2) hxi hX
 have hby:KD (q.1,q.2.1,q.2.2.1,q.2.2.2.1,q.2.2.2.2.1,[(111:UInt8),(110:UInt8),(101:UInt8)],()) x=iY (q.1,q.2.1,q.2.2.1,q.2.2.2.1,q.2.2.2.2.1,[(111:UInt8),(110:UInt8),(101:UInt8)],()) x:=by
  unfold KD;rw [show (x.1.1==[(111:UInt8),(110:UInt8),(101:UInt8)])=true by rw [hname];rfl,Ai7]
 have r2:=OF _ docs x hq2 hd hxi hX hI' _ (.inl hby);have r3:=OF _ docs x hq2 hd hxi hX hI' YV (.inr rfl);have hfh:GE (q.1,q.2.1,q.2.2.1,q.2.2.2.1,q.2.2.2.2.1,[(111:UInt8),(110:UInt8),(101:UInt8)],()) docs=GE q docs:=rfl;rw [hfh] at r2 r3;have o3:=E_ _ (Dz hq2);rw [h0,show ((0:Int) != 0)=false from rfl,Ai6,f1.1,f1.2,Ai5,Ai5,p1,Ai5,p2,Ai5];dsimp only;rw [r1,Ai5];have hun:q.2.2.2.2.2.2=():=rfl;rw [hun,p3,Ai5];dsimp only;rw [r2,Ai5,show ((([],(([],([],(false,()))),((0:Int),()))):TO))=YV from rfl,r3,Ai5];dsimp only;rw [JK _ hlen,o3,hq2,hby];simp only [beq_self_eq_true,decide_true,Bool.and_self,Ai7,Ai5];unfold iY;dsimp only;rw [hname];simp only [beq_self_eq_true,Ai7,JK _ hlen,Ai5]
end Go.V
