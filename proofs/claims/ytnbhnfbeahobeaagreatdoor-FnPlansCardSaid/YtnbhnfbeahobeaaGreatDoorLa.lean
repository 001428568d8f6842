/- What the functions compute, in plain words, and the laws. No condition. -/
import Derived.Test.YtnbhnfbeahobeaaGreatDoorWF5
import Derived.Lib.Bytealg
import Derived.Lib.Repeat
namespace Go.V
set_option linter.unusedVariables false
set_option linter.unusedSimpArgs false
set_option maxRecDepth 100000
theorem AN (z:Int) (h1 : -9223372036854775808<=z) (h2:z<9223372036854775808):IntKind.wrap .i64 z=z:=by
 simp only [IntKind.wrap,IntKind.bits,IntKind.signed];by_cases h:z % 18446744073709551616>=9223372036854775808
 ·simp [h];omega
 ·simp [h];omega
theorem dM (z:Int) (h1 : -27670116110564327424<=z) (h2:z < -9223372036854775808):IntKind.wrap .i64 z=z+18446744073709551616:=by
 simp only [IntKind.wrap,IntKind.bits,IntKind.signed];by_cases h:z % 18446744073709551616>=9223372036854775808
 ·simp [h];omega
 ·simp [h];omega
theorem dN (z:Int) (h1:9223372036854775808<=z) (h2:z<27670116110564327424):IntKind.wrap .i64 z=z-18446744073709551616:=by
 simp only [IntKind.wrap,IntKind.bits,IntKind.signed];by_cases h:z % 18446744073709551616>=9223372036854775808
 ·simp [h];omega
 ·simp [h];omega
theorem Am (i n:Nat) (h:i<n) (hn:n<=9223372036854775807):IntKind.wrap .i64 ((i:Int)+1)=((i+1:Nat):Int):=by
 rw [AN _ (by omega) (by omega)];omega
theorem bO (i n:Nat) (h0:0<i) (h:i<n) (hn:n<=9223372036854775807):IntKind.wrap .i64 ((i:Int)-1)=((i-1:Nat):Int):=by
 rw [AN _ (by omega) (by omega)];omega
def Ah {α:Type} [Inhabited α] (l:List α) (i:Nat):α:=l[i]?.getD default
theorem Ai {α:Type} [Inhabited α] {l:List α} {i:Nat} (h:i<l.length):l[Int.toNat (i:Int)]? = some (Ah l i):=by
 simp [Ah,h]
theorem Cs {α:Type} [Inhabited α] {l:List α} {i:Nat} (h:i<l.length):l[i]? = some (Ah l i):=by
 simp [Ah,h]
theorem Au {α:Type} [Inhabited α] {l:List α} {i:Nat} (h:i<l.length):Ah l i∈l:=by
 have:Ah l i=l[i]:=by simp [Ah,h]
 rw [this];exact List.getElem_mem h
theorem Du {α:Type} [Inhabited α] {l:List α} {i:Nat} (h:i<l.length):Ah l i=l[i]:=by
 simp [Ah,h]
theorem Ez {α:Type} [Inhabited α] {l:List α} {x:α} (h:x∈l):∃ i,i<l.length/\Ah l i=x:=by
 obtain ⟨i,hi,rfl⟩:=List.mem_iff_getElem.1 h;exact ⟨i,hi,Du hi⟩
theorem Ap {α:Type} (i:Nat) (k:Option α):gd (decide ((0:Int)<=(i:Int))) k=k:=by simp
theorem IE {α:Type} (i:Int) (k:Option α):gd (decide (i<=i)) k=k:=by simp
theorem Aq {α:Type} {p:Prop} [Decidable p] (h:p) (k:Option α):gd (decide p) k=k:=by simp [h]
theorem Ad (i n:Nat):decide ((i:Int)<(n:Int))=decide (i<n):=by simp
theorem mV (i n:Nat):decide ((i:Int)<=(n:Int))=decide (i<=n):=by simp
theorem Gt (i:Nat):decide ((i:Int)>(0:Int))=decide (0<i):=by simp
theorem Ji (i:Nat):((i:Int)==(0:Int))=decide (i=0):=by
 rw [Bool.eq_iff_iff];simp
def Bo (p:Nat->Bool):Nat->Nat->Bool
 |_,0=>true
 |s,m+1=>p s&&Bo p (s+1) m
theorem AY (p:Nat->Bool):∀ (m s:Nat),Bo p s m=true↔∀ i,s<=i->i<s+m->p i=true
 |0,s=>by simp [Bo];omega
 |m+1,s=>by
  rw [Bo,Ajb,AY p m (s+1)];constructor
  ·rintro ⟨h1,h2⟩ i hi hi';by_cases h:i=s
   ·subst h;exact h1
   ·exact h2 i (by omega) (by omega)
  ·intro h;exact ⟨h s (Nat.le_refl _) (by omega),fun i h1 h2=>h i (by omega) (by omega)⟩
theorem Rx {p q:Nat->Bool} (m s:Nat) (h:∀ i,s<=i->i<s+m->p i=q i):Bo p s m=Bo q s m:=by
 rw [Bool.eq_iff_iff,AY,AY];constructor
 ·intro g i h1 h2;rw [<-h i h1 h2];exact g i h1 h2
 ·intro g i h1 h2;rw [h i h1 h2];exact g i h1 h2
theorem ig (p q:Nat->Bool) (m s:Nat):Bo (fun i=>p i&&q i) s m=(Bo p s m&&Bo q s m):=by
 rw [Bool.eq_iff_iff,Ajb,AY,AY,AY];constructor
 ·intro h;exact ⟨fun i h1 h2=>by have:=h i h1 h2;simp at this;exact this.1,fun i h1 h2=>by have:=h i h1 h2;simp at this;exact this.2⟩
 ·rintro ⟨h,g⟩ i h1 h2;simp [h i h1 h2,g i h1 h2]
theorem EM {α:Type} [Inhabited α] (q:α->Bool) (l:List α):Bo (fun i=>q (Ah l i)) 0 l.length=l.all q:=by
 rw [Bool.eq_iff_iff,AY,List.all_eq_true];constructor
 ·intro h x hx;obtain ⟨i,hi,rfl⟩:=Ez hx;exact h i (Nat.zero_le _) (by omega)
 ·intro h i _ hi;exact h _ (Au (by omega))
theorem Ca {X β:Type} {R:(X->Option β)->X->Option β} (st:Nat->X) (p:Nat->Bool) (yes no:Option β):∀ (m s k:Nat),
  (∀ i,s<=i->i<s+m->∀ rec,R rec (st i)=cond (p i) (rec (st (i+1))) no)->
  (∀ rec,R rec (st (s+m))=yes)->m<k->iter R k (st s)=cond (Bo p s m) yes no
 |0,s,k+1,_,hn,_=>by simp only [iter,Bo,Ai7];exact hn _
 |m+1,s,k+1,hs,hn,hk=>by
  simp only [iter];rw [hs s (Nat.le_refl _) (by omega),Ca st p yes no m (s+1) k (fun i h1 h2=>hs i (by omega) (by omega)) (fun rec=>by rw [show s+1+m=s+(m+1) by omega];exact hn rec) (by omega)];simp only [Bo];cases p s<;>rfl
theorem Aj {m:Nat} (h:m<18446744073709551616):m<Af:=by rw [MH];exact h
theorem Ay {X β S:Type} {R:(X->Option β)->X->Option β} (st:Nat->S->X) (go:Nat->S->Option β) (n:Nat) (I:Nat->S->Prop)
  (hs:∀ i s,i<n->I i s->∀ rec:X->Option β,(∀ s',I (i+1) s' ->rec (st (i+1) s')=go (i+1) s')->R rec (st i s)=go i s)
  (hn:∀ s,I n s->∀ rec,R rec (st n s)=go n s):∀ (k i:Nat) (s:S),i<=n->n-i<k->I i s->iter R k (st i s)=go i s
 |k+1,i,s,hi,hk,hI=>by
  simp only [iter];by_cases h:i=n
  ·subst h;exact hn s hI _
  ·exact hs i s (by omega) hI _ fun s' hI' =>Ay st go n I hs hn k (i+1) s' (by omega) (by omega) hI'
theorem Bn:∀ (a b:List UInt8),Op.bytesLess a b=decide (Lib.compareBytes a b<0)
 |[],[]=>by simp [Op.bytesLess,Lib.compareBytes]
 |[],_::_=>by simp [Op.bytesLess,Lib.compareBytes]
 |_::_,[]=>by simp [Op.bytesLess,Lib.compareBytes]
 |a::x,b::y=>by
  have ih:=Bn x y;simp only [Op.bytesLess,Lib.compareBytes];by_cases h1:a<b
  ·simp [h1]
  ·by_cases h2:b<a
   ·have:a≠b:=by rintro rfl;exact h1 h2
    simp [h1,h2,this]
   ·have:a=b:=by
     rcases Classical.em (a=b) with h | h
     ·exact h
     ·exact absurd (UInt8.lt_or_lt_of_ne h) (by simp [h1,h2])
    subst this;simp [h1,ih]
theorem AC:∀ (a b:List UInt8),Lib.compareBytes a b=0↔a=b
 |[],[]=>by simp [Lib.compareBytes]
 |[],_::_=>by simp [Lib.compareBytes]
 |_::_,[]=>by simp [Lib.compareBytes]
 |a::x,b::y=>by
  have ih:=AC x y;simp only [Lib.compareBytes];by_cases h1:a<b
  ·have:a≠b:=by rintro rfl;exact UInt8.lt_irrefl a h1
   simp [h1,this]
  ·by_cases h2:b<a
   ·have:a≠b:=by rintro rfl;exact h1 h2
    simp [h1,h2,this]
   ·have:a=b:=by
     rcases Classical.em (a=b) with h | h
     ·exact h
     ·exact absurd (UInt8.lt_or_lt_of_ne h) (by simp [h1,h2])
    subst this;simp [h1,ih]
theorem Bj (a:List UInt8):Op.bytesLess a a=false:=by
 rw [Bn,(AC a a).2 rfl];rfl
theorem Cd:∀ (a b c:List UInt8),Op.bytesLess a b=true->Op.bytesLess b c=true->Op.bytesLess a c=true
 |_,_,[],_,h=>by simp [Op.bytesLess] at h
 |_,[],_::_,h,_=>by simp [Op.bytesLess] at h
 |[],_::_,_::_,_,_=>by simp [Op.bytesLess]
 |a::x,b::y,c::z,h1,h2=>by
  have ih:=Cd x y z;simp only [Op.bytesLess,Ajc,Ajg,Ajb,beq_iff_eq] at h1 h2 ⊢;rcases h1 with h1 | ⟨h1,h1'⟩<;>rcases h2 with h2 | ⟨h2,h2'⟩
  ·exact .inl (UInt8.lt_trans h1 h2)
  ·subst h2;exact .inl h1
  ·subst h1;exact .inl h2
  ·subst h1;subst h2;exact .inr ⟨rfl,ih h1' h2'⟩
theorem VF {a b:List UInt8} (h:Op.bytesLess a b=true):a≠b:=by
 rintro rfl;rw [Bj] at h;cases h
theorem ZJ (a b:List UInt8) (h1:Op.bytesLess a b=false) (h2:a≠b):Op.bytesLess b a=true:=by
 revert b;induction a with
 |nil=>
  intro b h1 h2;cases b with
  |nil=>exact absurd rfl h2
  |cons=>simp [Op.bytesLess] at h1
 |cons a x ih=>
  intro b h1 h2;cases b with
  |nil=>simp [Op.bytesLess]
  |cons b y=>
   simp only [Op.bytesLess,Bool.or_eq_false_iff,decide_eq_false_iff_not,Bool.and_eq_false_iff,Ajc,Ajg,Ajb,beq_iff_eq] at h1 ⊢;by_cases hab:a=b
   ·subst hab;refine .inr ⟨rfl,ih y ?_ ?_⟩
    ·rcases h1.2 with h | h
     ·simp at h
     ·exact h
    ·rintro rfl;exact h2 rfl
   ·rcases UInt8.lt_or_lt_of_ne hab with h | h
    ·exact absurd h h1.1
    ·exact .inl h
def yb {α:Type} (e0:Unit->Option (Int×Unit)) (er:Int×Unit->Option (Int×Unit)) (rec:List α×(α->Option Bool)×Int×Int×Unit->Option (Int×Unit)) (x2:List α×(α->Option Bool)×Int×Int×Unit):Option (Int×Unit):=
 cond (decide (x2.2.2.2.1<x2.2.2.1))
  (gd (decide ((0:Int)<=x2.2.2.2.1))
  (Option.bind x2.1[(Int.toNat x2.2.2.2.1)]? fun y5=>
  (Option.bind (x2.2.1 y5) fun y6=>
  (cond y6
  (er (x2.2.2.2.1,()))
  (rec (x2.1,x2.2.1,x2.2.2.1,(IntKind.wrap IntKind.i64 (x2.2.2.2.1+(1:Int))),()))))))
  (e0 (()))
noncomputable def r5 {α:Type} (a0:List α) (a1:α->Option Bool):Option (Int×Unit):=
 iter (yb (fun y7=>some ((-(1:Int)),())) (fun y8=>some (y8.1,()))) Af (a0,a1,(((List.length a0):Nat):Int),(0:Int),())
def Ba {α:Type} (p:α->Bool):Nat->List α->Int
 |_,[]=>-1
 |i,a::l=>cond (p a) i (Ba p (i+1) l)
theorem GB {α:Type} (p:α->Bool):∀ (i:Nat) (l:List α),decide (Ba p i l>=0)=l.any p
 |_,[]=>by simp [Ba]
 |i,a::l=>by
  have ih:=GB p (i+1) l;rcases Bool.eq_false_or_eq_true (p a) with h | h
  ·simp [Ba,h]
  ·simpa [Ba,h] using ih
theorem Ac {α:Type} [Inhabited α] {l:List α} {i:Nat} (h:i<l.length):l.drop i=Ah l i::l.drop (i+1):=by
 rw [List.drop_eq_getElem_cons h,Du h]
theorem Ry {α:Type} [Inhabited α] (p:α->Bool) (l:List α) (f:α->Option Bool) (hf:∀ x,x∈l->f x=some (p x)) (hl:l.length<=9223372036854775807) :
  r5 l f=some (Ba p 0 l,()):=by
 unfold r5
 have:=Ay (R:=yb (fun y7=>some ((-(1:Int)),())) (fun y8=>some (y8.1,()))) (S:=Unit) (fun i _=>(l,f,((l.length:Nat):Int),(i:Int),()))
  (fun i _=>some (Ba p i (l.drop i),())) l.length (fun _ _=>True)
  (fun i s hi _ rec hrec=>by
   simp only [yb,Ad,hi,decide_true,Ai7,Ap,Ai hi,Ai5,hf _ (Au hi),Am i _ hi hl];rw [Ac hi,Ba,hrec () trivial];cases p (Ah l i)<;>rfl)
  (fun s _ rec=>by simp [yb,Ba]) Af 0 () (Nat.zero_le _) (Aj (by omega)) trivial
 simpa using this
def LS {α:Type} (L:Nat->α->Prop) (n:Nat) (l:List α):Prop:=l.length<=n/\∀ x,x∈l->L n x
theorem bP {α:Type} [Inhabited α] {l:List α} {r:α->α->Bool} (tr:∀ a b c,r a b=true->r b c=true->r a c=true)
  (h:∀ i,0<i->i<l.length->r (Ah l (i-1)) (Ah l i)=true):∀ (d i:Nat),i+d+1<l.length->r (Ah l i) (Ah l (i+d+1))=true
 |0,i,hi=>by have:=h (i+1) (by omega) (by omega);simpa using this
 |d+1,i,hi=>tr _ _ _ (bP tr h d i (by omega)) (by have:=h (i+(d+1)+1) (by omega) (by omega);rwa [Nat.add_sub_cancel] at this)
theorem Kj {α:Type} [Inhabited α] {l:List α} {r:α->α->Bool} (tr:∀ a b c,r a b=true->r b c=true->r a c=true)
  (h:∀ i,0<i->i<l.length->r (Ah l (i-1)) (Ah l i)=true) {i j:Nat} (hij:i<j) (hj:j<l.length):r (Ah l i) (Ah l j)=true:=by
 have:=bP tr h (j-i-1) i (by omega);rwa [show i+(j-i-1)+1=j by omega] at this
abbrev Ae:Type:=Int×(Int×(List UInt8×Unit))
abbrev Bk:Type:=List UInt8×(Ae×Unit)
abbrev BG:Type:=List UInt8×(Bool×Unit)
abbrev Ht:Type:=List UInt8×(List BG×Unit)
abbrev CI:Type:=Int×(List UInt8×(Ae×Unit))
abbrev DQ:Type:=List CI×Unit
abbrev Dv:Type:=List DQ×Unit
def wt (n:Nat) (t:List UInt8):Prop:=t.length<=n
def Dd (n:Nat) (v:Ae):Prop:=v.2.2.1.length<=n
def Nl (n:Nat) (p:BG):Prop:=p.1.length<=n
def ij (n:Nat) (d:Ht):Prop:=d.1.length<=n/\LS Nl n d.2.1
def ik (n:Nat) (t:CI):Prop:=t.2.1.length<=n/\Dd n t.2.2.1
def mW (n:Nat) (c:DQ):Prop:=LS ik n c.1
def VG (n:Nat) (f:Dv):Prop:=LS mW n f.1
def inR (n lo hi:Int):Bool:=decide (lo<=n)&&decide (n<=hi)
def Hu (a:Int):Bool:=(decide (a>=97)&&decide (a<=122))||((decide (a>=65)&&decide (a<=90))||(a==95))
def isDig (a:Int):Bool:=decide (a>=48)&&decide (a<=57)
def IF (t:List UInt8) (i:Nat):Int:=(((Ah t i).toNat:Nat):Int)
def Nn (t:List UInt8):Bool:=inR t.length 1 40&&Bo (fun i=>Hu (IF t i)||(isDig (IF t i)&&decide (0<i))) 0 t.length
def shortM (t:List UInt8):Bool:=decide ((t.length:Int)<=12)&&Nn t
def BO (c:UInt8):List UInt8->List (List UInt8)
 |[]=>[[]]
 |b::r=>if b=c then []::BO c r else (b::(BO c r).headD [])::(BO c r).tail
theorem bQ (c:UInt8):∀ l,BO c l≠[]
 |[]=>by simp [BO]
 |b::r=>by unfold BO;split<;>simp
theorem XL (c:UInt8):∀ l,(BO c l).length=l.countP (· == c)+1
 |[]=>rfl
 |b::r=>by
  have ih:=XL c r;unfold BO;by_cases h:b=c
  ·simp [h,ih]
  ·simp only [h,if_false,Aja,List.length_tail,ih];rw [List.countP_cons_of_neg (by simpa using h)];omega
theorem XM (c:UInt8) (l:List UInt8):(BO c l).length<=l.length+1:=by
 rw [XL];have:=List.countP_le_length (p:=(· == c)) (l:=l);omega
theorem Jj (c:UInt8):∀ (l:List UInt8) (x:List UInt8),x∈BO c l->x.length<=l.length
 |[],x,h=>by simp [BO] at h;subst h;exact Nat.le_refl _
 |b::r,x,h=>by
  unfold BO at h;split at h
  ·cases h with
   |head=>exact Nat.zero_le _
   |tail _ h=>have:=Jj c r x h;simp only [Aja];omega
  ·cases h with
   |head=>
    have:(BO c r).headD []∈BO c r:=by
     cases hc:BO c r with
     |nil=>exact absurd hc (bQ c r)
     |cons y t=>simp
    have:=Jj c r _ this;simp only [Aja];omega
   |tail _ h=>have:=Jj c r x (List.mem_of_mem_tail h);simp only [Aja];omega
def VH (p:List UInt8) (l:List (List UInt8)):List (List UInt8):=(p++l.headD [])::l.tail
theorem XN (c:UInt8) (l:List UInt8):VH [] (BO c l)=BO c l:=by
 have:=bQ c l;unfold VH;cases h:BO c l with
 |nil=>exact absurd h this
 |cons=>rfl
theorem il (c:UInt8) (r:List UInt8) (p:List UInt8):VH p (BO c (c::r))=p::BO c r:=by
 simp [BO,VH]
theorem dO (c b:UInt8) (r:List UInt8) (p:List UInt8) (h:b≠c):VH p (BO c (b::r))=VH (p++[b]) (BO c r):=by
 simp [BO,VH,h]
def Cm (t:List UInt8):Bool:=decide ((t.length:Int)<=50)&&(decide (((BO 46 t).length:Int)<=4)&&(BO 46 t).all shortM)
def Gn (d:Ht):Bool:=
 shortM d.1&&(inR d.2.1.length 1 2&&(d.2.1.all (fun p=>Cm p.1)&&((((d.2.1.length:Nat):Int)==1) || !((Ah d.2.1 0).1==(Ah d.2.1 1).1))))
def DD (n b:Int):Int:=IntKind.wrap .i64 (IntKind.wrap .i64 (n*256)+b)
def JL (l:List UInt8):Int:=l.foldl (fun n b=>DD n (((b.toNat:Nat)):Int)) 0
def Br:List UInt8->Option (Ae×List UInt8)
 |[]=>none
 |k::r=>
  if k=0 then some ((0,0,[],()),r)
  else if k=1 then (if r.length<1 then none else some ((1,IF r 0,[],()),r.drop 1))
  else if k=2 then (if r.length<8 then none else if IF r 0>127 then none else some ((2,IntKind.wrap .i64 (JL (r.take 8)-4611686018427387904),[],()),r.drop 8))
  else if k=3\/k=4\/k=5 then
   (if r.length<2 then none else if r.length<2+(JL (r.take 2)).toNat then none
    else some (((k.toNat:Int),0,(r.drop 2).take (JL (r.take 2)).toNat,()),r.drop (2+(JL (r.take 2)).toNat)))
  else none
theorem EE:∀ {t:List UInt8} {v:Ae} {r:List UInt8},Br t=some (v,r)->r.length<t.length
 |[],v,r,h=>by cases h
 |k::t,v,r,h=>by
  simp only [Br] at h
  repeat' split at h
  all_goals first | (cases h;done) | (injection h with h;injection h with _ h;subst h;simp only [List.length_drop,Aja];omega)
theorem OZ:∀ {t:List UInt8} {v:Ae} {r:List UInt8},Br t=some (v,r)->v.2.2.1.length<=t.length
 |[],v,r,h=>by cases h
 |k::t,v,r,h=>by
  simp only [Br] at h
  repeat' split at h
  all_goals first | (cases h;done) | (injection h with h;injection h with h _;subst h;simp only [List.length_take,List.length_drop,Aja,Ajd];omega)
def LV:Nat->List UInt8->Option (List Ae)
 |0,t=>if t=[] then some [] else none
 |k+1,t=>if t=[] then some [] else (Br t).bind fun x=>(LV k x.2).map (x.1 :: ·)
def BU (t:List UInt8):Option (List Ae):=LV t.length t
theorem XO:∀ (k:Nat) (t:List UInt8),t.length<=k->LV k t=LV t.length t:=by
 intro k;induction k using Nat.strongRecOn with
 |ind k ih=>
  intro t h;cases t with
  |nil=>cases k<;>simp [LV]
  |cons a t=>
   cases k with
   |zero=>simp at h
   |succ k=>
    simp only [Aja,LV];cases hn:Br (a::t) with
    |none=>rfl
    |some x=>
     have hl:=EE (v:=x.1) (r:=x.2) hn;simp only [Aja] at hl h;simp only [Ai5];rw [ih k (by omega) x.2 (by omega),ih t.length (by omega) x.2 (by omega)]
theorem Gp:BU []=some []:=rfl
theorem DX {t:List UInt8} (h:t≠[]):BU t=(Br t).bind fun x=>(BU x.2).map (x.1 :: ·):=by
 unfold BU;cases t with
 |nil=>exact absurd rfl h
 |cons a t=>
  rw [Aja,LV];simp only [reduceCtorEq,if_false];cases hn:Br (a::t) with
  |none=>rfl
  |some x=>
   have hl:=EE (v:=x.1) (r:=x.2) hn;simp only [Aja] at hl;simp only [Ai5];rw [XO t.length x.2 (by omega)]
def Ce:List UInt8->Option (Bk×List UInt8)
 |[]=>none
 |n::r=>if r.length<n.toNat then none else (Br (r.drop n.toNat)).bind fun x=>some ((r.take n.toNat,x.1,()),x.2)
theorem HS:∀ {t:List UInt8} {v:Bk} {r:List UInt8},Ce t=some (v,r)->r.length<t.length
 |[],v,r,h=>by cases h
 |n::t,v,r,h=>by
  simp only [Ce] at h;split at h
  ·cases h
  ·cases hn:Br (t.drop n.toNat) with
   |none=>rw [hn] at h;cases h
   |some x=>
    rw [hn] at h;injection h with h;injection h with _ h;subst h
    have:=EE (v:=x.1) (r:=x.2) hn;simp only [List.length_drop,Aja] at this ⊢;omega
def HT:Nat->List UInt8->Option (List Bk)
 |0,t=>if t=[] then some [] else none
 |k+1,t=>if t=[] then some [] else (Ce t).bind fun x=>(HT k x.2).map (x.1 :: ·)
def AG (t:List UInt8):Option (List Bk):=HT t.length t
theorem VI:∀ (k:Nat) (t:List UInt8),t.length<=k->HT k t=HT t.length t:=by
 intro k;induction k using Nat.strongRecOn with
 |ind k ih=>
  intro t h;cases t with
  |nil=>cases k<;>simp [HT]
  |cons a t=>
   cases k with
   |zero=>simp at h
   |succ k=>
    simp only [Aja,HT];cases hn:Ce (a::t) with
    |none=>rfl
    |some x=>
     have hl:=HS (v:=x.1) (r:=x.2) hn;simp only [Aja] at hl h;simp only [Ai5];rw [ih k (by omega) x.2 (by omega),ih t.length (by omega) x.2 (by omega)]
theorem CR {t:List UInt8} (h:t≠[]):AG t=(Ce t).bind fun x=>(AG x.2).map (x.1 :: ·):=by
 unfold AG;cases t with
 |nil=>exact absurd rfl h
 |cons a t=>
  rw [Aja,HT];simp only [reduceCtorEq,if_false];cases hn:Ce (a::t) with
  |none=>rfl
  |some x=>
   have hl:=HS (v:=x.1) (r:=x.2) hn;simp only [Aja] at hl;simp only [Ai5];rw [VI t.length x.2 (by omega)]
def GL (g:Ae->Bool) (more:Bool) (v:Ae):Bool:=
 if v.1=0 then (v.2.1==0)&&(v.2.2.1==[])
 else if v.1=1 then inR v.2.1 0 1&&(v.2.2.1==[])
 else if v.1=2 then inR v.2.1 (-1000000000000) 1000000000000&&(v.2.2.1==[])
 else if v.1=3 then (v.2.1==0)&&decide (((v.2.2.1.length:Nat):Int)<=300)
 else if v.1=4 then (v.2.1==0)&&(decide (((v.2.2.1.length:Nat):Int)<=300)&&(more&&(match BU v.2.2.1 with | none=>false | some l=>l.all g)))
 else if v.1=5 then (v.2.1==0)&&(decide (((v.2.2.1.length:Nat):Int)<=300)&&(more&&(match AG v.2.2.1 with
  |none=>false
  |some l=>Bo (fun i=>shortM (Ah l i).1&&((decide (i=0)||Op.bytesLess (Ah l (i-1)).1 (Ah l i).1)&&g (Ah l i).2.1)) 0 l.length)))
 else false
def AH:Nat->Ae->Bool
 |0=>GL (fun _=>false) false
 |d+1=>GL (AH d) true
def Hv (v:Ae):Bool:=AH 5 v
def Dw (v:Ae):Bool:=(v.1==5)&&Hv v
def BJ (l:List Bk) (name:List UInt8):Ae×(Bool×Unit):=match l.find? (fun f=>f.1==name) with
 |none=>((0,0,[],()),false,())
 |some f=>(f.2.1,true,())
def TD (x:Ae×(Bool×Unit)):Int:=cond x.2.1 (cond (x.1.1==2) (cond (inR x.1.2.1 0 99) x.1.2.1 (-1)) (-1)) (-1)
def bR (l:List Bk):Int:=TD (BJ l [105,100])
def CA (v:Ae):Int:=match AG v.2.2.1 with | none=>-1 | some l=>bR l
def BV (t:CI):Bool:=
 Cm t.2.1&&(Hv t.2.2.1&&(if t.1=7 then t.2.2.1.1==4 else if t.1=8 then t.2.2.1.1==1 else if t.1=9 then (t.2.2.1.1==2)&&inR t.2.2.1.2.1 0 5
  else if t.1=10 then (t.2.2.1.1==2)&&decide (t.2.2.1.2.1>=0) else inR t.1 1 6))
def BW (f:Dv):Bool:=inR f.1.length 1 3&&f.1.all fun c=>decide (((c.1.length:Nat):Int)<=4)&&c.1.all BV
theorem Eu (a b c:Int):TC a b c=some (inR a b c,()):=by
 unfold TC inR;cases decide (b<=a)<;>rfl
theorem CE (a b c:Int):WH a b c=some (inR a b c,()):=by
 unfold WH inR;cases decide (b<=a)<;>rfl
theorem Np (a:Int):fQ a=some (Hu a,()):=by
 unfold fQ Hu;cases decide (a>=97)<;>cases decide (a<=122)<;>cases decide (a>=65)<;>cases decide (a<=90)<;>rfl
theorem XP (a:Int):kK a=some (Hu a,()):=by
 unfold kK Hu;cases decide (a>=97)<;>cases decide (a<=122)<;>cases decide (a>=65)<;>cases decide (a<=90)<;>rfl
theorem XQ (a:Int):jQ a=some (isDig a,()):=by
 unfold jQ isDig;cases decide (a>=48)<;>rfl
theorem ZK (a:Int):kM a=some (isDig a,()):=by
 unfold kM isDig;cases decide (a>=48)<;>rfl
theorem ZL (t:List UInt8):jS t=some (Nn t,()):=by
 unfold jS;rcases Nat.lt_or_ge t.length 1 with h | h
 ·have:t=[]:=List.eq_nil_of_length_eq_zero (by omega);subst this;rfl
 rcases Nat.lt_or_ge 40 t.length with h2 | h2
 ·have h3:decide (((t.length:Nat):Int)<1)=false:=by simp;omega
  have h4:decide (((t.length:Nat):Int)>40)=true:=by simp;omega
  rw [h3,h4];have h5:inR ((t.length:Nat):Int) 1 40=false:=by simp [inR];omega
  simp [Nn,h5]
 ·have h3:decide (((t.length:Nat):Int)<1)=false:=by simp;omega
  have h4:decide (((t.length:Nat):Int)>40)=false:=by simp;omega
  have h5:inR ((t.length:Nat):Int) 1 40=true:=by simp [inR];omega
  have h6:t[Int.toNat (0:Int)]? = some (Ah t 0):=Ai (i:=0) (by omega);simp only [h3,h4,Ai6,h6,Ai5,Np];obtain ⟨m,hm⟩:∃ m,t.length=m+1:=⟨t.length-1,by omega⟩
  have e:=Ca (R:=ML (fun y14=>(some (true,()))) (fun y15=>(some (y15.1,())))) (fun i=>(t,(i:Int),())) (fun i=>Hu (IF t i)||isDig (IF t i)) (some (true,())) (some (false,())) m 1 Af
   (fun i hi hi' rec=>by
    have hi2:i<t.length:=by omega
    simp only [ML,Ad,hi2,decide_true,Ai7,Ap,Ai hi2,Ai5,Np,XQ,Am i _ hi2 (by omega),IF];cases Hu (((Ah t i).toNat:Nat):Int)<;>cases isDig (((Ah t i).toNat:Nat):Int)<;>rfl)
   (fun rec=>by
    have:¬(1+m<t.length):=by omega
    simp only [ML,Ad,this,decide_false,Ai6]) (Aj (by omega))
  rw [show (1:Int)=((1:Nat):Int) from rfl,e];rw [hm] at h5;simp only [Nn,hm,h5,Bo,Bool.true_and]
  rw [Rx (p:=fun i=>Hu (IF t i)||(isDig (IF t i)&&decide (0<i))) (q:=fun i=>Hu (IF t i)||isDig (IF t i)) m 1 (fun i h1 _=>by
   have:decide (0<i)=true:=by simp;omega
   simp only [this,Bool.and_true])]
  simp only [IF,Nat.lt_irrefl,decide_false,Bool.and_false,Bool.or_false];cases Hu (((Ah t 0).toNat:Nat):Int)<;>simp;cases Bo (fun i=>Hu (((Ah t i).toNat:Nat):Int)||isDig (((Ah t i).toNat:Nat):Int)) 1 m<;>rfl
theorem SU (t:List UInt8) (ht:t.length<=1048576):xr t=some (Nn t,()):=by
 unfold xr
 have e:=Ca (R:=Ro (fun y11=>(Option.bind (WH (((List.length y11.1):Nat):Int) (1:Int) (40:Int)) fun y13=>(some (y13.1,())))) (fun y12=>(some (y12.1,())))) (fun i=>(t,(t.length:Int),(i:Int),())) (fun i=>Hu (IF t i)||(isDig (IF t i)&&decide (0<i))) (some (inR t.length 1 40,())) (some (false,())) t.length 0 Af
  (fun i hi hi' rec=>by
   have hi2:i<t.length:=by omega
   simp only [Ro,Ad,hi2,decide_true,Ai7,Ap,Ai hi2,Ai5,XP,ZK,Ji,Am i _ hi2 (by omega),IF];rcases Nat.eq_zero_or_pos i with h0 | h0
   ·subst h0;cases Hu (((Ah t 0).toNat:Nat):Int)<;>cases isDig (((Ah t 0).toNat:Nat):Int)<;>rfl
   ·have e1:decide (i=0)=false:=by simp;omega
    have e2:decide (0<i)=true:=by simp;omega
    simp only [e1,e2];cases Hu (((Ah t i).toNat:Nat):Int)<;>cases isDig (((Ah t i).toNat:Nat):Int)<;>rfl)
  (fun rec=>by
   have:¬(0+t.length<t.length):=by omega
   simp only [Ro,Ad,this,decide_false,Ai6,CE,Ai5]) (Aj (by omega))
 refine e.trans ?_;simp only [Nn];cases Bo (fun i=>Hu (IF t i)||(isDig (IF t i)&&decide (0<i))) 0 t.length<;>simp
theorem SV (t:List UInt8):jU t=some (Nn t,()):=by
 unfold jU;rw [ZL];rfl
theorem Hw (t:List UInt8):n9 t=some (shortM t,()):=by
 unfold n9 shortM;rw [SV];simp only [Ai5];cases Nn t<;>simp
theorem Hx (t:List UInt8) (ht:t.length<=1048576):nA t=some (shortM t,()):=by
 unfold nA shortM;rw [SU t ht];cases decide (((t.length:Nat):Int)<=12)<;>rfl
theorem TE (t:List UInt8) (c:UInt8) (ht:t.length<=1048576):dA t ((c.toNat:Nat):Int)=some (BO c t,()):=by
 unfold dA
 have key:∀ (E:List UInt8×Int×List (List UInt8)×Unit->Option (List (List UInt8)×Unit)),(∀ (f:Nat) (out:List (List UInt8)),f<=t.length->out.length<=t.length->E (t,(f:Int),out,())=some (out++[t.drop f],()))->
   ∀ (k i f:Nat) (out:List (List UInt8)),i<=t.length->f<=i->out.length<=i->t.length-i<k->
   iter (PV E) k (t,((c.toNat:Nat):Int),(f:Int),(i:Int),out,())=some (out++VH ((t.take i).drop f) (BO c (t.drop i)),()):=by
  intro E hE k;induction k with
  |zero=>intro i f out _ _ _ h;omega
  |succ k ih=>
   intro i f out hi hf ho hk;simp only [iter,PV,Ad];by_cases hin:i<t.length
   ·simp only [hin,decide_true,Ai7,Ap,Ai hin,Ai5,Am i _ hin (by omega)];rw [Ac hin]
    have ht1:t.take (i+1)=t.take i++[Ah t i]:=by
     rw [List.take_add_one,Cs hin];rfl
    by_cases hb:Ah t i=c
    ·have:((((Ah t i).toNat:Nat):Int)==((c.toNat:Nat):Int))=true:=by rw [hb];simp
     rw [this];simp only [Ai7,Int.toNat_natCast];rw [Aq (by omega),Aq (by omega)];rw [Aq (by simp only [A_,Aja,Ajd];omega)];rw [ih (i+1) (i+1) _ (by omega) (by omega) (by simp only [Ai9,Aja,Ajd];omega) (by omega)];rw [hb,il];have:(t.take (i+1)).drop (i+1)=[]:=List.drop_eq_nil_of_le (by simp;omega);rw [this,XN];simp
    ·have:((((Ah t i).toNat:Nat):Int)==((c.toNat:Nat):Int))=false:=by
      rw [beq_eq_false_iff_ne];intro h;exact hb (UInt8.toNat_inj.1 (by omega))
     rw [this];simp only [Ai6];rw [ih (i+1) f out (by omega) (by omega) (by omega) (by omega),dO _ _ _ _ hb,ht1];rw [List.drop_append_of_le_length (by simp;omega)]
   ·have hi':i=t.length:=by omega
    subst hi';simp only [hin,decide_false,Ai6];rw [hE f out hf ho];simp [BO,VH]
 refine Eq.trans (key _ ?_ Af 0 0 [] (Nat.zero_le _) (Nat.le_refl _) (Nat.zero_le _) (Aj (by omega))) ?_
 ·intro f out hf ho;simp only [Int.toNat_natCast,IE,Ap];rw [Aq (by omega),Aq (by simp only [A_,Aja,Ajd];omega),List.take_length]
 ·simp only [List.take_zero,List.drop_zero,List.nil_append,XN,List.drop_nil]
theorem Ii (t:List UInt8) (ht:t.length<=1048576):rq t=some (Cm t,()):=by
 unfold rq;by_cases h1:t.length>65536
 ·have e1:decide (((t.length:Nat):Int)>65536)=true:=by simp;omega
  have e2:decide (((t.length:Nat):Int)<=50)=false:=by simp;omega
  simp only [e1,Ai7,Cm,e2,Bool.false_and]
 have e1:decide (((t.length:Nat):Int)>65536)=false:=by simp;omega
 simp only [e1,Ai6];have hc:=TE t 46 ht;rw [show (46:Int)=(((46:UInt8).toNat:Nat):Int) from rfl,hc,Ai5];by_cases h2:(BO 46 t).length>4
 ·have e1:decide ((((BO 46 t).length:Nat):Int)>4)=true:=by simp;omega
  have e2:decide ((((BO 46 t).length:Nat):Int)<=4)=false:=by simp;omega
  simp only [e1,Ai7,Cm,e2,Bool.false_and,Bool.and_false]
 have e3:decide ((((BO 46 t).length:Nat):Int)>4)=false:=by simp;omega
 have e4:decide ((((BO 46 t).length:Nat):Int)<=4)=true:=by simp;omega
 simp only [e3,Ai6];by_cases h3:t.length>50
 ·have e1:decide (((t.length:Nat):Int)>50)=true:=by simp;omega
  have e2:decide (((t.length:Nat):Int)<=50)=false:=by simp;omega
  simp only [e1,Ai7,Cm,e2,Bool.false_and,Bool.and_false]
 have e5:decide (((t.length:Nat):Int)>50)=false:=by simp;omega
 have e6:decide (((t.length:Nat):Int)<=50)=true:=by simp;omega
 simp only [e5,Ai6]
 have e:=Ca (R:=Rn (fun y10=>(some (true,()))) (fun y11=>(some (y11.1,())))) (fun i=>(BO 46 t,(i:Int),())) (fun i=>shortM (Ah (BO 46 t) i)) (some (true,())) (some (false,())) (BO 46 t).length 0 Af
  (fun i hi hi' rec=>by
   have hi2:i<(BO 46 t).length:=by omega
   simp only [Rn,Ad,hi2,decide_true,Ai7,Ap,Ai hi2,Ai5,Hw,Am i _ hi2 (by omega)];cases shortM (Ah (BO 46 t) i)<;>rfl)
  (fun rec=>by
   have:¬(0+(BO 46 t).length<(BO 46 t).length):=by omega
   simp only [Rn,Ad,this,decide_false,Ai6]) (Aj (by omega))
 refine e.trans ?_;rw [EM,Cm,e4,e6];cases (BO 46 t).all shortM<;>rfl
theorem Lr (c:UInt8):(((c.toNat:Nat):Int)).toNat.toUInt8=c:=by
 rw [Int.toNat_natCast];exact UInt8.ofNat_toNat
theorem im (s:List UInt8) (c:UInt8) (hs:s.length<=1048576):gq s [c]=some (Lib.indexByte s c,()):=by
 unfold gq oW;simp only [Aja,Ajd];by_cases h:([c]==s)=true
 ·have:s=[c]:=(eq_of_beq h).symm;subst this;simp [Lib.indexByte]
 ·have h':([c]==s)=false:=by simpa using h
  rw [h'];simp [oV,og,Lr]
theorem Of (c:UInt8):∀ (s:List UInt8),(Lib.indexByte s c = -1/\BO c s=[s]/\s.count c=0)\/
  ∃ m:Nat,Lib.indexByte s c=m/\m<s.length/\BO c s=s.take m::BO c (s.drop (m+1))/\s.count c=(s.drop (m+1)).count c+1
 |[]=>by simp [Lib.indexByte,BO]
 |b::r=>by
  by_cases h:b=c
  ·subst h;refine .inr ⟨0,by simp [Lib.indexByte],by simp,by simp [BO],by simp⟩
  ·have hb:(b==c)=false:=by simpa using h
   rcases Of c r with ⟨h1,h2,h3⟩ | ⟨m,h1,h2,h3,h4⟩
   ·refine .inl ⟨by simp [Lib.indexByte,h1,h],by simp [BO,h,h2],?_⟩;rw [List.count_cons_of_ne (by simpa using h)];exact h3
   ·refine .inr ⟨m+1,?_,by simp;omega,?_,?_⟩
    ·have:¬((m:Int) = -1):=by omega
     simp [Lib.indexByte,h,h1,this]
    ·simp [BO,h,h3]
    ·rw [List.count_cons_of_ne (by simpa using h),h4];rfl
theorem ZM (c:UInt8) (E:List UInt8×Int×List (List UInt8)×Unit->Option (List (List UInt8)×Unit))
  (hE:∀ (s:List UInt8) (i:Nat) (a:List (List UInt8)),i+1=a.length->a.length<=1048577->E (s,(i:Int),a,())=some (a.take i++[s],())) :
  ∀ (k:Nat) (s:List UInt8) (i n:Nat) (a:List (List UInt8)),s.length<=1048576->a.length=n+1->a.length<=1048577->i+s.count c=n->s.count c<k->
   iter (MX E) k (s,[c],0,(n:Int),(i:Int),a,())=some (a.take i++BO c s,()):=by
 intro k;induction k with
 |zero=>intro s i n a _ _ _ _ h;omega
 |succ k ih=>
  intro s i n a hs ha hal hn hk;simp only [iter,MX,Ad];by_cases hin:i<n
  ·simp only [hin,decide_true,Ai7,im s c hs,Ai5];rcases Of c s with ⟨h1,h2,h3⟩ | ⟨m,h1,h2,h3,h4⟩
   ·omega
   ·rw [h1];have e0:IntKind.wrap .i64 ((m:Int)+0)=(m:Int):=by rw [AN _ (by omega) (by omega)];omega
    have e1:IntKind.wrap .i64 ((m:Int)+(([c].length:Nat):Int))=((m+1:Nat):Int):=by
     simp only [Aja,Ajd];rw [AN _ (by omega) (by omega)];omega
    have hm:decide ((m:Int)<0)=false:=by simp
    have hia:i<a.length:=by omega
    simp only [hm,Ai6,e0,e1,Ap,IE,Ai hia,Ai5,Int.toNat_natCast,Am i n hin (by omega),List.take_length];rw [Aq (by omega),Aq (by omega),Cs hia,Ai5,Aq (by omega)];rw [ih (s.drop (m+1)) (i+1) n _ (by simp;omega) (by simp [ha]) (by simp [hal]) (by omega) (by omega),h3];congr 2;rw [List.take_set,List.take_add_one,Cs hia];simp [List.set_append,Nat.min_eq_left (Nat.le_of_lt hia)]
  ·have hin':i=n:=by omega
   subst hin';simp only [hin,decide_false,Ai6];rw [hE s i a (by omega) hal];rcases Of c s with ⟨h1,h2,h3⟩ | ⟨m,h1,h2,h3,h4⟩
   ·rw [h2]
   ·omega
theorem XR (s:List UInt8) (c:UInt8) (hs:s.length<=1048576):gr s [c]=some (BO c s,()):=by
 unfold gr oY;have hcount:s.count c<=s.length:=List.count_le_length
 have hF:kH s [c]=some (((s.count c:Nat):Int),()):=by
  unfold kH;simp [oe,Lr,Lib.countByte]
 have e1:((-(1:Int))==(0:Int))=false:=by decide
 have e2:(([c]:List UInt8)==[])=false:=rfl;have e3:decide ((-(1:Int))<(0:Int))=true:=by decide
 simp only [e1,e2,e3,Ai6,Ai7,hF,Ai5];have w1:IntKind.wrap .i64 (((s.count c:Nat):Int)+1)=((s.count c+1:Nat):Int):=Am _ (s.count c+1) (by omega) (by omega);have w2:IntKind.wrap .i64 (((s.length:Nat):Int)+1)=((s.length+1:Nat):Int):=Am _ (s.length+1) (by omega) (by omega)
 have w3:(cond (decide (((s.length+1:Nat):Int)<((s.count c+1:Nat):Int))) (((s.length+1:Nat):Int)) (((s.count c+1:Nat):Int)))=((s.count c+1:Nat):Int):=by
  have:decide (((s.length+1:Nat):Int)<((s.count c+1:Nat):Int))=false:=by simp;omega
  rw [this];rfl
 simp only [w1,w2,w3];rw [Aq (by omega),Aq (by omega),Aq (by omega),Aq (by omega)];have w4:IntKind.wrap .i64 (((s.count c+1:Nat):Int)-1)=((s.count c:Nat):Int):=by rw [AN _ (by omega) (by omega)];omega
 rw [w4,Int.toNat_natCast];refine Eq.trans (congrArg (fun o=>Option.bind o _) (ZM c _ ?_ Af s 0 (s.count c) (List.replicate (s.count c+1) []) hs (by simp) (by simp;omega) (by omega) (Aj (by omega)))) ?_
 ·intro s i a hi ha;have hia:i<a.length:=by omega
  have w5:IntKind.wrap .i64 ((i:Int)+1)=((i+1:Nat):Int):=Am i a.length hia (by omega);simp only [Ap,Ad,hia,decide_true,Dt,Ai hia,Ai5,w5,List.length_set,Int.toNat_natCast];rw [Aq (by omega),Cs hia,Ai5];congr 2;rw [List.take_set,List.take_add_one,Cs hia];simp [List.set_append,Nat.min_eq_left (Nat.le_of_lt hia)]
 ·simp
theorem KX {α:Type} [Inhabited α] (p:α->Bool) (l:List α) (f:α->Option Bool) (hf:∀ x,x∈l->f x=some (p x)) (hl:l.length<=1048577) :
  (Option.bind (r5 l f) fun y0=>some (decide (y0.1>=(0:Int)),()))=some (l.any p,()):=by
 rw [Ry p l f hf (by omega),Ai5];have:=GB p 0 l;simp only [this]
theorem Rz (p:List UInt8->Bool) (l) (f) (hf:∀ x,x∈l->f x=some (p x)) (hl:l.length<=1048577):xq l f=some (l.any p,()):=KX p l f hf hl
theorem XS (p:BG->Bool) (l) (f) (hf:∀ x,x∈l->f x=some (p x)) (hl:l.length<=1048577):x0 l f=some (l.any p,()):=KX p l f hf hl
theorem any_value (p:Ae->Bool) (l) (f) (hf:∀ x,x∈l->f x=some (p x)) (hl:l.length<=1048577):Xz l f=some (l.any p,()):=KX p l f hf hl
theorem any_clause (p:DQ->Bool) (l) (f) (hf:∀ x,x∈l->f x=some (p x)) (hl:l.length<=1048577):rr l f=some (l.any p,()):=KX p l f hf hl
theorem XT (p:CI->Bool) (l) (f) (hf:∀ x,x∈l->f x=some (p x)) (hl:l.length<=1048577):xp l f=some (l.any p,()):=KX p l f hf hl
theorem DY {α:Type} (p:α->Bool) (l:List α):(!l.any fun x=>!p x)=l.all p:=by
 rw [List.any_eq_not_all_not];simp
theorem Jk {α:Type} (p:α->Bool) (l:List α):(l.any fun x=>!p x) = !l.all p:=by
 rw [<-DY,Bool.not_not]
theorem Ij (t:List UInt8) (ht:t.length<=1048576):gu t=some (Cm t,()):=by
 unfold gu;rw [XR t 46 ht,Ai5,Rz (fun x=>!shortM x) _ _ ?_ ?_,Ai5]
 ·unfold Cm;simp only [DY];cases decide (((t.length:Nat):Int)<=50)<;>cases decide ((((BO 46 t).length:Nat):Int)<=4)<;>rfl
 ·intro x hx
  have:x.length<=1048576:=by
   have:=Jj 46 t x hx;omega
  simp only [pc,Hx x this,Ai5,Option.map_some]
 ·exact Nat.le_trans (XM 46 t) (by omega)
theorem dP (p:BG) (hp:Nl 1048576 p):rx p=some (Cm p.1,()):=by
 unfold rx;rw [Ij p.1 hp];rfl
theorem VJ (d:Ht) (hd:ij 1048576 d):ms d=some (Gn d,()):=by
 unfold ms;simp only [Hx d.1 hd.1,CE,Ai5];rw [XS (fun p=>!Cm p.1) _ _ ?_ ?_,Ai5]
 ·unfold Gn;simp only [Jk];cases shortM d.1
  ·rfl
  cases h1:inR ((d.2.1.length:Nat):Int) 1 2
  ·rfl
  cases d.2.1.all (fun p=>Cm p.1)
  ·rfl
  by_cases h2:d.2.1.length=1
  ·rw [h2];rfl
  ·have h3:(((d.2.1.length:Nat):Int)==1)=false:=by rw [beq_eq_false_iff_ne];omega
   have h4:d.2.1.length=2:=by simp [inR] at h1;omega
   have g0:d.2.1[Int.toNat (0:Int)]? = some (Ah d.2.1 0):=Ai (i:=0) (by omega);have g1:d.2.1[Int.toNat (1:Int)]? = some (Ah d.2.1 1):=Ai (i:=1) (by omega);simp only [h3,g0,g1,Bool.not_true,Ai6,Ai5,Bool.true_and,Bool.false_or]
 ·intro x hx;simp only [qf,dP x (hd.2.2 x hx),Ai5,Option.map_some]
 ·have:=hd.2.1;omega
theorem Nq (d:Ht) (hd:ij 1048576 d):tv d=some (Gn d,()):=by
 unfold tv;simp only [Hw,Eu,Ai5];cases h0:shortM d.1
 ·simp [Gn,h0]
 cases h1:inR ((d.2.1.length:Nat):Int) 1 2
 ·simp [Gn,h1]
 simp only [Bool.not_true,Ai6];have hl:d.2.1.length<=1048576:=hd.2.1;refine Eq.trans (Ca (fun i=>((i:Int),d,())) (fun i=>Cm (Ah d.2.1 i).1) (some (((((d.2.1.length:Nat):Int)==1) || !((Ah d.2.1 0).1==(Ah d.2.1 1).1)),())) (some (false,())) d.2.1.length 0 Af ?_ ?_ (Aj (by omega))) ?_
 ·intro i hi hi' rec;have hi2:i<d.2.1.length:=by omega
  simp only [U',Ad,hi2,decide_true,Ai7,Ap,Ai hi2,Ai5,Ii _ (hd.2.2 _ (Au hi2)),Am i _ hi2 (by omega)];cases Cm (Ah d.2.1 i).1<;>rfl
 ·intro rec;have:¬(0+d.2.1.length<d.2.1.length):=by omega
  simp only [U',Ad,this,decide_false,Ai6];by_cases h2:d.2.1.length=1
  ·rw [h2];rfl
  ·have h3:(((d.2.1.length:Nat):Int)==1)=false:=by rw [beq_eq_false_iff_ne];omega
   have h4:d.2.1.length=2:=by simp [inR] at h1;omega
   have g0:d.2.1[Int.toNat (0:Int)]? = some (Ah d.2.1 0):=Ai (i:=0) (by omega);have g1:d.2.1[Int.toNat (1:Int)]? = some (Ah d.2.1 1):=Ai (i:=1) (by omega);simp only [h3,g0,g1,Bool.not_true,Ai6,Ai5,Bool.true_and,Bool.false_or]
 ·rw [EM (fun p:BG=>Cm p.1)];unfold Gn;rw [h0,h1];cases d.2.1.all (fun p=>Cm p.1)<;>rfl
theorem XU (z:Int):IntKind.wrap .i64 z % 18446744073709551616=z % 18446744073709551616:=by
 simp only [IntKind.wrap,IntKind.bits,IntKind.signed];by_cases h:z % 18446744073709551616>=9223372036854775808
 ·simp [h]
 ·simp [h]
theorem XV {a b:Int} (h:a % 18446744073709551616=b % 18446744073709551616):IntKind.wrap .i64 a=IntKind.wrap .i64 b:=by
 simp only [IntKind.wrap,IntKind.bits,IntKind.signed];simp [h]
theorem ip (n:Int) (b:Nat) (hb:b<256) :
  IntKind.wrap .i64 (((BitVec.toNat (BitVec.ofInt (IntKind.bits .i64) (IntKind.wrap .i64 (n*((2:Int) ^ (Min.min (Int.toNat (8:Int)) (IntKind.bits .i64))))) ||| BitVec.ofInt (IntKind.bits .i64) (IntKind.wrap .i64 (b:Int)))):Nat):Int)=DD n b:=by
 have h8:((2:Int) ^ (Min.min (Int.toNat (8:Int)) (IntKind.bits .i64)))=256:=by decide
 rw [h8];have hbits:IntKind.bits .i64=64:=rfl;rw [hbits];rw [BitVec.toNat_or,BitVec.toNat_ofInt,BitVec.toNat_ofInt]
 have e1:(IntKind.wrap .i64 (n*256) % ((2 ^ 64:Nat):Int)).toNat=((n % 72057594037927936).toNat) <<< 8:=by
  have:=XU (n*256);rw [Nat.shiftLeft_eq];omega
 have e2:(IntKind.wrap .i64 ((b:Nat):Int) % ((2 ^ 64:Nat):Int)).toNat=b:=by
  rw [AN _ (by omega) (by omega)];omega
 rw [e1,e2,<-Nat.shiftLeft_add_eq_or_of_lt (by omega:b<2 ^ 8),Nat.shiftLeft_eq];unfold DD;apply XV;have:=XU (n*256);omega
theorem XW (l:List UInt8) (hl:l.length<=1048576):Xt l=some (JL l,()):=by
 unfold Xt;refine Eq.trans (Ay (S:=Int) (fun i s=>(l,s,(i:Int),())) (fun i s=>some ((l.drop i).foldl (fun n b=>DD n (((b.toNat:Nat)):Int)) s,())) l.length (fun _ _=>True) ?_ ?_ Af 0 0 (Nat.zero_le _) (Aj (by omega)) trivial) ?_
 ·intro i s hi _ rec hrec;have hb:=UInt8.toNat_lt (Ah l i);simp only [PO,Ad,hi,decide_true,Ai7,Ap,Ai hi,Ai5,Am i _ hi (by omega)];rw [AN (((Ah l i).toNat:Nat):Int) (by omega) (by omega)];refine (hrec _ trivial).trans ?_;rw [Ac hi];rfl
 ·intro s _ rec;simp [PO]
 ·simp [JL]
theorem qN (l:List UInt8) (hl:l.length<=1048576):kR (List.map (fun (v4:UInt8)=>(((UInt8.toNat v4):Nat):Int)) l)=some (JL l,()):=by
 unfold kR;rw [List.length_map];refine Eq.trans (Ay (S:=Int) (fun i s=>(s,List.map (fun (v4:UInt8)=>(((UInt8.toNat v4):Nat):Int)) l,((l.length:Nat):Int),(i:Int),())) (fun i s=>some ((l.drop i).foldl (fun n b=>DD n (((b.toNat:Nat)):Int)) s,())) l.length (fun _ _=>True) ?_ ?_ Af 0 0 (Nat.zero_le _) (Aj (by omega)) trivial) ?_
 ·intro i s hi _ rec hrec;have hb:=UInt8.toNat_lt (Ah l i)
  have hg:(List.map (fun (v4:UInt8)=>(((UInt8.toNat v4):Nat):Int)) l)[Int.toNat (i:Int)]? = some (((Ah l i).toNat:Nat):Int):=by
   rw [List.getElem?_map,Ai hi];rfl
  simp only [Qb,Ad,hi,decide_true,Ai7,Ap,hg,Ai5,Am i _ hi (by omega)];have hs:=ip s (Ah l i).toNat hb;refine (congrArg rec (show _=(DD s (((Ah l i).toNat:Nat):Int),List.map (fun (v4:UInt8)=>(((UInt8.toNat v4):Nat):Int)) l,((l.length:Nat):Int),((i+1:Nat):Int),()) from ?_)).trans ((hrec _ trivial).trans ?_)
  ·exact congrArg (fun z=>(z,List.map (fun (v4:UInt8)=>(((UInt8.toNat v4):Nat):Int)) l,((l.length:Nat):Int),((i+1:Nat):Int),())) hs
  ·rw [Ac hi];rfl
 ·intro s _ rec;simp [Qb]
 ·simp [JL]
def DE (r:List UInt8) (m:Nat):List UInt8×(List UInt8×Bool):=if r.length<m then (List.replicate m 0,r,true) else (r.take m,r.drop m,false)
def AL (r:List UInt8) (m:Nat):Int×(List UInt8×Bool):=(JL (DE r m).1,(DE r m).2)
theorem Ev (r:List UInt8) (m:Nat):(DE r m).1.length=m:=by
 unfold DE;split
 ·simp
 ·simp;omega
theorem KY (r:List UInt8) (m:Nat):(DE r m).2.1.length<=r.length:=by
 unfold DE;split<;>simp
theorem O_:∀ m:Nat,Lib.repeatL [(0:UInt8)] m=List.replicate m 0
 |0=>rfl
 |m+1=>by rw [Lib.repeatL,O_ m,List.replicate_succ];rfl
theorem VK (r:List UInt8) (f:Bool) (m:Nat) (hr:r.length<=1048576) (hm:m<=1048576) :
  XA (r,f,()) (m:Int)=some ((DE r m).1,((DE r m).2.1,(f||(DE r m).2.2),()),()):=by
 unfold XA DE;by_cases h:r.length<m
 ·have h1:decide ((m:Int)>((r.length:Nat):Int))=true:=by simp;omega
  simp only [h1,Ai7,h,if_true,fO,Aja,Ajd,Int.toNat_natCast];rw [Aq (by omega),Aq (by omega),Aq (by omega),Ai5,O_];simp
 ·have h1:decide ((m:Int)>((r.length:Nat):Int))=false:=by simp;omega
  simp only [h1,Ai6,h,if_false,Int.toNat_natCast,IE,Ap];rw [Aq (by omega),Aq (by omega)];simp
theorem RA (r:List UInt8) (f:Bool) (m:Nat) (hr:r.length<=1048576) (hm:m<=1048576) :
  SQ (r,f,()) (m:Int)=some ((AL r m).1,((AL r m).2.1,(f||(AL r m).2.2),()),()):=by
 unfold SQ AL;rw [VK r f m hr hm,Ai5,qN _ (by rw [Ev];exact hm),Ai5]
theorem Og:∀ (l:List UInt8) (j:Nat) (n:Int),0<=n->n<256 ^ j->j+l.length<=7->
  0<=l.foldl (fun n b=>DD n (((b.toNat:Nat)):Int)) n/\l.foldl (fun n b=>DD n (((b.toNat:Nat)):Int)) n<256 ^ (j+l.length)
 |[],j,n,h0,h1,_=>⟨h0,h1⟩
 |b::l,j,n,h0,h1,h2=>by
  have hb:=UInt8.toNat_lt b;simp only [Aja] at h2
  have hj:(256:Int) ^ j<=256 ^ 6:=by
   have:(256:Nat) ^ j<=256 ^ 6:=Nat.pow_le_pow_right (by decide) (by omega)
   exact_mod_cast this
  have h6:(256:Int) ^ 6=281474976710656:=by decide
  have hp:(256:Int) ^ (j+1)=256 ^ j*256:=Int.pow_succ ..
  have hs:DD n (((b.toNat:Nat)):Int)=n*256+((b.toNat:Nat):Int):=by
   unfold DD;rw [AN (n*256) (by omega) (by omega),AN _ (by omega) (by omega)]
  have:=Og l (j+1) (DD n (((b.toNat:Nat)):Int)) (by rw [hs];omega) (by rw [hs,hp];omega) (by omega);rw [List.foldl_cons,Aja,show j+(l.length+1)=j+1+l.length by omega];exact this
theorem Jl {l:List UInt8} (h:l.length<=7):0<=JL l:=(Og l 0 0 (Int.le_refl _) (by decide) (by omega)).1
theorem bS (b:UInt8):JL [b]=((b.toNat:Nat):Int):=by
 have hb:=UInt8.toNat_lt b;simp only [JL,List.foldl_cons,List.foldl_nil,DD];rw [AN (0*256) (by decide) (by decide),AN _ (by omega) (by omega)];omega
theorem LW {l:List UInt8} (h:l.length=2):JL l<65536:=by
 have:=(Og l 0 0 (Int.le_refl _) (by decide) (by omega)).2;rw [h] at this;exact this
theorem XX:∀ (l:List UInt8) (j:Nat) (n:Int),128*256 ^ j<=n->n<256 ^ (j+1)->j+l.length<=6->
  128*256 ^ (j+l.length)<=l.foldl (fun n b=>DD n (((b.toNat:Nat)):Int)) n/\l.foldl (fun n b=>DD n (((b.toNat:Nat)):Int)) n<256 ^ (j+l.length+1)
 |[],j,n,h0,h1,_=>⟨h0,h1⟩
 |b::l,j,n,h0,h1,h2=>by
  have hb:=UInt8.toNat_lt b;simp only [Aja] at h2
  have hj:(256:Int) ^ (j+1)<=256 ^ 6:=by
   have:(256:Nat) ^ (j+1)<=256 ^ 6:=Nat.pow_le_pow_right (by decide) (by omega)
   exact_mod_cast this
  have h6:(256:Int) ^ 6=281474976710656:=by decide
  have hp:(256:Int) ^ (j+1)=256 ^ j*256:=Int.pow_succ ..;have hp2:(256:Int) ^ (j+1+1)=256 ^ (j+1)*256:=Int.pow_succ ..;have h0':(0:Int)<=256 ^ j:=Int.pow_nonneg (by decide)
  have hs:DD n (((b.toNat:Nat)):Int)=n*256+((b.toNat:Nat):Int):=by
   unfold DD;rw [AN (n*256) (by omega) (by omega),AN _ (by omega) (by omega)]
  have:=XX l (j+1) (DD n (((b.toNat:Nat)):Int)) (by rw [hs,hp];omega) (by rw [hs,hp2];omega) (by omega);rw [List.foldl_cons,Aja,show j+(l.length+1)=j+1+l.length by omega];exact this
theorem SW {l:List UInt8} (h:l.length=8) (h0:IF l 0>127):JL l<0/\-9223372036854775808<=JL l:=by
 obtain ⟨a,l7,rfl⟩:∃ a l7,l=a::l7:=by cases l with | nil=>simp at h | cons a l7=>exact ⟨a,l7,rfl⟩
 simp only [Aja] at h;have ha:=UInt8.toNat_lt a;have h0:128<=((a.toNat:Nat):Int):=by simp [IF,Ah] at h0;omega
 have hl:l7=l7.take 6++[Ah l7 6]:=by
  have:=List.take_append_drop 6 l7;rw [Ac (by omega:6<l7.length),List.drop_eq_nil_of_le (by omega)] at this;exact this.symm
 have h1:DD 0 ((a.toNat:Nat):Int)=((a.toNat:Nat):Int):=by
  unfold DD;rw [AN (0*256) (by decide) (by decide),AN _ (by omega) (by omega)];omega
 have g:=XX (l7.take 6) 0 ((a.toNat:Nat):Int) (by omega) (by omega) (by rw [List.length_take];omega);have ht:(l7.take 6).length=6:=by simp;omega
 rw [ht] at g;have hb:=UInt8.toNat_lt (Ah l7 6);have e1:(128:Int)*256 ^ (0+6)=36028797018963968:=by decide
 have e2:(256:Int) ^ (0+6+1)=72057594037927936:=by decide
 rw [e1,e2] at g;rw [JL,List.foldl_cons,h1,hl,List.foldl_append,List.foldl_cons,List.foldl_nil];generalize (l7.take 6).foldl (fun n b=>DD n (((b.toNat:Nat)):Int)) ((a.toNat:Nat):Int)=m at g ⊢;unfold DD;rw [dN (m*256) (by omega) (by omega),AN _ (by omega) (by omega)];omega
def EF (r:List UInt8):Ae×(List UInt8×Bool):=
 if (AL r 1).1=1 then ((1,(AL (AL r 1).2.1 1).1,[],()),(AL (AL r 1).2.1 1).2.1,(AL r 1).2.2||(AL (AL r 1).2.1 1).2.2)
 else if (AL r 1).1=2 then ((2,IntKind.wrap .i64 ((AL (AL r 1).2.1 8).1-4611686018427387904),[],()),(AL (AL r 1).2.1 8).2.1,(AL r 1).2.2||(AL (AL r 1).2.1 8).2.2)
 else if (AL r 1).1=3\/(AL r 1).1=4\/(AL r 1).1=5 then
  (((AL r 1).1,0,(DE (AL (AL r 1).2.1 2).2.1 (AL (AL r 1).2.1 2).1.toNat).1,()),(DE (AL (AL r 1).2.1 2).2.1 (AL (AL r 1).2.1 2).1.toNat).2.1,((AL r 1).2.2||(AL (AL r 1).2.1 2).2.2)||(DE (AL (AL r 1).2.1 2).2.1 (AL (AL r 1).2.1 2).1.toNat).2.2)
 else (((AL r 1).1,0,[],()),(AL r 1).2.1,(AL r 1).2.2)
theorem GX (r:List UInt8) (m:Nat):(AL r m).2.1.length<=r.length:=KY r m
theorem XY (r:List UInt8) (f:Bool) (hr:r.length<=1048576) :
  gx (r,f,())=some ((EF r).1,((EF r).2.1,(f||(EF r).2.2),()),()):=by
 unfold gx EF;have h1:=GX r 1;have hn:=RA r f 1 hr (by decide);rw [show (1:Int)=((1:Nat):Int) from rfl,hn,Ai5];rw [show ((1:Nat):Int)=1 from rfl];generalize AL r 1=a at h1 ⊢;obtain ⟨k,r1,f1⟩:=a;dsimp only at h1 ⊢;have g1:=RA r1 (f||f1) 1 (by omega) (by decide);have g8:=RA r1 (f||f1) 8 (by omega) (by decide);have g2:=RA r1 (f||f1) 2 (by omega) (by decide);rw [show ((1:Nat):Int)=1 from rfl] at g1;rw [show ((8:Nat):Int)=8 from rfl] at g8;rw [show ((2:Nat):Int)=2 from rfl] at g2;have r2:=GX r1 2;have q:0<=(AL r1 2).1/\(AL r1 2).1<65536:=⟨Jl (by rw [Ev];decide),LW (Ev _ _)⟩;have gt:=VK (AL r1 2).2.1 ((f||f1)||(AL r1 2).2.2) (AL r1 2).1.toNat (by omega) (by omega);rw [show (((AL r1 2).1.toNat:Nat):Int)=(AL r1 2).1 by omega] at gt;by_cases c1:k=1
 ·subst c1;simp only [beq_self_eq_true,Ai7,g1,Ai5,if_true,Bool.or_assoc]
 have c1':(k==1)=false:=by simpa using c1
 by_cases c2:k=2
 ·subst c2;simp only [c1',Ai6,beq_self_eq_true,Ai7,g8,Ai5,if_true,c1,if_false,Bool.or_assoc]
 have c2':(k==2)=false:=by simpa using c2
 simp only [c1',c2',c1,c2,Ai6,if_false];by_cases c3:k=3
 ·subst c3;simp only [beq_self_eq_true,Ai7,g2,Ai5,gt,true_or,if_true];simp only [Bool.or_assoc]
 have c3':(k==3)=false:=by simpa using c3
 simp only [c3',Ai6];by_cases c4:k=4
 ·subst c4;simp only [beq_self_eq_true,Ai7,g2,Ai5,gt,true_or,or_true,if_true];simp only [Bool.or_assoc]
 have c4':(k==4)=false:=by simpa using c4
 simp only [c4',Ai6];by_cases c5:k=5
 ·subst c5;simp only [beq_self_eq_true,Ai7,g2,Ai5,gt,true_or,or_true,if_true];simp only [Bool.or_assoc]
 have c5':(k==5)=false:=by simpa using c5
 simp only [c5',Ai6,c3,c4,c5,or_self,if_false]
theorem IG (k:UInt8) (t:List UInt8):AL (k::t) 1=(((k.toNat:Nat):Int),t,false):=by
 simp [AL,DE,bS]
theorem IH {t:List UInt8} (h:t≠[]):(EF t).2.1.length<t.length:=by
 cases t with
 |nil=>exact absurd rfl h
 |cons k t=>
  unfold EF;rw [IG];dsimp only;have a1:=GX t 1;have a2:=GX t 2;have a8:=GX t 8;have a3:=KY (AL t 2).2.1 (AL t 2).1.toNat;simp only [Aja]
  repeat' split
  all_goals (dsimp only;omega)
theorem iq:(EF []).2.2=true:=by decide
theorem u8 {k:UInt8} {n:UInt8}:(((k.toNat:Nat):Int)=((n.toNat:Nat):Int))↔k=n:=by
 constructor
 ·intro h;exact UInt8.toNat_inj.1 (by omega)
 ·rintro rfl;rfl
theorem ir {v:Ae} (h:v.1>5\/v.1<0) (d:Nat):AH d v=false:=by
 have:GL (fun _=>false) false v=false/\∀ g,GL g true v=false:=by
  unfold GL;rw [if_neg (by omega),if_neg (by omega),if_neg (by omega),if_neg (by omega),if_neg (by omega),if_neg (by omega)];refine ⟨rfl,fun g=>?_⟩;rw [if_neg (by omega),if_neg (by omega),if_neg (by omega),if_neg (by omega),if_neg (by omega),if_neg (by omega)]
 cases d with
 |zero=>exact this.1
 |succ d=>exact this.2 _
theorem mX {v:Ae} (hk:v.1=2) (h:v.2.1>1000000000000\/v.2.1 < -1000000000000) (d:Nat):AH d v=false:=by
 have hi:inR v.2.1 (-1000000000000) 1000000000000=false:=by simp [inR];omega
 have:∀ g m,GL g m v=false:=by
  intro g m;unfold GL;rw [if_neg (by omega),if_neg (by omega),if_pos hk,hi];rfl
 cases d with
 |zero=>exact this _ _
 |succ d=>exact this _ _
theorem XZ (t:List UInt8):(∃ v r,Br t=some (v,r)/\EF t=(v,r,false))\/(Br t=none/\((EF t).2.2=true\/∀ d,AH d (EF t).1=false)):=by
 cases t with
 |nil=>exact .inr ⟨rfl,.inl iq⟩
 |cons k t=>
  unfold EF;rw [IG];simp only [Br];have hk:=UInt8.toNat_lt k;by_cases c0:k=0
  ·subst c0;exact .inl ⟨_,_,rfl,by simp⟩
  have c0':¬((k.toNat:Nat):Int)=0:=fun h=>c0 (u8 (n:=0) |>.1 h)
  by_cases c1:k=1
  ·subst c1;simp only [c0,if_false,if_true];rw [if_pos (show (((1:UInt8).toNat:Nat):Int)=1 from rfl)];by_cases h:t.length<1
   ·rw [if_pos h];refine .inr ⟨rfl,.inl ?_⟩;simp [AL,DE,h]
   ·rw [if_neg h];refine .inl ⟨_,_,rfl,?_⟩;obtain ⟨b,t',rfl⟩:∃ b t',t=b::t' :=by cases t with | nil=>simp at h | cons b t' =>exact ⟨b,t',rfl⟩
    rw [IG];simp [IF,Ah]
  have c1':¬((k.toNat:Nat):Int)=1:=fun h=>c1 (u8 (n:=1) |>.1 h)
  by_cases c2:k=2
  ·subst c2;simp only [c0,c1,if_false,if_true];rw [if_neg (show ¬(((2:UInt8).toNat:Nat):Int)=1 by decide),if_pos (show (((2:UInt8).toNat:Nat):Int)=2 from rfl)];by_cases h:t.length<8
   ·rw [if_pos h];refine .inr ⟨rfl,.inl ?_⟩;simp [AL,DE,h]
   ·rw [if_neg h];have e:AL t 8=(JL (t.take 8),t.drop 8,false):=by simp [AL,DE,h]
    rw [e];by_cases h1:IF t 0>127
    ·rw [if_pos h1];refine .inr ⟨rfl,.inr fun d=>mX rfl ?_ d⟩
     have hb:IF (t.take 8) 0>127:=by
      have:Ah (t.take 8) 0=Ah t 0:=by simp [Ah]
      unfold IF at h1 ⊢;rw [this];exact h1
     obtain ⟨n1,n2⟩:=SW (by simp;omega) hb;dsimp only;by_cases hw:JL (t.take 8)-4611686018427387904 < -9223372036854775808
     ·rw [dM _ (by omega) hw];omega
     ·rw [AN _ (by omega) (by omega)];omega
    ·rw [if_neg h1];exact .inl ⟨_,_,rfl,by simp⟩
  have c2':¬((k.toNat:Nat):Int)=2:=fun h=>c2 (u8 (n:=2) |>.1 h)
  simp only [c0,c1,c2,c1',c2',if_false];by_cases c3:k=3\/k=4\/k=5
  ·have c3':((k.toNat:Nat):Int)=3\/((k.toNat:Nat):Int)=4\/((k.toNat:Nat):Int)=5:=by
    rcases c3 with rfl | rfl | rfl
    ·exact .inl rfl
    ·exact .inr (.inl rfl)
    ·exact .inr (.inr rfl)
   rw [if_pos c3,if_pos c3'];by_cases h:t.length<2
   ·rw [if_pos h];refine .inr ⟨rfl,.inl ?_⟩;simp [AL,DE,h]
   ·rw [if_neg h];have e:AL t 2=(JL (t.take 2),t.drop 2,false):=by simp [AL,DE,h]
    rw [e];dsimp only;by_cases h1:t.length<2+(JL (t.take 2)).toNat
    ·rw [if_pos h1];refine .inr ⟨rfl,.inl ?_⟩;have:(t.drop 2).length<(JL (t.take 2)).toNat:=by simp;omega
     simp only [DE,this,if_true,Bool.or_true]
    ·rw [if_neg h1];have:¬(t.drop 2).length<(JL (t.take 2)).toNat:=by simp;omega
     refine .inl ⟨_,_,rfl,?_⟩;simp only [DE,this,if_false,List.drop_drop,Bool.or_false,Bool.false_or]
  ·have c3':¬(((k.toNat:Nat):Int)=3\/((k.toNat:Nat):Int)=4\/((k.toNat:Nat):Int)=5):=by
    rintro (h | h | h)
    ·exact c3 (.inl (u8 (n:=3) |>.1 h))
    ·exact c3 (.inr (.inl (u8 (n:=4) |>.1 h)))
    ·exact c3 (.inr (.inr (u8 (n:=5) |>.1 h)))
   rw [if_neg c3,if_neg c3'];exact .inr ⟨rfl,.inr fun d=>ir (.inl (by dsimp only;omega)) d⟩
theorem RB (t:List UInt8):(EF t).1.2.2.1.length<=65535:=by
 unfold EF;have q:0<=(AL (AL t 1).2.1 2).1/\(AL (AL t 1).2.1 2).1<65536:=⟨Jl (by rw [Ev];decide),LW (Ev _ _)⟩
 repeat' split
 all_goals first | (simp;done) | (dsimp only;rw [Ev];omega)
def BP:Nat->List UInt8->List Ae×Bool
 |0,_=>([],true)
 |k+1,t=>if t=[] then ([],true) else if (EF t).2.2 then ([(EF t).1],false) else ((EF t).1::(BP k (EF t).2.1).1,(BP k (EF t).2.1).2)
theorem RC:∀ (k:Nat) (t:List UInt8),t.length<=k->(BP k t).1.length<=t.length
 |0,t,_=>by simp [BP]
 |k+1,t,h=>by
  unfold BP;split
  ·simp
  ·rename_i ht;have hl:=IH ht;split
   ·simp;omega
   ·have:=RC k (EF t).2.1 (by omega);simp only [Aja];omega
theorem Nr:∀ (k:Nat) (t:List UInt8) (v:Ae),v∈(BP k t).1->Dd 1048576 v
 |0,t,v,h=>by simp [BP] at h
 |k+1,t,v,h=>by
  have hs:=RB t;unfold BP at h;split at h
  ·simp at h
  ·split at h
   ·simp at h;subst h;unfold Dd;omega
   ·cases h with
    |head=>unfold Dd;omega
    |tail _ h=>exact Nr k _ v h
theorem Oh:∀ (k:Nat) (t:List UInt8),t.length<=k->(∃ l,BU t=some l/\BP k t=(l,true))\/(BU t=none/\((BP k t).2=false\/∃ v,v∈(BP k t).1/\∀ d,AH d v=false))
 |0,t,h=>by
  have:t=[]:=List.eq_nil_of_length_eq_zero (by omega);subst this;exact .inl ⟨[],rfl,rfl⟩
 |k+1,t,h=>by
  by_cases ht:t=[]
  ·subst ht;exact .inl ⟨[],rfl,by simp [BP]⟩
  rw [DX ht];unfold BP;rw [if_neg ht];have hl:=IH ht;rcases XZ t with ⟨v,r,h1,h2⟩ | ⟨h1,h2⟩
  ·rw [h2] at hl ⊢;rw [h1];simp only [Ai5,Bool.false_eq_true,if_false];dsimp only at hl;rcases Oh k r (by omega) with ⟨l,g1,g2⟩ | ⟨g1,g2⟩
   ·exact .inl ⟨v::l,by rw [g1];rfl,by rw [g2]⟩
   ·refine .inr ⟨by rw [g1];rfl,?_⟩;rcases g2 with g2 | ⟨x,g2,g3⟩
    ·exact .inl g2
    ·exact .inr ⟨x,.tail _ g2,g3⟩
  ·rw [h1];refine .inr ⟨rfl,?_⟩;by_cases hf:(EF t).2.2=true
   ·rw [if_pos hf];exact .inl rfl
   ·rw [if_neg hf];rcases h2 with h2 | h2
    ·exact absurd h2 hf
    ·exact .inr ⟨_,.head _,h2⟩
theorem Jm (v:Ae) (hv:Dd 1048576 v):LT v=some ((BP v.2.2.1.length v.2.2.1).1,(BP v.2.2.1.length v.2.2.1).2,()):=by
 unfold LT
 have key:∀ (k:Nat) (t:List UInt8) (out:List Ae),t.length<k->out.length+t.length<=1048576->
   iter (M' (fun y5=>some (y5.2.1,((!y5.1.2.1),())))) k ((t,false,()),out,())=some (out++(BP t.length t).1,(BP t.length t).2,()):=by
  intro k;induction k using Nat.strongRecOn with
  |ind k ih=>
   intro t out hk ho;cases k with
   |zero=>omega
   |succ k=>
    simp only [iter,M'];by_cases ht:t=[]
    ·subst ht;simp [BP]
    have ht':(t==[])=false:=by simpa using ht
    have hl:=IH ht;have hpos:0<t.length:=List.length_pos_iff.2 ht;simp only [ht',Bool.not_false,Ai7,XY t false (by omega),Ai5,Bool.false_or];rw [Aq (by simp only [A_,Aja,Ajd];omega)];obtain ⟨m,hm⟩:∃ m,t.length=m+1:=⟨t.length-1,by omega⟩;rw [hm,BP,if_neg ht];by_cases hf:(EF t).2.2=true
    ·rw [hf,if_pos rfl];cases k with
     |zero=>omega
     |succ k=>
      simp only [iter,M',Bool.not_true,Ai6,Bool.cond_self]
    ·have hf':(EF t).2.2=false:=by simpa using hf
     rw [hf'];simp only [Bool.false_eq_true,if_false];rw [ih k (by omega) (EF t).2.1 _ (by omega) (by simp only [Ai9,Aja,Ajd];omega)]
     have hmore:∀ (n:Nat) (s:List UInt8),s.length<=n->BP n s=BP s.length s:=by
      intro n;induction n using Nat.strongRecOn with
      |ind n ihn=>
       intro s hs;cases n with
       |zero=>
        have:s=[]:=List.eq_nil_of_length_eq_zero (by omega);subst this;rfl
       |succ n=>
        by_cases h0:s=[]
        ·subst h0;simp [BP]
        ·have hl:=IH h0;obtain ⟨p,hp⟩:∃ p,s.length=p+1:=⟨s.length-1,by have:=List.length_pos_iff.2 h0;omega⟩;rw [hp,BP,BP,ihn n (by omega) _ (by omega)];by_cases hpn:p<n+1
         ·rw [ihn p hpn _ (by omega)]
         ·have:p=n:=by omega
          omega
     rw [hmore m (EF t).2.1 (by omega)];simp
 refine (key Af v.2.2.1 [] (Aj (by unfold Dd at hv;omega)) (by simpa [Dd] using hv)).trans ?_;rfl
def bU (t:List UInt8):Ae×(List UInt8×(Bool×Unit)):=match Br t with
 |none=>((0,0,[],()),[],false,())
 |some x=>(x.1,x.2,true,())
theorem RD (t:List UInt8) (ht:t.length<=1048576):fR t=some (bU t):=by
 cases t with
 |nil=>rfl
 |cons k r=>
  unfold fR bU;have hk:=UInt8.toNat_lt k;simp only [Aja] at ht;have wk:IntKind.wrap .i64 ((k.toNat:Nat):Int)=((k.toNat:Nat):Int):=AN _ (by omega) (by omega);have h0:(((List.length (k::r):Nat):Int)==(0:Int))=false:=by simp;omega
  have hk0:(k::r)[Int.toNat (0:Int)]? = some k:=rfl;simp only [h0,Ai6,hk0,Ai5,wk,IE];simp only [Br]
  have d1:(decide (((k.toNat:Nat):Int)=0))=decide (k=0):=by
   rw [decide_eq_decide];exact ⟨fun h=>u8 (n:=0) |>.1 h,fun h=>by rw [h];rfl⟩
  have q (n:UInt8):(((k.toNat:Nat):Int)==((n.toNat:Nat):Int))=decide (k=n):=by
   rw [Bool.eq_iff_iff];simp only [beq_iff_eq,Ajg];exact u8
  have q0:=q 0;have q1:=q 1;have q2:=q 2;have q3:=q 3;have q4:=q 4;have q5:=q 5;rw [show (((0:UInt8).toNat:Nat):Int)=0 from rfl] at q0;rw [show (((1:UInt8).toNat:Nat):Int)=1 from rfl] at q1;rw [show (((2:UInt8).toNat:Nat):Int)=2 from rfl] at q2;rw [show (((3:UInt8).toNat:Nat):Int)=3 from rfl] at q3;rw [show (((4:UInt8).toNat:Nat):Int)=4 from rfl] at q4;rw [show (((5:UInt8).toNat:Nat):Int)=5 from rfl] at q5;simp only [q0,q1,q2,q3,q4,q5];by_cases c0:k=0
  ·subst c0;simp only [decide_true,Ai7,if_true];rw [Aq (by rw [Int.toNat_natCast];simp;omega)];simp
  simp only [c0,decide_false,Ai6,if_false];by_cases c1:k=1
  ·subst c1;have w2:IntKind.wrap .i64 ((1:Int)+1)=2:=by decide
   simp only [decide_true,Ai7,if_true,w2];cases r with
   |nil=>rfl
   |cons b r=>
    have hb:=UInt8.toNat_lt b;simp only [Aja] at ht;have e1:decide (((List.length ((1:UInt8)::b::r):Nat):Int)<2)=false:=by simp;omega
    have e2:((1:Int)==1)=true:=rfl;have e3:((1:UInt8)::b::r)[Int.toNat (1:Int)]? = some b:=rfl;have e4:¬(b::r).length<1:=by simp
    simp only [e1,e2,e3,e4,Ai6,Ai7,Ai5,if_false];rw [Aq (by decide),Aq (by rw [Int.toNat_natCast];simp;omega),AN ((b.toNat:Nat):Int) (by omega) (by omega)];simp only [Int.toNat_natCast,List.take_length];simp [IF,Ah]
  simp only [c1,decide_false,Ai6,if_false];by_cases c2:k=2
  ·subst c2;have w9:IntKind.wrap .i64 ((1:Int)+8)=9:=by decide
   simp only [decide_true,Ai7,if_true,w9];by_cases h8:r.length<8
   ·have e1:decide (((List.length ((2:UInt8)::r):Nat):Int)<9)=true:=by simp;omega
    simp only [e1,h8,Ai7,if_true]
   ·have e1:decide (((List.length ((2:UInt8)::r):Nat):Int)<9)=false:=by simp;omega
    have e2:((8:Int)==1)=false:=rfl
    have e3:((2:UInt8)::r)[Int.toNat (1:Int)]? = some (Ah r 0):=by
     rw [show Int.toNat (1:Int)=0+1 from rfl,List.getElem?_cons_succ];exact Cs (by omega)
    have e4:(decide ((((Ah r 0).toNat:Nat):Int)>127))=decide (IF r 0>127):=rfl;simp only [e1,e2,e3,e4,h8,Ai6,Ai5,if_false];by_cases h9:IF r 0>127
    ·simp only [h9,decide_true,Ai7,if_true]
    ·simp only [h9,decide_false,Ai6,if_false];have e5:List.drop (Int.toNat (1:Int)) (List.take (Int.toNat (9:Int)) ((2:UInt8)::r))=r.take 8:=rfl;rw [Aq (by simp;omega),e5,XW _ (by rw [List.length_take];omega),Ai5];rw [Aq (by decide),Aq (by rw [Int.toNat_natCast];simp;omega)];simp
  simp only [c2,decide_false,Ai6,if_false]
  have fin:∀ (kk:Int),((kk==((k.toNat:Nat):Int))=true)->
    (cond (decide (((List.length (k::r):Nat):Int)<3)) (some (((0:Int),((0:Int),(([]:List UInt8),()))),(([]:List UInt8),(false,()))))
     (gd (decide ((3:Int)<=(((List.length (k::r)):Nat):Int)))
     (Option.bind (Xt (List.drop (Int.toNat (1:Int)) (List.take (Int.toNat (3:Int)) (k::r)))) fun y5=>
     (cond (decide ((((List.length (k::r)):Nat):Int)<(IntKind.wrap IntKind.i64 ((3:Int)+y5.1))))
     (some (((0:Int),((0:Int),([],()))),([],(false,()))))
     (gd (decide ((0:Int)<=(IntKind.wrap IntKind.i64 ((3:Int)+y5.1))))
     (gd (decide ((IntKind.wrap IntKind.i64 ((3:Int)+y5.1))<=(((List.length (k::r)):Nat):Int)))
     (gd (decide ((3:Int)<=(((Int.toNat (IntKind.wrap IntKind.i64 ((3:Int)+y5.1))):Nat):Int)))
     (gd (decide ((0:Int)<=(IntKind.wrap IntKind.i64 ((3:Int)+y5.1))))
     (gd (decide ((IntKind.wrap IntKind.i64 ((3:Int)+y5.1))<=(((Int.toNat (((List.length (k::r)):Nat):Int)):Nat):Int)))
     (some ((((k.toNat:Nat):Int),((0:Int),((List.drop (Int.toNat (3:Int)) (List.take (Int.toNat (IntKind.wrap IntKind.i64 ((3:Int)+y5.1))) (k::r))),()))),((List.drop (Int.toNat (IntKind.wrap IntKind.i64 ((3:Int)+y5.1))) (List.take (Int.toNat (((List.length (k::r)):Nat):Int)) (k::r))),(true,())))))))))))))
    = some (match (if r.length<2 then none else if r.length<2+(JL (r.take 2)).toNat then none
      else some ((((k.toNat:Nat):Int),(0:Int),(r.drop 2).take (JL (r.take 2)).toNat,()),r.drop (2+(JL (r.take 2)).toNat)):Option (Ae×List UInt8)) with
     |none=>(((0:Int),(0:Int),[],()),[],false,())
     |some x=>(x.1,x.2,true,())):=by
   intro kk _;by_cases h2:r.length<2
   ·have e1:decide (((List.length (k::r):Nat):Int)<3)=true:=by simp;omega
    simp only [e1,h2,Ai7,if_true]
   ·have e1:decide (((List.length (k::r):Nat):Int)<3)=false:=by simp;omega
    have e5:List.drop (Int.toNat (1:Int)) (List.take (Int.toNat (3:Int)) (k::r))=r.take 2:=rfl;have e6:(3:Int)<=((List.length (k::r):Nat):Int):=by simp;omega
    have hl2:(r.take 2).length=2:=by rw [List.length_take];omega
    have n1:=Jl (l:=r.take 2) (by omega);have n2:=LW (l:=r.take 2) hl2;simp only [e1,h2,Ai6,if_false];rw [Aq e6,e5,XW _ (by omega),Ai5];generalize JL (r.take 2)=n at n1 n2 ⊢;dsimp only;obtain ⟨m,rfl⟩:∃ m:Nat,n=m:=⟨n.toNat,by omega⟩;have w3:IntKind.wrap .i64 ((3:Int)+(m:Int))=((m+2+1:Nat):Int):=by rw [AN _ (by omega) (by omega)];omega
    simp only [w3,Int.toNat_natCast];by_cases h3:r.length<2+m
    ·have e7:decide (((List.length (k::r):Nat):Int)<((m+2+1:Nat):Int))=true:=by simp;omega
     simp only [e7,h3,Ai7,if_true]
    ·have e7:decide (((List.length (k::r):Nat):Int)<((m+2+1:Nat):Int))=false:=by simp;omega
     have e8:((m+2+1:Nat):Int)<=((List.length (k::r):Nat):Int):=by simp;omega
     simp only [e7,h3,Ai6,if_false];rw [Aq (by omega),Aq e8,Aq (by omega),Aq (by omega),Aq e8,List.take_length];rw [show Int.toNat (3:Int)=2+1 from rfl,List.take_succ_cons,List.drop_succ_cons,List.drop_succ_cons,Nat.add_comm 2 m];rw [show m+2=2+m by omega,List.drop_take];rw [show 2+m-2=m by omega]
  by_cases c3:k=3
  ·subst c3;simp only [decide_true,Ai7,true_or,if_true];exact fin 3 rfl
  by_cases c4:k=4
  ·subst c4;simp only [c3,decide_true,decide_false,Ai6,Ai7,true_or,or_true,if_true];exact fin 4 rfl
  by_cases c5:k=5
  ·subst c5;simp only [c3,c4,decide_true,decide_false,Ai6,Ai7,true_or,or_true,if_true];exact fin 5 rfl
  simp only [c3,c4,c5,decide_false,Ai6,or_self,if_false]
theorem Dk (t:List UInt8) (ht:t.length<=1048576):LP t=some (match BU t with | none=>([],false,()) | some l=>(l,true,())):=by
 unfold LP
 have key:∀ (k:Nat) (t:List UInt8) (out:List Ae),t.length<k->out.length+t.length<=1048576->
   iter (PQ (fun y6=>(some (y6.1,(true,())))) (fun y7=>(some (y7.2.1,(y7.1,()))))) k (t,out,())=some (match BU t with | none=>([],false,()) | some l=>(out++l,true,())):=by
  intro k;induction k with
  |zero=>intro t out hk;omega
  |succ k ih=>
   intro t out hk ho;simp only [iter,PQ,Gt];by_cases ht:t=[]
   ·subst ht;simp [Gp]
   ·have hp:0<t.length:=List.length_pos_iff.2 ht;simp only [hp,decide_true,Ai7,RD t (by omega),Ai5];rw [DX ht];unfold bU;cases hn:Br t with
    |none=>rfl
    |some x=>
     have hl:=EE (v:=x.1) (r:=x.2) hn;simp only [Bool.not_true,Ai6,Ai5];rw [Aq (by simp only [A_,Aja,Ajd];omega)];rw [ih x.2 _ (by omega) (by simp only [Ai9,Aja,Ajd];omega)];cases BU x.2 with
     |none=>rfl
     |some l=>simp
 exact (key Af t [] (Aj (by omega)) (by simpa using ht)).trans (by cases BU t<;>rfl)
theorem Dx (t:List UInt8) (ht:t.length<=1048576):SN t=some (match AG t with | none=>([],false,()) | some l=>(l,true,())):=by
 unfold SN
 have key:∀ (k:Nat) (t:List UInt8) (out:List Bk),t.length<k->out.length+t.length<=1048576->
   iter (PP (fun y8=>(some (y8.1,(true,())))) (fun y9=>(some (y9.2.1,(y9.1,())))) (fun y10=>(some (y10.2.1,(y10.1,()))))) k (t,out,())=some (match AG t with | none=>([],false,()) | some l=>(out++l,true,())):=by
  intro k;induction k with
  |zero=>intro t out hk;omega
  |succ k ih=>
   intro t out hk ho;simp only [iter,PP,Gt];cases t with
   |nil=>simp [AG,HT]
   |cons n r=>
    have hb:=UInt8.toNat_lt n;have hp:0<(n::r).length:=by simp
    have h0:(n::r)[Int.toNat (0:Int)]? = some n:=rfl;simp only [Aja] at hk ho
    have w1:IntKind.wrap .i64 ((1:Int)+(IntKind.wrap .i64 ((n.toNat:Nat):Int)))=((n.toNat+1:Nat):Int):=by
     rw [AN ((n.toNat:Nat):Int) (by omega) (by omega),AN _ (by omega) (by omega)];omega
    simp only [hp,decide_true,Ai7,h0,Ai5,w1];rw [CR (by simp)];simp only [Ce];by_cases h1:r.length<n.toNat
    ·have e1:decide (((List.length (n::r):Nat):Int)<((n.toNat+1:Nat):Int))=true:=by simp;omega
     simp only [e1,Ai7,h1,if_true];rfl
    ·have e1:decide (((List.length (n::r):Nat):Int)<((n.toNat+1:Nat):Int))=false:=by simp;omega
     have e2:((n.toNat+1:Nat):Int)<=((List.length (n::r):Nat):Int):=by simp;omega
     simp only [e1,Ai6,h1,if_false,Int.toNat_natCast,List.take_length,IE,Ap];rw [Aq e2,Aq (by omega),Aq e2,List.drop_succ_cons,RD _ (by rw [List.length_drop];omega),Ai5];unfold bU;cases hn:Br (r.drop n.toNat) with
     |none=>rfl
     |some x=>
      have hl:=EE (v:=x.1) (r:=x.2) hn;rw [List.length_drop] at hl;simp only [Bool.not_true,Ai6,Ai5];rw [Aq (by simp only [A_,Aja,Ajd];omega)];rw [ih x.2 _ (by omega) (by simp only [Ai9,Aja,Ajd];omega)];rw [show Int.toNat (1:Int)=0+1 from rfl,List.take_succ_cons,List.drop_succ_cons,List.drop_zero];cases AG x.2 with
      |none=>rfl
      |some l=>simp
 exact (key Af t [] (Aj (by omega)) (by simpa using ht)).trans (by cases AG t<;>rfl)
theorem BA:∀ (n:Nat) (t:List UInt8) (l:List Ae),t.length<=n->BU t=some l->l.length<=t.length/\∀ x,x∈l->x.2.2.1.length<=t.length:=by
 intro n;induction n with
 |zero=>
  intro t l h e;have:t=[]:=List.eq_nil_of_length_eq_zero (by omega);subst this;rw [Gp] at e;injection e with e;subst e
  exact ⟨Nat.le_refl _,fun _ h=>by cases h⟩
 |succ n ih=>
  intro t l h e;by_cases ht:t=[]
  ·subst ht;rw [Gp] at e;injection e with e;subst e
   exact ⟨Nat.le_refl _,fun _ h=>by cases h⟩
  ·rw [DX ht] at e;cases hn:Br t with
   |none=>rw [hn] at e;cases e
   |some x=>
    have hl:=EE (v:=x.1) (r:=x.2) hn;have hs:=OZ (v:=x.1) (r:=x.2) hn;rw [hn,Ai5] at e;cases hr:BU x.2 with
    |none=>rw [hr] at e;cases e
    |some l' =>
     rw [hr] at e;injection e with e;subst e
     obtain ⟨g1,g2⟩:=ih x.2 l' (by omega) hr;refine ⟨by simp only [Aja];omega,fun y hy=>?_⟩;cases hy with
     |head=>exact hs
     |tail _ hy=>have:=g2 y hy;omega
theorem VL {t:List UInt8} {f:Bk} {r:List UInt8} (h:Ce t=some (f,r)):f.1.length<=255/\f.2.1.2.2.1.length<=t.length:=by
 cases t with
 |nil=>cases h
 |cons n t=>
  simp only [Ce] at h;split at h
  ·cases h
  ·cases hn:Br (t.drop n.toNat) with
   |none=>rw [hn] at h;cases h
   |some x=>
    rw [hn] at h;injection h with h;injection h with h _;subst h
    have:=OZ (v:=x.1) (r:=x.2) hn;have hb:=UInt8.toNat_lt n;simp only [List.length_drop,Aja,List.length_take] at this ⊢;omega
theorem Cy:∀ (n:Nat) (t:List UInt8) (l:List Bk),t.length<=n->AG t=some l->l.length<=t.length/\∀ x,x∈l->x.1.length<=255/\x.2.1.2.2.1.length<=t.length:=by
 intro n;induction n with
 |zero=>
  intro t l h e;have:t=[]:=List.eq_nil_of_length_eq_zero (by omega);subst this;rw [show AG []=some [] from rfl] at e;injection e with e;subst e
  exact ⟨Nat.le_refl _,fun _ h=>by cases h⟩
 |succ n ih=>
  intro t l h e;by_cases ht:t=[]
  ·subst ht;rw [show AG []=some [] from rfl] at e;injection e with e;subst e
   exact ⟨Nat.le_refl _,fun _ h=>by cases h⟩
  ·rw [CR ht] at e;cases hn:Ce t with
   |none=>rw [hn] at e;cases e
   |some x=>
    have hl:=HS (v:=x.1) (r:=x.2) hn;have hs:=VL (f:=x.1) (r:=x.2) hn;rw [hn,Ai5] at e;cases hr:AG x.2 with
    |none=>rw [hr] at e;cases e
    |some l' =>
     rw [hr] at e;injection e with e;subst e
     obtain ⟨g1,g2⟩:=ih x.2 l' (by omega) hr;refine ⟨by simp only [Aja];omega,fun y hy=>?_⟩;cases hy with
     |head=>exact hs
     |tail _ hy=>have:=g2 y hy;omega
theorem X' (d:Nat) (v:Ae):AH (d+1) v=GL (AH d) true v:=rfl
theorem X_ (g:Ae->Int->Option (Bool×Unit)) (p:Ae->Bool) (more:Bool) (v:Ae) (a:Int) (hv:Dd 1048576 v) (ha:(a==0) = !more)
  (hg:more=true->∀ x,Dd 1048576 x->g x (IntKind.wrap .i64 (a-1))=some (p x,())):jZ g v a=some (GL p more v,()):=by
 unfold jZ GL;have hv':v.2.2.1.length<=1048576:=hv;by_cases c0:v.1=0
 ·have e:(v.1==0)=true:=by simpa using c0
  simp only [e,Ai7,c0,if_true];cases v.2.1==0<;>rfl
 have e0:(v.1==0)=false:=by simpa using c0
 simp only [e0,Ai6,c0,if_false];by_cases c1:v.1=1
 ·have e:(v.1==1)=true:=by simpa using c1
  simp only [e,Ai7,c1,if_true,Eu,Ai5];cases inR v.2.1 0 1<;>rfl
 have e1:(v.1==1)=false:=by simpa using c1
 simp only [e1,Ai6,c1,if_false];by_cases c2:v.1=2
 ·have e:(v.1==2)=true:=by simpa using c2
  simp only [e,Ai7,c2,if_true,Eu,Ai5];cases inR v.2.1 (-1000000000000) 1000000000000<;>rfl
 have e2:(v.1==2)=false:=by simpa using c2
 simp only [e2,Ai6,c2,if_false];by_cases c3:v.1=3
 ·have e:(v.1==3)=true:=by simpa using c3
  simp only [e,Ai7,c3,if_true];cases v.2.1==0<;>rfl
 have e3:(v.1==3)=false:=by simpa using c3
 simp only [e3,Ai6,c3,if_false]
 have hlen:decide (((v.2.2.1.length:Nat):Int)<=300) = !decide (((v.2.2.1.length:Nat):Int)>300):=by
  by_cases h:((v.2.2.1.length:Nat):Int)>300
  ·have:¬((v.2.2.1.length:Nat):Int)<=300:=by omega
   simp only [h,this,decide_true,decide_false,Bool.not_true]
  ·have:((v.2.2.1.length:Nat):Int)<=300:=by omega
   simp only [h,this,decide_true,decide_false,Bool.not_false]
 have hN:(v.2.1 != 0) = !(v.2.1==0):=rfl;by_cases c4:v.1=4
 ·have e:(v.1==4)=true:=by simpa using c4
  simp only [e,Ai7,c4,if_true,Dk _ hv',Ai5,hN,hlen,ha];cases v.2.1==0
  ·rfl
  cases hi:BU v.2.2.1 with
  |none=>cases decide (((v.2.2.1.length:Nat):Int)>300)<;>cases more<;>rfl
  |some l=>
   cases decide (((v.2.2.1.length:Nat):Int)>300)
   ·cases hm:more
    ·rfl
    ·obtain ⟨s1,s2⟩:=BA _ _ l (Nat.le_refl _) hi;simp only [Bool.not_true,Ai6,Bool.not_false,Bool.true_and];refine Eq.trans (Ca (fun i=>(a,l,(i:Int),())) (fun i=>p (Ah l i)) (some (true,())) (some (false,())) l.length 0 Af ?_ ?_ (Aj (by omega))) ?_
     ·intro i h0 hi' rec;have hi2:i<l.length:=by omega
      simp only [MN,Ad,hi2,decide_true,Ai7,Ap,Ai hi2,Ai5,hg hm _ (Nat.le_trans (s2 _ (Au hi2)) hv'),Am i _ hi2 (by omega)];cases p (Ah l i)<;>rfl
     ·intro rec;have:¬(0+l.length<l.length):=by omega
      simp only [MN,Ad,this,decide_false,Ai6]
     ·rw [EM];cases l.all p<;>rfl
   ·cases more<;>rfl
 have e4:(v.1==4)=false:=by simpa using c4
 simp only [e4,Ai6,c4,if_false];by_cases c5:v.1=5
 ·have e:(v.1==5)=true:=by simpa using c5
  simp only [e,Ai7,c5,if_true,Dx _ hv',Ai5,hN,hlen,ha];cases v.2.1==0
  ·rfl
  cases hi:AG v.2.2.1 with
  |none=>cases decide (((v.2.2.1.length:Nat):Int)>300)<;>cases more<;>rfl
  |some l=>
   cases decide (((v.2.2.1.length:Nat):Int)>300)
   ·cases hm:more
    ·rfl
    ·obtain ⟨s1,s2⟩:=Cy _ _ l (Nat.le_refl _) hi;simp only [Bool.not_true,Ai6,Bool.not_false,Bool.true_and];refine Eq.trans (Ca (fun i=>(a,l,(i:Int),())) (fun i=>shortM (Ah l i).1&&((decide (i=0)||Op.bytesLess (Ah l (i-1)).1 (Ah l i).1)&&p (Ah l i).2.1)) (some (true,())) (some (false,())) l.length 0 Af ?_ ?_ (Aj (by omega))) ?_
     ·intro i h0 hi' rec;have hi2:i<l.length:=by omega
      simp only [MO,Ad,hi2,decide_true,Ai7,Ap,Ai hi2,Ai5,Hw,Gt,hg hm _ (Nat.le_trans (s2 _ (Au hi2)).2 hv'),Am i _ hi2 (by omega)];rcases Nat.eq_zero_or_pos i with h0 | h0
      ·subst h0;cases shortM (Ah l 0).1<;>cases p (Ah l 0).2.1<;>rfl
      ·have hz:decide (i=0)=false:=by simp;omega
       simp only [h0,decide_true,Ai7,bO i _ h0 hi2 (by omega),Ap,Ai (show i-1<l.length by omega),Ai5,hz,Bool.false_or];cases shortM (Ah l i).1<;>cases p (Ah l i).2.1<;>cases Op.bytesLess (Ah l (i-1)).1 (Ah l i).1<;>rfl
     ·intro rec;have:¬(0+l.length<l.length):=by omega
      simp only [MO,Ad,this,decide_false,Ai6]
     ·cases Bo (fun i=>shortM (Ah l i).1&&((decide (i=0)||Op.bytesLess (Ah l (i-1)).1 (Ah l i).1)&&p (Ah l i).2.1)) 0 l.length<;>rfl
   ·cases more<;>rfl
 have e5:(v.1==5)=false:=by simpa using c5
 simp only [e5,Ai6,c5,if_false]
theorem TF:∀ (d k:Nat) (v:Ae),d<k->d<=1000->Dd 1048576 v->fU k v (d:Int)=some (AH d v,())
 |0,k+1,v,_,_,hv=>X_ _ _ false v _ hv rfl fun h=>by cases h
 |d+1,k+1,v,hk,hd,hv=>X_ _ (AH d) true v _ hv (by rw [Bool.not_true,beq_eq_false_iff_ne];omega) fun _ x hx=>by
  rw [AN _ (by omega) (by omega),show (((d+1:Nat):Int)-1)=(d:Int) by omega];exact TF d k x (by omega) (by omega) hx
theorem Hy (v:Ae) (hv:Dd 1048576 v):eH v=some (Hv v,()):=by
 unfold eH Hv;rw [show o0 v 5=some (AH 5 v,()) from TF 5 Af v (Aj (by decide)) (by decide) hv];by_cases h:v.2.2.1.length<=65536
 ·have:decide (((v.2.2.1.length:Nat):Int)<=65536)=true:=by simp;omega
  rw [this];rfl
 ·have h1:decide (((v.2.2.1.length:Nat):Int)<=65536)=false:=by simp;omega
  rw [h1,Ai6];have h2:decide (((v.2.2.1.length:Nat):Int)<=300)=false:=by simp;omega
  have h3:(v.2.2.1==[])=false:=by
   rw [beq_eq_false_iff_ne];intro h';rw [h'] at h;exact h (by simp)
  rw [X'];unfold GL;simp only [h2,h3,Bool.and_false,Bool.false_and]
  repeat' split
  all_goals rfl
def GU (t:List UInt8):Bk×(List UInt8×Bool):=
 (((DE (AL t 1).2.1 (AL t 1).1.toNat).1,(EF (DE (AL t 1).2.1 (AL t 1).1.toNat).2.1).1,()),(EF (DE (AL t 1).2.1 (AL t 1).1.toNat).2.1).2.1,
  (AL t 1).2.2||((DE (AL t 1).2.1 (AL t 1).1.toNat).2.2||(EF (DE (AL t 1).2.1 (AL t 1).1.toNat).2.1).2.2))
theorem dQ (t:List UInt8):(EF t).2.1.length<=t.length:=by
 by_cases h:t=[]
 ·subst h;decide
 ·exact Nat.le_of_lt (IH h)
theorem KZ {t:List UInt8} (h:t≠[]):(GU t).2.1.length<t.length:=by
 cases t with
 |nil=>exact absurd rfl h
 |cons k t=>
  unfold GU;rw [IG];dsimp only;have a1:=KY t (((k.toNat:Nat):Int)).toNat;have a2:=dQ (DE t (((k.toNat:Nat):Int)).toNat).2.1;simp only [Aja];omega
theorem ZN (t:List UInt8) (ht:t≠[]):(∃ v r,Ce t=some (v,r)/\GU t=(v,r,false))\/(Ce t=none/\((GU t).2.2=true\/∀ d,AH d (GU t).1.2.1=false)):=by
 cases t with
 |nil=>exact absurd rfl ht
 |cons n t=>
  unfold GU;rw [IG];simp only [Ce,Int.toNat_natCast];by_cases h:t.length<n.toNat
  ·rw [if_pos h];refine .inr ⟨rfl,.inl ?_⟩;simp only [DE,h,if_true,Bool.true_or,Bool.or_true]
  ·rw [if_neg h];have e:DE t n.toNat=(t.take n.toNat,t.drop n.toNat,false):=by simp only [DE,h,if_false]
   rw [e];dsimp only;rcases XZ (t.drop n.toNat) with ⟨v,r,h1,h2⟩ | ⟨h1,h2⟩
   ·rw [h1,h2];exact .inl ⟨_,_,rfl,rfl⟩
   ·rw [h1];refine .inr ⟨rfl,?_⟩;simpa using h2
def AK:Nat->List UInt8->List Bk×Bool
 |0,_=>([],true)
 |k+1,t=>if t=[] then ([],true) else if (GU t).2.2 then ([(GU t).1],false) else ((GU t).1::(AK k (GU t).2.1).1,(AK k (GU t).2.1).2)
theorem HU:∀ (k:Nat) (t:List UInt8),t.length<=k->(AK k t).1.length<=t.length
 |0,t,_=>by simp [AK]
 |k+1,t,h=>by
  unfold AK;split
  ·simp
  ·rename_i ht;have hl:=KZ ht;split
   ·simp;omega
   ·have:=HU k (GU t).2.1 (by omega);simp only [Aja];omega
theorem RE (t:List UInt8):(GU t).1.1.length<=255/\(GU t).1.2.1.2.2.1.length<=65535:=by
 unfold GU;refine ⟨?_,RB _⟩;dsimp only;rw [Ev]
 have q:0<=(AL t 1).1/\(AL t 1).1<256:=by
  have h1:=Ev t 1;unfold AL
  obtain ⟨b,hb⟩:∃ b,(DE t 1).1=[b]:=by
   cases h:(DE t 1).1 with
   |nil=>rw [h] at h1;simp at h1
   |cons b l=>cases l with
    |nil=>exact ⟨b,rfl⟩
    |cons=>rw [h] at h1;simp at h1
  rw [hb,bS];have:=UInt8.toNat_lt b;constructor<;>dsimp only<;>omega
 omega
theorem Ik:∀ (k:Nat) (t:List UInt8) (v:Bk),v∈(AK k t).1->v.1.length<=255/\Dd 1048576 v.2.1
 |0,t,v,h=>by simp [AK] at h
 |k+1,t,v,h=>by
  have hs:=RE t;unfold AK at h;split at h
  ·simp at h
  ·split at h
   ·simp at h;subst h;unfold Dd;omega
   ·cases h with
    |head=>unfold Dd;omega
    |tail _ h=>exact Ik k _ v h
theorem Hz:∀ (k:Nat) (t:List UInt8),t.length<=k->(∃ l,AG t=some l/\AK k t=(l,true))\/(AG t=none/\((AK k t).2=false\/∃ v,v∈(AK k t).1/\∀ d,AH d v.2.1=false))
 |0,t,h=>by
  have:t=[]:=List.eq_nil_of_length_eq_zero (by omega);subst this;exact .inl ⟨[],rfl,rfl⟩
 |k+1,t,h=>by
  by_cases ht:t=[]
  ·subst ht;exact .inl ⟨[],rfl,by simp [AK]⟩
  rw [CR ht];unfold AK;rw [if_neg ht];have hl:=KZ ht;rcases ZN t ht with ⟨v,r,h1,h2⟩ | ⟨h1,h2⟩
  ·rw [h2] at hl ⊢;rw [h1];simp only [Ai5,Bool.false_eq_true,if_false];dsimp only at hl;rcases Hz k r (by omega) with ⟨l,g1,g2⟩ | ⟨g1,g2⟩
   ·exact .inl ⟨v::l,by rw [g1];rfl,by rw [g2]⟩
   ·refine .inr ⟨by rw [g1];rfl,?_⟩;rcases g2 with g2 | ⟨x,g2,g3⟩
    ·exact .inl g2
    ·exact .inr ⟨x,.tail _ g2,g3⟩
  ·rw [h1];refine .inr ⟨rfl,?_⟩;by_cases hf:(GU t).2.2=true
   ·rw [if_pos hf];exact .inl rfl
   ·rw [if_neg hf];rcases h2 with h2 | h2
    ·exact absurd h2 hf
    ·exact .inr ⟨_,.head _,h2⟩
theorem VM:∀ (n:Nat) (s:List UInt8),s.length<=n->AK n s=AK s.length s:=by
 intro n;induction n using Nat.strongRecOn with
 |ind n ihn=>
  intro s hs;cases n with
  |zero=>
   have:s=[]:=List.eq_nil_of_length_eq_zero (by omega);subst this;rfl
  |succ n=>
   by_cases h0:s=[]
   ·subst h0;simp [AK]
   ·have hl:=KZ h0;obtain ⟨p,hp⟩:∃ p,s.length=p+1:=⟨s.length-1,by have:=List.length_pos_iff.2 h0;omega⟩;rw [hp,AK,AK,ihn n (by omega) _ (by omega)];by_cases hpn:p<n+1
    ·rw [ihn p hpn _ (by omega)]
    ·have:p=n:=by omega
     omega
theorem Il (v:Ae) (hv:Dd 1048576 v):SR v=some ((AK v.2.2.1.length v.2.2.1).1,(AK v.2.2.1.length v.2.2.1).2,()):=by
 unfold SR
 have key:∀ (k:Nat) (t:List UInt8) (out:List Bk),t.length<k->out.length+t.length<=1048576->
   iter (MY (fun y7=>some (y7.2.1,((!y7.1.2.1),())))) k ((t,false,()),out,())=some (out++(AK t.length t).1,(AK t.length t).2,()):=by
  intro k;induction k using Nat.strongRecOn with
  |ind k ih=>
   intro t out hk ho;cases k with
   |zero=>omega
   |succ k=>
    simp only [iter,MY];by_cases ht:t=[]
    ·subst ht;simp [AK]
    have ht':(t==[])=false:=by simpa using ht
    have hl:=KZ ht;have hpos:0<t.length:=List.length_pos_iff.2 ht;have hsm:=(RE t).1;have q:=RA t false 1 (by omega) (by decide);rw [show ((1:Nat):Int)=1 from rfl] at q;have r1:=GX t 1;have r2:=KY (AL t 1).2.1 (AL t 1).1.toNat;have hn0:0<=(AL t 1).1:=Jl (by rw [Ev];decide)
    have hn1:(AL t 1).1.toNat<=255:=by
     have:(DE (AL t 1).2.1 (AL t 1).1.toNat).1.length<=255:=hsm;rwa [Ev] at this
    have q2:=VK (AL t 1).2.1 (false||(AL t 1).2.2) (AL t 1).1.toNat (by omega) (by omega);rw [show (((AL t 1).1.toNat:Nat):Int)=(AL t 1).1 by omega] at q2;simp only [ht',Bool.not_false,Ai7,q,Ai5];rw [q2];simp only [Ai5];rw [XY _ _ (by omega)];simp only [Ai5];rw [Aq (by simp only [A_,Aja,Ajd];omega)];obtain ⟨m,hm⟩:∃ m,t.length=m+1:=⟨t.length-1,by omega⟩;rw [hm,AK,if_neg ht]
    have hv2:((false||(AL t 1).2.2)||(DE (AL t 1).2.1 (AL t 1).1.toNat).2.2||(EF (DE (AL t 1).2.1 (AL t 1).1.toNat).2.1).2.2)=(GU t).2.2:=by
     unfold GU;simp only [Bool.false_or,Bool.or_assoc]
    have hv1:((DE (AL t 1).2.1 (AL t 1).1.toNat).1,(EF (DE (AL t 1).2.1 (AL t 1).1.toNat).2.1).1,())=(GU t).1:=rfl;have hv3:(EF (DE (AL t 1).2.1 (AL t 1).1.toNat).2.1).2.1=(GU t).2.1:=rfl;rw [hv2,hv1,hv3];by_cases hf:(GU t).2.2=true
    ·rw [hf,if_pos rfl];cases k with
     |zero=>omega
     |succ k=>
      simp only [iter,MY,Bool.not_true,Ai6,Bool.cond_self]
    ·have hf':(GU t).2.2=false:=by simpa using hf
     rw [hf'];simp only [Bool.false_eq_true,if_false];rw [ih k (by omega) (GU t).2.1 _ (by omega) (by simp only [Ai9,Aja,Ajd];omega)];rw [VM m (GU t).2.1 (by omega)];simp
 refine (key Af v.2.2.1 [] (Aj (by unfold Dd at hv;omega)) (by simpa [Dd] using hv)).trans ?_;rfl
def Jn (l:List Bk) (i:Nat):Bool:=shortM (Ah l i).1&&(decide (i=0)||Op.bytesLess (Ah l (i-1)).1 (Ah l i).1)
theorem dR (v:Ae) (hv:Dd 1048576 v) (h:v.1=4):ZE v=some ((BP v.2.2.1.length v.2.2.1).1,(BP v.2.2.1.length v.2.2.1).2,()):=by
 unfold ZE;have e:(v.1==4)=true:=by simpa using h
 rw [e,Jm v hv];rfl
theorem dS (v:Ae) (hv:Dd 1048576 v) (h:v.1=5):ZE v=some ((AK v.2.2.1.length v.2.2.1).1.map (·.2.1),((AK v.2.2.1.length v.2.2.1).2&&Bo (Jn (AK v.2.2.1.length v.2.2.1).1) 0 (AK v.2.2.1.length v.2.2.1).1.length),()):=by
 unfold ZE;have e:(v.1==4)=false:=by rw [beq_eq_false_iff_ne];omega
 rw [e,Il v hv];simp only [Ai6,Ai5];have hs:∀ x,x∈(AK v.2.2.1.length v.2.2.1).1->x.1.length<=1048576:=fun x hx=>by have:=(Ik _ _ x hx).1;omega
 have hl:(AK v.2.2.1.length v.2.2.1).1.length<=1048576:=Nat.le_trans (HU _ _ (Nat.le_refl _)) hv;generalize (AK v.2.2.1.length v.2.2.1).1=l at hs hl ⊢;generalize (AK v.2.2.1.length v.2.2.1).2=ok;refine Eq.trans (Ay (S:=Bool) (fun i s=>(s,((l.length:Nat):Int),(i:Int),l,(l.take i).map (·.2.1),())) (fun i s=>some (l.map (·.2.1),(s&&Bo (Jn l) i (l.length-i)),())) l.length (fun _ _=>True) ?_ ?_ Af 0 ok (Nat.zero_le _) (Aj (by omega)) trivial) ?_
 ·intro i s hi _ rec hrec;have hs1:=Hx (Ah l i).1 (hs _ (Au hi))
  have ht1:(l.take (i+1)).map (·.2.1)=(l.take i).map (·.2.1)++[(Ah l i).2.1]:=by
   rw [List.take_add_one,Cs hi,List.map_append];rfl
  have hlim:(((l.take i).map (·.2.1)).length+[(Ah l i).2.1].length)<=A_:=by
   simp only [List.length_map,List.length_take,A_,Aja,Ajd];omega
  obtain ⟨m,hm⟩:∃ m,l.length-i=m+1:=⟨l.length-i-1,by omega⟩;have hm1:l.length-(i+1)=m:=by omega
  simp only [Qc,Ad,hi,decide_true,Ai7,Ap,Dt,Ai hi,Ai5,hs1,Ji,Aq hlim,Am i _ hi (by omega),<-ht1];rw [hm,Bo,<-hm1];cases s with
  |false=>
   simp only [Ai6,Bool.false_and];refine (hrec false trivial).trans ?_;simp only [Bool.false_and]
  |true=>
   simp only [Ai7,Bool.true_and];cases h1:shortM (Ah l i).1 with
   |false=>
    simp only [Ai6];refine (hrec false trivial).trans ?_;simp only [Jn,h1,Bool.false_and]
   |true=>
    simp only [Ai7];rcases Nat.eq_zero_or_pos i with h0 | h0
    ·subst h0;simp only [decide_true,Ai7];refine (hrec true trivial).trans ?_;simp only [Jn,h1,Bool.true_and,decide_true,Bool.true_or]
    ·have hz:decide (i=0)=false:=by simp;omega
     simp only [hz,Ai6,bO i _ h0 hi (by omega),Ap,Ad,(show i-1<l.length by omega),decide_true,Dt,Ai (show i-1<l.length by omega),Ai5,Aq hlim];refine (hrec _ trivial).trans ?_;simp only [Jn,h1,Bool.true_and,hz,Bool.false_or]
 ·intro s _ rec;simp only [Qc,Ad,Nat.lt_irrefl,decide_false,Ai6,Nat.sub_self,Bo,Bool.and_true,List.take_length]
 ·simp
theorem Ya (g:Ae->Int->Option (Bool×Unit)) (p:Ae->Bool) (more:Bool) (v:Ae) (a:Int) (hv:Dd 1048576 v) (ha:decide (a>0)=more)
  (hp:∀ x,(∀ d,AH d x=false)->p x=false)
  (hg:more=true->∀ x,Dd 1048576 x->g x (IntKind.wrap .i64 (a-1))=some (p x,())):kU g v a=some (GL p more v,()):=by
 unfold kU GL;have hv':v.2.2.1.length<=1048576:=hv;by_cases c0:v.1=0
 ·have e:(v.1==0)=true:=by simpa using c0
  simp only [e,Ai7,c0,if_true,decide_true,Bool.true_and,Bool.and_true];rw [show decide (v.2.1=0)=(v.2.1==0) from rfl];rfl
 have e0:(v.1==0)=false:=by simpa using c0
 simp only [e0,Ai6,c0,if_false];by_cases c1:v.1=1
 ·have e:(v.1==1)=true:=by simpa using c1
  simp only [e,Ai7,c1,if_true,CE,Ai5];cases inR v.2.1 0 1<;>rfl
 have e1:(v.1==1)=false:=by simpa using c1
 simp only [e1,Ai6,c1,if_false];by_cases c2:v.1=2
 ·have e:(v.1==2)=true:=by simpa using c2
  simp only [e,Ai7,c2,if_true,pg,CE,Ai5];cases inR v.2.1 (-1000000000000) 1000000000000<;>rfl
 have e2:(v.1==2)=false:=by simpa using c2
 simp only [e2,Ai6,c2,if_false];by_cases c3:v.1=3
 ·have e:(v.1==3)=true:=by simpa using c3
  simp only [e,Ai7,c3,if_true];cases v.2.1==0<;>rfl
 have e3:(v.1==3)=false:=by simpa using c3
 simp only [e3,Ai6,c3,if_false];by_cases c4:v.1=4
 ·have e:(v.1==4)=true:=by simpa using c4
  simp only [e,Ai7,c4,if_true,dR v hv c4,Ai5,ha];cases v.2.1==0
  ·rfl
  cases decide (((v.2.2.1.length:Nat):Int)<=300)
  ·rfl
  cases hm:more
  ·rfl
  have hlen:=RC v.2.2.1.length v.2.2.1 (Nat.le_refl _)
  have hany:Xz (BP v.2.2.1.length v.2.2.1).1 (fun (v6:Ae)=>(Option.map (fun (v7:(Bool×Unit))=>v7.1) (XB g v6 a)))=some ((BP v.2.2.1.length v.2.2.1).1.any fun x=>!p x,()):=
   any_value _ _ _ (fun x hx=>by
    simp only [XB,hg hm x (Nr _ _ x hx),Ai5,Option.map_some]) (by omega)
  rcases Oh v.2.2.1.length v.2.2.1 (Nat.le_refl _) with ⟨l,h1,h2⟩ | ⟨h1,h2⟩
  ·rw [h2] at hany;rw [h2,h1];simp only [Ai7,hany,Ai5,DY,Bool.true_and];rfl
  ·rw [h1];simp only [Ai7,hany,Ai5,DY,Bool.true_and];rcases h2 with h2 | ⟨x,h2,h3⟩
   ·rw [h2];rfl
   ·have:(BP v.2.2.1.length v.2.2.1).1.all p=false:=by
     rw [List.all_eq_false];exact ⟨x,h2,by simp [hp x h3]⟩
    rw [this];cases (BP v.2.2.1.length v.2.2.1).2<;>rfl
 have e4:(v.1==4)=false:=by simpa using c4
 simp only [e4,Ai6,c4,if_false];by_cases c5:v.1=5
 ·have e:(v.1==5)=true:=by simpa using c5
  simp only [e,Ai7,c5,if_true,dS v hv c5,Ai5,ha];cases v.2.1==0
  ·rfl
  cases decide (((v.2.2.1.length:Nat):Int)<=300)
  ·rfl
  cases hm:more
  ·rfl
  have hlen:=HU v.2.2.1.length v.2.2.1 (Nat.le_refl _)
  have hany:Xz ((AK v.2.2.1.length v.2.2.1).1.map (·.2.1)) (fun (v6:Ae)=>(Option.map (fun (v7:(Bool×Unit))=>v7.1) (XB g v6 a)))=some (((AK v.2.2.1.length v.2.2.1).1.map (·.2.1)).any fun x=>!p x,()):=
   any_value _ _ _ (fun x hx=>by
    obtain ⟨f,hf,rfl⟩:=List.mem_map.1 hx;simp only [XB,hg hm _ (Ik _ _ f hf).2,Ai5,Option.map_some]) (by rw [List.length_map];omega)
  rcases Hz v.2.2.1.length v.2.2.1 (Nat.le_refl _) with ⟨l,h1,h2⟩ | ⟨h1,h2⟩
  ·rw [h2] at hany;rw [h2,h1];simp only [Ai7,hany,Ai5,DY,Bool.true_and]
   have:Bo (fun i=>shortM (Ah l i).1&&((decide (i=0)||Op.bytesLess (Ah l (i-1)).1 (Ah l i).1)&&p (Ah l i).2.1)) 0 l.length=(Bo (Jn l) 0 l.length&&(l.map (·.2.1)).all p):=by
    rw [List.all_map,<-EM,<-ig];refine Rx _ _ fun i _ _=>?_
    simp only [Jn,Bool.and_assoc,Function.comp]
   rw [this];cases Bo (Jn l) 0 l.length<;>rfl
  ·rw [h1];simp only [Ai7,hany,Ai5,DY,Bool.true_and];rcases h2 with h2 | ⟨x,h2,h3⟩
   ·rw [h2];rfl
   ·have:((AK v.2.2.1.length v.2.2.1).1.map (·.2.1)).all p=false:=by
     rw [List.all_eq_false];exact ⟨x.2.1,List.mem_map.2 ⟨x,h2,rfl⟩,by simp [hp _ h3]⟩
    rw [this];cases ((AK v.2.2.1.length v.2.2.1).2&&Bo (Jn (AK v.2.2.1.length v.2.2.1).1) 0 (AK v.2.2.1.length v.2.2.1).1.length)<;>rfl
 have e5:(v.1==5)=false:=by simpa using c5
 simp only [e5,Ai6,c5,if_false]
theorem TG:∀ (d k:Nat) (v:Ae),d<k->d<=1000->Dd 1048576 v->gz k v (d:Int)=some (AH d v,())
 |0,k+1,v,_,_,hv=>Ya _ _ false v _ hv rfl (fun _ _=>rfl) fun h=>by cases h
 |d+1,k+1,v,hk,hd,hv=>Ya _ (AH d) true v _ hv (by simp<;>omega) (fun x hx=>hx d) fun _ x hx=>by
  rw [AN _ (by omega) (by omega),show (((d+1:Nat):Int)-1)=(d:Int) by omega];exact TG d k x (by omega) (by omega) hx
theorem Kk (v:Ae) (hv:Dd 1048576 v):gA v=some (Hv v,()):=by
 unfold gA;rw [show dG v 5=some (AH 5 v,()) from TG 5 Af v (Aj (by decide)) (by decide) hv];rfl
theorem dT (v:Ae) (hv:Dd 1048576 v):xg v=some (Dw v,()):=by
 unfold xg Dw;rw [Hy v hv,Ai5];cases Hv v<;>cases v.1==5<;>rfl
theorem iu (v:Ae) (hv:Dd 1048576 v):ld v=some (Dw v,()):=by
 unfold ld Dw;rw [Kk v hv];cases v.1==5<;>rfl
theorem qO (i j:Nat) (hi:i<=1048577) (hj:j<=1048577) :
  IntKind.wrap IntKind.i64 (Int.fdiv (IntKind.wrap IntKind.u64 (IntKind.wrap IntKind.i64 ((i:Int)+(j:Int)))) ((2:Int) ^ (Min.min (Int.toNat (1:Int)) (IntKind.bits IntKind.u64))))=(((i+j) / 2:Nat):Int):=by
 have h1:((2:Int) ^ (Min.min (Int.toNat (1:Int)) (IntKind.bits IntKind.u64)))=2:=by decide
 rw [h1,AN ((i:Int)+(j:Int)) (by omega) (by omega)]
 have h2:IntKind.wrap IntKind.u64 ((i:Int)+(j:Int))=(i:Int)+(j:Int):=by
  simp only [IntKind.wrap,IntKind.bits,IntKind.signed];simp;omega
 rw [h2,Int.fdiv_eq_ediv_of_nonneg _ (by decide),AN _ (by omega) (by omega)];omega
def bsR {α τ:Type} (G:α->τ->Option (Int×Unit)) (e0_0:List α×τ×Int×Int×Unit->Option (Int×Bool×Unit)) (rec:List α×τ×Int×Int×Int×Unit->Option (Int×Bool×Unit)) (x2:List α×τ×Int×Int×Int×Unit):Option (Int×Bool×Unit):=
 (cond (decide (x2.2.2.2.1<x2.2.2.2.2.1))
 (gd (decide ((0:Int)<=(IntKind.wrap IntKind.i64 (Int.fdiv (IntKind.wrap IntKind.u64 (IntKind.wrap IntKind.i64 (x2.2.2.2.1+x2.2.2.2.2.1))) ((2:Int) ^ (Min.min (Int.toNat (1:Int)) (IntKind.bits IntKind.u64)))))))
 (Option.bind x2.1[(Int.toNat (IntKind.wrap IntKind.i64 (Int.fdiv (IntKind.wrap IntKind.u64 (IntKind.wrap IntKind.i64 (x2.2.2.2.1+x2.2.2.2.2.1))) ((2:Int) ^ (Min.min (Int.toNat (1:Int)) (IntKind.bits IntKind.u64))))))]? fun y4=>
 (Option.bind (G y4 x2.2.1) fun y5=>
 (cond (decide (y5.1<(0:Int)))
 (rec (x2.1,x2.2.1,x2.2.2.1,(IntKind.wrap IntKind.i64 ((IntKind.wrap IntKind.i64 (Int.fdiv (IntKind.wrap IntKind.u64 (IntKind.wrap IntKind.i64 (x2.2.2.2.1+x2.2.2.2.2.1))) ((2:Int) ^ (Min.min (Int.toNat (1:Int)) (IntKind.bits IntKind.u64)))))+(1:Int))),x2.2.2.2.2.1,()))
 (rec (x2.1,x2.2.1,x2.2.2.1,x2.2.2.2.1,(IntKind.wrap IntKind.i64 (Int.fdiv (IntKind.wrap IntKind.u64 (IntKind.wrap IntKind.i64 (x2.2.2.2.1+x2.2.2.2.2.1))) ((2:Int) ^ (Min.min (Int.toNat (1:Int)) (IntKind.bits IntKind.u64))))),()))))))
 (e0_0 (x2.1,x2.2.1,x2.2.2.1,x2.2.2.2.1,())))
theorem mY {α τ:Type} [Inhabited α] (G:α->τ->Option (Int×Unit)) (c:α->Int) (x:τ) (l:List α) (n:Int) (E:List α×τ×Int×Int×Unit->Option (Int×Bool×Unit))
  (hl:l.length<=1048577) (hG:∀ a,a∈l->G a x=some (c a,())) (mono:Prop) (hm:mono->∀ i j,i<=j->j<l.length->c (Ah l j)<0->c (Ah l i)<0) :
  ∀ (k i j:Nat),i<=j->j<=l.length->j-i<k->(mono->(∀ q,q<i->c (Ah l q)<0)/\(∀ q,j<=q->q<l.length->¬c (Ah l q)<0))->
   ∃ r:Nat,r<=l.length/\iter (bsR G E) k (l,x,n,(i:Int),(j:Int),())=E (l,x,n,(r:Int),())/\(mono->(∀ q,q<r->c (Ah l q)<0)/\(∀ q,r<=q->q<l.length->¬c (Ah l q)<0)):=by
 intro k;induction k with
 |zero=>intro i j _ _ h;omega
 |succ k ih=>
  intro i j hij hj hk hI;simp only [iter,bsR,Ad];by_cases h:i<j
  ·have hmid:(i+j) / 2<l.length:=by omega
   simp only [h,decide_true,Ai7,qO i j (by omega) (by omega),Ap,Ai hmid,Ai5,hG _ (Au hmid),Am _ _ hmid (by omega)];by_cases hc:c (Ah l ((i+j) / 2))<0
   ·simp only [hc,decide_true,Ai7];refine ih _ _ (by omega) hj (by omega) fun hmo=>⟨fun q hq=>?_,(hI hmo).2⟩
    exact hm hmo q _ (by omega) hmid hc
   ·simp only [hc,decide_false,Ai6];refine ih _ _ (by omega) (by omega) (by omega) fun hmo=>⟨(hI hmo).1,fun q hq hq' hcq=>?_⟩
    exact hc (hm hmo _ q hq hq' hcq)
  ·simp only [h,decide_false,Ai6];have:i=j:=by omega
   subst this;exact ⟨i,hj,rfl,hI⟩
def RF (l:List Bk):Prop:=∀ i,0<i->i<l.length->Op.bytesLess (Ah l (i-1)).1 (Ah l i).1=true
theorem VN (l:List Bk) (name:List UInt8) (hl:l.length<=1048576) :
  ∃ (r:Nat) (there:Bool),kZ l name=some ((r:Int),there,())/\r<=l.length/\(there=true->r<l.length/\(Ah l r).1=name)/\
   (RF l->(∀ q,q<r->Op.bytesLess (Ah l q).1 name=true)/\(∀ q,r<=q->q<l.length->Op.bytesLess (Ah l q).1 name=false)/\(there=false->∀ f,f∈l->f.1≠name)):=by
 unfold kZ pD;have hG:∀ a,a∈l->dH a name=some (Lib.compareBytes a.1 name,()):=fun a _=>rfl
 have hm:RF l->∀ i j,i<=j->j<l.length->Lib.compareBytes (Ah l j).1 name<0->Lib.compareBytes (Ah l i).1 name<0:=by
  intro hr i j hij hj hc;rcases Nat.lt_or_ge i j with h | h
  ·have h1:=Kj (r:=fun a b:Bk=>Op.bytesLess a.1 b.1) (fun a b c=>Cd a.1 b.1 c.1) hr h hj;have h2:Op.bytesLess (Ah l j).1 name=true:=by rw [Bn];simpa using hc
   have:=Cd _ _ _ h1 h2;rw [Bn] at this;simpa using this
  ·have:i=j:=by omega
   subst this;exact hc
 obtain ⟨r,hr,he,hI⟩:=mY dH (fun a=>Lib.compareBytes a.1 name) name l ((l.length:Nat):Int) (fun y6=>
   (cond (decide (y6.2.2.2.1<y6.2.2.1))
   (gd (decide ((0:Int)<=y6.2.2.2.1))
   (Option.bind y6.1[(Int.toNat y6.2.2.2.1)]? fun y7=>
   (Option.bind (dH y7 y6.2.1) fun y8=>
   (some (y6.2.2.2.1,((y8.1==(0:Int)),()))))))
   (some (y6.2.2.2.1,(false,()))))) (by omega) hG (RF l) hm Af 0 l.length (Nat.zero_le _) (Nat.le_refl _) (Aj (by omega)) (fun _=>⟨fun q hq=>by omega,fun q hq hq' =>by omega⟩)
 refine ⟨r,decide (r<l.length)&&(Lib.compareBytes (Ah l r).1 name==0),?_,hr,?_,?_⟩
 ·refine (congrArg (fun o=>Option.bind o _) he).trans ?_;simp only [Ad];by_cases h:r<l.length
  ·simp only [h,decide_true,Ai7,Ap,Ai h,Ai5,hG _ (Au h),Bool.true_and]
  ·simp only [h,decide_false,Ai6,Bool.false_and,Ai5]
 ·intro h;simp only [Ajb,Ajg,beq_iff_eq] at h;exact ⟨h.1,(AC _ _).1 h.2⟩
 ·intro hrise;obtain ⟨h1,h2⟩:=hI hrise;refine ⟨fun q hq=>by rw [Bn];simpa using h1 q hq,fun q hq hq' =>by rw [Bn];simpa using h2 q hq hq',fun hf f hf' hn=>?_⟩;obtain ⟨q,hq,rfl⟩:=Ez hf';subst hn;have hz:Lib.compareBytes (Ah l q).1 (Ah l q).1=0:=(AC _ _).2 rfl;rcases Nat.lt_trichotomy q r with h | h | h
  ·have:=h1 q h;omega
  ·subst h;simp [hq,hz] at hf
  ·have h3:=Kj (r:=fun a b:Bk=>Op.bytesLess a.1 b.1) (fun a b c=>Cd a.1 b.1 c.1) hrise h hq;have h4:=h2 r (Nat.le_refl _) (by omega);rw [Bn] at h3;simp at h3;exact h4 h3
theorem dU (l:List Bk) (hr:RF l) (r:Nat) (h:r<l.length) (name:List UInt8) (hn:(Ah l r).1=name):l.find? (fun f=>f.1==name)=some (Ah l r):=by
 rw [List.find?_eq_some_iff_getElem];refine ⟨by simpa using hn,r,h,(Du h).symm,fun j hj=>?_⟩;have:=Kj (r:=fun a b:Bk=>Op.bytesLess a.1 b.1) (fun a b c=>Cd a.1 b.1 c.1) hr hj h;rw [Du (by omega:j<l.length)] at this;have:=VF this;rw [hn] at this;simpa using this
theorem LX {v:Ae} (h:Dw v=true):∃ l,AG v.2.2.1=some l/\AK v.2.2.1.length v.2.2.1=(l,true)/\RF l/\v.2.2.1.length<=300/\(∀ f,f∈l->AH 4 f.2.1=true/\shortM f.1=true):=by
 unfold Dw Hv at h;rw [X'] at h;simp only [Ajb,beq_iff_eq] at h;obtain ⟨hk,h⟩:=h;unfold GL at h;rw [if_neg (by omega),if_neg (by omega),if_neg (by omega),if_neg (by omega),if_neg (by omega),if_pos hk] at h;simp only [Ajb,Ajg] at h;obtain ⟨_,hlen,_,h⟩:=h;rcases Hz v.2.2.1.length v.2.2.1 (Nat.le_refl _) with ⟨l,h1,h2⟩ | ⟨h1,_⟩
 ·refine ⟨l,h1,h2,?_,by omega,?_⟩
  ·rw [h1] at h;intro i h0 hi;have:=(AY _ _ _).1 h i (Nat.zero_le _) (by omega);simp only [Ajb,Ajc,Ajg] at this;rcases this.2.1 with h' | h'
   ·omega
   ·exact h'
  ·rw [h1] at h;intro f hf;obtain ⟨i,hi,rfl⟩:=Ez hf;have:=(AY _ _ _).1 h i (Nat.zero_le _) (by omega);simp only [Ajb] at this;exact ⟨this.2.2,this.1⟩
 ·rw [h1] at h;cases h
theorem TH (v:Ae) (name:List UInt8) (hv:Dd 1048576 v) {l:List Bk} (h1:AK v.2.2.1.length v.2.2.1=(l,true)) (h2:RF l):u3 v name=some (BJ l name):=by
 unfold u3;rw [Il v hv,Ai5,h1];have hl:=HU v.2.2.1.length v.2.2.1 (Nat.le_refl _);rw [h1] at hl;obtain ⟨r,there,g1,g2,g3,g4⟩:=VN l name (Nat.le_trans hl hv);simp only [g1,Ai5];unfold BJ;cases there with
 |false=>
  have:=(g4 h2).2.2 rfl;rw [List.find?_eq_none.2 fun f hf=>by simpa using this f hf];rfl
 |true=>
  obtain ⟨q1,q2⟩:=g3 rfl;simp only [Bool.not_true,Ai6,Ap,Ad,q1,decide_true,Dt,Ai q1,Ai5];rw [dU l h2 r q1 name q2]
theorem Pa (v:Ae) (name:List UInt8) (hv:Dd 1048576 v):f_ v name=some (match AG v.2.2.1 with | none=>((0,0,[],()),false,()) | some l=>BJ l name):=by
 unfold f_;rw [Dx _ hv,Ai5]
 have key:∀ (l:List Bk),l.length<=1048576->iter (MQ (fun y8=>some (((0:Int),((0:Int),([],()))),(false,()))) (fun y9=>some (y9.2.1,(y9.1,())))) Af (name,l,(0:Int),((0:Int),((0:Int),([],()))),())=some (BJ l name):=by
  intro l hl;refine Eq.trans (Ay (S:=Unit) (fun i _=>(name,l,(i:Int),((0:Int),((0:Int),([],()))),())) (fun i _=>some (BJ (l.drop i) name)) l.length (fun _ _=>True) ?_ ?_ Af 0 () (Nat.zero_le _) (Aj (by omega)) trivial) ?_
  ·intro i s hi _ rec hrec;simp only [MQ,Ad,hi,decide_true,Ai7,Ap,Ai hi,Ai5,Am i _ hi (by omega)];rw [hrec () trivial,Ac hi];unfold BJ;rw [List.find?_cons];cases (Ah l i).1==name<;>rfl
  ·intro s _ rec;simp only [MQ,Ad,Nat.lt_irrefl,decide_false,Ai6,Ajh];rfl
  ·rfl
 cases hf:AG v.2.2.1 with
 |none=>exact key [] (by simp)
 |some l=>exact key l (Nat.le_trans (Cy _ _ l (Nat.le_refl _) hf).1 hv)
theorem Kl (v:Ae) (hv:Dd 1048576 v):ki v=some (CA v,()):=by
 unfold ki;rw [Pa v _ hv,Ai5];unfold CA;cases AG v.2.2.1 with
 |none=>rfl
 |some l=>
  unfold bR;dsimp only;generalize BJ l [105,100]=x;obtain ⟨⟨k,n,t,_⟩,there,_⟩:=x;unfold TD;simp only [Eu,Ai5];have:(k != 2) = !(k==2):=rfl;rw [this];cases there<;>cases k==2<;>cases inR n 0 99<;>rfl
theorem Yb (v:Ae) (hv:Dd 1048576 v) (h:Dw v=true):∃ n ok,lc v=some (n,ok,())/\(ok=true->n=CA v/\0<=n/\n<=99)/\(ok=false->CA v = -1):=by
 obtain ⟨l,h1,h2,h3,_⟩:=LX h;unfold lc CA;rw [TH v _ hv h2 h3,Ai5,h1];dsimp only;unfold bR
 have hz:(BJ l [105,100]).2.1=false->(BJ l [105,100]).1.1=0:=by
  unfold BJ;cases l.find? (fun f=>f.1==([105,100]:List UInt8)) with
  |none=>intro _;rfl
  |some f=>intro h;cases h
 generalize BJ l [105,100]=x at hz ⊢;obtain ⟨⟨k,n,t,_⟩,there,_⟩:=x;unfold TD;simp only [CE,Ai5];dsimp only at hz;cases there with
 |false=>
  have hk:(k==2)=false:=by rw [beq_eq_false_iff_ne,hz rfl];decide
  rw [hk];exact ⟨_,_,rfl,(fun h=>by cases h),fun _=>rfl⟩
 |true=>
  cases k==2 with
  |false=>exact ⟨_,_,rfl,(fun h=>by cases h),fun _=>rfl⟩
  |true=>
   refine ⟨_,_,rfl,fun g=>?_,fun g=>?_⟩
   ·have g':inR n 0 99=true:=g;rw [g'];simp only [inR,Ajb,Ajg] at g';exact ⟨rfl,g'⟩
   ·have g':inR n 0 99=false:=g;rw [g'];rfl
theorem SX (t:CI) (ht:ik 1048576 t):xx t=some (BV t,()):=by
 unfold xx BV;rw [Ij _ ht.1,Ai5];simp only [Kk _ ht.2,Ai5,CE];cases Cm t.2.1
 ·rfl
 cases Hv t.2.2.1
 ·rfl
 simp only [Bool.not_true,Ai6,Bool.true_and];by_cases c7:t.1=7
 ·simp only [c7,if_true];rfl
 have e7:(t.1==7)=false:=by simpa using c7
 simp only [e7,Ai6,c7,if_false];by_cases c8:t.1=8
 ·simp only [c8,if_true];rfl
 have e8:(t.1==8)=false:=by simpa using c8
 simp only [e8,Ai6,c8,if_false];by_cases c9:t.1=9
 ·simp only [c9,if_true];cases t.2.2.1.1==2<;>rfl
 have e9:(t.1==9)=false:=by simpa using c9
 simp only [e9,Ai6,c9,if_false];by_cases c10:t.1=10
 ·simp only [c10,if_true];cases t.2.2.1.1==2<;>rfl
 have e10:(t.1==10)=false:=by simpa using c10
 simp only [e10,Ai6,c10,if_false]
theorem SY (t:CI) (ht:ik 1048576 t):lU t=some (BV t,()):=by
 unfold lU BV;by_cases hl:t.2.1.length>65536
 ·have e1:decide (((t.2.1.length:Nat):Int)>65536)=true:=by simp;omega
  have e2:Cm t.2.1=false:=by
   unfold Cm;have:decide (((t.2.1.length:Nat):Int)<=50)=false:=by simp;omega
   rw [this];rfl
  rw [e1,e2];rfl
 have e1:decide (((t.2.1.length:Nat):Int)>65536)=false:=by simp;omega
 simp only [e1,Ai6,Ii _ ht.1,Ai5,Hy _ ht.2,Eu];cases Cm t.2.1
 ·rfl
 cases Hv t.2.2.1
 ·rfl
 simp only [Bool.not_true,Ai6,Bool.true_and];by_cases c1:t.1=1
 ·simp only [c1];rfl
 have e1:(t.1==1)=false:=by simpa using c1
 simp only [e1,Ai6];by_cases c2:t.1=2
 ·simp only [c2];rfl
 have e2:(t.1==2)=false:=by simpa using c2
 simp only [e2,Ai6];by_cases c3:t.1=3
 ·simp only [c3];rfl
 have e3:(t.1==3)=false:=by simpa using c3
 simp only [e3,Ai6];by_cases c4:t.1=4
 ·simp only [c4];rfl
 have e4:(t.1==4)=false:=by simpa using c4
 simp only [e4,Ai6];by_cases c5:t.1=5
 ·simp only [c5];rfl
 have e5:(t.1==5)=false:=by simpa using c5
 simp only [e5,Ai6];by_cases c6:t.1=6
 ·simp only [c6];rfl
 have e6:(t.1==6)=false:=by simpa using c6
 simp only [e6,Ai6];by_cases c7:t.1=7
 ·simp only [c7,if_true];rfl
 have e7:(t.1==7)=false:=by simpa using c7
 simp only [e7,Ai6,c7,if_false];by_cases c8:t.1=8
 ·simp only [c8,if_true];rfl
 have e8:(t.1==8)=false:=by simpa using c8
 simp only [e8,Ai6,c8,if_false];by_cases c9:t.1=9
 ·simp only [c9,if_true];cases t.2.2.1.1==2<;>rfl
 have e9:(t.1==9)=false:=by simpa using c9
 simp only [e9,Ai6,c9,if_false];by_cases c10:t.1=10
 ·simp only [c10,if_true];cases t.2.2.1.1==2<;>rfl
 have e10:(t.1==10)=false:=by simpa using c10
 simp only [e10,Ai6,c10,if_false]
 have:inR t.1 1 6=false:=by
  rw [Bool.eq_false_iff];intro h;simp only [inR,Ajb,Ajg] at h;omega
 rw [this]
theorem PB (f:Dv) (hf:VG 1048576 f):xz f=some (BW f,()):=by
 unfold xz BW;obtain ⟨h1,h2⟩:=hf;rw [CE,Ai5]
 have hany:rr f.1 (fun (v3:DQ)=>(Option.map (fun (v4:(Bool×Unit))=>v4.1) (xy v3)))=some (f.1.any fun c=>!(decide (((c.1.length:Nat):Int)<=4)&&c.1.all BV),()):=
  any_clause _ _ _ (fun c hc=>by
   obtain ⟨g1,g2⟩:=h2 c hc;unfold xy;by_cases h4:c.1.length>4
   ·have e1:decide (((c.1.length:Nat):Int)>4)=true:=by simp;omega
    have e2:decide (((c.1.length:Nat):Int)<=4)=false:=by simp;omega
    rw [e1,e2];rfl
   ·have e1:decide (((c.1.length:Nat):Int)>4)=false:=by simp;omega
    have e2:decide (((c.1.length:Nat):Int)<=4)=true:=by simp;omega
    rw [e1,e2,Ai6,XT (fun t=>!BV t) _ _ (fun t ht=>by
     simp only [z',SX t (g2 t ht),Ai5,Option.map_some]) (by omega)]
    simp only [Ai5,Option.map_some,Jk,Bool.true_and]) (by omega)
 rw [hany,Ai5];simp only [DY];cases inR ((f.1.length:Nat):Int) 1 3<;>rfl
theorem PD (f:Dv) (hf:VG 1048576 f):xL f=some (BW f,()):=by
 unfold xL BW;obtain ⟨h1,h2⟩:=hf;rw [Eu,Ai5];cases inR ((f.1.length:Nat):Int) 1 3
 ·rfl
 simp only [Bool.not_true,Ai6,Bool.true_and];refine Eq.trans (Ca (fun i=>((i:Int),f,())) (fun i=>decide ((((Ah f.1 i).1.length:Nat):Int)<=4)&&(Ah f.1 i).1.all BV) (some (true,())) (some (false,())) f.1.length 0 Af ?_ ?_ (Aj (by omega))) ?_
 ·intro i h0 hi rec;have hi2:i<f.1.length:=by omega
  obtain ⟨g1,g2⟩:=h2 _ (Au hi2);simp only [Vp,Ad,hi2,decide_true,Ai7,Ap,Ai hi2,Ai5];by_cases h4:(Ah f.1 i).1.length>4
  ·have e1:decide ((((Ah f.1 i).1.length:Nat):Int)>4)=true:=by simp;omega
   have e2:decide ((((Ah f.1 i).1.length:Nat):Int)<=4)=false:=by simp;omega
   rw [e1,e2];rfl
  ·have e1:decide ((((Ah f.1 i).1.length:Nat):Int)>4)=false:=by simp;omega
   have e2:decide ((((Ah f.1 i).1.length:Nat):Int)<=4)=true:=by simp;omega
   rw [e1,e2,Ai6,Bool.true_and];refine Eq.trans (Ca (fun k=>((i:Int),(k:Int),f,())) (fun k=>BV (Ah (Ah f.1 i).1 k)) (rec (((i+1:Nat):Int),f,())) (some (false,())) (Ah f.1 i).1.length 0 Af ?_ ?_ (Aj (by omega))) ?_
   ·intro k hk0 hk rec';have hk2:k<(Ah f.1 i).1.length:=by omega
    simp only [Vo,Ap,Ai hi2,Ai5,Ad,hk2,decide_true,Ai7,Ai hk2,SY _ (g2 _ (Au hk2)),Am k _ hk2 (by omega)];cases BV (Ah (Ah f.1 i).1 k)<;>rfl
   ·intro rec';have:¬(0+(Ah f.1 i).1.length<(Ah f.1 i).1.length):=by omega
    simp only [Vo,Ap,Ai hi2,Ai5,Ad,this,decide_false,Ai6,Am i _ hi2 (by omega)]
   ·rw [EM BV]
 ·intro rec;have:¬(0+f.1.length<f.1.length):=by omega
  simp only [Vp,Ad,this,decide_false,Ai6]
 ·rw [EM (fun c:DQ=>decide (((c.1.length:Nat):Int)<=4)&&c.1.all BV)];cases f.1.all (fun c:DQ=>decide (((c.1.length:Nat):Int)<=4)&&c.1.all BV)<;>rfl
theorem Ns {α:Type} [Inhabited α] (p:α->Bool):∀ (s:Nat) (l:List α),(Ba p s l = -1/\∀ k,k<l.length->p (Ah l k)=false)\/
  ∃ r:Nat,r<l.length/\Ba p s l=((s+r:Nat):Int)/\p (Ah l r)=true/\∀ k,k<r->p (Ah l k)=false
 |s,[]=>.inl ⟨rfl,fun k h=>by cases h⟩
 |s,a::l=>by
  simp only [Ba];cases h:p a with
  |true=>exact .inr ⟨0,by simp,rfl,h,fun k hk=>by omega⟩
  |false=>
   simp only [Ai6];rcases Ns p (s+1) l with ⟨h1,h2⟩ | ⟨r,h1,h2,h3,h4⟩
   ·refine .inl ⟨h1,fun k hk=>?_⟩;cases k with
    |zero=>exact h
    |succ k=>exact h2 k (by simpa using hk)
   ·refine .inr ⟨r+1,by simp;omega,by rw [h2];omega,h3,fun k hk=>?_⟩;cases k with
    |zero=>exact h
    |succ k=>exact h4 k (by omega)
theorem Oi (a b:Int):XE a b=some (cond (decide (a<b)) (-1) (cond (decide (a>b)) 1 0),()):=by
 unfold XE ln;simp only [bne_self_eq_false,Ai5,Ai6];cases decide (a<b)<;>cases decide (a>b)<;>rfl
theorem ZO:∃ m,Af=m+3:=⟨18446744073709551613,MH⟩
theorem ZP (a b:Int):dI [a,b]=some (cond (a != 0) a b,()):=by
 unfold dI;obtain ⟨m,hm⟩:=ZO;rw [hm];have w1:IntKind.wrap IntKind.i64 ((0:Int)+1)=1:=by decide
 have w2:IntKind.wrap IntKind.i64 ((1:Int)+1)=2:=by decide
 have e0:decide ((0:Int)<(((List.length [a,b]):Nat):Int))=true:=by simp<;>omega
 have e1:decide ((1:Int)<(((List.length [a,b]):Nat):Int))=true:=by simp
 have e2:decide ((2:Int)<(((List.length [a,b]):Nat):Int))=false:=by simp
 have g0:([a,b]:List Int)[Int.toNat (0:Int)]? = some a:=rfl;have g1:([a,b]:List Int)[Int.toNat (1:Int)]? = some b:=rfl;have q0:∀ k:Option (Int×Unit),gd (decide ((0:Int)<=0)) k=k:=fun _=>rfl
 have q1:∀ k:Option (Int×Unit),gd (decide ((0:Int)<=1)) k=k:=fun _=>rfl
 simp only [iter,Vj,e0,e1,e2,g0,g1,w1,w2,q0,q1,Ai7,Ai6,Ai5];by_cases ha:a=0
 ·subst ha;by_cases hb:b=0
  ·subst hb;rfl
  ·have:(b != 0)=true:=by simpa using hb
   rw [this];rfl
 ·have:(a != 0)=true:=by simpa using ha
  rw [this];rfl
def TI (n:Nat) (l:List UInt8):Nat:=l.foldl (fun n b=>n*256+b.toNat) n
theorem VO:∀ (l l':List UInt8) (n n':Nat),l.length=l'.length->TI n l=TI n' l' ->n=n' /\l=l'
 |[],[],n,n',_,h=>⟨h,rfl⟩
 |b::l,b'::l',n,n',hl,h=>by
  have hb:=UInt8.toNat_lt b;have hb' :=UInt8.toNat_lt b';obtain ⟨h1,h2⟩:=VO l l' (n*256+b.toNat) (n'*256+b'.toNat) (by simpa using hl) h;have e1:b.toNat=b'.toNat:=by omega
  exact ⟨by omega,by rw [h2,UInt8.toNat_inj.1 e1]⟩
theorem RG {n:Int} {b:Nat} (h0:0<=n) (h1:n<36028797018963968) (hb:b<256):DD n b=n*256+b:=by
 unfold DD;rw [AN (n*256) (by omega) (by omega),AN _ (by omega) (by omega)]
theorem VP:∀ (l:List UInt8) (j:Nat) (n:Nat),n<256 ^ j->j+l.length<=7->l.foldl (fun n b=>DD n (((b.toNat:Nat)):Int)) (n:Int)=(TI n l:Int)
 |[],j,n,_,_=>rfl
 |b::l,j,n,h1,h2=>by
  have hb:=UInt8.toNat_lt b;simp only [Aja] at h2;have hj:256 ^ j<=256 ^ 6:=Nat.pow_le_pow_right (by decide) (by omega);have h6:(256:Nat) ^ 6=281474976710656:=by decide
  have hp:256 ^ (j+1)=256 ^ j*256:=Nat.pow_succ ..;rw [List.foldl_cons,RG (by omega) (by omega) hb];have:=VP l (j+1) (n*256+b.toNat) (by omega) (by omega);rw [show ((n:Int)*256+((b.toNat:Nat):Int))=((n*256+b.toNat:Nat):Int) by omega,this];rfl
theorem ZQ (n:Nat) (l:List UInt8) (b:UInt8):TI n (l++[b])=TI n l*256+b.toNat:=by simp [TI]
theorem iv:∀ (l:List UInt8) (n c:Nat),n<c->TI n l<c*256 ^ l.length
 |[],n,c,h=>by simpa [TI] using h
 |b::l,n,c,h=>by
  have hb:=UInt8.toNat_lt b;have:=iv l (n*256+b.toNat) (c*256) (by omega);rw [Aja,Nat.pow_succ,Nat.mul_comm (256 ^ l.length) 256,<-Nat.mul_assoc];exact this
theorem VQ {l:List UInt8} (h:l.length=2):JL l=(TI 0 l:Int):=VP l 0 0 (by decide) (by omega)
theorem VR {l:List UInt8} (h:l.length=8) (h0:¬IF l 0>127):JL l=(TI 0 l:Int)/\TI 0 l<9223372036854775808:=by
 obtain ⟨a,l7,rfl⟩:∃ a l7,l=a::l7:=by cases l with | nil=>simp at h | cons a l7=>exact ⟨a,l7,rfl⟩
 simp only [Aja] at h;have ha:a.toNat<=127:=by simp [IF,Ah] at h0;omega
 have hl:l7=l7.take 6++[Ah l7 6]:=by
  have:=List.take_append_drop 6 l7;rw [Ac (by omega:6<l7.length),List.drop_eq_nil_of_le (by omega)] at this;exact this.symm
 have ht:(l7.take 6).length=6:=by rw [List.length_take];omega
 have hb:=UInt8.toNat_lt (Ah l7 6);have h1:DD 0 ((a.toNat:Nat):Int)=((a.toNat:Nat):Int):=by rw [RG (by decide) (by decide) (by omega)];omega
 have g:=VP (l7.take 6) 1 a.toNat (by omega) (by omega);have g2:=iv (l7.take 6) a.toNat 128 (by omega);rw [ht] at g2;have e6:128*256 ^ 6=36028797018963968:=by decide
 rw [e6] at g2
 have e:TI 0 (a::l7)=TI a.toNat (l7.take 6)*256+(Ah l7 6).toNat:=by
  have e0:TI 0 (a::l7)=TI a.toNat l7:=by simp [TI]
  rw [e0];conv=>lhs;rw [hl]
  rw [ZQ]
 rw [e,JL,List.foldl_cons,h1,hl,List.foldl_append,List.foldl_cons,List.foldl_nil,<-hl,g,RG (by omega) (by omega) hb];omega
theorem Yc {t t' r r':List UInt8} {v:Ae} (h:Br t=some (v,r)) (h':Br t'=some (v,r')):∃ p,t=p++r/\t'=p++r' :=by
 cases t with
 |nil=>cases h
 |cons k t=>
  cases t' with
  |nil=>cases h'
  |cons k' t' =>
   have kind:∀ {k:UInt8} {t r:List UInt8},Br (k::t)=some (v,r)->v.1=((k.toNat:Nat):Int):=by
    intro k t r h;simp only [Br] at h;by_cases c0:k=0
    ·rw [if_pos c0] at h;injection h with h;injection h with h _;rw [<-h,c0];rfl
    rw [if_neg c0] at h;by_cases c1:k=1
    ·rw [if_pos c1] at h;split at h
     ·cases h
     ·injection h with h;injection h with h _;rw [<-h,c1];rfl
    rw [if_neg c1] at h;by_cases c2:k=2
    ·rw [if_pos c2] at h;split at h
     ·cases h
     split at h
     ·cases h
     ·injection h with h;injection h with h _;rw [<-h,c2];rfl
    rw [if_neg c2] at h
    repeat' split at h
    all_goals first | (cases h;done) | (injection h with h;injection h with h _;rw [<-h])
   have e:k=k' :=u8.1 ((kind h).symm.trans (kind h'));subst e;simp only [Br] at h h';by_cases c0:k=0
   ·rw [if_pos c0] at h h';injection h with h;injection h with _ h;injection h' with h';injection h' with _ h'
    subst h;subst h';exact ⟨[k],rfl,rfl⟩
   rw [if_neg c0] at h h';by_cases c1:k=1
   ·rw [if_pos c1] at h h';split at h
    ·cases h
    split at h'
    ·cases h'
    rename_i l1 l2;injection h with h;injection h with h1 h;injection h' with h';injection h' with h2 h'
    subst h;subst h';cases t with
    |nil=>simp at l1
    |cons b t=>
     cases t' with
     |nil=>simp at l2
     |cons b' t' =>
      have:IF (b::t) 0=IF (b'::t') 0:=by rw [<-h2] at h1;injection h1 with _ h1;injection h1 with h1 _
      have:b=b' :=by simp [IF,Ah] at this;exact u8.1 (by omega)
      subst this;exact ⟨[k,b],rfl,rfl⟩
   rw [if_neg c1] at h h';by_cases c2:k=2
   ·rw [if_pos c2] at h h';split at h
    ·cases h
    split at h
    ·cases h
    split at h'
    ·cases h'
    split at h'
    ·cases h'
    rename_i l1 l2 l3 l4;injection h with h;injection h with h1 h;injection h' with h';injection h' with h2 h'
    subst h;subst h'
    have hw:IntKind.wrap .i64 (JL (t.take 8)-4611686018427387904)=IntKind.wrap .i64 (JL (t'.take 8)-4611686018427387904):=by
     rw [<-h2] at h1;injection h1 with _ h1;injection h1 with h1 _
    have b1:IF (t.take 8) 0=IF t 0:=by simp [IF,Ah]
    have b2:IF (t'.take 8) 0=IF t' 0:=by simp [IF,Ah]
    obtain ⟨x1,x2⟩:=VR (l:=t.take 8) (by rw [List.length_take];omega) (by rw [b1];exact l2);obtain ⟨y1,y2⟩:=VR (l:=t'.take 8) (by rw [List.length_take];omega) (by rw [b2];exact l4);rw [x1,y1,AN _ (by omega) (by omega),AN _ (by omega) (by omega)] at hw;obtain ⟨_,e⟩:=VO (t.take 8) (t'.take 8) 0 0 (by rw [List.length_take,List.length_take];omega) (by omega);exact ⟨k::t.take 8,by rw [List.cons_append,List.take_append_drop],by rw [e,List.cons_append,List.take_append_drop]⟩
   rw [if_neg c2] at h h';split at h
   ·rename_i c3;rw [if_pos c3] at h';split at h
    ·cases h
    split at h
    ·cases h
    split at h'
    ·cases h'
    split at h'
    ·cases h'
    rename_i l1 l2 l3 l4;injection h with h;injection h with h1 h;injection h' with h';injection h' with h2 h'
    subst h;subst h'
    have ht:(t.drop 2).take (JL (t.take 2)).toNat=(t'.drop 2).take (JL (t'.take 2)).toNat:=by
     rw [<-h2] at h1;injection h1 with _ h1;injection h1 with _ h1;injection h1 with h1 _
    have hl:=congrArg List.length ht;simp only [List.length_take,List.length_drop] at hl;have x1:=VQ (l:=t.take 2) (by rw [List.length_take];omega);have y1:=VQ (l:=t'.take 2) (by rw [List.length_take];omega);obtain ⟨_,e⟩:=VO (t.take 2) (t'.take 2) 0 0 (by rw [List.length_take,List.length_take];omega) (by omega);refine ⟨k::(t.take 2++(t.drop 2).take (JL (t.take 2)).toNat),?_,?_⟩
    ·rw [List.cons_append,List.append_assoc,<-List.drop_drop,List.take_append_drop,List.take_append_drop]
    ·rw [ht,e,List.cons_append,List.append_assoc,<-List.drop_drop,List.take_append_drop,List.take_append_drop]
   ·cases h
theorem TJ:∀ (l:List Ae) (t t':List UInt8),BU t=some l->BU t'=some l->t=t'
 |[],t,t',h,h' =>by
  have nil:∀ {t:List UInt8},BU t=some []->t=[]:=by
   intro t h;by_cases ht:t=[]
   ·exact ht
   ·rw [DX ht] at h;cases hn:Br t with
    |none=>rw [hn] at h;cases h
    |some x=>
     rw [hn,Ai5] at h;cases hi:BU x.2 with
     |none=>rw [hi] at h;cases h
     |some y=>rw [hi] at h;cases h
  rw [nil h,nil h']
 |v::l,t,t',h,h' =>by
  have cons:∀ {t:List UInt8},BU t=some (v::l)->∃ r,Br t=some (v,r)/\BU r=some l:=by
   intro t h;by_cases ht:t=[]
   ·subst ht;rw [Gp] at h;cases h
   ·rw [DX ht] at h;cases hn:Br t with
    |none=>rw [hn] at h;cases h
    |some x=>
     rw [hn,Ai5] at h;cases hi:BU x.2 with
     |none=>rw [hi] at h;cases h
     |some y=>
      rw [hi,Option.map_some] at h;injection h with h;injection h with h1 h2
      subst h1;subst h2;exact ⟨x.2,rfl,hi⟩
  obtain ⟨r,a1,a2⟩:=cons h;obtain ⟨r',b1,b2⟩:=cons h';obtain ⟨p,e1,e2⟩:=Yc a1 b1;rw [e1,e2,TJ l r r' a2 b2]
theorem dV {t t' r r':List UInt8} {v:Bk} (h:Ce t=some (v,r)) (h':Ce t'=some (v,r')):∃ p,t=p++r/\t'=p++r' :=by
 cases t with
 |nil=>cases h
 |cons n t=>
  cases t' with
  |nil=>cases h'
  |cons n' t' =>
   simp only [Ce] at h h';split at h
   ·cases h
   split at h'
   ·cases h'
   rename_i l1 l2;cases a:Br (t.drop n.toNat) with
   |none=>rw [a] at h;cases h
   |some x=>
    cases b:Br (t'.drop n'.toNat) with
    |none=>rw [b] at h';cases h'
    |some y=>
     rw [a,Ai5] at h;rw [b,Ai5] at h';injection h with h;injection h with h1 h;injection h' with h';injection h' with h2 h'
     subst h;subst h';rw [<-h2] at h1;injection h1 with h1 h3;injection h3 with h3 _
     have hl:=congrArg List.length h1;simp only [List.length_take] at hl;have hn:n=n' :=UInt8.toNat_inj.1 (by omega);subst hn;obtain ⟨p,e1,e2⟩:=Yc (v:=x.1) (r:=x.2) (r' :=y.2) a (by rw [h3];exact b);refine ⟨n::(t.take n.toNat++p),?_,?_⟩
     ·rw [List.cons_append,List.append_assoc,<-e1,List.take_append_drop]
     ·rw [h1,List.cons_append,List.append_assoc,<-e2,List.take_append_drop]
theorem RH:∀ (l:List Bk) (t t':List UInt8),AG t=some l->AG t'=some l->t=t'
 |[],t,t',h,h' =>by
  have nil:∀ {t:List UInt8},AG t=some []->t=[]:=by
   intro t h;by_cases ht:t=[]
   ·exact ht
   ·rw [CR ht] at h;cases hn:Ce t with
    |none=>rw [hn] at h;cases h
    |some x=>
     rw [hn,Ai5] at h;cases hi:AG x.2 with
     |none=>rw [hi] at h;cases h
     |some y=>rw [hi] at h;cases h
  rw [nil h,nil h']
 |v::l,t,t',h,h' =>by
  have cons:∀ {t:List UInt8},AG t=some (v::l)->∃ r,Ce t=some (v,r)/\AG r=some l:=by
   intro t h;by_cases ht:t=[]
   ·subst ht;rw [show AG []=some [] from rfl] at h;cases h
   ·rw [CR ht] at h;cases hn:Ce t with
    |none=>rw [hn] at h;cases h
    |some x=>
     rw [hn,Ai5] at h;cases hi:AG x.2 with
     |none=>rw [hi] at h;cases h
     |some y=>
      rw [hi,Option.map_some] at h;injection h with h;injection h with h1 h2
      subst h1;subst h2;exact ⟨x.2,rfl,hi⟩
  obtain ⟨r,a1,a2⟩:=cons h;obtain ⟨r',b1,b2⟩:=cons h';obtain ⟨p,e1,e2⟩:=dV a1 b1;rw [e1,e2,RH l r r' a2 b2]
def BZ (v:Ae):List Ae:=(BU v.2.2.1).getD []
def B_ (v:Ae):List Bk:=(AG v.2.2.1).getD []
theorem AQ {d:Nat} {v:Ae} (h:AH d v=true) (hk:v.1=4):∃ e l,d=e+1/\BU v.2.2.1=some l/\BZ v=l/\v.2.1=0/\v.2.2.1.length<=300/\∀ x,x∈l->AH e x=true:=by
 cases d with
 |zero=>
  rw [show AH 0 v=GL (fun _=>false) false v from rfl] at h;unfold GL at h;rw [if_neg (by omega),if_neg (by omega),if_neg (by omega),if_neg (by omega),if_pos hk] at h;simp at h
 |succ e=>
  rw [show AH (e+1) v=GL (AH e) true v from rfl] at h;unfold GL at h;rw [if_neg (by omega),if_neg (by omega),if_neg (by omega),if_neg (by omega),if_pos hk] at h;cases hi:BU v.2.2.1 with
  |none=>rw [hi] at h;simp at h
  |some l=>
   rw [hi] at h;simp only [Ajb,beq_iff_eq,Ajg,List.all_eq_true] at h;exact ⟨e,l,rfl,rfl,by unfold BZ;rw [hi];rfl,h.1,by omega,h.2.2.2⟩
theorem Bl {d:Nat} {v:Ae} (h:AH d v=true) (hk:v.1=5):∃ e l,d=e+1/\AG v.2.2.1=some l/\B_ v=l/\v.2.1=0/\v.2.2.1.length<=300/\∀ x,x∈l->AH e x.2.1=true:=by
 cases d with
 |zero=>
  rw [show AH 0 v=GL (fun _=>false) false v from rfl] at h;unfold GL at h;rw [if_neg (by omega),if_neg (by omega),if_neg (by omega),if_neg (by omega),if_neg (by omega),if_pos hk] at h;simp at h
 |succ e=>
  rw [show AH (e+1) v=GL (AH e) true v from rfl] at h;unfold GL at h;rw [if_neg (by omega),if_neg (by omega),if_neg (by omega),if_neg (by omega),if_neg (by omega),if_pos hk] at h;cases hi:AG v.2.2.1 with
  |none=>rw [hi] at h;simp at h
  |some l=>
   rw [hi] at h;simp only [Ajb,beq_iff_eq,Ajg] at h;refine ⟨e,l,rfl,rfl,by unfold B_;rw [hi];rfl,h.1,by omega,fun x hx=>?_⟩;obtain ⟨i,hi',rfl⟩:=Ez hx;have:=(AY _ _ _).1 h.2.2.2 i (Nat.zero_le _) (by omega);simp only [Ajb] at this;exact this.2.2
theorem AR {d:Nat} {v:Ae} (h:AH d v=true):v.2.2.1.length<=300:=by
 have:∀ g m,GL g m v=true->v.2.2.1.length<=300:=by
  intro g m h;unfold GL at h;split at h
  ·simp at h;rw [h.2];simp
  split at h
  ·simp at h;rw [h.2];simp
  split at h
  ·simp at h;rw [h.2];simp
  split at h
  ·simp only [Ajb,Ajg] at h;omega
  split at h
  ·simp only [Ajb,Ajg] at h;omega
  split at h
  ·simp only [Ajb,Ajg] at h;omega
  ·cases h
 cases d with
 |zero=>exact this _ _ h
 |succ d=>exact this _ _ h
def II (a b:Int):Int:=cond (decide (a<b)) (-1) (cond (decide (a>b)) 1 0)
theorem Cn (a b:Int):II a b=0↔a=b:=by
 unfold II;by_cases h1:a<b
 ·simp [h1];omega
 ·by_cases h2:a>b
  ·simp [h1,h2];omega
  ·simp [h1,h2];omega
def CS {α:Type} (c:α->α->Int):List α->List α->Int
 |[],[]=>0
 |[],_::_=>-1
 |_::_,[]=>1
 |a::x,b::y=>if c a b=0 then CS c x y else c a b
theorem Oj {α:Type} {c:α->α->Int}:∀ (x y:List α),(∀ a,a∈x->∀ b,b∈y->(c a b=0↔a=b))->(CS c x y=0↔x=y)
 |[],[],_=>by simp [CS]
 |[],_::_,_=>by simp [CS]
 |_::_,[],_=>by simp [CS]
 |a::x,b::y,h=>by
  have h1:=h a (.head _) b (.head _);have h2:=Oj x y fun p hp q hq=>h p (.tail _ hp) q (.tail _ hq)
  unfold CS;by_cases hc:c a b=0
  ·rw [if_pos hc,h2];have:=h1.1 hc;subst this;simp
  ·rw [if_neg hc];have:a≠b:=fun e=>hc (h1.2 e)
   simp [hc,this]
def LY (g:Ae->Ae->Int) (x y:Bk):Int:=cond (Lib.compareBytes x.1 y.1 != 0) (Lib.compareBytes x.1 y.1) (g x.2.1 y.2.1)
def GC (g:Ae->Ae->Int) (a b:Ae):Int:=
 if II a.1 b.1≠0 then II a.1 b.1 else if II a.2.1 b.2.1≠0 then II a.2.1 b.2.1
 else if a.1=4 then CS g (BZ a) (BZ b) else if a.1=5 then CS (LY g) (B_ a) (B_ b) else Lib.compareBytes a.2.2.1 b.2.2.1
def DF:Nat->Ae->Ae->Int
 |0=>GC (fun _ _=>0)
 |d+1=>GC (DF d)
theorem EN:∀ (d:Nat) (a b:Ae),AH d a=true->AH d b=true->(DF d a b=0↔a=b):=by
 have body:∀ (g:Ae->Ae->Int) (d:Nat) (a b:Ae),AH d a=true->AH d b=true->(∀ e,d=e+1->∀ x y,AH e x=true->AH e y=true->(g x y=0↔x=y))->(GC g a b=0↔a=b):=by
  intro g d a b ha hb hg
  have ext:a.1=b.1->a.2.1=b.2.1->(a.2.2.1=b.2.2.1↔a=b):=by
   intro h1 h2;obtain ⟨a1,a2,a3,_⟩:=a;obtain ⟨b1,b2,b3,_⟩:=b;simp only at h1 h2;subst h1;subst h2;simp
  unfold GC;by_cases h1:a.1=b.1
  ·by_cases h2:a.2.1=b.2.1
   ·rw [if_neg (by rw [Classical.not_not];exact (Cn _ _).2 h1),if_neg (by rw [Classical.not_not];exact (Cn _ _).2 h2)];by_cases c4:a.1=4
    ·rw [if_pos c4];obtain ⟨e,l,hd,i1,i2,_,_,i3⟩:=AQ ha c4;obtain ⟨e',l',hd',j1,j2,_,_,j3⟩:=AQ hb (by omega);have:e'=e:=by omega
     subst this;rw [i2,j2,Oj l l' fun x hx y hy=>hg e' hd x y (i3 x hx) (j3 y hy),<-ext h1 h2];constructor
     ·rintro rfl;exact TJ l _ _ i1 j1
     ·intro h;rw [h,j1] at i1;injection i1 with i1;exact i1.symm
    ·rw [if_neg c4];by_cases c5:a.1=5
     ·rw [if_pos c5];obtain ⟨e,l,hd,i1,i2,_,_,i3⟩:=Bl ha c5;obtain ⟨e',l',hd',j1,j2,_,_,j3⟩:=Bl hb (by omega);have:e'=e:=by omega
      subst this
      have hF:∀ x,x∈l->∀ y,y∈l' ->(LY g x y=0↔x=y):=by
       intro x hx y hy;have h0:=hg e' hd x.2.1 y.2.1 (i3 x hx) (j3 y hy);have hc:=AC x.1 y.1;unfold LY;obtain ⟨n,v,_⟩:=x;obtain ⟨m,u,_⟩:=y;simp only at h0 hc ⊢;by_cases hz:Lib.compareBytes n m=0
       ·have:(Lib.compareBytes n m != 0)=false:=by simpa using hz
        rw [this,Ai6,h0,hc.1 hz];simp
       ·have h3:(Lib.compareBytes n m != 0)=true:=by simpa using hz
        rw [h3,Ai7];have:n≠m:=fun e=>hz (hc.2 e)
        simp [hz,this]
      rw [i2,j2,Oj l l' hF,<-ext h1 h2];constructor
      ·rintro rfl;exact RH l _ _ i1 j1
      ·intro h;rw [h,j1] at i1;injection i1 with i1;exact i1.symm
     ·rw [if_neg c5,AC,ext h1 h2]
   ·rw [if_neg (by rw [Classical.not_not];exact (Cn _ _).2 h1),if_pos (fun h=>h2 ((Cn _ _).1 h))];constructor
    ·intro h;exact absurd ((Cn _ _).1 h) h2
    ·rintro rfl;exact absurd rfl h2
  ·rw [if_pos (fun h=>h1 ((Cn _ _).1 h))];constructor
   ·intro h;exact absurd ((Cn _ _).1 h) h1
   ·rintro rfl;exact absurd rfl h1
 intro d;induction d with
 |zero=>intro a b ha hb;exact body _ 0 a b ha hb (fun e he=>by omega)
 |succ d ih=>
  intro a b ha hb;refine body _ (d+1) a b ha hb fun e he x y hx hy=>?_
  have:e=d:=by omega
  subst this;exact ih x y hx hy
def Lg:List (List UInt8)->Ae->List Ae
 |[],v=>v::(if v.1=4 then BZ v else [])
 |n::ns,v=>
  let one:Ae->List Ae:=fun x=>if (BJ (B_ x) n).2.1 then Lg ns (BJ (B_ x) n).1 else []
  if v.1=5 then one v else if v.1=4 then (BZ v).flatMap fun x=>if x.1=5 then one x else [] else []
def BQ (v:Ae) (path:List UInt8):List Ae:=Lg (BO 46 path) v
def EY (t:CI) (v:Ae):Bool:=
 let by' :=DF 5 v t.2.2.1
 let alike:=v.1==t.2.2.1.1
 if t.1=1\/t.1=2 then decide (by'=0) else if t.1=3 then alike&&decide (by'<0) else if t.1=4 then alike&&decide (by' <=0)
 else if t.1=5 then alike&&decide (by'>0) else if t.1=6 then alike&&decide (by' >=0) else if t.1=7 then (BZ t.2.2.1).any (fun x=>x==v)
 else if t.1=9 then v.1==t.2.2.1.2.1 else (v.1==4)&&((((BZ v).length:Nat):Int)==t.2.2.1.2.1)
def RI:Ae:=(0,0,[],())
def JH (t:CI) (doc:Ae):Bool:=
 let list:=BQ doc t.2.1
 if t.1=8 then (decide (0<list.length))==(t.2.2.1.2.1==1)
 else (((if list.length=0/\t.1≠9 then [RI] else list).any (EY t)) != (t.1==2))
def CL (f:Dv) (doc:Ae):Bool:=f.1.any fun c=>c.1.all fun t=>JH t doc
theorem Ct {d:Nat} {v:Ae} (h:AH d v=true):Dd 1048576 v:=Nat.le_trans (AR h) (by decide)
theorem CF {v:Ae} (hv:Dd 1048576 v) {l:List Ae} (h:BU v.2.2.1=some l):LT v=some (l,true,()):=by
 rw [Jm v hv];rcases Oh v.2.2.1.length v.2.2.1 (Nat.le_refl _) with ⟨l',h1,h2⟩ | ⟨h1,_⟩
 ·rw [h] at h1;injection h1 with h1
  subst h1;rw [h2]
 ·rw [h] at h1;cases h1
theorem EA {v:Ae} (hv:Dd 1048576 v) {l:List Bk} (h:AG v.2.2.1=some l):SR v=some (l,true,()):=by
 rw [Il v hv];rcases Hz v.2.2.1.length v.2.2.1 (Nat.le_refl _) with ⟨l',h1,h2⟩ | ⟨h1,_⟩
 ·rw [h] at h1;injection h1 with h1
  subst h1;rw [h2]
 ·rw [h] at h1;cases h1
def cfR {α:Type} (G:α->α->Option (Int×Unit)) (e0_0:List α×List α×Unit->Option (Int×Unit)) (er_1:Int×Unit->Option (Int×Unit)) (rec:List α×List α×List α×Int×Int×Unit->Option (Int×Unit)) (x2:List α×List α×List α×Int×Int×Unit):Option (Int×Unit):=
 (cond (decide (x2.2.2.2.2.1<x2.2.2.2.1))
 (gd (decide ((0:Int)<=x2.2.2.2.2.1))
 (Option.bind x2.2.2.1[(Int.toNat x2.2.2.2.2.1)]? fun y5=>
 (cond (decide (x2.2.2.2.2.1>=(((List.length x2.2.1):Nat):Int)))
 (er_1 ((1:Int),()))
 (gd (decide ((0:Int)<=x2.2.2.2.2.1))
 (Option.bind x2.2.1[(Int.toNat x2.2.2.2.2.1)]? fun y7=>
 (Option.bind (G y5 y7) fun y8=>
 (cond (y8.1 != (0:Int))
 (er_1 (y8.1,()))
 (rec (x2.1,x2.2.1,x2.2.2.1,x2.2.2.2.1,(IntKind.wrap IntKind.i64 (x2.2.2.2.2.1+(1:Int))),())))))))))
 (e0_0 (x2.1,x2.2.1,())))
theorem CT {β:Type} (z:Int) (a b:β):cond (z != 0) a b=if z=0 then b else a:=by
 by_cases h:z=0
 ·subst h;rfl
 ·have:(z != 0)=true:=by simpa using h
  rw [this,if_neg h];rfl
theorem nB {α:Type} [Inhabited α] (G:α->α->Option (Int×Unit)) (c:α->α->Int) (xs ys:List α) (hG:∀ x,x∈xs->∀ y,y∈ys->G x y=some (c x y,())) (hx:xs.length<=1048576) (hy:ys.length<=1048576) :
  iter (cfR G (fun y9=>(cond (decide ((((List.length y9.1):Nat):Int)<(((List.length y9.2.1):Nat):Int))) (some ((-(1:Int)),())) (some ((0:Int),())))) (fun y10=>(some (y10.1,())))) Af (xs,ys,xs,(((List.length xs):Nat):Int),(0:Int),())=some (CS c xs ys,()):=by
 refine Eq.trans (Ay (S:=Unit) (fun i _=>(xs,ys,xs,((xs.length:Nat):Int),(i:Int),())) (fun i _=>some (CS c (xs.drop i) (ys.drop i),())) xs.length (fun _ _=>True) ?_ ?_ Af 0 () (Nat.zero_le _) (Aj (by omega)) trivial) rfl
 ·intro i _ hi _ rec hrec;simp only [cfR,Ad,hi,decide_true,Ai7,Ap,Ai hi,Ai5,Am i _ hi (by omega)];rw [show decide ((i:Int)>=((ys.length:Nat):Int))=decide (ys.length<=i) by rw [decide_eq_decide];omega];by_cases hj:ys.length<=i
  ·rw [decide_eq_true hj,Ai7,List.drop_eq_nil_of_le hj,Ac hi];rfl
  ·have hj':i<ys.length:=by omega
   rw [decide_eq_false hj,Ai6,Ai hj',Ai5,hG _ (Au hi) _ (Au hj'),Ai5,CT,Ac hi,Ac hj'];unfold CS;by_cases hz:c (Ah xs i) (Ah ys i)=0
   ·rw [if_pos hz,if_pos hz,hrec () trivial]
   ·rw [if_neg hz,if_neg hz]
 ·intro _ _ rec;simp only [cfR,Ad,Nat.lt_irrefl,decide_false,Ai6,Ajh];by_cases hj:xs.length<ys.length
  ·rw [decide_eq_true hj,Ai7,Ac hj];rfl
  ·rw [decide_eq_false hj,Ai6,List.drop_eq_nil_of_le (by omega)];rfl
def r6 {α:Type} (c:α->α->Int):List α->List α->Int
 |[],[]=>-1
 |[],_::_=>-1
 |_::_,[]=>1
 |a::x,b::y=>if c a b=0 then r6 c x y else c a b
theorem ZR {α:Type} {c:α->α->Int}:∀ (x y:List α),CS c x y≠0->r6 c x y=CS c x y
 |[],[],h=>(h rfl).elim
 |[],_::_,_=>rfl
 |_::_,[],_=>rfl
 |a::x,b::y,h=>by
  unfold CS at h ⊢;unfold r6;by_cases hz:c a b=0
  ·rw [if_pos hz] at h ⊢;rw [if_pos hz];exact ZR x y h
  ·rw [if_neg hz,if_neg hz]
theorem Ok (b:Bool):(Option.bind (XG b) fun y16=>(some ((IntKind.wrap IntKind.i64 ((IntKind.wrap IntKind.i64 ((2:Int)*y16.1))-(1:Int))),())))=some ((cond b 1 (-1):Int),()):=by
 cases b<;>rfl
theorem nC {α:Type} [Inhabited α] {R:(List α×List α×Int×Unit->Option (Int×Unit))->List α×List α×Int×Unit->Option (Int×Unit)} (c:α->α->Int) (xs ys:List α) (hx:xs.length<=1048576) (hy:ys.length<=1048576)
  (h1:∀ i rec,i<xs.length->i<ys.length->R rec (xs,ys,(i:Int),())=if c (Ah xs i) (Ah ys i)=0 then rec (xs,ys,((i+1:Nat):Int),()) else some (c (Ah xs i) (Ah ys i),()))
  (h2:∀ i rec,¬(i<xs.length/\i<ys.length)->R rec (xs,ys,(i:Int),())=some ((cond (decide ((((List.length xs):Nat):Int)>(((List.length ys):Nat):Int))) 1 (-1):Int),())) :
  iter R Af (xs,ys,(0:Int),())=some (r6 c xs ys,()):=by
 refine Eq.trans (Ay (S:=Unit) (fun i _=>(xs,ys,(i:Int),())) (fun i _=>some (r6 c (xs.drop i) (ys.drop i),())) (min xs.length ys.length) (fun _ _=>True) ?_ ?_ Af 0 () (Nat.zero_le _) (Aj (by omega)) trivial) rfl
 ·intro i _ hi _ rec hrec;have hi1:i<xs.length:=by omega
  have hi2:i<ys.length:=by omega
  rw [h1 i rec hi1 hi2,Ac hi1,Ac hi2];unfold r6;by_cases hz:c (Ah xs i) (Ah ys i)=0
  ·rw [if_pos hz,if_pos hz,hrec () trivial]
  ·rw [if_neg hz,if_neg hz]
 ·intro _ _ rec;rw [h2 _ rec (by omega)];by_cases hl:ys.length<xs.length
  ·rw [show min xs.length ys.length=ys.length by omega,Ajh,Ac hl,show decide (((xs.length:Nat):Int)>((ys.length:Nat):Int))=true by rw [Ajg];omega];rfl
  ·rw [show min xs.length ys.length=xs.length by omega,Ajh,show decide (((xs.length:Nat):Int)>((ys.length:Nat):Int))=false by rw [decide_eq_false_iff_not];omega];cases ys.drop xs.length<;>rfl
theorem Yd (a b:List UInt8) (h:a≠b):(cond (!((Op.bytesLess a b)||(a==b))) 1 (-1):Int)=Lib.compareBytes a b:=by
 have hb:(a==b)=false:=by simpa using h
 rw [hb,Bool.or_false,Bn]
 have h1:∀ (a b:List UInt8),Lib.compareBytes a b = -1\/Lib.compareBytes a b=0\/Lib.compareBytes a b=1:=by
  intro a;induction a with
  |nil=>intro b;cases b<;>simp [Lib.compareBytes]
  |cons x a ih=>
   intro b;cases b with
   |nil=>simp [Lib.compareBytes]
   |cons y b=>
    simp only [Lib.compareBytes]
    repeat' split
    all_goals first | exact ih b | simp
 rcases h1 a b with e | e | e
 ·rw [e];rfl
 ·exact absurd ((AC a b).1 e) h
 ·rw [e];rfl
theorem dW (a b:List UInt8) (h:a≠b):(cond (!((Op.bytesLess a b)||false)) 1 (-1):Int)=Lib.compareBytes a b:=by
 have:=Yd a b h;rwa [show (a==b)=false by simpa using h] at this
theorem Nt {d:Nat} {v:Ae} (h:AH d v=true) (hk:v.1=4):(BZ v).length<=1048576:=by
 obtain ⟨e,l,_,h1,h2,_,h3,_⟩:=AQ h hk;rw [h2];have:=(BA _ _ _ (Nat.le_refl _) h1).1;omega
theorem Pb {d:Nat} {v:Ae} (h:AH d v=true) (hk:v.1=5):(B_ v).length<=1048576:=by
 obtain ⟨e,l,_,h1,h2,_,h3,_⟩:=Bl h hk;rw [h2];have:=(Cy _ _ _ (Nat.le_refl _) h1).1;omega
theorem iw {d:Nat} {a b:Ae} (ha:AH d a=true) (hb:AH d b=true) (hk:a.1=b.1) (ht:a.2.2.1≠b.2.2.1):a.1=3\/a.1=4\/a.1=5:=by
 have key:∀ (g:Ae->Bool) (m:Bool) (v:Ae),GL g m v=true->v.1=0\/v.1=1\/v.1=2->v.2.2.1=[]:=by
  intro g m v h hv;unfold GL at h;rcases hv with e | e | e
  ·rw [if_pos e] at h;simp at h;exact h.2
  ·rw [if_neg (by omega),if_pos e] at h;simp at h;exact h.2
  ·rw [if_neg (by omega),if_neg (by omega),if_pos e] at h;simp at h;exact h.2
 have key2:∀ (g:Ae->Bool) (m:Bool) (v:Ae),GL g m v=true->v.1=0\/v.1=1\/v.1=2\/v.1=3\/v.1=4\/v.1=5:=by
  intro g m v h;unfold GL at h
  repeat' split at h
  all_goals first | (cases h;done) | omega
 have both:∃ g m g' m',GL g m a=true/\GL g' m' b=true:=by
  cases d with
  |zero=>exact ⟨_,_,_,_,ha,hb⟩
  |succ d=>exact ⟨_,_,_,_,ha,hb⟩
 obtain ⟨g,m,g',m',h1,h2⟩:=both;rcases key2 _ _ _ h1 with h | h | h | h | h | h
 ·exact absurd ((key _ _ _ h1 (.inl h)).trans (key _ _ _ h2 (.inl (by omega))).symm) ht
 ·exact absurd ((key _ _ _ h1 (.inr (.inl h))).trans (key _ _ _ h2 (.inr (.inl (by omega)))).symm) ht
 ·exact absurd ((key _ _ _ h1 (.inr (.inr h))).trans (key _ _ _ h2 (.inr (.inr (by omega)))).symm) ht
 ·exact .inl h
 ·exact .inr (.inl h)
 ·exact .inr (.inr h)
theorem iy {x y:Int} (h:x≠y):(cond (decide (x>y)) 1 (-1):Int)=II x y:=by
 unfold II;by_cases h1:x<y
 ·rw [decide_eq_true h1,decide_eq_false (by omega:¬x>y)];rfl
 ·rw [decide_eq_false h1,decide_eq_true (by omega:x>y)];rfl
theorem Ye (g:Ae->Ae->Option (Int×Unit)) (h:Ae->Ae->Int) (d:Nat) (a b:Ae) (ha:AH d a=true) (hb:AH d b=true)
  (hg:∀ e,d=e+1->∀ x y,AH e x=true->AH e y=true->g x y=some (h x y,())) (hz:GC h a b=0↔a=b):lY g a b=some (GC h a b,()):=by
 unfold lY;have la:=AR ha;have lb:=AR hb;by_cases h1:a.1=b.1
 ·rw [show (a.1 != b.1)=false by simpa using h1,Ai6];by_cases h2:a.2.1=b.2.1
  ·rw [show (a.2.1 != b.2.1)=false by simpa using h2,Ai6];by_cases h3:a.2.2.1=b.2.2.1
   ·rw [show (a.2.2.1==b.2.2.1)=true by simpa using h3,Ai7]
    have:a=b:=by
     obtain ⟨a1,a2,a3,_⟩:=a;obtain ⟨b1,b2,b3,_⟩:=b;simp only at h1 h2 h3;rw [h1,h2,h3]
    rw [hz.2 this]
   ·rw [show (a.2.2.1==b.2.2.1)=false by simpa using h3,Ai6];have hne:GC h a b≠0:=fun e=>h3 (by rw [hz.1 e])
    have hord:GC h a b=if a.1=4 then CS h (BZ a) (BZ b) else if a.1=5 then CS (LY h) (B_ a) (B_ b) else Lib.compareBytes a.2.2.1 b.2.2.1:=by
     unfold GC;rw [if_neg (by rw [Classical.not_not];exact (Cn _ _).2 h1),if_neg (by rw [Classical.not_not];exact (Cn _ _).2 h2)]
    rcases iw ha hb h1 h3 with k | k | k
    ·rw [show (a.1==(3:Int))=true by simpa using k,Ai7,Ok,dW _ _ h3,hord,if_neg (by omega),if_neg (by omega)]
    ·rw [show (a.1==(3:Int))=false by rw [beq_eq_false_iff_ne];omega,Ai6,show (a.1==(4:Int))=true by simpa using k,Ai7];obtain ⟨e,l,hd,i1,i2,_,_,i3⟩:=AQ ha k;obtain ⟨e',l',hd',j1,j2,_,_,j3⟩:=AQ hb (by omega);have:e'=e:=by omega
     subst this;rw [Dk _ (by omega),i1,Ai5,Dk _ (by omega),j1,Ai5];rw [hord,if_pos k,i2,j2] at hne;rw [hord,if_pos k,i2,j2,<-ZR _ _ hne];have l1:=(BA _ _ _ (Nat.le_refl _) i1).1;have l2:=(BA _ _ _ (Nat.le_refl _) j1).1;refine nC h l l' (by omega) (by omega) (fun i rec p q=>?_) (fun i rec hn=>?_)
     ·simp only [Nc,Ad,p,q,decide_true,Ai7,Ap,Ai p,Ai q,Ai5,hg e' hd _ _ (i3 _ (Au p)) (j3 _ (Au q)),CT,Am i _ p (by omega)]
     ·simp only [Nc,Ad,Ok];by_cases p:i<l.length
      ·have q:¬i<l'.length:=fun q=>hn ⟨p,q⟩
       simp only [p,q,decide_true,decide_false,Ai7,Ai6]
      ·simp only [p,decide_false,Ai6]
    ·rw [show (a.1==(3:Int))=false by rw [beq_eq_false_iff_ne];omega,Ai6,show (a.1==(4:Int))=false by rw [beq_eq_false_iff_ne];omega,Ai6];obtain ⟨e,l,hd,i1,i2,_,_,i3⟩:=Bl ha k;obtain ⟨e',l',hd',j1,j2,_,_,j3⟩:=Bl hb (by omega);have:e'=e:=by omega
     subst this;rw [Dx _ (by omega),i1,Ai5,Dx _ (by omega),j1,Ai5];rw [hord,if_neg (by omega),if_pos k,i2,j2] at hne;rw [hord,if_neg (by omega),if_pos k,i2,j2,<-ZR _ _ hne];have l1:=(Cy _ _ _ (Nat.le_refl _) i1).1;have l2:=(Cy _ _ _ (Nat.le_refl _) j1).1;refine nC (LY h) l l' (by omega) (by omega) (fun i rec p q=>?_) (fun i rec hn=>?_)
     ·simp only [Nd,Ad,p,q,decide_true,Ai7,Ap,Ai p,Ai q,Ai5,hg e' hd _ _ (i3 _ (Au p)) (j3 _ (Au q)),CT,Ok,Am i _ p (by omega)];unfold LY;by_cases hn:(Ah l i).1=(Ah l' i).1
      ·rw [show ((Ah l i).1==(Ah l' i).1)=true by simpa using hn,(AC _ _).2 hn];rfl
      ·rw [show ((Ah l i).1==(Ah l' i).1)=false by simpa using hn,Bool.not_false,Ai7];have hc:Lib.compareBytes (Ah l i).1 (Ah l' i).1≠0:=fun e=>hn ((AC _ _).1 e)
       have hcc:=Yd _ _ hn;rw [show ((Ah l i).1==(Ah l' i).1)=false by simpa using hn] at hcc;rw [hcc,show (Lib.compareBytes (Ah l i).1 (Ah l' i).1 != 0)=true by simpa using hc,Ai7,if_neg hc]
     ·simp only [Nd,Ad,Ok];by_cases p:i<l.length
      ·have q:¬i<l'.length:=fun q=>hn ⟨p,q⟩
       simp only [p,q,decide_true,decide_false,Ai7,Ai6]
      ·simp only [p,decide_false,Ai6]
  ·rw [show (a.2.1 != b.2.1)=true by simpa using h2,Ai7,Ok,iy h2];unfold GC;rw [if_neg (by rw [Classical.not_not];exact (Cn _ _).2 h1),if_pos (fun h=>h2 ((Cn _ _).1 h))]
 ·rw [show (a.1 != b.1)=true by simpa using h1,Ai7,Ok,iy h1];unfold GC;rw [if_pos (fun h=>h1 ((Cn _ _).1 h))]
theorem Ls:∀ (d k:Nat) (a b:Ae),d<k->AH d a=true->AH d b=true->gT k a b=some (DF d a b,())
 |0,k+1,a,b,_,ha,hb=>Ye _ _ 0 a b ha hb (fun e he=>by omega) (EN 0 a b ha hb)
 |d+1,k+1,a,b,hk,ha,hb=>Ye _ (DF d) (d+1) a b ha hb (fun e he x y hx hy=>by
   have:e=d:=by omega
   subst this;exact Ls e k x y (by omega) hx hy) (EN (d+1) a b ha hb)
theorem Jo (a b:Ae) (ha:AH 5 a=true) (hb:AH 5 b=true):dK a b=some (DF 5 a b,()):=Ls 5 Af a b (Aj (by decide)) ha hb
theorem Yf (g:Ae->Ae->Option (Int×Unit)) (h:Ae->Ae->Int) (d:Nat) (a b:Ae) (ha:AH d a=true) (hb:AH d b=true)
  (hg:∀ e,d=e+1->∀ x y,AH e x=true->AH e y=true->g x y=some (h x y,())):ly g a b=some (GC h a b,()):=by
 unfold ly;have e1:∀ x y:Int,XE x y=some (II x y,()):=Oi;rw [e1,Ai5,e1,Ai5,ZP,Ai5];dsimp only;rw [CT (cond (II a.1 b.1 != 0) (II a.1 b.1) (II a.2.1 b.2.1))];by_cases s1:II a.1 b.1=0
 ·rw [show (II a.1 b.1 != 0)=false by simpa using s1,Ai6];by_cases s2:II a.2.1 b.2.1=0
  ·have hord:GC h a b=if a.1=4 then CS h (BZ a) (BZ b) else if a.1=5 then CS (LY h) (B_ a) (B_ b) else Lib.compareBytes a.2.2.1 b.2.2.1:=by
    unfold GC;rw [if_neg (by rw [Classical.not_not];exact s1),if_neg (by rw [Classical.not_not];exact s2)]
   rw [if_pos s2,hord];have h1:=(Cn _ _).1 s1;by_cases k4:a.1=4
   ·rw [show (a.1==(4:Int))=true by simpa using k4,Ai7,if_pos k4];obtain ⟨e,l,hd,i1,i2,_,_,i3⟩:=AQ ha k4;obtain ⟨e',l',hd',j1,j2,_,_,j3⟩:=AQ hb (by omega);have:e'=e:=by omega
    subst this;have la:=Nt ha k4;have lb:=Nt hb (by omega);rw [i2] at la;rw [j2] at lb
    rw [CF (Ct ha) i1,Ai5,CF (Ct hb) j1,Ai5,i2,j2,
     show lu g l l' ()=some (CS h l l',()) from nB g h l l' (fun x hx y hy=>hg e' hd x y (i3 x hx) (j3 y hy)) la lb]
    rfl
   ·rw [show (a.1==(4:Int))=false by simpa using k4,Ai6,if_neg k4];by_cases k5:a.1=5
    ·rw [show (a.1==(5:Int))=true by simpa using k5,Ai7,if_pos k5];obtain ⟨e,l,hd,i1,i2,_,_,i3⟩:=Bl ha k5;obtain ⟨e',l',hd',j1,j2,_,_,j3⟩:=Bl hb (by omega);have:e'=e:=by omega
     subst this;have la:=Pb ha k5;have lb:=Pb hb (by omega);rw [i2] at la;rw [j2] at lb
     have hf:∀ x,x∈l->∀ y,y∈l' ->gK g x y=some (LY h x y,()):=by
      intro x hx y hy;unfold gK;rw [show ZF x.1 y.1=some (Lib.compareBytes x.1 y.1,()) from rfl,Ai5,hg e' hd _ _ (i3 x hx) (j3 y hy),Ai5,ZP,Ai5];rfl
     rw [EA (Ct ha) i1,Ai5,EA (Ct hb) j1,Ai5,i2,j2,
      show lx g l l' ()=some (CS (LY h) l l',()) from nB _ (LY h) l l' hf la lb]
     rfl
    ·rw [show (a.1==(5:Int))=false by simpa using k5,Ai6,if_neg k5];rfl
  ·have hord:GC h a b=II a.2.1 b.2.1:=by
    unfold GC;rw [if_neg (by rw [Classical.not_not];exact s1),if_pos s2]
   rw [if_neg s2,hord]
 ·have hord:GC h a b=II a.1 b.1:=by
   unfold GC;rw [if_pos s1]
  rw [show (II a.1 b.1 != 0)=true by simpa using s1,Ai7,if_neg s1,hord]
theorem Lt:∀ (d k:Nat) (a b:Ae),d<k->AH d a=true->AH d b=true->gL k a b=some (DF d a b,())
 |0,k+1,a,b,_,ha,hb=>Yf _ _ 0 a b ha hb (fun e he=>by omega)
 |d+1,k+1,a,b,hk,ha,hb=>Yf _ (DF d) (d+1) a b ha hb (fun e he x y hx hy=>by
   have:e=d:=by omega
   subst this;exact Lt e k x y (by omega) hx hy)
theorem Jp (a b:Ae) (ha:AH 5 a=true) (hb:AH 5 b=true):LU a b=some (DF 5 a b,()):=Lt 5 Af a b (Aj (by decide)) ha hb
theorem TK:∀ {t:List UInt8} {v:Ae} {r:List UInt8},Br t=some (v,r)->v.2.2.1.length+1+r.length<=t.length
 |[],v,r,h=>by cases h
 |k::t,v,r,h=>by
  simp only [Br] at h
  repeat' split at h
  all_goals first | (cases h;done) | (injection h with h;injection h with h1 h2;subst h1;subst h2;simp only [List.length_take,List.length_drop,Aja,Ajd];omega)
theorem HA:∀ (n:Nat) (t:List UInt8) (l:List Ae),t.length<=n->BU t=some l->(l.map fun x=>x.2.2.1.length+1).sum<=t.length
 |n,[],l,_,h=>by
  rw [Gp] at h;injection h with h
  subst h;simp
 |0,b::t,l,h0,h=>by simp at h0
 |n+1,b::t,l,h0,h=>by
  rw [DX (by simp)] at h;cases hn:Br (b::t) with
  |none=>rw [hn] at h;cases h
  |some x=>
   rw [hn,Ai5] at h;cases hi:BU x.2 with
   |none=>rw [hi] at h;cases h
   |some y=>
    rw [hi,Option.map_some] at h;injection h with h
    subst h;have hroom:=TK (v:=x.1) (r:=x.2) hn;have ih:=HA n x.2 y (by simp only [Aja] at hroom h0;omega) hi;simp only [List.map_cons,List.sum_cons];omega
theorem mZ (l:List Ae):l.length<=(l.map fun x=>x.2.2.1.length+1).sum:=by
 induction l with
 |nil=>simp
 |cons x l ih=>simp only [List.map_cons,List.sum_cons,Aja];omega
theorem ZS {t:List UInt8} {f:Bk} {r:List UInt8} (h:Ce t=some (f,r)):f.2.1.2.2.1.length+1+r.length<=t.length:=by
 cases t with
 |nil=>cases h
 |cons n t=>
  simp only [Ce] at h;split at h
  ·cases h
  ·cases hn:Br (t.drop n.toNat) with
   |none=>rw [hn] at h;cases h
   |some x=>
    rw [hn,Ai5] at h;injection h with h
    injection h with h1 h2
    subst h1;subst h2;have:=TK (v:=x.1) (r:=x.2) hn;simp only [List.length_drop,Aja] at this ⊢;omega
theorem Pc:∀ (n:Nat) (t:List UInt8) (l:List Bk),t.length<=n->AG t=some l->∀ f,f∈l->f.2.1.2.2.1.length+1<=t.length
 |n,[],l,_,h,f,hf=>by
  rw [show AG []=some [] from rfl] at h;injection h with h
  subst h;cases hf
 |0,b::t,l,h0,h,f,hf=>by simp at h0
 |n+1,b::t,l,h0,h,f,hf=>by
  rw [CR (by simp)] at h;cases hn:Ce (b::t) with
  |none=>rw [hn] at h;cases h
  |some x=>
   rw [hn,Ai5] at h;cases hi:AG x.2 with
   |none=>rw [hi] at h;cases h
   |some y=>
    rw [hi,Option.map_some] at h;injection h with h
    subst h;have hroom:=ZS (f:=x.1) (r:=x.2) hn;rcases List.mem_cons.1 hf with rfl | hf
    ·omega
    ·have ih:=Pc n x.2 y (by simp only [Aja] at hroom h0;omega) hi f hf;omega
theorem HV {l:List Bk} {n:List UInt8} (h:(BJ l n).2.1=true):∃ f,f∈l/\BJ l n=(f.2.1,true,()):=by
 unfold BJ at h ⊢;cases hf:l.find? (fun f=>f.1==n) with
 |none=>rw [hf] at h;cases h
 |some f=>exact ⟨f,List.mem_of_find?_eq_some hf,rfl⟩
def LZ (n:List UInt8) (ns:List (List UInt8)) (x:Ae):List Ae:=if (BJ (B_ x) n).2.1 then Lg ns (BJ (B_ x) n).1 else []
theorem GY (n:List UInt8) (ns:List (List UInt8)) (v:Ae):Lg (n::ns) v=if v.1=5 then LZ n ns v else if v.1=4 then (BZ v).flatMap fun x=>if x.1=5 then LZ n ns x else [] else []:=rfl
theorem Qq {ns:List (List UInt8)} (ih:∀ (d:Nat) (v:Ae),AH d v=true->(Lg ns v).length<=v.2.2.1.length+1) (n:List UInt8) {d:Nat} {x:Ae} (h:AH d x=true) (hk:x.1=5):(LZ n ns x).length<=x.2.2.1.length:=by
 unfold LZ;obtain ⟨e,l,_,i1,i2,_,_,i3⟩:=Bl h hk;rw [i2];by_cases c:(BJ l n).2.1=true
 ·rw [if_pos c];obtain ⟨f,hf,e1⟩:=HV c;rw [e1];have:=ih e f.2.1 (i3 f hf);have:=Pc _ _ _ (Nat.le_refl _) i1 f hf;show (Lg ns f.2.1).length<=_;omega
 ·rw [if_neg c];simp
theorem flat_len (f:Ae->List Ae):∀ (l:List Ae),(∀ x,x∈l->(f x).length<=x.2.2.1.length)->(l.flatMap f).length<=(l.map fun x=>x.2.2.1.length+1).sum
 |[],_=>by simp
 |x::l,h=>by
  have h1:=h x (.head _);have h2:=flat_len f l fun y hy=>h y (.tail _ hy)
  simp only [List.flatMap_cons,Ai9,List.map_cons,List.sum_cons];omega
theorem HB:∀ (names:List (List UInt8)) (d:Nat) (v:Ae),AH d v=true->(Lg names v).length<=v.2.2.1.length+1
 |[],d,v,h=>by
  show (v::(if v.1=4 then BZ v else [])).length<=_;by_cases hk:v.1=4
  ·rw [if_pos hk];obtain ⟨e,l,_,i1,i2,_⟩:=AQ h hk;rw [i2];have:=HA _ _ _ (Nat.le_refl _) i1;have:=mZ l;simp only [Aja];omega
  ·rw [if_neg hk];simp
 |n::ns,d,v,h=>by
  rw [GY];by_cases h5:v.1=5
  ·rw [if_pos h5];have:=Qq (HB ns) n h h5;omega
  ·rw [if_neg h5];by_cases h4:v.1=4
   ·rw [if_pos h4];obtain ⟨e,l,_,i1,i2,_,_,i3⟩:=AQ h h4;rw [i2];have:=HA _ _ _ (Nat.le_refl _) i1
    have:=flat_len (fun x=>if x.1=5 then LZ n ns x else []) l fun x hx=>by
     by_cases hx5:x.1=5
     ·rw [if_pos hx5];exact Qq (HB ns) n (i3 x hx) hx5
     ·rw [if_neg hx5];simp
    omega
   ·rw [if_neg h4];simp
theorem iz {d:Nat} {v:Ae} (h:AH d v=true) (hk:v.1=5) {l:List Bk} (hl:AG v.2.2.1=some l):RF l/\AK v.2.2.1.length v.2.2.1=(l,true):=by
 constructor
 ·cases d with
  |zero=>
   rw [show AH 0 v=GL (fun _=>false) false v from rfl] at h;unfold GL at h;rw [if_neg (by omega),if_neg (by omega),if_neg (by omega),if_neg (by omega),if_neg (by omega),if_pos hk] at h;simp at h
  |succ e=>
   rw [show AH (e+1) v=GL (AH e) true v from rfl] at h;unfold GL at h;rw [if_neg (by omega),if_neg (by omega),if_neg (by omega),if_neg (by omega),if_neg (by omega),if_pos hk,hl] at h;simp only [Ajb,Ajg] at h;intro i h0 hi;have:=(AY _ _ _).1 h.2.2.2 i (Nat.zero_le _) (by omega);simp only [Ajb,Ajc,Ajg] at this;rcases this.2.1 with h' | h'
   ·omega
   ·exact h'
 ·rcases Hz v.2.2.1.length v.2.2.1 (Nat.le_refl _) with ⟨l',h1,h2⟩ | ⟨h1,_⟩
  ·rw [hl] at h1;injection h1 with h1
   subst h1;exact h2
  ·rw [hl] at h1;cases h1
theorem RJ {a b:Nat} (h:a+b<=1048576):decide (a+b<=A_)=true:=by
 rw [Ajg];exact Nat.le_trans h (by decide)
theorem Lu {α:Type} (a:List α):List.drop (Int.toNat (1:Int)) (List.take (Int.toNat (((List.length a):Nat):Int)) a)=a.drop 1:=by
 rw [Int.toNat_natCast,List.take_length];rfl
theorem Yg (g:Ae->List (List UInt8)->Option (List Ae×Unit)) (d:Nat) (v:Ae) (names:List (List UInt8)) (hv:AH d v=true)
  (hg:∀ e,d=e+1->∀ x ns,AH e x=true->g x ns=some (Lg ns x,())):kl g v names=some (Lg names v,()):=by
 unfold kl;have lv:=AR hv;cases names with
 |nil=>
  rw [show ((((List.length ([]:List (List UInt8))):Nat):Int)==(0:Int))=true from rfl,Ai7];show cond _ _ _=some (v::(if v.1=4 then BZ v else []),());by_cases hk:v.1=4
  ·rw [show (v.1==(4:Int))=true by simpa using hk,Ai7,if_pos hk];obtain ⟨e,l,_,i1,i2,_⟩:=AQ hv hk;have:=(BA _ _ _ (Nat.le_refl _) i1).1;rw [Dk _ (by omega),i1,Ai5,i2];dsimp only;rw [RJ (by simp only [Aja,Ajd];omega),Dt];rfl
  ·rw [show (v.1==(4:Int))=false by simpa using hk,Ai6,if_neg hk]
 |cons n ns=>
  rw [show ((((List.length (n::ns)):Nat):Int)==(0:Int))=false by rw [beq_eq_false_iff_ne];simp only [Aja];omega,Ai6,GY];by_cases h5:v.1=5
  ·rw [show (v.1==(5:Int))=true by simpa using h5,Ai7,if_pos h5];obtain ⟨e,l,hd,i1,i2,_,_,i3⟩:=Bl hv h5;rw [show (n::ns)[Int.toNat (0:Int)]? = some n from rfl,Ai5,Pa _ _ (Ct hv),i1,Ai5];dsimp only;unfold LZ;rw [i2];cases hc:(BJ l n).2.1 with
   |false=>rfl
   |true=>
    obtain ⟨f,hf,e1⟩:=HV hc;rw [Bool.not_true,Ai6,IE,Aq (by simp only [Aja];omega),Lu];rw [e1];show Option.bind (g f.2.1 ns) _=_;rw [hg e hd _ _ (i3 f hf)];rfl
  ·rw [show (v.1==(5:Int))=false by simpa using h5,Ai6,if_neg h5];by_cases h4:v.1=4
   ·rw [show (v.1==(4:Int))=true by simpa using h4,Ai7,if_pos h4];obtain ⟨e,l,hd,i1,i2,_,_,i3⟩:=AQ hv h4;have hl:=(BA _ _ _ (Nat.le_refl _) i1).1;have hr:=HA _ _ _ (Nat.le_refl _) i1
    have hf:=flat_len (fun x=>if x.1=5 then LZ n ns x else []) l fun x hx=>by
     by_cases hx5:x.1=5
     ·rw [if_pos hx5];exact Qq (HB ns) n (i3 x hx) hx5
     ·rw [if_neg hx5];simp
    rw [Dk _ (by omega),i1,Ai5,i2]
    refine Eq.trans (Ay (S:=List Ae) (fun i out=>(n::ns,l,(i:Int),out,())) (fun i out=>some (out++(l.drop i).flatMap fun x=>if x.1=5 then LZ n ns x else [],())) l.length
     (fun i out=>out.length+((l.drop i).flatMap fun x=>if x.1=5 then LZ n ns x else []).length<=1048576) ?_ ?_ Af 0 [] (Nat.zero_le _) (Aj (by omega)) (by rw [List.drop_zero];simp only [Ajd];omega)) (by simp)
    ·intro i out hi hI rec hrec;rw [Ac hi,List.flatMap_cons,Ai9] at hI;simp only [MR,Ad,hi,decide_true,Ai7,Ap,Ai hi,Ai5,Am i _ hi (by omega)];rw [Ac hi,List.flatMap_cons];by_cases hx:(Ah l i).1=5
     ·rw [show ((Ah l i).1==(5:Int))=true by simpa using hx,Ai7,hg e hd _ _ (i3 _ (Au hi)),Ai5,GY,if_pos hx];rw [if_pos hx] at hI ⊢;dsimp only;rw [RJ (by omega),Dt,hrec _ (by rw [Ai9];omega),List.append_assoc]
     ·rw [show ((Ah l i).1==(5:Int))=false by simpa using hx,Ai6,if_neg hx,List.nil_append];rw [if_neg hx] at hI;exact hrec _ (by simpa using hI)
    ·intro out _ rec;simp only [MR,Ad,Nat.lt_irrefl,decide_false,Ai6,Ajh,List.flatMap_nil,List.append_nil]
   ·rw [show (v.1==(4:Int))=false by simpa using h4,Ai6,if_neg h4]
theorem Pe:∀ (d k:Nat) (v:Ae) (names:List (List UInt8)),d<k->AH d v=true->gb k v names=some (Lg names v,())
 |0,k+1,v,names,_,hv=>Yg _ 0 v names hv (fun e he=>by omega)
 |d+1,k+1,v,names,hk,hv=>Yg _ (d+1) v names hv (fun e he x ns hx=>by
   have:e=d:=by omega
   subst this;exact Pe e k x ns (by omega) hx)
theorem Yh (g:Ae->List (List UInt8)->Option (List Ae×Unit)) (d:Nat) (v:Ae) (names:List (List UInt8)) (hv:AH d v=true)
  (hg:∀ e,d=e+1->∀ x ns,AH e x=true->g x ns=some (Lg ns x,())):lh g v names=some (Lg names v,()):=by
 unfold lh;have lv:=AR hv;cases names with
 |nil=>
  rw [show ((((List.length ([]:List (List UInt8))):Nat):Int)==(0:Int))=true from rfl,Ai7];show cond _ _ _=some (v::(if v.1=4 then BZ v else []),());by_cases hk:v.1=4
  ·rw [show (v.1==(4:Int))=true by simpa using hk,Ai7,if_pos hk];obtain ⟨e,l,_,i1,i2,_⟩:=AQ hv hk;have:=(BA _ _ _ (Nat.le_refl _) i1).1;rw [CF (Ct hv) i1,Ai5,i2];dsimp only;rw [RJ (by simp only [List.nil_append,Aja,Ajd];omega),Dt];rfl
  ·rw [show (v.1==(4:Int))=false by simpa using hk,Ai6,if_neg hk];rfl
 |cons n ns=>
  rw [show ((((List.length (n::ns)):Nat):Int)==(0:Int))=false by rw [beq_eq_false_iff_ne];simp only [Aja];omega,Ai6,GY];dsimp only;by_cases h5:v.1=5
  ·rw [show (v.1==(5:Int))=true by simpa using h5,Ai7,if_pos h5];obtain ⟨e,l,hd,i1,i2,_,_,i3⟩:=Bl hv h5;obtain ⟨q1,q2⟩:=iz hv h5 i1;rw [show (n::ns)[Int.toNat (0:Int)]? = some n from rfl,Ai5,TH _ _ (Ct hv) q2 q1,Ai5];unfold LZ;rw [i2];cases hc:(BJ l n).2.1 with
   |false=>rfl
   |true=>
    obtain ⟨f,hf,e1⟩:=HV hc;rw [Ai7,IE,Aq (by simp only [Aja];omega),Lu];rw [e1];show Option.bind (g f.2.1 ns) _=_;rw [hg e hd _ _ (i3 f hf)];rfl
  ·rw [show (v.1==(5:Int))=false by simpa using h5,Ai6,if_neg h5];by_cases h4:v.1=4
   ·rw [show (v.1==(4:Int))=true by simpa using h4,Ai7,if_pos h4];obtain ⟨e,l,hd,i1,i2,_,_,i3⟩:=AQ hv h4;have hl:=(BA _ _ _ (Nat.le_refl _) i1).1;have hr:=HA _ _ _ (Nat.le_refl _) i1
    have hf:=flat_len (fun x=>if x.1=5 then LZ n ns x else []) l fun x hx=>by
     by_cases hx5:x.1=5
     ·rw [if_pos hx5];exact Qq (HB ns) n (i3 x hx) hx5
     ·rw [if_neg hx5];simp
    rw [CF (Ct hv) i1,Ai5,i2]
    refine Eq.trans (Ay (S:=List Ae) (fun i out=>(n::ns,l,((l.length:Nat):Int),(i:Int),out,())) (fun i out=>some (out++(l.drop i).flatMap fun x=>if x.1=5 then LZ n ns x else [],())) l.length
     (fun i out=>out.length+((l.drop i).flatMap fun x=>if x.1=5 then LZ n ns x else []).length<=1048576) ?_ ?_ Af 0 [] (Nat.zero_le _) (Aj (by omega)) (by rw [List.drop_zero];simp only [Ajd];omega)) (by simp)
    ·intro i out hi hI rec hrec;rw [Ac hi,List.flatMap_cons,Ai9] at hI;simp only [Na,Ad,hi,decide_true,Ai7,Ap,Ai hi,Ai5,Am i _ hi (by omega)];rw [Ac hi,List.flatMap_cons];by_cases hx:(Ah l i).1=5
     ·rw [show ((Ah l i).1==(5:Int))=true by simpa using hx,Ai7,hg e hd _ _ (i3 _ (Au hi)),Ai5,GY,if_pos hx];rw [if_pos hx] at hI ⊢;dsimp only;rw [RJ (by omega),Dt,hrec _ (by rw [Ai9];omega),List.append_assoc]
     ·rw [show ((Ah l i).1==(5:Int))=false by simpa using hx,Ai6,if_neg hx,List.nil_append];rw [if_neg hx] at hI;exact hrec _ (by simpa using hI)
    ·intro out _ rec;simp only [Na,Ad,Nat.lt_irrefl,decide_false,Ai6,Ajh,List.flatMap_nil,List.append_nil]
   ·rw [show (v.1==(4:Int))=false by simpa using h4,Ai6,if_neg h4]
theorem Pf:∀ (d k:Nat) (v:Ae) (names:List (List UInt8)),d<k->AH d v=true->gI k v names=some (Lg names v,())
 |0,k+1,v,names,_,hv=>Yh _ 0 v names hv (fun e he=>by omega)
 |d+1,k+1,v,names,hk,hv=>Yh _ (d+1) v names hv (fun e he x ns hx=>by
   have:e=d:=by omega
   subst this;exact Pf e k x ns (by omega) hx)
theorem Yi {g g':Ae->Bool} (h:∀ x,g x=true->g' x=true) {m:Bool} {v:Ae} (hv:GL g m v=true):GL g' true v=true:=by
 unfold GL at hv ⊢;by_cases c0:v.1=0
 ·rw [if_pos c0] at hv ⊢;exact hv
 rw [if_neg c0] at hv ⊢;by_cases c1:v.1=1
 ·rw [if_pos c1] at hv ⊢;exact hv
 rw [if_neg c1] at hv ⊢;by_cases c2:v.1=2
 ·rw [if_pos c2] at hv ⊢;exact hv
 rw [if_neg c2] at hv ⊢;by_cases c3:v.1=3
 ·rw [if_pos c3] at hv ⊢;exact hv
 rw [if_neg c3] at hv ⊢;by_cases c4:v.1=4
 ·rw [if_pos c4] at hv ⊢;simp only [Ajb] at hv ⊢;obtain ⟨h1,h2,_,h3⟩:=hv;refine ⟨h1,h2,trivial,?_⟩;cases hi:BU v.2.2.1 with
  |none=>rw [hi] at h3;cases h3
  |some l=>
   rw [hi] at h3;dsimp only at h3 ⊢;rw [List.all_eq_true] at h3 ⊢;exact fun x hx=>h x (h3 x hx)
 rw [if_neg c4] at hv ⊢;by_cases c5:v.1=5
 ·rw [if_pos c5] at hv ⊢;simp only [Ajb] at hv ⊢;obtain ⟨h1,h2,_,h3⟩:=hv;refine ⟨h1,h2,trivial,?_⟩;cases hi:AG v.2.2.1 with
  |none=>rw [hi] at h3;cases h3
  |some l=>
   rw [hi] at h3;dsimp only at h3 ⊢;rw [AY] at h3 ⊢;intro i h0 hi';have:=h3 i h0 hi';simp only [Ajb] at this ⊢;exact ⟨this.1,this.2.1,h _ this.2.2⟩
 rw [if_neg c5] at hv;cases hv
theorem i0:∀ (d:Nat) (v:Ae),AH d v=true->AH (d+1) v=true
 |0,v,h=>Yi (fun x hx=>by cases hx) h
 |d+1,v,h=>Yi (i0 d) h
theorem VS {d e:Nat} (h:d<=e) {v:Ae} (hv:AH d v=true):AH e v=true:=by
 induction e with
 |zero=>
  have:d=0:=by omega
  subst this;exact hv
 |succ e ih=>
  by_cases c:d=e+1
  ·subst c;exact hv
  ·exact i0 e v (ih (by omega))
theorem bV:∀ (names:List (List UInt8)) (d:Nat) (v x:Ae),AH d v=true->x∈Lg names v->AH d x=true
 |[],d,v,x,h,hx=>by
  have hx:x∈(v::(if v.1=4 then BZ v else [])):=hx;rcases List.mem_cons.1 hx with rfl | hx
  ·exact h
  ·by_cases hk:v.1=4
   ·rw [if_pos hk] at hx;obtain ⟨e,l,hd,i1,i2,_,_,i3⟩:=AQ h hk;rw [i2] at hx;exact VS (by omega) (i3 x hx)
   ·rw [if_neg hk] at hx;cases hx
 |n::ns,d,v,x,h,hx=>by
  have one:∀ {d:Nat} {y:Ae},AH d y=true->y.1=5->x∈LZ n ns y->AH d x=true:=by
   intro d y hy h5 hx;unfold LZ at hx;obtain ⟨e,l,hd,i1,i2,_,_,i3⟩:=Bl hy h5;rw [i2] at hx;by_cases c:(BJ l n).2.1=true
   ·rw [if_pos c] at hx;obtain ⟨f,hf,e1⟩:=HV c;rw [e1] at hx;exact VS (by omega) (bV ns e f.2.1 x (i3 f hf) hx)
   ·rw [if_neg c] at hx;cases hx
  rw [GY] at hx;by_cases h5:v.1=5
  ·rw [if_pos h5] at hx;exact one h h5 hx
  ·rw [if_neg h5] at hx;by_cases h4:v.1=4
   ·rw [if_pos h4] at hx;obtain ⟨e,l,hd,i1,i2,_,_,i3⟩:=AQ h h4;rw [i2,List.mem_flatMap] at hx;obtain ⟨y,hy,hx⟩:=hx;by_cases hy5:y.1=5
    ·rw [if_pos hy5] at hx;exact VS (by omega) (one (i3 y hy) hy5 hx)
    ·rw [if_neg hy5] at hx;cases hx
   ·rw [if_neg h4] at hx;cases hx
theorem RK:AH 5 RI=true:=by decide
theorem eqV (a b:Ae):((decide (a.1=b.1))&&((decide (a.2.1=b.2.1))&&((a.2.2.1==b.2.2.1)&&true)))=decide (a=b):=by
 obtain ⟨a1,a2,a3,_⟩:=a;obtain ⟨b1,b2,b3,_⟩:=b;rw [Bool.eq_iff_iff];simp
theorem VT (a b:Ae) (ha:AH 5 a=true) (hb:AH 5 b=true):decide (a=b)=decide (DF 5 a b=0):=by
 rw [decide_eq_decide];exact (EN 5 a b ha hb).symm
theorem i4 (l:List Ae) (v:Ae) (hl:l.length<=1048576):iter (Hr (fun y10=>(some (false,()))) (fun y11=>(some (y11.1,())))) Af (l,(0:Int),v,())=some (l.any (fun x=>x==v),()):=by
 refine Eq.trans (Ay (S:=Unit) (fun i _=>(l,(i:Int),v,())) (fun i _=>some ((l.drop i).any (fun x=>x==v),())) l.length (fun _ _=>True) ?_ ?_ Af 0 () (Nat.zero_le _) (Aj (by omega)) trivial) rfl
 ·intro i _ hi _ rec hrec;simp only [Hr,Ad,hi,decide_true,Ai7,Ap,Ai hi,Ai5,Am i _ hi (by omega),eqV];rw [Ac hi,List.any_cons,hrec () trivial];by_cases h:Ah l i=v
  ·rw [decide_eq_true h,Ai7,show (Ah l i==v)=true by simpa using h];rfl
  ·rw [decide_eq_false h,Ai6,show (Ah l i==v)=false by simpa using h];rfl
 ·intro _ _ rec;simp only [Hr,Ad,Nat.lt_irrefl,decide_false,Ai6,Ajh,List.any_nil]
theorem Yj (l:List Ae) (v:Ae) (hl:l.length<=1048576):dJ l v=some (l.any (fun x=>x==v),()):=by
 have key:l5 l v=some (Ba (fun x=>x==v) 0 l,()):=by
  unfold l5;refine Eq.trans (Ay (S:=Unit) (fun i _=>(l,((l.length:Nat):Int),(i:Int),v,())) (fun i _=>some (Ba (fun x=>x==v) i (l.drop i),())) l.length (fun _ _=>True) ?_ ?_ Af 0 () (Nat.zero_le _) (Aj (by omega)) trivial) rfl
  ·intro i _ hi _ rec hrec;simp only [Qe,Ad,hi,decide_true,Ai7,Ap,Ai hi,Ai5,Am i _ hi (by omega),eqV];rw [Ac hi,Ba,hrec () trivial];by_cases h:Ah l i=v
   ·rw [decide_eq_true h.symm,Ai7,show (Ah l i==v)=true by simpa using h,Ai7]
   ·rw [decide_eq_false (fun e=>h e.symm),Ai6,show (Ah l i==v)=false by simpa using h,Ai6]
  ·intro _ _ rec;simp only [Qe,Ad,Nat.lt_irrefl,decide_false,Ai6,Ajh];rfl
 unfold dJ;rw [key,Ai5,<-GB (fun x=>x==v) 0 l]
theorem EZ {t:CI} (h:BV t=true):Hv t.2.2.1=true/\Cm t.2.1=true/\1<=t.1/\t.1<=10/\(t.1=7->t.2.2.1.1=4):=by
 unfold BV at h;simp only [Ajb] at h;obtain ⟨h1,h2,h3⟩:=h;refine ⟨h2,h1,?_⟩;by_cases c7:t.1=7
 ·rw [if_pos c7] at h3;simp at h3;exact ⟨by omega,by omega,fun _=>h3⟩
 rw [if_neg c7] at h3;by_cases c8:t.1=8
 ·exact ⟨by omega,by omega,fun e=>absurd e c7⟩
 rw [if_neg c8] at h3;by_cases c9:t.1=9
 ·exact ⟨by omega,by omega,fun e=>absurd e c7⟩
 rw [if_neg c9] at h3;by_cases c10:t.1=10
 ·exact ⟨by omega,by omega,fun e=>absurd e c7⟩
 rw [if_neg c10] at h3;unfold inR at h3;simp only [Ajb,Ajg] at h3;exact ⟨by omega,by omega,fun e=>absurd e c7⟩
theorem Nu (a b:Bool):cond a (some (b,())) (some (false,()))=some (a&&b,()):=by cases a<;>rfl
theorem VU (t:CI) (v:Ae) (ht:BV t=true) (h8:t.1≠8) (hv:AH 5 v=true):ma t v=some (EY t v,()):=by
 obtain ⟨h1,_,h3,h4,h7⟩:=EZ ht;unfold ma EY;have lt:=AR h1;have lv:=AR hv;rw [Jo v t.2.2.1 hv h1,Ai5];have e12:=VT v t.2.2.1 hv h1;dsimp only
 have hin:t.1=7->(Option.bind (LP t.2.2.1.2.2.1) fun y3=>(iter (Hr (fun y10=>(some (false,()))) (fun y11=>(some (y11.1,())))) Af (y3.1,(0:Int),v,())))=some ((BZ t.2.2.1).any (fun x=>x==v),()):=by
  intro e;obtain ⟨e',l,_,i1,i2,_⟩:=AQ h1 (h7 e);have:=(BA _ _ _ (Nat.le_refl _) i1).1;rw [Dk _ (by omega),i1,Ai5,i2];exact i4 l v (by omega)
 have hsize:(Option.bind (LP v.2.2.1) fun y12=>(cond (v.1==(4:Int)) (some (((((List.length y12.1):Nat):Int)==t.2.2.1.2.1),())) (some (false,()))))=some ((v.1==4)&&((((BZ v).length:Nat):Int)==t.2.2.1.2.1),()):=by
  rw [Dk _ (by omega),Ai5];by_cases k:v.1=4
  ·obtain ⟨e',l,_,i1,i2,_⟩:=AQ hv k;rw [i1,i2,show (v.1==(4:Int))=true by simpa using k];rfl
  ·rw [show (v.1==(4:Int))=false by simpa using k];rfl
 have cases:t.1=1\/t.1=2\/t.1=3\/t.1=4\/t.1=5\/t.1=6\/t.1=7\/t.1=9\/t.1=10:=by omega
 rcases cases with c | c | c | c | c | c | c | c | c<;>simp only [c,show ((1:Int)==1)=true from rfl,show ((2:Int)==1)=false from rfl,show ((2:Int)==2)=true from rfl,show ((3:Int)==1)=false from rfl,show ((3:Int)==2)=false from rfl,show ((3:Int)==3)=true from rfl,
  show ((4:Int)==1)=false from rfl,show ((4:Int)==2)=false from rfl,show ((4:Int)==3)=false from rfl,show ((4:Int)==4)=true from rfl,
  show ((5:Int)==1)=false from rfl,show ((5:Int)==2)=false from rfl,show ((5:Int)==3)=false from rfl,show ((5:Int)==4)=false from rfl,show ((5:Int)==5)=true from rfl,
  show ((6:Int)==1)=false from rfl,show ((6:Int)==2)=false from rfl,show ((6:Int)==3)=false from rfl,show ((6:Int)==4)=false from rfl,show ((6:Int)==5)=false from rfl,show ((6:Int)==6)=true from rfl,
  show ((7:Int)==1)=false from rfl,show ((7:Int)==2)=false from rfl,show ((7:Int)==3)=false from rfl,show ((7:Int)==4)=false from rfl,show ((7:Int)==5)=false from rfl,show ((7:Int)==6)=false from rfl,show ((7:Int)==7)=true from rfl,
  show ((9:Int)==1)=false from rfl,show ((9:Int)==2)=false from rfl,show ((9:Int)==3)=false from rfl,show ((9:Int)==4)=false from rfl,show ((9:Int)==5)=false from rfl,show ((9:Int)==6)=false from rfl,show ((9:Int)==7)=false from rfl,show ((9:Int)==9)=true from rfl,
  show ((10:Int)==1)=false from rfl,show ((10:Int)==2)=false from rfl,show ((10:Int)==3)=false from rfl,show ((10:Int)==4)=false from rfl,show ((10:Int)==5)=false from rfl,show ((10:Int)==6)=false from rfl,show ((10:Int)==7)=false from rfl,show ((10:Int)==9)=false from rfl,show ((10:Int)==10)=true from rfl,
  Ai7,Ai6,eqV,e12,Nu,hsize,true_or,or_true,if_true]
 all_goals first | rfl | (rw [hin c];simp;done) | (simp;done) | (simp only [Nu] at hsize;simp;exact hsize)
theorem VV (t:CI) (v:Ae) (ht:BV t=true) (h8:t.1≠8) (hv:AH 5 v=true):gN t v=some (EY t v,()):=by
 obtain ⟨h1,_,h3,h4,h7⟩:=EZ ht;unfold gN EY;have lt:=AR h1;have lv:=AR hv;rw [Jp v t.2.2.1 hv h1,Ai5];dsimp only
 have hin:t.1=7->(Option.bind (LT t.2.2.1) fun y3=>(Option.bind (dJ y3.1 v) fun y4=>(some (y4.1,()))))=some ((BZ t.2.2.1).any (fun x=>x==v),()):=by
  intro e;obtain ⟨e',l,_,i1,i2,_⟩:=AQ h1 (h7 e);have:=(BA _ _ _ (Nat.le_refl _) i1).1;rw [CF (Ct h1) i1,Ai5,i2,Yj l v (by omega)];rfl
 have hsize:(Option.bind (LT v) fun y9=>(cond (v.1==(4:Int)) (some (((((List.length y9.1):Nat):Int)==t.2.2.1.2.1),())) (some (false,()))))=some ((v.1==4)&&((((BZ v).length:Nat):Int)==t.2.2.1.2.1),()):=by
  by_cases k:v.1=4
  ·obtain ⟨e',l,_,i1,i2,_⟩:=AQ hv k;rw [CF (Ct hv) i1,Ai5,i2,show (v.1==(4:Int))=true by simpa using k];rfl
  ·rw [Jm v (Ct hv),Ai5,show (v.1==(4:Int))=false by simpa using k];rfl
 have ez:∀ z:Int,(z==(0:Int))=decide (z=0):=fun z=>by rw [Bool.eq_iff_iff];simp
 have cases:t.1=1\/t.1=2\/t.1=3\/t.1=4\/t.1=5\/t.1=6\/t.1=7\/t.1=9\/t.1=10:=by omega
 rcases cases with c | c | c | c | c | c | c | c | c<;>simp only [c,show ((1:Int)==1)=true from rfl,show ((2:Int)==1)=false from rfl,show ((2:Int)==2)=true from rfl,show ((3:Int)==1)=false from rfl,show ((3:Int)==2)=false from rfl,show ((3:Int)==3)=true from rfl,
  show ((4:Int)==1)=false from rfl,show ((4:Int)==2)=false from rfl,show ((4:Int)==3)=false from rfl,show ((4:Int)==4)=true from rfl,
  show ((5:Int)==1)=false from rfl,show ((5:Int)==2)=false from rfl,show ((5:Int)==3)=false from rfl,show ((5:Int)==4)=false from rfl,show ((5:Int)==5)=true from rfl,
  show ((6:Int)==1)=false from rfl,show ((6:Int)==2)=false from rfl,show ((6:Int)==3)=false from rfl,show ((6:Int)==4)=false from rfl,show ((6:Int)==5)=false from rfl,show ((6:Int)==6)=true from rfl,
  show ((7:Int)==1)=false from rfl,show ((7:Int)==2)=false from rfl,show ((7:Int)==3)=false from rfl,show ((7:Int)==4)=false from rfl,show ((7:Int)==5)=false from rfl,show ((7:Int)==6)=false from rfl,show ((7:Int)==7)=true from rfl,
  show ((9:Int)==1)=false from rfl,show ((9:Int)==2)=false from rfl,show ((9:Int)==3)=false from rfl,show ((9:Int)==4)=false from rfl,show ((9:Int)==5)=false from rfl,show ((9:Int)==6)=false from rfl,show ((9:Int)==7)=false from rfl,show ((9:Int)==9)=true from rfl,
  show ((10:Int)==1)=false from rfl,show ((10:Int)==2)=false from rfl,show ((10:Int)==3)=false from rfl,show ((10:Int)==4)=false from rfl,show ((10:Int)==5)=false from rfl,show ((10:Int)==6)=false from rfl,show ((10:Int)==7)=false from rfl,show ((10:Int)==9)=false from rfl,show ((10:Int)==10)=true from rfl,
  Ai7,Ai6,ez,Nu,hsize,true_or,or_true,if_true]
 all_goals first | rfl | (rw [hin c];simp;done) | (simp;done) | (simp only [Nu] at hsize;simp;exact hsize)
theorem qP {v:Ae} (h:Dw v=true):AH 5 v=true:=by
 unfold Dw Hv at h;rw [Ajb] at h;exact h.2
theorem Jq (v:Ae) (path:List UInt8) (hv:AH 5 v=true) (hp:path.length<=1048576):dB v path=some (BQ v path,()):=by
 unfold dB;rw [show dA path (46:Int)=some (BO 46 path,()) from TE path 46 hp,Ai5];have:oL v (BO 46 path)=some (Lg (BO 46 path) v,()):=Pe 5 Af v _ (Aj (by decide)) hv;rw [this];rfl
theorem RL (v:Ae) (path:List UInt8) (hv:AH 5 v=true) (hp:path.length<=1048576):gJ v path=some (BQ v path,()):=by
 unfold gJ;rw [XR path 46 hp,Ai5];have:pF v (BO 46 path)=some (Lg (BO 46 path) v,()):=Pf 5 Af v _ (Aj (by decide)) hv;rw [this];rfl
theorem IJ {v:Ae} {path:List UInt8} (hv:AH 5 v=true):(BQ v path).length<=1048576/\∀ x,x∈BQ v path->AH 5 x=true:=by
 have:=HB (BO 46 path) 5 v hv;have:=AR hv;exact ⟨by unfold BQ;omega,fun x hx=>bV _ 5 v x hv hx⟩
theorem IK {t:List UInt8} (h:Cm t=true):t.length<=1048576:=by
 unfold Cm at h;simp only [Ajb,Ajg] at h;omega
def Ge (t:CI) (doc:Ae):List Ae:=if (BQ doc t.2.1).length=0/\t.1≠9 then [RI] else BQ doc t.2.1
theorem RM {t:CI} {v:Ae} (hv:AH 5 v=true):(Ge t v).length<=1048576/\∀ x,x∈Ge t v->AH 5 x=true:=by
 unfold Ge;by_cases c:(BQ v t.2.1).length=0/\t.1≠9
 ·rw [if_pos c];exact ⟨by simp,fun x hx=>by rw [List.mem_singleton] at hx;rw [hx];exact RK⟩
 ·rw [if_neg c];exact IJ hv
theorem RN (t:CI) (v:Ae):JH t v=if t.1=8 then (decide (0<(BQ v t.2.1).length))==(t.2.2.1.2.1==1) else ((Ge t v).any (EY t)) != (t.1==2):=rfl
theorem ZT (t:CI) (l:List Ae) (ht:BV t=true) (h8:t.1≠8) (hl:l.length<=1048576) (ho:∀ x,x∈l->AH 5 x=true) :
  iter (Nf (fun y11=>(some ((!(y11.1==(y11.2.1.1==(2:Int)))),())))) Af (l,false,(0:Int),t,())=some ((l.any (EY t)) != (t.1==2),()):=by
 refine Eq.trans (Ay (S:=Bool) (fun i b=>(l,b,(i:Int),t,())) (fun i b=>some ((b||(l.drop i).any (EY t)) != (t.1==2),())) l.length (fun _ _=>True) ?_ ?_ Af 0 false (Nat.zero_le _) (Aj (by omega)) trivial) rfl
 ·intro i b hi _ rec hrec;simp only [Nf,Ad,hi,decide_true,Ai7,Ap,Ai hi,Ai5,Am i _ hi (by omega),VU t (Ah l i) ht h8 (ho _ (Au hi))];rw [hrec true trivial,hrec (EY t (Ah l i)) trivial,Ac hi,List.any_cons];cases b<;>simp
 ·intro b _ rec;simp only [Nf,Ad,Nat.lt_irrefl,decide_false,Ai6,Ajh,List.any_nil,Bool.or_false];rfl
theorem Yk (t:CI) (v:Ae) (ht:BV t=true) (hv:AH 5 v=true):mc t v=some (JH t v,()):=by
 unfold mc;obtain ⟨h1,h2,_⟩:=EZ ht;rw [Jq v _ hv (IK h2),Ai5,RN];dsimp only;by_cases h8:t.1=8
 ·rw [show (t.1==(8:Int))=true by simpa using h8,Ai7,if_pos h8,Gt]
 ·rw [show (t.1==(8:Int))=false by simpa using h8,Ai6,if_neg h8];obtain ⟨q1,q2⟩:=RM (t:=t) hv;have hs:=ZT t (Ge t v) ht h8 q1 q2;rw [Ji];by_cases c:(BQ v t.2.1).length=0
  ·rw [decide_eq_true c,Ai7];by_cases c9:t.1=9
   ·rw [show (t.1 != (9:Int))=false by simpa using c9,Ai6,<-hs];unfold Ge;rw [if_neg (fun h=>h.2 c9)]
   ·rw [show (t.1 != (9:Int))=true by simpa using c9,Ai7,<-hs];unfold Ge;rw [if_pos ⟨c,c9⟩];rfl
  ·rw [decide_eq_false c,Ai6,<-hs];unfold Ge;rw [if_neg (fun h=>c h.1)]
theorem Yl (t:CI) (v:Ae) (ht:BV t=true) (hv:AH 5 v=true):lA t v=some (JH t v,()):=by
 unfold lA;obtain ⟨h1,h2,_⟩:=EZ ht;rw [RL v _ hv (IK h2),Ai5,RN];dsimp only;by_cases h8:t.1=8
 ·rw [show (t.1==(8:Int))=true by simpa using h8,Ai7,if_pos h8,Gt]
 ·rw [show (t.1==(8:Int))=false by simpa using h8,Ai6,if_neg h8];obtain ⟨q1,q2⟩:=RM (t:=t) hv
  have hs:Xz (Ge t v) (fun (v7:Ae)=>(Option.map (fun (v8:(Bool×Unit))=>v8.1) (gN t v7)))=some ((Ge t v).any (EY t),()):=
   any_value (EY t) _ _ (fun x hx=>by rw [VV t x ht h8 (q2 x hx)];rfl) (by omega)
  have hb:∀ b:Bool,(!(b==(t.1==(2:Int))))=(b != (t.1==2)):=fun b=>rfl
  rw [Ji];by_cases c:(BQ v t.2.1).length=0
  ·rw [decide_eq_true c,Ai7];by_cases c9:t.1=9
   ·have e:Ge t v=BQ v t.2.1:=by unfold Ge;rw [if_neg (fun h=>h.2 c9)]
    rw [show (t.1 != (9:Int))=false by simpa using c9,Ai6,<-e,hs];rfl
   ·have e:BQ v t.2.1++[((0:Int),((0:Int),(([]:List UInt8),())))]=Ge t v:=by
     unfold Ge;rw [if_pos ⟨c,c9⟩,List.eq_nil_of_length_eq_zero c];rfl
    rw [show (t.1 != (9:Int))=true by simpa using c9,Ai7,RJ (by simp only [Aja,Ajd];omega),Dt];rw [e,hs];rfl
  ·have e:Ge t v=BQ v t.2.1:=by unfold Ge;rw [if_neg (fun h=>c h.1)]
   rw [decide_eq_false c,Ai6,<-e,hs];rfl
theorem Jr {f:Dv} (h:BW f=true):f.1.length<=3/\∀ c,c∈f.1->c.1.length<=4/\∀ t,t∈c.1->BV t=true:=by
 unfold BW inR at h;simp only [Ajb,Ajg,List.all_eq_true] at h;refine ⟨by omega,fun c hc=>?_⟩;have:=h.2 c hc;exact ⟨by omega,this.2⟩
theorem SZ (c:DQ) (v:Ae) (hl:c.1.length<=4) (ht:∀ t,t∈c.1->BV t=true) (hv:AH 5 v=true):mf c v=some (c.1.all fun t=>JH t v,()):=by
 unfold mf;refine Eq.trans (Ay (S:=Unit) (fun i _=>((i:Int),c,v,())) (fun i _=>some ((c.1.drop i).all fun t=>JH t v,())) c.1.length (fun _ _=>True) ?_ ?_ Af 0 () (Nat.zero_le _) (Aj (by omega)) trivial) rfl
 ·intro i _ hi _ rec hrec;simp only [Qh,Ad,hi,decide_true,Ai7,Ap,Ai hi,Ai5,Am i _ hi (by omega),Yk _ v (ht _ (Au hi)) hv];rw [Ac hi,List.all_cons,hrec () trivial];cases JH (Ah c.1 i) v<;>rfl
 ·intro _ _ rec;simp only [Qh,Ad,Nat.lt_irrefl,decide_false,Ai6,Ajh,List.all_nil]
theorem RO (f:Dv) (v:Ae) (hf:BW f=true) (hv:AH 5 v=true):xM f v=some (CL f v,()):=by
 obtain ⟨h1,h2⟩:=Jr hf;unfold xM;refine Eq.trans (Ay (S:=Unit) (fun i _=>((i:Int),f,v,())) (fun i _=>some ((f.1.drop i).any fun c=>c.1.all fun t=>JH t v,())) f.1.length (fun _ _=>True) ?_ ?_ Af 0 () (Nat.zero_le _) (Aj (by omega)) trivial) rfl
 ·intro i _ hi _ rec hrec;obtain ⟨g1,g2⟩:=h2 _ (Au hi);simp only [Vr,Ad,hi,decide_true,Ai7,Ap,Ai hi,Ai5,Am i _ hi (by omega),SZ _ v g1 g2 hv];rw [Ac hi,List.any_cons,hrec () trivial];cases (Ah f.1 i).1.all fun t=>JH t v<;>rfl
 ·intro _ _ rec;simp only [Vr,Ad,Nat.lt_irrefl,decide_false,Ai6,Ajh,List.any_nil]
theorem RP (f:Dv) (v:Ae) (hf:BW f=true) (hv:AH 5 v=true):xH f v=some (CL f v,()):=by
 obtain ⟨h1,h2⟩:=Jr hf;unfold xH
 have:rr f.1 (fun (v3:DQ)=>(Option.map (fun (v4:(Bool×Unit))=>v4.1) (lD v3 v)))=some (f.1.any fun c=>c.1.all fun t=>JH t v,()):=
  any_clause _ _ _ (fun c hc=>by
   obtain ⟨g1,g2⟩:=h2 c hc;unfold lD
   rw [XT (fun t=>!JH t v) _ _ (fun t ht=>by
    unfold pJ;rw [Yl t v (g2 t ht) hv];rfl) (by omega),Ai5,Jk]
   simp) (by omega)
 rw [this];rfl
end Go.V
namespace Go.V
open Go.Sort Go.Proofs
set_option linter.unusedVariables false
theorem Ym {β:Type} (a:Array β) {n:Nat} (h:a.size=n):a.extract 0 n=a:=by subst h;exact Array.extract_size
theorem sortF_eq {α:Type} {G:α->α->Option Int} {l l':List α} (lt:α->α->Bool) (hl:l.length<=A_) (hG:∀ x,x∈l->∀ y,y∈l->∃ z,G x y=some z/\decide (z<0)=lt x y)
  (irr:∀ x,x∈l->lt x x=false) (tr:∀ x,x∈l->∀ y,y∈l->∀ z,z∈l->lt x y=true->lt y z=true->lt x z=true)
  (ntr:∀ x,x∈l->∀ y,y∈l->∀ z,z∈l->lt x y=false->lt y z=false->lt x z=false)
  (anti:∀ x,x∈l->∀ y,y∈l->lt x y=false->lt y x=false->x=y)
  (hp:l'.Perm l) (hs:l'.Pairwise fun a b=>lt b a=false):TB G l=some l' :=by
 have hm:∀ i:Fin l.length,l[i]∈l:=fun i=>List.getElem_mem _
 have hc:∀ i j:Fin l.length,G l[i] l[j]=some (Gy G l i j)/\ltOf (Gy G l) i j=lt l[i] l[j]:=fun i j=>by
  obtain ⟨z,h1,h2⟩:=hG _ (hm i) _ (hm j);have:Gy G l i j=z:=by unfold Gy;rw [h1];rfl
  exact ⟨by rw [this];exact h1,by unfold ltOf;rw [this];exact h2⟩
 have hswo:SWO (ltOf (Gy G l)):=⟨fun i=>by rw [(hc i i).2];exact irr _ (hm i),
  fun i j k h1 h2=>by rw [(hc i k).2];rw [(hc i j).2] at h1;rw [(hc j k).2] at h2;exact tr _ (hm i) _ (hm j) _ (hm k) h1 h2,
  fun i j k h1 h2=>by rw [(hc i k).2];rw [(hc i j).2] at h1;rw [(hc j k).2] at h2;exact ntr _ (hm i) _ (hm j) _ (hm k) h1 h2⟩
 unfold TB;rw [dif_pos ⟨hl,fun i j=>(hc i j).1,hswo⟩];by_cases h0:0<l.length
 ·rw [dif_pos h0];letI:Inhabited (Fin l.length):=⟨⟨0,h0⟩⟩;have P:=pdq_sorts (ltOf (Gy G l)) hswo (Array.ofFn id:Array (Fin l.length)) 0 l.length (Lib.bitLen l.length) true true (Nat.zero_le _) (by simp) (Or.inl rfl);generalize hd:pdq (ltOf (Gy G l)) (Array.ofFn id:Array (Fin l.length)) 0 l.length (Lib.bitLen l.length) true true=d at P;obtain ⟨⟨hsz,_,hperm⟩,hsort⟩:=P;have hds:d.size=l.length:=by simpa using hsz
  have e1:d.extract 0 l.length=d:=Ym d hds;have e2:(Array.ofFn (id:Fin l.length->Fin l.length)).extract 0 l.length=Array.ofFn id:=Ym _ (by simp);rw [e1,e2] at hperm
  have e3:(Array.ofFn (id:Fin l.length->Fin l.length)).toList.map (fun i=>l[i])=l:=by
   apply List.ext_getElem
   ·simp
   ·intro i h1 h2;simp
  have hp2:(d.toList.map fun i=>l[i]).Perm l:=by
   have:=hperm.map (fun i:Fin l.length=>l[i]);rwa [e3] at this
  have hs2:(d.toList.map fun i=>l[i]).Pairwise fun a b=>lt b a=false:=by
   rw [List.pairwise_map,List.pairwise_iff_getElem];intro i j hi hj hij;rw [<-(hc _ _).2];have:=hsort i j (Nat.zero_le _) hij (by simpa [hds] using hj);rw [getElem!_pos d j (by simpa using hj),getElem!_pos d i (by simpa using hi)] at this;simpa using this
  refine congrArg some ?_
  have fin:(d.toList.map fun i=>l[i])=l' :=by
   refine List.Perm.eq_of_pairwise (le:=fun x y=>lt y x=false) ?_ hs2 hs (hp2.trans hp.symm);intro a b ha hb h1 h2;exact anti a (hp2.mem_iff.1 ha) b (hp.mem_iff.1 hb) h2 h1
  exact fin
 ·have:l=[]:=List.eq_nil_of_length_eq_zero (by omega);subst this;rw [dif_neg h0];rw [List.perm_nil.1 hp]
theorem ZU {α:Type} (lt:α->α->Bool) {x:α} {l:List α} {p:Nat} (hs:l.Pairwise fun a b=>lt b a=false)
  (h1:∀ a,a∈l.take p->lt x a=false) (h2:∀ b,b∈l.drop p->lt b x=false):((l.take p++[x])++l.drop p).Pairwise fun a b=>lt b a=false:=by
 have hsp:(l.take p++l.drop p).Pairwise fun a b=>lt b a=false:=by rw [List.take_append_drop];exact hs
 obtain ⟨g1,g2,g3⟩:=List.pairwise_append.1 hsp;refine List.pairwise_append.2 ⟨List.pairwise_append.2 ⟨g1,List.pairwise_singleton _ _,fun a ha b hb=>?_⟩,g2,fun a ha b hb=>?_⟩
 ·rw [List.mem_singleton.1 hb];exact h1 a ha
 ·rcases List.mem_append.1 ha with ha | ha
  ·exact g3 a ha b hb
  ·rw [List.mem_singleton.1 ha];exact h2 b hb
theorem RQ {α:Type} (x:α) (l:List α) (p:Nat):((l.take p++[x])++l.drop p).Perm (x::l):=by
 have h:=(List.perm_append_comm (l₁:=l.take p) (l₂:=[x])).append_right (l.drop p);rw [List.append_assoc [x],List.take_append_drop] at h;exact h
def CX {α:Type} [Inhabited α] (lt:α->α->Bool) (x:α) (l:List α):Nat->Nat
 |0=>0
 |k+1=>cond (lt x (l[k]?.getD default)) (CX lt x l k) (k+1)
def RR {α:Type} [Inhabited α] (lt:α->α->Bool) (out:List α) (x:α):List α:=(out.take (CX lt x out out.length)++[x])++out.drop (CX lt x out out.length)
theorem Ol {α:Type} [Inhabited α] (lt:α->α->Bool) (x:α) (l:List α):∀ k,CX lt x l k<=k
 |0=>Nat.le_refl _
 |k+1=>by
  unfold CX;cases lt x (l[k]?.getD default)
  ·exact Nat.le_refl _
  ·exact Nat.le_succ_of_le (Ol lt x l k)
theorem TL {α:Type} [Inhabited α] (lt:α->α->Bool) (x:α) (l:List α):∀ k i,CX lt x l k<=i->i<k->lt x (l[i]?.getD default)=true
 |0,i,_,h=>absurd h (Nat.not_lt_zero i)
 |k+1,i,h1,h2=>by
  unfold CX at h1;cases e:lt x (l[k]?.getD default) with
  |false=>rw [e] at h1;have h1:k+1<=i:=h1;omega
  |true=>
   rw [e] at h1;by_cases hk:i=k
   ·rw [hk];exact e
   ·exact TL lt x l k i h1 (by omega)
theorem TM {α:Type} [Inhabited α] (lt:α->α->Bool) (x:α) (l:List α):∀ k,0<CX lt x l k->lt x (l[CX lt x l k-1]?.getD default)=false
 |0,h=>absurd h (Nat.lt_irrefl 0)
 |k+1,h=>by
  unfold CX at h ⊢;cases e:lt x (l[k]?.getD default) with
  |false=>exact e
  |true=>rw [e] at h;exact TM lt x l k h
theorem m_ {α:Type} [Inhabited α] (lt:α->α->Bool) {x:α} {l:List α} (A:α->Prop) (hA:∀ a,a∈l->A a) (hx:A x)
  (asym:∀ a b,A a->A b->lt a b=true->lt b a=false) (ntr:∀ a b c,A a->A b->A c->lt a b=false->lt b c=false->lt a c=false)
  (hs:l.Pairwise fun a b=>lt b a=false):(RR lt l x).Perm (x::l)/\(RR lt l x).Pairwise fun a b=>lt b a=false:=by
 refine ⟨RQ x l _,ZU lt hs (fun a ha=>?_) fun b hb=>?_⟩
 ·obtain ⟨i,hi,rfl⟩:=List.getElem_of_mem ha;rw [List.length_take] at hi;have hle:=Ol lt x l l.length;have hi1:i<CX lt x l l.length:=by omega
  have hil:i<l.length:=by omega
  rw [List.getElem_take];have hd:=TM lt x l l.length (by omega);have hp1:CX lt x l l.length-1<l.length:=by omega
  rw [List.getElem?_eq_getElem hp1,Option.getD_some] at hd;by_cases e:i=CX lt x l l.length-1
  ·simpa [e] using hd
  ·exact ntr _ _ _ hx (hA _ (List.getElem_mem hp1)) (hA _ (List.getElem_mem hil)) hd (List.pairwise_iff_getElem.1 hs i _ hil hp1 (by omega))
 ·obtain ⟨i,hi,rfl⟩:=List.getElem_of_mem hb;rw [List.length_drop] at hi;rw [List.getElem_drop];have hil:CX lt x l l.length+i<l.length:=by omega
  have:=TL lt x l l.length (CX lt x l l.length+i) (by omega) hil;rw [List.getElem?_eq_getElem hil,Option.getD_some] at this;exact asym _ _ hx (hA _ (List.getElem_mem hil)) this
theorem TN {α:Type} [Inhabited α] (lt:α->α->Bool) (A:α->Prop)
  (asym:∀ a b,A a->A b->lt a b=true->lt b a=false) (ntr:∀ a b c,A a->A b->A c->lt a b=false->lt b c=false->lt a c=false):∀ (l out:List α),(∀ a,a∈l->A a)->(∀ a,a∈out->A a)->
  out.Pairwise (fun a b=>lt b a=false)->(l.foldl (RR lt) out).Perm (l++out)/\(l.foldl (RR lt) out).Pairwise fun a b=>lt b a=false
 |[],out,_,_,hs=>⟨List.Perm.refl _,hs⟩
 |x::l,out,hl,ho,hs=>by
  obtain ⟨h1,h2⟩:=m_ lt A ho (hl x (by simp)) asym ntr hs;obtain ⟨g1,g2⟩:=TN lt A asym ntr l (RR lt out x) (fun a ha=>hl a (by simp [ha])) (fun a ha=>(List.mem_cons.1 (h1.mem_iff.1 ha)).elim (fun e=>e▸hl x (by simp)) (ho a)) h2;refine ⟨g1.trans ?_,g2⟩;exact ((List.Perm.append_left l h1).trans List.perm_middle)
end Go.V
namespace Go.V
set_option linter.unusedVariables false
set_option linter.unusedSimpArgs false
set_option maxRecDepth 100000
theorem i5 {α:Type} [Inhabited α] (lt:α->α->Bool) (out:List α) (x:α):(RR lt out x).length=out.length+1:=by
 have:=(RQ x out (CX lt x out out.length)).length_eq;simpa [RR] using this
theorem l07Sort_eq (docs:List Ae) (sort:List BG) (lt:Ae->Ae->Bool) (hd:docs.length<=1048576)
  (h:∀ x,x∈docs->∀ y,y∈docs->gV x y sort=some (lt x y,())):vA docs sort=some (docs.foldl (RR lt) [],()):=by
 unfold vA;refine Eq.trans (Ay (S:=List Ae) (fun i out=>(docs,sort,(i:Int),out,())) (fun i out=>some ((docs.drop i).foldl (RR lt) out,())) docs.length (fun i out=>out.length=i/\∀ y,y∈out->y∈docs) ?_ ?_ Af 0 [] (Nat.zero_le _) (Aj (by omega)) ⟨rfl,fun _ h=>by cases h⟩) rfl
 ·intro i out hi hI rec hrec;obtain ⟨hlen,hmem⟩:=hI;simp only [Vs,Ad,hi,decide_true,Ai7]
  have key:∀ (e2:List Ae×List BG×Int×Int×List Ae×Unit->Option (List Ae×Unit)) (n k:Nat),k<=out.length->k<n->iter (Ru e2) n (docs,sort,(i:Int),(k:Int),out,())=e2 (docs,sort,(i:Int),((CX lt (Ah docs i) out k:Nat):Int),out,()):=by
   intro e2 n;induction n with
   |zero=>intro k _ h;omega
   |succ n ih=>
    intro k hk hn;simp only [iter];cases k with
    |zero=>simp only [Ru,Gt,Nat.lt_irrefl,decide_false,Ai6,CX]
    |succ k=>
     have hk':k<out.length:=by omega
     have e1:IntKind.wrap IntKind.i64 (((k+1:Nat):Int)-1)=(k:Int):=by rw [AN _ (by omega) (by omega)];omega
     have hn':Ah out k∈out:=Au hk';simp only [Ru,Gt,Nat.succ_pos,decide_true,Ai7,Ap,Ai hi,Ai5,e1,Ad,hk',Aq,Ai hk',h _ (Au hi) _ (hmem _ hn')];simp only [CX];rw [show (out[k]?.getD default)=Ah out k from rfl];cases lt (Ah docs i) (Ah out k) with
     |true=>exact ih k (by omega) (by omega)
     |false=>rfl
  refine (key _ Af out.length (Nat.le_refl _) (Aj (by omega))).trans ?_;have hle:=Ol lt (Ah docs i) out out.length;have hgo:CX lt (Ah docs i) out out.length<=out.length:=hle;simp only [mV,Ap,IE,Int.toNat_natCast,Cs hi,Ai5,hgo,Nat.le_refl,decide_true,Dt,List.take_length,List.nil_append,Int.toNat_zero,List.drop_zero,Am i _ hi (by omega)];rw [Aq (by simp only [A_,List.length_drop,List.length_take,Ajd];omega),Aq (by simp only [A_,List.length_drop,List.length_take,Aja,Ajd];omega),Aq (by simp only [A_,Ai9,List.length_drop,List.length_take,Aja,Ajd];omega)];rw [Ac hi,List.foldl_cons]
  exact hrec (RR lt out (Ah docs i)) ⟨by rw [i5,hlen],fun y hy=>by
   have:=(RQ (Ah docs i) out (CX lt (Ah docs i) out out.length)).mem_iff.1 hy;rcases List.mem_cons.1 this with h | h
   ·rw [h];exact Au hi
   ·exact hmem y h⟩
 ·intro out hI rec;simp only [Vs,Ad,Nat.lt_irrefl,decide_false,Ai6,Ajh,List.foldl_nil]
structure PC {α:Type} (c:α->α->Int) (A:α->Prop):Prop where
 an:∀ a b,A a->A b->c b a = - c a b
 tr:∀ a b e,A a->A b->A e->c a b<0->c b e<0->c a e<0
 cg:∀ a b e,A a->A b->A e->c a b=0->c a e=c b e
theorem PC.cg' {α:Type} {c:α->α->Int} {A:α->Prop} (h:PC c A) {a b e:α} (ha:A a) (hb:A b) (he:A e) (z:c a b=0):c e a=c e b:=by
 rw [h.an a e ha he,h.an b e hb he,h.cg a b e ha hb he z]
def DR {α:Type} (c d:α->α->Int) (a b:α):Int:=if c a b=0 then d a b else c a b
theorem PC.lex {α:Type} {c d:α->α->Int} {A:α->Prop} (hc:PC c A) (hd:PC d A):PC (DR c d) A:=by
 refine ⟨fun a b ha hb=>?_,fun a b e ha hb he h1 h2=>?_,fun a b e ha hb he h=>?_⟩
 ·unfold DR;have h:=hc.an a b ha hb;by_cases z:c a b=0
  ·rw [if_pos z,if_pos (by omega)];exact hd.an a b ha hb
  ·rw [if_neg z,if_neg (by omega)];exact h
 ·unfold DR at h1 h2 ⊢;by_cases z1:c a b=0
  ·rw [if_pos z1] at h1;rw [hc.cg a b e ha hb he z1];by_cases z2:c b e=0
   ·rw [if_pos z2] at h2 ⊢;exact hd.tr a b e ha hb he h1 h2
   ·rw [if_neg z2] at h2 ⊢;exact h2
  ·rw [if_neg z1] at h1;by_cases z2:c b e=0
   ·rw [<-hc.cg' hb he ha z2,if_neg z1];exact h1
   ·rw [if_neg z2] at h2;have:=hc.tr a b e ha hb he h1 h2;rw [if_neg (by omega)];exact this
 ·unfold DR at h ⊢;by_cases z:c a b=0
  ·rw [if_pos z] at h;rw [hc.cg a b e ha hb he z,hd.cg a b e ha hb he h]
  ·rw [if_neg z] at h;exact absurd h z
theorem PC.pull {α β:Type} {c:β->β->Int} {B:β->Prop} {A:α->Prop} (hc:PC c B) (f:α->β) (hf:∀ a,A a->B (f a)):PC (fun a b=>c (f a) (f b)) A:=
 ⟨fun a b ha hb=>hc.an _ _ (hf a ha) (hf b hb),fun a b e ha hb he=>hc.tr _ _ _ (hf a ha) (hf b hb) (hf e he),fun a b e ha hb he=>hc.cg _ _ _ (hf a ha) (hf b hb) (hf e he)⟩
theorem PC.neg {α:Type} {c:α->α->Int} {A:α->Prop} (hc:PC c A):PC (fun a b=>- c a b) A:=
 ⟨fun a b ha hb=>by rw [hc.an a b ha hb],fun a b e ha hb he h1 h2=>by
  have:=hc.tr e b a he hb ha (by rw [hc.an b e hb he];exact h2) (by rw [hc.an a b ha hb];exact h1);rw [hc.an a e ha he] at this;exact this,fun a b e ha hb he h=>by rw [hc.cg a b e ha hb he (by omega)]⟩
theorem VW:PC II fun _=>True:=by
 have e:∀ a b,II a b=if a<b then -1 else if b<a then 1 else 0:=fun a b=>by
  unfold II;by_cases h1:a<b
  ·simp [h1]
  ·by_cases h2:b<a<;>simp [h1,h2]
 refine ⟨fun a b _ _=>?_,fun a b e' _ _ _ h1 h2=>?_,fun a b e' _ _ _ h=>?_⟩
 ·rw [e,e];repeat' split
  all_goals omega
 ·rw [e] at h1 h2 ⊢
  repeat' split at h1
  all_goals repeat' split at h2
  all_goals repeat' split
  all_goals omega
 ·rw [Cn] at h;rw [h]
theorem i6:∀ a b,Lib.compareBytes b a = - Lib.compareBytes a b
 |[],[]=>rfl
 |[],_::_=>rfl
 |_::_,[]=>rfl
 |a::x,b::y=>by
  simp only [Lib.compareBytes];by_cases h1:a<b
  ·have:¬b<a:=fun h=>UInt8.lt_irrefl a (UInt8.lt_trans h1 h)
   simp [h1,this]
  ·by_cases h2:b<a
   ·simp [h1,h2]
   ·simp only [h1,h2,if_false];exact i6 x y
theorem bW:PC Lib.compareBytes fun _=>True:=by
 refine ⟨fun a b _ _=>i6 a b,fun a b e _ _ _ h1 h2=>?_,fun a b e _ _ _ h=>?_⟩
 ·have:=Cd a b e (by rw [Bn];simpa using h1) (by rw [Bn];simpa using h2);rw [Bn] at this;simpa using this
 ·rw [(AC a b).1 h]
theorem K_ {α:Type} {c:α->α->Int} {A:α->Prop} (hc:PC c A):PC (CS c) fun l=>∀ x,x∈l->A x:=by
 refine ⟨?_,?_,?_⟩
 ·intro a;induction a with
  |nil=>intro b _ _;cases b<;>rfl
  |cons x a ih=>
   intro b ha hb;cases b with
   |nil=>rfl
   |cons y b=>
    have h:=hc.an x y (ha x (by simp)) (hb y (by simp));simp only [CS];by_cases z:c x y=0
    ·rw [if_pos z,if_pos (by omega)];exact ih b (fun p hp=>ha p (by simp [hp])) fun p hp=>hb p (by simp [hp])
    ·rw [if_neg z,if_neg (by omega)];exact h
 ·intro a;induction a with
  |nil=>
   intro b e _ _ _ h1 h2;cases b with
   |nil=>exact absurd h1 (by simp [CS])
   |cons y b=>cases e with
    |nil=>simp [CS] at h2
    |cons w e=>simp [CS]
  |cons x a ih=>
   intro b e ha hb he h1 h2;cases b with
   |nil=>simp [CS] at h1
   |cons y b=>cases e with
    |nil=>simp [CS] at h2
    |cons w e=>
     have ax:=ha x (by simp);have ay:=hb y (by simp);have aw:=he w (by simp);simp only [CS] at h1 h2 ⊢;by_cases z1:c x y=0
     ·rw [if_pos z1] at h1;rw [hc.cg x y w ax ay aw z1];by_cases z2:c y w=0
      ·rw [if_pos z2] at h2 ⊢;exact ih b e (fun p hp=>ha p (by simp [hp])) (fun p hp=>hb p (by simp [hp])) (fun p hp=>he p (by simp [hp])) h1 h2
      ·rw [if_neg z2] at h2 ⊢;exact h2
     ·rw [if_neg z1] at h1;by_cases z2:c y w=0
      ·rw [<-hc.cg' ay aw ax z2,if_neg z1];exact h1
      ·rw [if_neg z2] at h2;have:=hc.tr x y w ax ay aw h1 h2;rw [if_neg (by omega)];exact this
 ·intro a;induction a with
  |nil=>
   intro b e _ _ _ h;cases b with
   |nil=>rfl
   |cons y b=>simp [CS] at h
  |cons x a ih=>
   intro b e ha hb he h;cases b with
   |nil=>simp [CS] at h
   |cons y b=>
    simp only [CS] at h;by_cases z:c x y=0
    ·rw [if_pos z] at h;cases e with
     |nil=>rfl
     |cons w e=>
      simp only [CS];rw [hc.cg x y w (ha x (by simp)) (hb y (by simp)) (he w (by simp)) z,ih b e (fun p hp=>ha p (by simp [hp])) (fun p hp=>hb p (by simp [hp])) (fun p hp=>he p (by simp [hp])) h]
    ·rw [if_neg z] at h;exact absurd h z
theorem Om (g:Ae->Ae->Int) (x y:Bk):LY g x y=DR (fun a b:Bk=>Lib.compareBytes a.1 b.1) (fun a b=>g a.2.1 b.2.1) x y:=by
 unfold LY DR;by_cases z:Lib.compareBytes x.1 y.1=0
 ·have:(Lib.compareBytes x.1 y.1 != 0)=false:=by simpa using z
  rw [this,Ai6,if_pos z]
 ·have:(Lib.compareBytes x.1 y.1 != 0)=true:=by simpa using z
  rw [this,Ai7,if_neg z]
theorem VX {g:Ae->Ae->Int} {A:Ae->Prop} (h:PC g A):PC (LY g) fun f=>A f.2.1:=by
 have:=(bW.pull (A:=fun f:Bk=>A f.2.1) (fun f:Bk=>f.1) fun _ _=>trivial).lex (h.pull (fun f:Bk=>f.2.1) fun _ h=>h);have e:LY g=DR (fun a b:Bk=>Lib.compareBytes a.1 b.1) (fun a b=>g a.2.1 b.2.1):=by funext x y;exact Om g x y
 rw [e];exact this
def i7 (g:Ae->Ae->Int) (a b:Ae):Int:=
 if a.1=4 then CS g (BZ a) (BZ b) else if a.1=5 then CS (LY g) (B_ a) (B_ b) else Lib.compareBytes a.2.2.1 b.2.2.1
theorem PC.lex2 {α:Type} {c d:α->α->Int} {A:α->Prop} (hc:PC c A)
  (h1:∀ a b,A a->A b->c a b=0->d b a = - d a b) (h2:∀ a b e,A a->A b->A e->c a b=0->c b e=0->d a b<0->d b e<0->d a e<0)
  (h3:∀ a b e,A a->A b->A e->c a b=0->c b e=0->d a b=0->d a e=d b e):PC (DR c d) A:=by
 refine ⟨fun a b ha hb=>?_,fun a b e ha hb he g1 g2=>?_,fun a b e ha hb he h=>?_⟩
 ·unfold DR;have h:=hc.an a b ha hb;by_cases z:c a b=0
  ·rw [if_pos z,if_pos (by omega)];exact h1 a b ha hb z
  ·rw [if_neg z,if_neg (by omega)];exact h
 ·unfold DR at g1 g2 ⊢;by_cases z1:c a b=0
  ·rw [if_pos z1] at g1;rw [hc.cg a b e ha hb he z1];by_cases z2:c b e=0
   ·rw [if_pos z2] at g2 ⊢;exact h2 a b e ha hb he z1 z2 g1 g2
   ·rw [if_neg z2] at g2 ⊢;exact g2
  ·rw [if_neg z1] at g1;by_cases z2:c b e=0
   ·rw [<-hc.cg' hb he ha z2,if_neg z1];exact g1
   ·rw [if_neg z2] at g2;have:=hc.tr a b e ha hb he g1 g2;rw [if_neg (by omega)];exact this
 ·unfold DR at h ⊢;by_cases z:c a b=0
  ·rw [if_pos z] at h;rw [hc.cg a b e ha hb he z];by_cases z2:c b e=0
   ·rw [if_pos z2,if_pos z2];exact h3 a b e ha hb he z z2 h
   ·rw [if_neg z2,if_neg z2]
  ·rw [if_neg z] at h;exact absurd h z
theorem bX {g:Ae->Ae->Int} {d:Nat} (hg:∀ e,d=e+1->PC g fun v=>AH e v=true):PC (GC g) fun v=>AH d v=true:=by
 have e:GC g=DR (DR (fun a b:Ae=>II a.1 b.1) (fun a b=>II a.2.1 b.2.1)) (i7 g):=by
  funext a b;unfold GC DR i7;by_cases z:II a.1 b.1=0
  ·by_cases z2:II a.2.1 b.2.1=0<;>simp [z,z2]
  ·simp [z]
 rw [e]
 have hc:PC (DR (fun a b:Ae=>II a.1 b.1) (fun a b=>II a.2.1 b.2.1)) fun v=>AH d v=true:=
  (VW.pull (fun v:Ae=>v.1) fun _ _=>trivial).lex (VW.pull (fun v:Ae=>v.2.1) fun _ _=>trivial)
 have hk:∀ a b:Ae,DR (fun a b:Ae=>II a.1 b.1) (fun a b=>II a.2.1 b.2.1) a b=0->a.1=b.1:=by
  intro a b h;unfold DR at h;by_cases z:II a.1 b.1=0
  ·exact (Cn _ _).1 z
  ·rw [if_neg z] at h;exact absurd h z
 have it:∀ v:Ae,AH d v=true->v.1=4->∃ e,d=e+1/\∀ x,x∈BZ v->AH e x=true:=by
  intro v h hk;obtain ⟨e,l,hd,_,i2,_,_,i3⟩:=AQ h hk;exact ⟨e,hd,by rw [i2];exact i3⟩
 have fd:∀ v:Ae,AH d v=true->v.1=5->∃ e,d=e+1/\∀ x,x∈B_ v->AH e x.2.1=true:=by
  intro v h hk;obtain ⟨e,l,hd,_,i2,_,_,i3⟩:=Bl h hk;exact ⟨e,hd,by rw [i2];exact i3⟩
 refine hc.lex2 (fun a b ha hb z=>?_) (fun a b e ha hb he z1 z2 g1 g2=>?_) (fun a b e ha hb he z1 z2 g1=>?_)
 ·have q:=hk a b z;unfold i7;by_cases c4:a.1=4
  ·obtain ⟨e,hd,i⟩:=it a ha c4;obtain ⟨e',hd',j⟩:=it b hb (by omega);have:e'=e:=by omega
   subst this;rw [if_pos c4,if_pos (by omega)];exact (K_ (hg _ hd)).an _ _ i j
  by_cases c5:a.1=5
  ·obtain ⟨e,hd,i⟩:=fd a ha c5;obtain ⟨e',hd',j⟩:=fd b hb (by omega);have:e'=e:=by omega
   subst this;rw [if_neg c4,if_neg (by omega),if_pos c5,if_pos (by omega)];exact (K_ (VX (hg _ hd))).an _ _ i j
  ·rw [if_neg c4,if_neg (by omega),if_neg c5,if_neg (by omega)];exact i6 _ _
 ·have q:=hk a b z1;have q2:=hk b e z2;unfold i7 at g1 g2 ⊢;by_cases c4:a.1=4
  ·obtain ⟨k,hd,i⟩:=it a ha c4;obtain ⟨k',hd',j⟩:=it b hb (by omega);obtain ⟨k'',hd'',j'⟩:=it e he (by omega);have:k'=k:=by omega
   subst this;have:k''=k' :=by omega
   subst this;rw [if_pos (by omega)] at g1 g2 ⊢;exact (K_ (hg _ hd)).tr _ _ _ i j j' g1 g2
  by_cases c5:a.1=5
  ·obtain ⟨k,hd,i⟩:=fd a ha c5;obtain ⟨k',hd',j⟩:=fd b hb (by omega);obtain ⟨k'',hd'',j'⟩:=fd e he (by omega);have:k'=k:=by omega
   subst this;have:k''=k' :=by omega
   subst this;rw [if_neg (by omega),if_pos (by omega)] at g1 g2 ⊢;exact (K_ (VX (hg _ hd))).tr _ _ _ i j j' g1 g2
  ·rw [if_neg (by omega),if_neg (by omega)] at g1 g2 ⊢;exact bW.tr _ _ _ trivial trivial trivial g1 g2
 ·have q:=hk a b z1;have q2:=hk b e z2;unfold i7 at g1 ⊢;by_cases c4:a.1=4
  ·obtain ⟨k,hd,i⟩:=it a ha c4;obtain ⟨k',hd',j⟩:=it b hb (by omega);obtain ⟨k'',hd'',j'⟩:=it e he (by omega);have:k'=k:=by omega
   subst this;have:k''=k' :=by omega
   subst this;rw [if_pos c4] at g1;rw [if_pos c4,if_pos (by omega)];exact (K_ (hg _ hd)).cg _ _ _ i j j' g1
  by_cases c5:a.1=5
  ·obtain ⟨k,hd,i⟩:=fd a ha c5;obtain ⟨k',hd',j⟩:=fd b hb (by omega);obtain ⟨k'',hd'',j'⟩:=fd e he (by omega);have:k'=k:=by omega
   subst this;have:k''=k' :=by omega
   subst this;rw [if_neg c4,if_pos c5] at g1;rw [if_neg c4,if_pos c5,if_neg (by omega),if_pos (by omega)];exact (K_ (VX (hg _ hd))).cg _ _ _ i j j' g1
  ·rw [if_neg c4,if_neg c5] at g1;rw [if_neg c4,if_neg c5,if_neg (by omega),if_neg (by omega)];exact bW.cg _ _ _ trivial trivial trivial g1
theorem VY:∀ d,PC (DF d) fun v=>AH d v=true
 |0=>bX fun e h=>by omega
 |d+1=>bX fun e h=>by
  have:e=d:=by omega
  subst this;exact VY _
theorem i8 (a b:Int) : -1<=II a b/\II a b<=1:=by
 unfold II;by_cases h1:a<b
 ·simp [h1]
 ·by_cases h2:a>b<;>simp [h1,h2]
theorem i9:∀ a b,-1<=Lib.compareBytes a b/\Lib.compareBytes a b<=1
 |[],[]=>by simp [Lib.compareBytes]
 |[],_::_=>by simp [Lib.compareBytes]
 |_::_,[]=>by simp [Lib.compareBytes]
 |a::x,b::y=>by
  simp only [Lib.compareBytes];split
  ·omega
  ·split
   ·omega
   ·exact i9 x y
theorem VZ {α:Type} {c:α->α->Int} (h:∀ a b,-1<=c a b/\c a b<=1):∀ x y,-1<=CS c x y/\CS c x y<=1
 |[],[]=>by simp [CS]
 |[],_::_=>by simp [CS]
 |_::_,[]=>by simp [CS]
 |a::x,b::y=>by
  simp only [CS];split
  ·exact VZ h x y
  ·exact h a b
theorem bY {g:Ae->Ae->Int} (h:∀ a b,-1<=g a b/\g a b<=1) (a b:Ae) : -1<=GC g a b/\GC g a b<=1:=by
 unfold GC
 repeat' split
 ·exact i8 _ _
 ·exact i8 _ _
 ·exact VZ h _ _
 ·refine VZ (fun x y=>?_) _ _;rw [Om];unfold DR;split
  ·exact h _ _
  ·exact i9 _ _
 ·exact i9 _ _
theorem bZ:∀ d a b,-1<=DF d a b/\DF d a b<=1
 |0=>bY fun _ _=>by omega
 |d+1=>bY (bZ d)
theorem PC.irr {α:Type} {c:α->α->Int} {A:α->Prop} (h:PC c A) {a:α} (ha:A a):decide (c a a<0)=false:=by
 have:=h.an a a ha ha;exact decide_eq_false (by omega)
theorem PC.less_tr {α:Type} {c:α->α->Int} {A:α->Prop} (h:PC c A) {a b e:α} (ha:A a) (hb:A b) (he:A e) (h1:decide (c a b<0)=true) (h2:decide (c b e<0)=true):decide (c a e<0)=true:=
 decide_eq_true (h.tr a b e ha hb he (of_decide_eq_true h1) (of_decide_eq_true h2))
theorem PC.less_ntr {α:Type} {c:α->α->Int} {A:α->Prop} (h:PC c A) {a b e:α} (ha:A a) (hb:A b) (he:A e) (h1:decide (c a b<0)=false) (h2:decide (c b e<0)=false):decide (c a e<0)=false:=by
 refine decide_eq_false fun h3=>?_
 have g1:=of_decide_eq_false h1;have g2:=of_decide_eq_false h2;have k1:=h.an a b ha hb;have k2:=h.an b e hb he;have k3:=h.an a e ha he;by_cases z1:c a b=0
 ·rw [h.cg a b e ha hb he z1] at h3;exact g2 h3
 ·by_cases z2:c b e=0
  ·rw [<-h.cg' hb he ha z2] at h3;exact g1 h3
  ·have:=h.tr e b a he hb ha (by omega) (by omega);omega
theorem PC.less_as {α:Type} {c:α->α->Int} {A:α->Prop} (h:PC c A) {a b:α} (ha:A a) (hb:A b) (h1:decide (c a b<0)=true):decide (c b a<0)=false:=by
 have:=h.an a b ha hb;have:=of_decide_eq_true h1;exact decide_eq_false (by omega)
abbrev BD:Type:=Dv×(List BG×(Int×(Int×(List (List UInt8)×(List UInt8×Unit)))))
def On (n:Nat) (q:BD):Prop:=VG n q.1/\LS Nl n q.2.1/\LS wt n q.2.2.2.2.1/\q.2.2.2.2.2.1.length<=n
def Ek (l:List BG):Bool:=l.all fun p=>Cm p.1
def CG (q:BD):Bool:=
 BW q.1&&(decide (((q.2.1.length:Nat):Int)<=2)&&(Ek q.2.1&&(inR q.2.2.1 0 100&&(inR q.2.2.2.1 0 100&&(decide (((q.2.2.2.2.1.length:Nat):Int)<=4)&&(q.2.2.2.2.1.all shortM&&((q.2.2.2.2.2.1==[])||shortM q.2.2.2.2.2.1)))))))
theorem b_ {α:Type} (p:α->Bool) (l:List α):(!(l.any fun x=>!p x))=l.all p:=by
 induction l with
 |nil=>rfl
 |cons a l ih=>simp only [List.any_cons,List.all_cons,<-ih];cases p a<;>simp
theorem dX (l:List BG) (h:LS Nl 1048576 l):xA l=some (decide (((l.length:Nat):Int)<=2)&&Ek l,()):=by
 unfold xA;cases hc:decide (((l.length:Nat):Int)<=2) with
 |false=>rfl
 |true=>
  rw [Ai7,XS (fun p=>!Cm p.1) l _ (fun x hx=>by
   unfold F89 rx;rw [Ij _ (h.2 x hx)];rfl) (by have:=h.1;omega),Ai5]
  simp only [b_ (fun p:BG=>Cm p.1) l,Bool.true_and];rfl
theorem Yn (l:List (List UInt8)) (h:LS wt 1048576 l):xB l=some (l.all shortM,()):=by
 unfold xB
 rw [Rz (fun p=>!shortM p) l _ (fun x hx=>by
  unfold F92;rw [Hx _ (h.2 x hx)];rfl) (by have:=h.1;omega),Ai5]
 simp only [b_ shortM l]
theorem E_ (q:BD) (hq:On 1048576 q):pB q=some (CG q,()):=by
 unfold pB CG;rw [PB _ hq.1,dX _ hq.2.1,Yn _ hq.2.2.1,Hx _ hq.2.2.2];simp only [Ai5,CE];cases BW q.1
 ·rfl
 cases decide (((q.2.1.length:Nat):Int)<=2)
 ·rfl
 cases Ek q.2.1
 ·rfl
 cases inR q.2.2.1 0 100
 ·rfl
 cases inR q.2.2.2.1 0 100
 ·rfl
 cases decide (((q.2.2.2.2.1.length:Nat):Int)<=4)
 ·rfl
 cases q.2.2.2.2.1.all shortM
 ·rfl
 cases q.2.2.2.2.2.1==[]<;>rfl
theorem Km (q:BD) (hq:On 1048576 q):vj q=some (CG q,()):=by
 unfold vj CG;rw [PD _ hq.1];simp only [Ai5,Eu,Hw]
 have gt (n:Nat) (z:Int):decide (((n:Nat):Int)>z) = !decide (((n:Nat):Int)<=z):=by
  by_cases h:((n:Nat):Int)<=z
  ·have:¬((n:Nat):Int)>z:=by omega
   simp [h,this]
  ·have:((n:Nat):Int)>z:=by omega
   simp [h,this]
 have key:decide (((q.2.1.length:Nat):Int)<=2)=true->decide (((q.2.2.2.2.1.length:Nat):Int)<=4)=true->
   (iter (Rs (fun y14=>(iter (Rt (fun y23=>(some (true,()))) (fun y24=>(some (y24.1,())))) Af ((0:Int),y14.1,()))) (fun y15=>(some (y15.1,())))) Af ((0:Int),q,()))=some (Ek q.2.1&&q.2.2.2.2.1.all shortM,()):=by
  intro h1 h2;have h1' :=of_decide_eq_true h1;have h2' :=of_decide_eq_true h2;refine (Ca (fun i=>((i:Int),q,())) (fun i=>Cm (Ah q.2.1 i).1) (some (q.2.2.2.2.1.all shortM,())) (some (false,())) q.2.1.length 0 Af ?_ ?_ (Aj (by omega))).trans ?_
  ·intro i _ hi rec;have hi':i<q.2.1.length:=by omega
   have hp:=hq.2.1.2 _ (Au hi');simp only [Rs,Ad,hi',decide_true,Ai7,Ap,Ai hi',Ai5,Ii _ hp,Am i _ hi' (by omega)];cases Cm (Ah q.2.1 i).1<;>rfl
  ·intro rec;have:¬(0+q.2.1.length<q.2.1.length):=by omega
   simp only [Rs,Ad,this,decide_false,Ai6];refine (Ca (fun i=>((i:Int),q,())) (fun i=>shortM (Ah q.2.2.2.2.1 i)) (some (true,())) (some (false,())) q.2.2.2.2.1.length 0 Af ?_ ?_ (Aj (by omega))).trans ?_
   ·intro i _ hi rec;have hi':i<q.2.2.2.2.1.length:=by omega
    simp only [Rt,Ad,hi',decide_true,Ai7,Ap,Ai hi',Ai5,Hw,Am i _ hi' (by omega)];cases shortM (Ah q.2.2.2.2.1 i)<;>rfl
   ·intro rec;have:¬(0+q.2.2.2.2.1.length<q.2.2.2.2.1.length):=by omega
    simp only [Rt,Ad,this,decide_false,Ai6]
   ·rw [EM];cases q.2.2.2.2.1.all shortM<;>rfl
  ·rw [EM (fun p:BG=>Cm p.1)];unfold Ek;cases q.2.1.all fun p=>Cm p.1<;>rfl
 rw [gt,gt];cases BW q.1
 ·rfl
 cases h1:decide (((q.2.1.length:Nat):Int)<=2)
 ·rfl
 cases inR q.2.2.1 0 100
 ·cases Ek q.2.1<;>rfl
 cases inR q.2.2.2.1 0 100
 ·cases Ek q.2.1<;>rfl
 cases h2:decide (((q.2.2.2.2.1.length:Nat):Int)<=4)
 ·cases Ek q.2.1<;>rfl
 have k:=key h1 h2;simp only [Bool.not_true,Bool.not_false,Ai6,Bool.true_and];cases q.2.2.2.2.2.1==[]
 ·cases shortM q.2.2.2.2.2.1
  ·simp only [Bool.not_false,Bool.not_true,Ai7,Ai6,Bool.false_or];cases Ek q.2.1<;>cases q.2.2.2.2.1.all shortM<;>rfl
  ·simp only [Bool.not_false,Bool.not_true,Ai7,Ai6,Bool.false_or];rw [k];cases Ek q.2.1<;>cases q.2.2.2.2.1.all shortM<;>rfl
 ·simp only [Bool.not_true,Ai6,Bool.true_or,Bool.and_true];exact k
def Pg (l:List Ae) (i:Nat):Bool:=Dw (Ah l i)&&(decide (CA (Ah l i)>=0)&&(decide (i=0)||decide (CA (Ah l (i-1))<CA (Ah l i))))
def Eg (l:List Ae):Bool:=Bo (Pg l) 0 l.length&&decide (((l.length:Nat):Int)<=20)
theorem RS (l:List Ae) (h:LS Dd 1048576 l):tz l=some (Eg l,()):=by
 unfold tz Eg;have hl:=h.1;refine (Ca (fun i=>(l,(i:Int),())) (Pg l) (some (decide (((l.length:Nat):Int)<=20),())) (some (false,())) l.length 0 Af ?_ ?_ (Aj (by omega))).trans ?_
 ·intro i _ hi rec;have hi':i<l.length:=by omega
  have hv:=h.2 _ (Au hi');simp only [U_,Ad,hi',decide_true,Ai7,Ap,Ai hi',Ai5,dT _ hv,Kl _ hv,Am i _ hi' (by omega),Gt]
  have hd:decide (CA (Ah l i)<0) = !decide (CA (Ah l i)>=0):=by
   by_cases h:CA (Ah l i)>=0
   ·have:¬CA (Ah l i)<0:=by omega
    simp [h,this]
   ·have:CA (Ah l i)<0:=by omega
    simp [h,this]
  rw [hd];unfold Pg;cases Dw (Ah l i)
  ·rfl
  cases decide (CA (Ah l i)>=0)
  ·rfl
  cases i with
  |zero=>rfl
  |succ i=>
   have hi2:i<l.length:=by omega
   have hv2:=h.2 _ (Au hi2);have e1:IntKind.wrap IntKind.i64 (((i+1:Nat):Int)-1)=(i:Int):=by rw [AN _ (by omega) (by omega)];omega
   have hlt:decide (CA (Ah l i)>=CA (Ah l (i+1))) = !decide (CA (Ah l i)<CA (Ah l (i+1))):=by
    by_cases h:CA (Ah l i)<CA (Ah l (i+1))
    ·have:¬CA (Ah l i)>=CA (Ah l (i+1)):=by omega
     simp [h,this]
    ·have:CA (Ah l i)>=CA (Ah l (i+1)):=by omega
     simp [h,this]
   simp only [Nat.succ_pos,decide_true,Ai7,Bool.not_true,Ai6,e1,Ap,Ai hi2,Ai5,Kl _ hv2,hlt,Nat.add_sub_cancel,Nat.succ_ne_zero,decide_false,Bool.false_or,Bool.true_and];cases decide (CA (Ah l i)<CA (Ah l (i+1)))<;>rfl
 ·intro rec;have:¬(0+l.length<l.length):=by omega
  simp only [U_,Ad,this,decide_false,Ai6]
 ·cases Bo (Pg l) 0 l.length<;>rfl
theorem iA (v:Ae) (hv:Dd 1048576 v):xC v=some (Dw v&&decide (CA v>=0),()):=by
 unfold xC;rw [iu v hv,Ai5];cases h:Dw v with
 |false=>rfl
 |true=>
  obtain ⟨n,ok,e,h1,h2⟩:=Yb v hv h;rw [e];cases ok with
  |false=>rw [h2 rfl];rfl
  |true=>
   have:=(h1 rfl).2.1;rw [(h1 rfl).1] at this;rw [decide_eq_true (show CA v>=0 from this)];rfl
theorem Qr (v:Ae) (hv:Dd 1048576 v) (h:Dw v=true) (h0:CA v>=0):lc v=some (CA v,true,()):=by
 obtain ⟨n,ok,e,h1,h2⟩:=Yb v hv h;rw [e];cases ok with
 |false=>have:=h2 rfl;omega
 |true=>rw [(h1 rfl).1]
theorem RT (l:List Ae) (h:LS Dd 1048576 l):u6 l=some (Eg l,()):=by
 unfold u6 Eg;have hl:=h.1
 have key:∀ (m s k:Nat) (b:Int),s+m=l.length->m<k->(s=0->b = -1)->(0<s->b=CA (Ah l (s-1)))->
   iter (Rq (fun y10=>(some ((decide ((((List.length y10.1):Nat):Int)<=(20:Int))),()))) (fun y11=>(some (y11.1,())))) k (l,b,l,((l.length:Nat):Int),(s:Int),()) =
   some (Bo (Pg l) s m&&decide (((l.length:Nat):Int)<=20),()):=by
  intro m;induction m with
  |zero=>
   intro s k b hs hk _ _;cases k with
   |zero=>omega
   |succ k=>
    have:¬s<l.length:=by omega
    simp only [iter,Rq,Ad,this,decide_false,Ai6,Bo,Bool.true_and]
  |succ m ih=>
   intro s k b hs hk h0 h1;cases k with
   |zero=>omega
   |succ k=>
    have hi:s<l.length:=by omega
    have hv:=h.2 _ (Au hi);simp only [iter,Rq,Ad,hi,decide_true,Ai7,Ap,Ai hi,Ai5,iA _ hv,Bo];unfold Pg;cases hd:Dw (Ah l s)
    ·rfl
    by_cases hz:CA (Ah l s)>=0
    ·rw [Qr _ hv hd hz,decide_eq_true hz];simp only [Bool.true_and,Bool.not_true,Ai6,Ai5,Am s _ hi (by omega)]
     have hb:decide (CA (Ah l s)<=b) = !(decide (s=0)||decide (CA (Ah l (s-1))<CA (Ah l s))):=by
      by_cases hs0:s=0
      ·have:=h0 hs0;have:¬CA (Ah l s)<=b:=by omega
       simp [hs0] at this ⊢;simpa using this
      ·have:=h1 (by omega);rw [this];by_cases hlt:CA (Ah l (s-1))<CA (Ah l s)
       ·have:¬CA (Ah l s)<=CA (Ah l (s-1)):=by omega
        simp [hs0,hlt,this]
       ·have:CA (Ah l s)<=CA (Ah l (s-1)):=by omega
        simp [hs0,hlt,this]
     rw [hb];cases hc:(decide (s=0)||decide (CA (Ah l (s-1))<CA (Ah l s)))
     ·rfl
     ·simp only [Bool.not_true,Ai6,Bool.true_and];exact ih (s+1) k _ (by omega) (by omega) (by omega) (fun _=>by rw [Nat.add_sub_cancel])
    ·rw [decide_eq_false hz];rfl
 exact key l.length 0 Af (-1) (by omega) (Aj (by omega)) (fun _=>rfl) (fun h=>absurd h (Nat.lt_irrefl 0))
def ZV:List Ae->Ae
 |[]=>RI
 |a::l=>l.foldl (fun m x=>cond (decide (DF 5 x m<0)) x m) a
def Co (v:Ae) (path:List UInt8):Ae:=ZV (BQ v path)
theorem iB:∀ (l:List Ae),(∀ x,x∈l->AH 5 x=true)->AH 5 (ZV l)=true
 |[],_=>RK
 |a::l,h=>by
  have:∀ (l:List Ae) (a:Ae),AH 5 a=true->(∀ x,x∈l->AH 5 x=true)->AH 5 (l.foldl (fun m x=>cond (decide (DF 5 x m<0)) x m) a)=true:=by
   intro l;induction l with
   |nil=>intro a h _;exact h
   |cons b l ih=>
    intro a ha hl;refine ih _ ?_ fun x hx=>hl x (by simp [hx])
    dsimp only;cases decide (DF 5 b a<0)
    ·exact ha
    ·exact hl b (by simp)
  exact this l a (h a (by simp)) fun x hx=>h x (by simp [hx])
theorem IL {v:Ae} {path:List UInt8} (hv:AH 5 v=true):AH 5 (Co v path)=true:=iB _ (IJ hv).2
def yc (G:Ae->Ae->Option (Int×Unit)) (e0_0:Ae×Ae×Unit->Option (Ae×Unit)) (rec:List Ae×Int×Ae×Ae×Unit->Option (Ae×Unit)) (x4:List Ae×Int×Ae×Ae×Unit):Option (Ae×Unit):=
 (cond (decide (x4.2.1<(((List.length x4.1):Nat):Int)))
 (let j10:List Ae×Int×Ae×Ae×Unit->Option (Ae×Unit):=fun (y11:List Ae×Int×Ae×Ae×Unit)=>
 (rec (y11.1,(IntKind.wrap IntKind.i64 (y11.2.1+(1:Int))),y11.2.2.1,y11.2.2.2.1,()))
 (gd (decide ((0:Int)<=x4.2.1))
 (Option.bind x4.1[(Int.toNat x4.2.1)]? fun y7=>
 (Option.bind (G y7 x4.2.2.2.1) fun y8=>
 (cond (decide (y8.1<(0:Int)))
 (gd (decide ((0:Int)<=x4.2.1))
 (Option.bind x4.1[(Int.toNat x4.2.1)]? fun y9=>
 (j10 (x4.1,x4.2.1,x4.2.2.1,y9,()))))
 (j10 (x4.1,x4.2.1,x4.2.2.1,x4.2.2.2.1,())))))))
 (e0_0 (x4.2.2.1,x4.2.2.2.1,())))
theorem nD (G:Ae->Ae->Option (Int×Unit)) (a:Ae) (l:List Ae) (z:Ae) (hl:(a::l).length<=1048576) (ho:∀ x,x∈a::l->AH 5 x=true)
  (hG:∀ x y,AH 5 x=true->AH 5 y=true->G x y=some (DF 5 x y,())) :
  iter (yc G (fun y=>some (y.2.1,()))) Af (a::l,(1:Int),z,a,())=some (ZV (a::l),()):=by
 have:=Ay (R:=yc G (fun y=>some (y.2.1,()))) (S:=Ae) (fun i m=>(a::l,(i:Int),z,m,())) (fun i m=>some (((a::l).drop i).foldl (fun m x=>cond (decide (DF 5 x m<0)) x m) m,())) (a::l).length (fun _ m=>AH 5 m=true)
  (fun i m hi hm rec hrec=>by
   have ho' :=ho _ (Au hi);simp only [yc,Ad,hi,decide_true,Ai7,Ap,Ai hi,Ai5,hG _ _ ho' hm,Am i _ hi (by omega)];rw [Ac hi,List.foldl_cons];cases decide (DF 5 (Ah (a::l) i) m<0)
   ·exact hrec m hm
   ·exact hrec _ ho')
  (fun m _ rec=>by
   simp only [yc,Ad,Nat.lt_irrefl,decide_false,Ai6,Ajh,List.foldl_nil]) Af 1 a (by simp) (Aj (by omega)) (ho a (by simp))
 exact this
theorem Nv (v:Ae) (path:List UInt8) (hv:AH 5 v=true) (hp:path.length<=1048576):gO v path=some (Co v path,()):=by
 unfold gO Co;rw [RL v path hv hp,Ai5];have h:=IJ (path:=path) hv;generalize BQ v path=l at h;cases l with
 |nil=>rfl
 |cons a l=>
  have e:((((a::l).length:Nat):Int)==0)=false:=by rw [beq_eq_false_iff_ne];simp only [Aja];omega
  dsimp only;rw [e,Ai6];unfold pM;have e2:decide ((((a::l).length:Nat):Int)<1)=false:=decide_eq_false (by simp only [Aja];omega);rw [e2,Ai6];have:=nD (fun x y=>LU x y) a l ((0:Int),((0:Int),([],()))) h.1 h.2 (fun x y hx hy=>Jp x y hx hy);exact (congrArg (fun o:Option (Ae×Unit)=>Option.bind o fun y2=>some (y2.1,())) this)
theorem Ph (v:Ae) (path:List UInt8) (hv:AH 5 v=true) (hp:path.length<=1048576):gU v path=some (Co v path,()):=by
 unfold gU Co;rw [Jq v path hv hp,Ai5];have h:=IJ (path:=path) hv;generalize BQ v path=l at h;cases l with
 |nil=>rfl
 |cons a l=>
  have e:((((a::l).length:Nat):Int)==0)=false:=by rw [beq_eq_false_iff_ne];simp only [Aja];omega
  dsimp only;rw [e,Ai6];exact nD (fun x y=>dK x y) a l ((0:Int),((0:Int),([],()))) h.1 h.2 (fun x y hx hy=>Jo x y hx hy)
def Yo:List BG->Ae->Ae->Int
 |[]=>fun a b=>II (CA a) (CA b)
 |p::s=>DR (fun a b=>cond p.2.1 (- DF 5 (Co a p.1) (Co b p.1)) (DF 5 (Co a p.1) (Co b p.1))) (Yo s)
theorem Yp (p:BG) (s:List BG) (a b:Ae):Yo (p::s) a b=if cond p.2.1 (- DF 5 (Co a p.1) (Co b p.1)) (DF 5 (Co a p.1) (Co b p.1))=0 then Yo s a b else cond p.2.1 (- DF 5 (Co a p.1) (Co b p.1)) (DF 5 (Co a p.1) (Co b p.1)):=rfl
theorem ZW:∀ s,PC (Yo s) fun v=>AH 5 v=true
 |[]=>VW.pull CA fun _ _=>trivial
 |p::s=>by
  refine PC.lex ?_ (ZW s);have h:PC (fun a b=>DF 5 (Co a p.1) (Co b p.1)) fun v=>AH 5 v=true:=(VY 5).pull (fun v=>Co v p.1) fun v hv=>IL hv
  cases p.2.1
  ·exact h
  ·exact h.neg
theorem Yq:∀ s a b,Yo s a b=0->CA a=CA b
 |[],a,b,h=>(Cn _ _).1 h
 |p::s,a,b,h=>by
  unfold Yo DR at h;split at h
  ·exact Yq s a b h
  ·rename_i h';exact absurd h h'
def DS (v:Ae):Prop:=Dw v=true/\CA v>=0
theorem DS.ok {v:Ae} (h:DS v):AH 5 v=true:=qP h.1
theorem DS.sm {v:Ae} (h:DS v):Dd 1048576 v:=Ct h.ok
theorem Yr (s:List BG) (a b:Ae) (ha:AH 5 a=true) (hb:AH 5 b=true) (hs:LS Nl 1048576 s):gV a b s=some (decide (Yo s a b<0),()):=by
 unfold gV;have hl:=hs.1;refine (Ay (S:=Unit) (fun i _=>(s,(i:Int),a,b,())) (fun i _=>some (decide (Yo (s.drop i) a b<0),())) s.length (fun _ _=>True) ?_ ?_ Af 0 () (Nat.zero_le _) (Aj (by omega)) trivial).trans rfl
 ·intro i _ hi _ rec hrec;have hp:=hs.2 _ (Au hi);simp only [Qi,Ad,hi,decide_true,Ai7,Ap,Ai hi,Ai5,Ph _ _ ha hp,Ph _ _ hb hp,Jo _ _ (IL ha) (IL hb),Am i _ hi (by omega)];rw [Ac hi,CT,Yp,hrec () trivial];generalize DF 5 (Co a (Ah s i).1) (Co b (Ah s i).1)=n;by_cases z:n=0
  ·subst z;cases (Ah s i).2.1<;>rfl
  ·rw [if_neg z];cases (Ah s i).2.1
   ·simp only [Ai6,if_neg z];cases decide (n<0)<;>rfl
   ·simp only [Ai7];rw [if_neg (by omega)];by_cases hlt:n<0
    ·have:¬ - n<0:=by omega
     rw [decide_eq_true hlt,decide_eq_false this];rfl
    ·have : - n<0:=by omega
     rw [decide_eq_false hlt,decide_eq_true this];rfl
 ·intro _ _ rec;simp only [Qi,Ad,Nat.lt_irrefl,decide_false,Ai6,Kl _ (Ct ha),Kl _ (Ct hb),Ai5,Ajh,Yo];refine congrArg (fun x=>some (x,())) ?_;unfold II;by_cases h1:CA a<CA b
  ·simp [h1]
  ·by_cases h2:CA a>CA b<;>simp [h1,h2]
theorem dY (s:List BG) (a b:Ae) (ha:DS a) (hb:DS b) (hs:LS Nl 1048576 s):gP a b s=some (Yo s a b,()):=by
 unfold gP;have hl:=hs.1;refine (Ay (S:=Unit) (fun i _=>(s,((s.length:Nat):Int),(i:Int),a,b,())) (fun i _=>some (Yo (s.drop i) a b,())) s.length (fun _ _=>True) ?_ ?_ Af 0 () (Nat.zero_le _) (Aj (by omega)) trivial).trans rfl
 ·intro i _ hi _ rec hrec;have hp:=hs.2 _ (Au hi);have hin:=bZ 5 (Co a (Ah s i).1) (Co b (Ah s i).1);simp only [Qf,Ad,hi,decide_true,Ai7,Ap,Ai hi,Ai5,Nv _ _ ha.ok hp,Nv _ _ hb.ok hp,Jp _ _ (IL ha.ok) (IL hb.ok),Am i _ hi (by omega)];rw [Ac hi,Yp];generalize DF 5 (Co a (Ah s i).1) (Co b (Ah s i).1)=n at hin ⊢;rw [AN (0-n) (by omega) (by omega),CT,CT,hrec () trivial];cases (Ah s i).2.1
  ·simp only [Ai6];by_cases z:n=0
   ·rw [if_pos z,if_pos z]
   ·rw [if_neg z,if_neg z]
  ·simp only [Ai7];by_cases z:n=0
   ·rw [if_pos (by omega),if_pos (by omega)]
   ·rw [if_neg (by omega),if_neg (by omega),Int.zero_sub]
 ·intro _ _ rec;simp only [Qf,Ad,Nat.lt_irrefl,decide_false,Ai6,Ajh,Yo];unfold pN;rw [Qr _ ha.sm ha.1 ha.2,Qr _ hb.sm hb.1 hb.2];simp only [Ai5,Oi];rfl
def Lv (s:List BG) (l:List Ae):List Ae:=l.foldl (RR fun a b=>decide (Yo s a b<0)) []
structure Lh (l:List Ae):Prop where
 good:∀ x,x∈l->DS x
 one:∀ x,x∈l->∀ y,y∈l->CA x=CA y->x=y
 len:l.length<=1048576
theorem Nw (s:List BG) (l:List Ae) (h:Lh l):(Lv s l).Perm l/\(Lv s l).Pairwise fun a b=>decide (Yo s b a<0)=false:=by
 have P:=ZW s;have:=TN (fun a b=>decide (Yo s a b<0)) (fun v=>AH 5 v=true) (fun a b ha hb h1=>P.less_as ha hb h1) (fun a b c ha hb hc h1 h2=>P.less_ntr ha hb hc h1 h2) l [] (fun a ha=>(h.good a ha).ok) (fun a ha=>by cases ha) List.Pairwise.nil;rw [List.append_nil] at this;exact this
theorem RU (s:List BG) {l:List Ae} (h:Lh l):Lh (Lv s l):=by
 have p:=(Nw s l h).1;exact ⟨fun x hx=>h.good x (p.mem_iff.1 hx),fun x hx y hy=>h.one x (p.mem_iff.1 hx) y (p.mem_iff.1 hy),by rw [p.length_eq];exact h.len⟩
theorem Ys (s:List BG) (l:List Ae) (h:Lh l) (hs:LS Nl 1048576 s):vA l s=some (Lv s l,()):=
 l07Sort_eq l s _ h.len fun x hx y hy=>Yr s x y (h.good x hx).ok (h.good y hy).ok hs
theorem Kn (l:List Ae) (hl:l.length<=1048576):ry l=some (l,()):=by
 unfold ry;dsimp only;rw [Aq (by simp only [A_,Ajd];omega)];cases l with
 |nil=>exact if_pos rfl
 |cons a l=>rfl
theorem Yt (s:List BG) (l:List Ae) (h:Lh l) (hs:LS Nl 1048576 s):xI l s=some (Lv s l,()):=by
 unfold xI;rw [Kn l h.len,Ai5];have P:=ZW s;have ok:=fun x hx=>(h.good x hx).ok
 have e:TB (fun x y=>Option.map (fun r:Int×Unit=>r.1) (gP x y s)) l=some (Lv s l):=
  sortF_eq (fun a b=>decide (Yo s a b<0)) (by have:=h.len;simp only [A_];omega) (fun x hx y hy=>⟨Yo s x y,by rw [dY s x y (h.good x hx) (h.good y hy) hs];rfl,rfl⟩)
   (fun x hx=>P.irr (ok x hx)) (fun x hx y hy z hz h1 h2=>P.less_tr (ok x hx) (ok y hy) (ok z hz) h1 h2) (fun x hx y hy z hz h1 h2=>P.less_ntr (ok x hx) (ok y hy) (ok z hz) h1 h2)
   (fun x hx y hy h1 h2=>h.one x hx y hy (Yq s x y (by
    have:=P.an x y (ok x hx) (ok y hy);have g1:=of_decide_eq_false h1;have g2:=of_decide_eq_false h2;omega))) (Nw s l h).1 (Nw s l h).2
 unfold pO;exact congrArg (fun o:Option (List Ae)=>Option.bind (Option.map (fun l=>(l,())) o) fun y1=>some (y1.1,())) e
theorem CU {l:List Ae} (h:Eg l=true):Lh l/\l.length<=20:=by
 unfold Eg at h;rw [Ajb,AY] at h;obtain ⟨h1,h2⟩:=h;have h2:((l.length:Nat):Int)<=20:=of_decide_eq_true h2
 have g:∀ i,i<l.length->DS (Ah l i)/\(0<i->CA (Ah l (i-1))<CA (Ah l i)):=fun i hi=>by
  have:=h1 i (Nat.zero_le _) (by omega);unfold Pg at this;simp only [Ajb,Ajg,Ajc] at this;exact ⟨⟨this.1,this.2.1⟩,fun h0=>this.2.2.resolve_left (by omega)⟩
 refine ⟨⟨fun x hx=>?_,fun x hx y hy e=>?_,by omega⟩,by omega⟩
 ·obtain ⟨i,hi,rfl⟩:=Ez hx;exact (g i hi).1
 ·obtain ⟨i,hi,rfl⟩:=Ez hx;obtain ⟨j,hj,rfl⟩:=Ez hy;have R:=fun i j (h:i<j) (hj:j<l.length)=>Kj (l:=l) (r:=fun a b=>decide (CA a<CA b)) (fun a b c h1 h2=>decide_eq_true (Int.lt_trans (of_decide_eq_true h1) (of_decide_eq_true h2))) (fun i h0 hi=>decide_eq_true ((g i hi).2 h0)) h hj
  rcases Nat.lt_trichotomy i j with h | h | h
  ·have:=of_decide_eq_true (R i j h hj);omega
  ·rw [h]
  ·have:=of_decide_eq_true (R j i h hi);omega
theorem Lh.sub {l l':List Ae} (h:Lh l) (hs:∀ x,x∈l' ->x∈l) (hl:l'.length<=l.length):Lh l' :=
 ⟨fun x hx=>h.good x (hs x hx),fun x hx y hy=>h.one x (hs x hx) y (hs y hy),Nat.le_trans hl h.len⟩
def GM (z:Int):UInt8:=UInt8.ofNat (Int.toNat z)
def eI (n:Int) (m:Nat):Int:=IntKind.wrap .u8 (Int.fdiv n ((2:Int) ^ (Min.min (8*m) 64)))
def Cz (n:Int):Nat->List Int
 |0=>[]
 |m+1=>eI n m::Cz n m
theorem GZ:∃ k,Af=k+9:=⟨Af-9,by have:=MH;omega⟩
theorem Yu (n:Int):gQ n=some (Cz n 8,()):=by
 unfold gQ;obtain ⟨k,hk⟩:=GZ;rw [hk]
 kernel_rfl
theorem DZ (n:Int):ID n 1=some ((Cz n 1).map GM,()):=by
 unfold ID;obtain ⟨k,hk⟩:=GZ;rw [hk]
 kernel_rfl
theorem ZX (n:Int):ID n 2=some ((Cz n 2).map GM,()):=by
 unfold ID;obtain ⟨k,hk⟩:=GZ;rw [hk]
 kernel_rfl
theorem RV (n:Int):ID n 8=some ((Cz n 8).map GM,()):=by
 unfold ID;obtain ⟨k,hk⟩:=GZ;rw [hk]
 kernel_rfl
theorem cc (n:Int):eI n 0=IntKind.wrap .u8 n:=by
 unfold eI;rw [show (2:Int) ^ (Min.min (8*0) 64)=1 from rfl,Int.fdiv_one]
theorem Ko (n:Int):Cz n 1=[IntKind.wrap .u8 n]:=by
 rw [show Cz n 1=[eI n 0] from rfl,cc]
theorem iC (n:Int):Cz n 2=[IntKind.wrap .u8 (Int.fdiv n ((2:Int) ^ (Min.min (Int.toNat (8:Int)) (IntKind.bits IntKind.i64)))),IntKind.wrap .u8 n]:=by
 rw [show Cz n 2=[eI n 1,eI n 0] from rfl,cc];rfl
theorem Kp (t:List UInt8):(t.map fun v:UInt8=>((v.toNat:Nat):Int)).map GM=t:=by
 rw [List.map_map];conv=>rhs;rw [<-List.map_id t]
 refine List.map_congr_left fun x _=>?_
 simp [GM]
def ZY (v:Ae):List Int:=
 IntKind.wrap .u8 v.1::(if v.1=0 then [] else if v.1=1 then [IntKind.wrap .u8 v.2.1] else if v.1=2 then Cz (IntKind.wrap .i64 (v.2.1+4611686018427387904)) 8
  else Cz ((v.2.2.1.length:Nat):Int) 2++v.2.2.1.map fun v:UInt8=>((v.toNat:Nat):Int))
def Js (v:Ae):List UInt8:=(ZY v).map GM
theorem Kq {v:Ae} (h:v.2.2.1.length<=300):(ZY v).length<=303:=by
 unfold ZY;split
 ·simp
 split
 ·simp
 split
 ·simp [Cz]
 ·simp only [Aja,Ai9,List.length_map,Cz,Ajd];omega
theorem BH {d:Nat} {v:Ae} (h:AH d v=true):v.1=0\/v.1=1\/v.1=2\/v.1=3\/v.1=4\/v.1=5:=by
 have:∀ g m,GL g m v=true->v.1=0\/v.1=1\/v.1=2\/v.1=3\/v.1=4\/v.1=5:=by
  intro g m h;unfold GL at h;split at h
  ·omega
  split at h
  ·omega
  split at h
  ·omega
  split at h
  ·omega
  split at h
  ·omega
  split at h
  ·omega
  ·cases h
 cases d with
 |zero=>exact this _ _ h
 |succ d=>exact this _ _ h
theorem Yv {d:Nat} (b:List Int) (v:Ae) (h:AH d v=true) (hb:b.length<=1000000):lJ b v=some (b++ZY v,()):=by
 have ht:=AR h;unfold lJ ZY;rcases BH h with k | k | k | k | k | k
 ·rw [k];simp only [show ((0:Int)==1)=false from rfl,show ((0:Int)==2)=false from rfl,show ((0:Int)==3)=false from rfl,show ((0:Int)==4)=false from rfl,show ((0:Int)==5)=false from rfl,Ai6,if_true];rw [Aq (by simp only [A_,Ai8];omega)]
 ·rw [k];simp only [show ((1:Int)==1)=true from rfl,Ai7,if_true,show ¬((1:Int)=0) by decide,if_false];rw [Aq (by simp only [A_,Ai8];omega),Aq (by simp only [A_,Ai9,Ai8];omega)];simp only [List.append_assoc,List.singleton_append]
 ·rw [k];simp only [show ((2:Int)==1)=false from rfl,show ((2:Int)==2)=true from rfl,Ai7,Ai6,if_true,show ¬((2:Int)=0) by decide,show ¬((2:Int)=1) by decide,if_false,Yu,Ai5];rw [Aq (by simp only [A_,Ai8];omega),Aq (by simp only [A_,Ai9,Ai8,Cz,Aja,Ajd];omega)];simp only [List.append_assoc,List.singleton_append]
 all_goals
  rw [k]
  simp only [show ((3:Int)==1)=false from rfl,show ((3:Int)==2)=false from rfl,show ((3:Int)==3)=true from rfl,show ((4:Int)==1)=false from rfl,show ((4:Int)==2)=false from rfl,show ((4:Int)==3)=false from rfl,show ((4:Int)==4)=true from rfl,
   show ((5:Int)==1)=false from rfl,show ((5:Int)==2)=false from rfl,show ((5:Int)==3)=false from rfl,show ((5:Int)==4)=false from rfl,show ((5:Int)==5)=true from rfl,Ai7,Ai6,
   show ¬((3:Int)=0) by decide,show ¬((3:Int)=1) by decide,show ¬((3:Int)=2) by decide,show ¬((4:Int)=0) by decide,show ¬((4:Int)=1) by decide,show ¬((4:Int)=2) by decide,show ¬((5:Int)=0) by decide,show ¬((5:Int)=1) by decide,show ¬((5:Int)=2) by decide,if_false]
  rw [Aq (by simp only [A_,Ai8];omega),Aq (by simp only [A_,Ai9,Ai8,Aja,Ajd];omega),Aq (by simp only [A_,Ai9,Ai8,Aja,Ajd,List.length_map];omega),iC];simp only [List.append_assoc,List.singleton_append];rfl
theorem Jt {d:Nat} (v:Ae) (h:AH d v=true):fW v=some (Js v,()):=by
 have ht:=AR h;unfold fW Js ZY;rw [DZ,Ai5,Ko];rcases BH h with k | k | k | k | k | k
 ·rw [k];simp only [beq_self_eq_true,Ai7,if_true]
 ·rw [k];simp only [show ((1:Int)==0)=false from rfl,show ((1:Int)==1)=true from rfl,Ai7,Ai6,if_true,show ¬((1:Int)=0) by decide,if_false,DZ,Ai5,Ko];rw [Aq (by simp)];rfl
 ·rw [k];simp only [show ((2:Int)==0)=false from rfl,show ((2:Int)==1)=false from rfl,show ((2:Int)==2)=true from rfl,Ai7,Ai6,if_true,show ¬((2:Int)=0) by decide,show ¬((2:Int)=1) by decide,if_false,RV,Ai5];rw [Aq (by simp only [List.length_map,Cz,Aja,Ajd];omega)];rfl
 all_goals
  rw [k]
  simp only [show ((3:Int)==0)=false from rfl,show ((3:Int)==1)=false from rfl,show ((3:Int)==2)=false from rfl,show ((4:Int)==0)=false from rfl,show ((4:Int)==1)=false from rfl,show ((4:Int)==2)=false from rfl,show ((5:Int)==0)=false from rfl,
   show ((5:Int)==1)=false from rfl,show ((5:Int)==2)=false from rfl,Ai6,
   show ¬((3:Int)=0) by decide,show ¬((3:Int)=1) by decide,show ¬((3:Int)=2) by decide,show ¬((4:Int)=0) by decide,show ¬((4:Int)=1) by decide,show ¬((4:Int)=2) by decide,show ¬((5:Int)=0) by decide,show ¬((5:Int)=1) by decide,show ¬((5:Int)=2) by decide,if_false,ZX,Ai5]
  rw [Aq (by simp only [List.length_map,iC,Aja,Ajd];omega),Aq (by simp only [Ai9,List.length_map,iC,Aja,Ajd];omega)];simp only [List.map_cons,List.map_nil,List.map_append,Kp,List.append_assoc,List.singleton_append];rfl
def Li (f:Bk):List UInt8:=GM (IntKind.wrap .u8 ((f.1.length:Nat):Int))::(f.1++Js f.2.1)
def GD (l:List Bk):Ae:=(5,0,l.flatMap Li,())
def iD (f:Bk):Prop:=f.1.length<=12/\AH 4 f.2.1=true
theorem iE (l:List Bk) (hl:l.length<=300) (hf:∀ f,f∈l->iD f):lL l=some (GD l,()):=by
 unfold lL GD;refine (Ay (S:=List Int) (fun i s=>(l,((l.length:Nat):Int),(i:Int),(0,0,[],()),s,())) (fun i s=>some ((5,0,s.map GM++(l.drop i).flatMap Li,()),())) l.length (fun i s=>s.length<=i*400) ?_ ?_ Af 0 [] (Nat.zero_le _) (Aj (by omega)) (by simp)).trans rfl
 ·intro i s hi hs rec hrec;obtain ⟨h1,h2⟩:=hf _ (Au hi);have h3:=Kq (AR h2);simp only [Qg,Ad,hi,decide_true,Ai7,Ap,Ai hi,Ai5]
  rw [Aq (by simp only [A_,Ai8];omega),Aq (by simp only [A_,Ai9,Ai8,List.length_map];omega),
   Yv _ _ h2 (by simp only [Ai9,Ai8,List.length_map];omega)]
  simp only [Ai5,Am i _ hi (by omega)];rw [hrec _ (by simp only [Ai9,Ai8,List.length_map];omega),Ac hi,List.flatMap_cons];simp only [List.map_append,Kp,Li,List.map_cons,List.map_nil,List.append_assoc,List.cons_append,List.nil_append,Js]
 ·intro s _ rec;simp only [Qg,Ad,Nat.lt_irrefl,decide_false,Ai6,Ajh,List.flatMap_nil,List.append_nil];rfl
theorem dZ (l:List Bk) (hl:l.length<=300) (hf:∀ f,f∈l->iD f):PA l=some (GD l,()):=by
 unfold PA GD;refine (Ay (S:=List UInt8) (fun i s=>(l,s,(i:Int),(0,0,[],()),())) (fun i s=>some ((5,0,s++(l.drop i).flatMap Li,()),())) l.length (fun i s=>s.length<=i*400) ?_ ?_ Af 0 [] (Nat.zero_le _) (Aj (by omega)) (by simp)).trans rfl
 ·intro i s hi hs rec hrec;obtain ⟨h1,h2⟩:=hf _ (Au hi);have h3:=Kq (AR h2);have h4:(Js (Ah l i).2.1).length<=303:=by unfold Js;rw [List.length_map];exact h3
  simp only [KV,Ad,hi,decide_true,Ai7,Ap,Ai hi,Ai5,DZ,Ko,List.map_cons,List.map_nil,Jt _ h2,Am i _ hi (by omega)];rw [Aq (by simp only [Ai8];omega),Aq (by simp only [Ai9,Ai8];omega),Aq (by simp only [Ai9,Ai8];omega)];rw [hrec _ (by simp only [Ai9,Ai8];omega),Ac hi,List.flatMap_cons];simp only [Li,List.append_assoc,List.cons_append,List.nil_append]
 ·intro s _ rec;simp only [KV,Ad,Nat.lt_irrefl,decide_false,Ai6,Ajh,List.flatMap_nil,List.append_nil]
def dfR {α β:Type} (e0_0:Int×List α×Unit->Option β) (rec:(α->Option Bool)×Int×Int×List α×Unit->Option β) (x4:(α->Option Bool)×Int×Int×List α×Unit):Option β:=
 (cond (decide (x4.2.2.1<(((List.length x4.2.2.2.1):Nat):Int)))
 (let j10:(α->Option Bool)×Int×Int×List α×Unit->Option β:=fun (y11:(α->Option Bool)×Int×Int×List α×Unit)=>
 (rec (y11.1,y11.2.1,(IntKind.wrap IntKind.i64 (y11.2.2.1+(1:Int))),y11.2.2.2.1,()))
 (gd (decide ((0:Int)<=x4.2.2.1))
 (gd (decide (x4.2.2.1<(((List.length x4.2.2.2.1):Nat):Int)))
 (Option.bind x4.2.2.2.1[(Int.toNat x4.2.2.1)]? fun y7=>
 (Option.bind (x4.1 y7) fun y8=>
 (cond (!y8)
 (gd (decide ((0:Int)<=x4.2.1))
 (gd (decide (x4.2.1<(((List.length x4.2.2.2.1):Nat):Int)))
 (Option.bind x4.2.2.2.1[(Int.toNat x4.2.1)]? fun y9=>
 (j10 (x4.1,(IntKind.wrap IntKind.i64 (x4.2.1+(1:Int))),x4.2.2.1,(List.set x4.2.2.2.1 (Int.toNat x4.2.1) y7),())))))
 (j10 (x4.1,x4.2.1,x4.2.2.1,x4.2.2.2.1,()))))))))
 (e0_0 (x4.2.1,x4.2.2.2.1,())))
theorem HW {α:Type} (p:α->Bool):∀ (i:Nat) (l:List α),(Ba p i l = -1/\(l.filter fun x=>!p x)=l)\/∃ j,Ba p i l=((i+j:Nat):Int)/\j<l.length/\((l.take (j+1)).filter fun x=>!p x)=l.take j
 |_,[]=>.inl ⟨rfl,rfl⟩
 |i,a::l=>by
  unfold Ba;cases h:p a with
  |true=>exact .inr ⟨0,rfl,by simp,by simp [h]⟩
  |false=>
   rw [Ai6];rcases HW p (i+1) l with ⟨h1,h2⟩ | ⟨j,h1,h2,h3⟩
   ·exact .inl ⟨h1,by rw [List.filter_cons_of_pos (by simp [h]),h2]⟩
   ·exact .inr ⟨j+1,by rw [h1];congr 1;omega,by simp;omega,by rw [List.take_succ_cons,List.filter_cons_of_pos (by simp [h]),h3,List.take_succ_cons]⟩
theorem Nx {α β:Type} [Inhabited α] (p:α->Bool) (l:List α) (f:α->Option Bool) (hf:∀ x,x∈l->f x=some (p x)) (hl:l.length<=1048576) (E:Int×List α×Unit->Option β) :
  ∀ (m j i k:Nat) (s:List α),j+m=l.length->m<k->s.length=l.length->i<=j->s.take i=(l.take j).filter (fun x=>!p x)->s.drop j=l.drop j->
   ∃ (i':Nat) (s':List α),iter (dfR E) k (f,(i:Int),(j:Int),s,())=E ((i':Int),s',())/\s'.take i'=l.filter (fun x=>!p x)/\i' <=l.length/\s'.length=l.length
 |0,j,i,k+1,s,hj,hk,hs,hi,h1,h2=>by
  have:¬j<l.length:=by omega
  simp only [iter,dfR,Ad,hs,this,decide_false,Ai6];exact ⟨i,s,rfl,by rw [h1,List.take_of_length_le (by omega)],by omega,hs⟩
 |m+1,j,i,k+1,s,hj,hk,hs,hi,h1,h2=>by
  have hjl:j<l.length:=by omega
  have hjs:j<s.length:=by omega
  have his:i<s.length:=by omega
  have e:Ah s j=Ah l j:=by
   have h3:=Ac hjs;rw [h2,Ac hjl] at h3;injection h3 with h3 _
   exact h3.symm
  have e2:s.drop (j+1)=l.drop (j+1):=by
   have h3:=Ac hjs;rw [h2,Ac hjl] at h3;injection h3 with _ h3
   exact h3.symm
  have t1:(l.take (j+1)).filter (fun x=>!p x)=(l.take j).filter (fun x=>!p x)++[Ah l j].filter (fun x=>!p x):=by
   rw [<-List.filter_append,List.take_add_one,Cs hjl];rfl
  have w1:=Am j _ hjl (by omega);have w2:=Am i _ (by omega:i<l.length) (by omega);simp only [iter,dfR,Ad,hjs,his,decide_true,Ai7,Ap,Dt,Ai hjs,Ai his,Ai5,e,hf _ (Au hjl),w1,w2];cases hp:p (Ah l j) with
  |true=>
   simp only [Bool.not_true,Ai6];exact Nx p l f hf hl E m (j+1) i k s (by omega) (by omega) hs (by omega) (by rw [h1,t1];simp [hp]) e2
  |false=>
   simp only [Bool.not_false,Ai7];refine Nx p l f hf hl E m (j+1) (i+1) k (s.set (Int.toNat (i:Int)) (Ah l j)) (by omega) (by omega) (by rw [List.length_set];exact hs) (by omega) ?_ ?_
   ·rw [t1,<-h1,Int.toNat_natCast,List.take_set,List.take_add_one,Cs his];simp [hp,List.set_append,Nat.min_eq_left (Nat.le_of_lt his)]
   ·rw [Int.toNat_natCast,<-e2];apply List.ext_getElem?;intro q;rw [List.getElem?_drop,List.getElem?_drop,List.getElem?_set_ne (by omega)]
theorem d_ (e:Ty) (s:List e.den) (k n:Nat) (h:k<=s.length):(HG e s k n).take k=s.take k:=by
 unfold HG;rw [List.append_assoc,List.take_append_of_le_length (by simp [h]),List.take_take,Nat.min_self]
theorem Yw (e:Ty) (s:List e.den) (k:Nat) (h:k<=s.length):(HG e s k s.length).length=s.length:=by
 unfold HG;simp;omega
theorem V' {α:Type} (z:Int) (l:List α) (h:z = -1) (F:Int->Int->Option (List α×Unit)) :
  (cond (((z,()):Int×Unit).1==(-(1:Int))) (some (l,())) (F ((z,()):Int×Unit).1 (IntKind.wrap IntKind.i64 (((z,()):Int×Unit).1+(1:Int)))))=some (l,()):=by subst h;rfl
theorem V_ {α:Type} (z:Int) (l:List α) {j:Nat} (h:z=(j:Int)) (hj:j<l.length) (hl:l.length<=9223372036854775807) (F:Int->Int->Option (List α×Unit)) :
  (cond (((z,()):Int×Unit).1==(-(1:Int))) (some (l,())) (F ((z,()):Int×Unit).1 (IntKind.wrap IntKind.i64 (((z,()):Int×Unit).1+(1:Int)))))=F (j:Int) ((j+1:Nat):Int):=by
 subst h;have hne:(((j:Nat):Int)==(-1:Int))=false:=by rw [beq_eq_false_iff_ne];omega
 dsimp only;rw [hne,Ai6,Am j _ hj hl]
def iF (e:Ty) (y:Int×List e.den×Unit):Option (List e.den×Unit):=
 (gd (decide ((((List.length y.2.1):Nat):Int)<=(((List.length y.2.1):Nat):Int)))
 (gd (decide ((0:Int)<=y.1))
 (gd (decide (y.1<=(((Int.toNat (((List.length y.2.1):Nat):Int)):Nat):Int)))
 (gd (decide ((0:Int)<=y.1))
 (gd (decide (y.1<=(((List.length (HG e y.2.1 (Int.toNat y.1) (Int.toNat (((List.length y.2.1):Nat):Int)))):Nat):Int)))
 (some ((HG e y.2.1 (Int.toNat y.1) (Int.toNat (((List.length y.2.1):Nat):Int))).take (Int.toNat y.1),())))))))
theorem iG (e:Ty) (s:List e.den) (i:Nat) (h:i<=s.length):iF e ((i:Int),s,())=some (s.take i,()):=by
 unfold iF;dsimp only;rw [IE,Ap,Aq (by rw [Int.toNat_natCast];omega),Ap,Int.toNat_natCast,Int.toNat_natCast,Aq (by have:=Yw e s i h;omega),d_ e s i _ h]
theorem Ny (p:Ae->Bool) (l) (f) (hf:∀ x,x∈l->f x=some (p x)) (hl:l.length<=1048576):u7 l f=some (l.filter (fun x=>!p x),()):=by
 unfold u7;rw [show xu l f=r5 l f from rfl,Ry p l f hf (by omega),Ai5];rcases HW p 0 l with ⟨h1,h2⟩ | ⟨j,h1,h2,h3⟩
 ·exact (V' _ _ h1 (fun a b=>iter _ Af (f,a,b,l,()))).trans (congrArg (fun x=>some (x,())) h2.symm)
 ·rw [Nat.zero_add] at h1;refine (V_ _ _ h1 h2 (by omega) (fun a b=>iter _ Af (f,a,b,l,()))).trans ?_;obtain ⟨i',s',e,g1,g2,g3⟩:=Nx p l f hf hl (iF (.pair (.int .i64) (.pair (.int .i64) (.pair .str .unit)))) (l.length-(j+1)) (j+1) j Af l (by omega) (Aj (by omega)) rfl (by omega) h3.symm rfl;have g4:i' <=s'.length:=by rw [g3];exact g2
  exact (e.trans (iG (.pair (.int .i64) (.pair (.int .i64) (.pair .str .unit))) s' i' g4)).trans (congrArg (fun x=>some (x,())) g1)
theorem Wa (p:Bk->Bool) (l) (f) (hf:∀ x,x∈l->f x=some (p x)) (hl:l.length<=1048576):lO l f=some (l.filter (fun x=>!p x),()):=by
 unfold lO;rw [show pR l f=r5 l f from rfl,Ry p l f hf (by omega),Ai5];rcases HW p 0 l with ⟨h1,h2⟩ | ⟨j,h1,h2,h3⟩
 ·exact (V' _ _ h1 (fun a b=>iter _ Af (f,a,b,l,()))).trans (congrArg (fun x=>some (x,())) h2.symm)
 ·rw [Nat.zero_add] at h1;refine (V_ _ _ h1 h2 (by omega) (fun a b=>iter _ Af (f,a,b,l,()))).trans ?_;obtain ⟨i',s',e,g1,g2,g3⟩:=Nx p l f hf hl (iF (.pair .str (.pair (.pair (.int .i64) (.pair (.int .i64) (.pair .str .unit))) .unit))) (l.length-(j+1)) (j+1) j Af l (by omega) (Aj (by omega)) rfl (by omega) h3.symm rfl;have g4:i' <=s'.length:=by rw [g3];exact g2
  exact (e.trans (iG (.pair .str (.pair (.pair (.int .i64) (.pair (.int .i64) (.pair .str .unit))) .unit)) s' i' g4)).trans (congrArg (fun x=>some (x,())) g1)
theorem ZZ (l:List (List UInt8)) (t:List UInt8) (hl:l.length<=1048576):lR l t=some (l.any (fun x=>t==x),()):=by
 unfold lR pS
 have:iter (Nb (fun y6=>(some ((-(1:Int)),()))) (fun y7=>(some (y7.1,())))) Af (l,t,(((List.length l):Nat):Int),(0:Int),())=some (Ba (fun x=>t==x) 0 l,()):=by
  refine (Ay (S:=Unit) (fun i _=>(l,t,((l.length:Nat):Int),(i:Int),())) (fun i _=>some (Ba (fun x=>t==x) i (l.drop i),())) l.length (fun _ _=>True) ?_ ?_ Af 0 () (Nat.zero_le _) (Aj (by omega)) trivial).trans rfl
  ·intro i _ hi _ rec hrec;simp only [Nb,Ad,hi,decide_true,Ai7,Ap,Ai hi,Ai5,Am i _ hi (by omega)];rw [Ac hi,Ba,hrec () trivial];cases t==Ah l i<;>rfl
  ·intro _ _ rec;simp only [Nb,Ad,Nat.lt_irrefl,decide_false,Ai6,Ajh,Ba]
 rw [this,Ai5];simp only [GB]
def Oo (keep:List (List UInt8)) (f:Bk):Bool:=(f.1==[105,100])||keep.any fun x=>f.1==x
def Lw (keep:List (List UInt8)) (doc:Ae):Ae:=if keep.length=0 then doc else GD ((B_ doc).filter (Oo keep))
theorem Pi {v:Ae} (h:DS v):∃ l,AG v.2.2.1=some l/\B_ v=l/\l.length<=300/\∀ f,f∈l->iD f:=by
 obtain ⟨l,h1,_,_,h4,h5⟩:=LX h.1;refine ⟨l,h1,by unfold B_;rw [h1];rfl,?_,fun f hf=>⟨?_,(h5 f hf).1⟩⟩
 ·have:=(Cy _ _ _ (Nat.le_refl _) h1).1;omega
 ·have:=(h5 f hf).2;unfold shortM at this;rw [Ajb] at this;have:=of_decide_eq_true this.1;omega
theorem S_ (doc:Ae) (keep:List (List UInt8)) (h:DS doc) (hk:keep.length<=1048576):xJ doc keep=some (Lw keep doc,()):=by
 unfold xJ Lw;rw [Ji];by_cases h0:keep.length=0
 ·rw [if_pos h0,decide_eq_true h0];rfl
 rw [if_neg h0,decide_eq_false h0,Ai6];obtain ⟨l,h1,h2,h3,h4⟩:=Pi h;rw [EA h.sm h1,Ai5,h2];dsimp only
 rw [Wa (fun f=>!Oo keep f) l _ (fun f hf=>by
  unfold pT Oo;rw [ZZ keep f.1 hk];cases f.1==[105,100]<;>rfl) (by omega),Ai5]
 simp only [Bool.not_not];rw [iE _ (Nat.le_trans (List.length_filter_le _ _) h3) fun f hf=>h4 f (List.mem_filter.1 hf).1];rfl
theorem Z' (doc:Ae) (keep:List (List UInt8)) (h:DS doc) (hk:keep.length<=1048576):xN doc keep=some (Lw keep doc,()):=by
 unfold xN Lw;rw [Ji];by_cases h0:keep.length=0
 ·rw [if_pos h0,decide_eq_true h0];rfl
 rw [if_neg h0,decide_eq_false h0,Ai6];obtain ⟨l,h1,h2,h3,h4⟩:=Pi h;rw [Dx _ h.sm,h1,Ai5,h2];dsimp only;refine (Ay (S:=List Bk) (fun i out=>(keep,l,(i:Int),(0,0,[],()),out,())) (fun i out=>some (GD (out++(l.drop i).filter (Oo keep)),())) l.length (fun i out=>out.length<=i/\∀ f,f∈out->f∈l) ?_ ?_ Af 0 [] (Nat.zero_le _) (Aj (by omega)) ⟨Nat.le_refl _,fun f h=>by cases h⟩).trans rfl
 ·intro i out hi ho rec hrec;simp only [Vt,Ad,hi,decide_true,Ai7,Ap,Ai hi,Ai5,Am i _ hi (by omega)];refine (Ay (S:=Bool) (fun k s=>(keep,l,(i:Int),s,(k:Int),(0,0,[],()),out,())) (fun k s=>some (GD (out++(if s||(keep.drop k).any (fun x=>(Ah l i).1==x) then [Ah l i] else [])++(l.drop (i+1)).filter (Oo keep)),())) keep.length (fun _ _=>True) ?_ ?_ Af 0 _ (Nat.zero_le _) (Aj (by omega)) trivial).trans ?_
  ·intro k s hk' _ rec' hrec';simp only [Qj,Ad,hk',decide_true,Ai7,Ap,Ai hi,Ai hk',Ai5,Am k _ hk' (by omega)];rw [Ac hk',List.any_cons];cases s with
   |true=>rw [Ai7,hrec' true trivial];simp only [Bool.true_or]
   |false=>
    rw [Ai6,hrec' _ trivial];have:(Ah keep k==(Ah l i).1)=((Ah l i).1==Ah keep k):=by rw [Bool.eq_iff_iff,beq_iff_eq,beq_iff_eq];exact ⟨Eq.symm,Eq.symm⟩
    rw [this];simp only [Bool.false_or]
  ·intro s _ rec';simp only [Qj,Ad,Nat.lt_irrefl,decide_false,Ai6,Ajh,List.any_nil,Bool.or_false,Ap,Ai hi,Ai5,Am i _ hi (by omega)];cases s with
   |true=>
    rw [Ai7,Aq (by have:=ho.1;simp only [A_,Ai8];omega),hrec _ ⟨by have:=ho.1;simp only [Ai9,Ai8];omega,fun f hf=>(List.mem_append.1 hf).elim (ho.2 f) fun hf=>by rw [List.mem_singleton.1 hf];exact Au hi⟩,if_pos rfl]
   |false=>
    rw [Ai6,hrec _ ⟨by have:=ho.1;omega,ho.2⟩,if_neg (by decide),List.append_nil]
  ·rw [Ac hi,List.drop_zero];unfold Oo;by_cases hs:((Ah l i).1==[105,100]||keep.any fun x=>(Ah l i).1==x)=true
   ·rw [if_pos hs,List.filter_cons_of_pos (by exact hs)];simp only [List.append_assoc,List.singleton_append]
   ·rw [if_neg hs,List.filter_cons_of_neg (by exact hs),List.append_nil]
 ·intro out ho rec;simp only [Vt,Ad,Nat.lt_irrefl,decide_false,Ai6,Ajh,List.filter_nil,List.append_nil];rw [dZ out (by have:=ho.1;omega) fun f hf=>h4 f (ho.2 f hf)];rfl
def RW {α:Type} (n:Int) (l:List α):List α:=if n=0 then l else l.take n.toNat
def GE (q:BD) (docs:List Ae):List Ae:=(RW q.2.2.2.1 ((Lv q.2.1 (docs.filter (CL q.1))).drop q.2.2.1.toNat)).map (Lw q.2.2.2.2.1)
theorem Eh {q:BD} (h:CG q=true):BW q.1=true/\q.2.1.length<=2/\Ek q.2.1=true/\0<=q.2.2.1/\q.2.2.1<=100/\0<=q.2.2.2.1/\q.2.2.2.1<=100/\q.2.2.2.2.1.length<=4:=by
 unfold CG inR at h;simp only [Ajb,Ajg] at h;obtain ⟨h1,h2,h3,⟨h4,h5⟩,⟨h6,h7⟩,h8,_⟩:=h;exact ⟨h1,by omega,h3,h4,h5,h6,h7,by omega⟩
theorem Ju {l:List BG} (h:Ek l=true) (hl:l.length<=2):LS Nl 1048576 l:=
 ⟨by omega,fun p hp=>IK (List.all_eq_true.1 h p hp)⟩
theorem Lh.filter {l:List Ae} (h:Lh l) (p:Ae->Bool):Lh (l.filter p):=h.sub (fun x hx=>(List.mem_filter.1 hx).1) (List.length_filter_le _ _)
theorem RX {α β:Type} {l:List α} {x:α} {r:List α} (f:α->β) (out:List β) (h:l=x::r):out++l.map f=(out++[f x])++r.map f:=by
 subst h;simp
theorem Ta (q:BD) (docs:List Ae) (hq:CG q=true) (hd:Lh docs):xO q docs=some (GE q docs,()):=by
 obtain ⟨h1,h2,h3,h4,h5,h6,h7,h8⟩:=Eh hq;have hs:=Ju h3 h2;have hF:=hd.filter (CL q.1);have hS:=RU q.2.1 hF;have hlen:=hd.len;unfold xO GE;refine (Ay (S:=List Ae) (fun i out=>(docs,(i:Int),q,out,())) (fun i out=>some ((RW q.2.2.2.1 ((Lv q.2.1 (out++(docs.drop i).filter (CL q.1))).drop q.2.2.1.toNat)).map (Lw q.2.2.2.2.1),())) docs.length (fun i out=>out=(docs.take i).filter (CL q.1)) ?_ ?_ Af 0 [] (Nat.zero_le _) (Aj (by omega)) rfl).trans rfl
 ·intro i out hi ho rec hrec;have hg:=hd.good _ (Au hi);have hol:out.length<=docs.length:=by rw [ho];exact Nat.le_trans (List.length_filter_le _ _) (by simp;omega)
  simp only [Vu,Ad,hi,decide_true,Ai7,Ap,Ai hi,Ai5,RO q.1 _ h1 hg.ok,Am i _ hi (by omega)]
  have ht:(docs.take (i+1)).filter (CL q.1)=(docs.take i).filter (CL q.1)++[Ah docs i].filter (CL q.1):=by
   rw [<-List.filter_append,List.take_add_one,Cs hi];rfl
  rw [Ac hi];cases hm:CL q.1 (Ah docs i) with
  |true=>
   rw [Ai7,Aq (by simp only [A_,Ai8];omega),hrec _ (by rw [ht,ho];simp [hm])];rw [List.filter_cons_of_pos hm];simp only [List.append_assoc,List.singleton_append]
  |false=>
   rw [Ai6,hrec _ (by rw [ht,ho];simp [hm])];rw [List.filter_cons_of_neg (by simp [hm])]
 ·intro out ho rec;rw [List.take_length] at ho;subst ho;simp only [Vu,Ad,Nat.lt_irrefl,decide_false,Ai6,Ajh,List.filter_nil,List.append_nil,Ys q.2.1 _ hF hs,Ai5];generalize Lv q.2.1 (docs.filter (CL q.1))=S at hS ⊢;have hSl:=hS.len
  have key:∀ (k i:Nat) (out:List Ae),S.length-i<k->out.length<=i->iter (Qk (fun y20=>(some (y20.1,())))) k ((i:Int),q,S,out,())=some (out++(if q.2.2.2.1=0 then S.drop i else (S.drop i).take (q.2.2.2.1.toNat-out.length)).map (Lw q.2.2.2.2.1),()):=by
   intro k;induction k with
   |zero=>intro i out h;omega
   |succ k ih=>
    intro i out hk ho;simp only [iter,Qk,Ad];by_cases hi:i<S.length
    ·simp only [hi,decide_true,Ai7,Ap,Dt,Ai hi,Ai5,Z' _ _ (hS.good _ (Au hi)) (show q.2.2.2.2.1.length<=1048576 by omega),Am i _ hi (by omega)];rw [Aq (by simp only [A_,Ai8];omega),ih (i+1) _ (by omega) (by simp only [Ai9,Ai8];omega)];by_cases h0:q.2.2.2.1=0
     ·rw [h0];simp only [beq_self_eq_true,Ai7,if_true];rw [RX _ out (Ac hi)]
     ·rw [show (q.2.2.2.1==0)=false by rw [beq_eq_false_iff_ne];exact h0,Ai6,if_neg h0,if_neg h0];by_cases hlt:(out.length:Int)<q.2.2.2.1
      ·rw [decide_eq_true hlt,Ai7]
       have e:(S.drop i).take (q.2.2.2.1.toNat-out.length)=Ah S i::(S.drop (i+1)).take (q.2.2.2.1.toNat-(out++[Lw q.2.2.2.2.1 (Ah S i)]).length):=by
        rw [Ac hi];obtain ⟨m,hm⟩:∃ m,q.2.2.2.1.toNat-out.length=m+1:=⟨q.2.2.2.1.toNat-out.length-1,by omega⟩;rw [hm,List.take_succ_cons,Ai9,Ai8,show q.2.2.2.1.toNat-(out.length+1)=m by omega]
       rw [RX _ out e]
      ·rw [decide_eq_false hlt,Ai6,show q.2.2.2.1.toNat-out.length=0 by omega,List.take_zero,List.map_nil,List.append_nil]
    ·simp only [hi,decide_false,Ai6];rw [List.drop_eq_nil_of_le (by omega),List.take_nil,ite_self,List.map_nil,List.append_nil]
  have h4':q.2.2.1=((q.2.2.1.toNat:Nat):Int):=by omega
  rw [h4',key Af _ [] (Aj (by omega)) (Nat.zero_le _),Int.toNat_natCast];unfold RW;simp only [List.nil_append,Ajd,Nat.sub_zero]
theorem Yx (n:Nat) (z:Int) (h:0<=z):(cond (decide (((n:Nat):Int)<z)) ((n:Nat):Int) z)=((Nat.min n z.toNat:Nat):Int):=by
 by_cases hlt:((n:Nat):Int)<z
 ·rw [decide_eq_true hlt,Ai7];have:Nat.min n z.toNat=n:=Nat.min_eq_left (by omega);rw [this]
 ·rw [decide_eq_false hlt,Ai6];have:Nat.min n z.toNat=z.toNat:=Nat.min_eq_right (by omega);rw [this];omega
theorem iH {α:Type} (l:List α) (k:Nat):l.drop (Nat.min l.length k)=l.drop k:=by
 by_cases h:k<=l.length
 ·rw [show Nat.min l.length k=k from Nat.min_eq_right h]
 ·rw [show Nat.min l.length k=l.length from Nat.min_eq_left (by omega),Ajh,List.drop_eq_nil_of_le (by omega)]
theorem iI {α:Type} (l:List α) (k:Nat):l.take (Nat.min l.length k)=l.take k:=by
 by_cases h:k<=l.length
 ·rw [show Nat.min l.length k=k from Nat.min_eq_right h]
 ·rw [show Nat.min l.length k=l.length from Nat.min_eq_left (by omega),List.take_length,List.take_of_length_le (by omega)]
theorem Wb (q:BD) (docs:List Ae) (hq:CG q=true) (hd:Lh docs):rz q docs=some (GE q docs,()):=by
 obtain ⟨h1,h2,h3,h4,h5,h6,h7,h8⟩:=Eh hq;have hs:=Ju h3 h2;have hF:=hd.filter (CL q.1);have hS:=RU q.2.1 hF;have hlen:=hd.len;unfold rz GE
 rw [Kn docs hlen,Ai5,Ny (fun v=>!CL q.1 v) docs _ (fun v hv=>by
  unfold F59;rw [RP q.1 v h1 (hd.good v hv).ok];rfl) hlen,Ai5]
 simp only [Bool.not_not];rw [Yt q.2.1 _ hF hs,Ai5];generalize Lv q.2.1 (docs.filter (CL q.1))=S at hS ⊢;have hSl:=hS.len;simp only [Int.toNat_natCast,List.take_length,Yx _ _ h4];rw [IE,Ap,Aq (by have:Nat.min S.length q.2.2.1.toNat<=S.length:=Nat.min_le_left _ _;exact Int.ofNat_le.2 this),iH];have hD:∀ x,x∈S.drop q.2.2.1.toNat->DS x:=fun x hx=>hS.good x (List.mem_of_mem_drop hx)
 have hDl:(S.drop q.2.2.1.toNat).length<=1048576:=by simp;omega
 generalize S.drop q.2.2.1.toNat=D at hD hDl ⊢
 have key:∀ (L:List Ae),L.length<=1048576->(∀ x,x∈L->DS x)->iter (Rr (fun y12=>(some (y12.1,())))) Af (L,(((List.length L):Nat):Int),(0:Int),q,[],())=some (L.map (Lw q.2.2.2.2.1),()):=by
  intro L hL hg;refine (Ay (S:=List Ae) (fun i out=>(L,((L.length:Nat):Int),(i:Int),q,out,())) (fun i out=>some (out++(L.drop i).map (Lw q.2.2.2.2.1),())) L.length (fun i out=>out.length=i) ?_ ?_ Af 0 [] (Nat.zero_le _) (Aj (by omega)) rfl).trans rfl
  ·intro i out hi ho rec hrec;simp only [Rr,Ad,hi,decide_true,Ai7,Ap,Ai hi,Ai5,S_ _ _ (hg _ (Au hi)) (show q.2.2.2.2.1.length<=1048576 by omega),Am i _ hi (by omega)];rw [Aq (by simp only [A_,Ai8];omega),hrec _ (by simp only [Ai9,Ai8];omega),RX _ out (Ac hi)]
  ·intro out ho rec;simp only [Rr,Ad,Nat.lt_irrefl,decide_false,Ai6,Ajh,List.map_nil,List.append_nil]
 unfold RW;by_cases h0:q.2.2.2.1=0
 ·rw [if_pos h0,decide_eq_false (by omega),Ai6];exact key D hDl hD
 ·rw [if_neg h0,decide_eq_true (show q.2.2.2.1>0 by omega),Ai7];simp only [Yx _ _ h6];rw [Ap,Aq (by have:Nat.min D.length q.2.2.2.1.toNat<=D.length:=Nat.min_le_left _ _;exact Int.ofNat_le.2 this),Int.toNat_natCast,iI];exact key (D.take q.2.2.2.1.toNat) (by simp;omega) fun x hx=>hD x (List.mem_of_mem_take hx)
theorem ed (q:BD) {docs:List Ae} (hd:Lh docs):(GE q docs).length<=docs.length:=by
 have hF:=hd.filter (CL q.1);have h1:=(Nw q.2.1 _ hF).1.length_eq;have h2:=List.length_filter_le (CL q.1) docs;unfold GE RW;rw [List.length_map];split
 ·rw [List.length_drop];omega
 ·rw [List.length_take,List.length_drop];omega
abbrev Ar:Type:=List UInt8×(Int×Unit)
abbrev Ew:Type:=Int×(List Ar×Unit)
abbrev Bd:Type:=List Ew×(Int×Unit)
abbrev BR:Type:=Ht×(Bd×Unit)
abbrev Az:Type:=List UInt8×(List UInt8×(Bool×Unit))
abbrev TO:Type:=List UInt8×(Az×(Int×Unit))
def qQ (n:Nat) (e:Ar):Prop:=e.1.length<=n
def wu (n:Nat) (p:Ew):Prop:=LS qQ n p.2.1
def Yy (n:Nat) (t:Bd):Prop:=LS wu n t.1
def Im (n:Nat) (x:BR):Prop:=ij n x.1/\Yy n x.2.1
def DN (e:Ar):Bool:=decide (((e.1.length:Nat):Int)<=2000)&&inR e.2.1 0 9999
def lessE (a b:Ar):Bool:=Op.bytesLess a.1 b.1||((a.1==b.1)&&decide (a.2.1<b.2.1))
def Aw (l:List Ew):List Ar:=l.flatMap (·.2.1)
def EG (t:Bd) (i:Nat):Bool:=
 inR (Ah t.1 i).1 1 (t.2.1-1)&&(decide ((((Ah t.1 i).2.1.length:Nat):Int)<=4)&&(!(((Ah t.1 i).2.1.length==0)&&decide (1<t.1.length))&&Bo (fun k=>!((Ah t.1 k).1==(Ah t.1 i).1)) 0 i))
def In (l:List Ar):Bool:=Bo (fun i=>DN (Ah l i)&&(decide (i=0)||lessE (Ah l (i-1)) (Ah l i))) 0 l.length
def JI (t:Bd):Bool:=inR t.1.length 1 60&&(inR t.2.1 2 100000&&(Bo (EG t) 0 t.1.length&&In (Aw t.1)))
theorem GF (a b c:Ar) (h1:lessE a b=true) (h2:lessE b c=true):lessE a c=true:=by
 simp only [lessE,Ajc,Ajb,beq_iff_eq,Ajg] at h1 h2 ⊢;rcases h1 with h1 | ⟨h1,h1'⟩<;>rcases h2 with h2 | ⟨h2,h2'⟩
 ·exact .inl (Cd _ _ _ h1 h2)
 ·rw [<-h2];exact .inl h1
 ·rw [h1];exact .inl h2
 ·exact .inr ⟨h1.trans h2,by omega⟩
structure Tree (t:Bd):Prop where
 one:1<=t.1.length
 len:t.1.length<=60
 lo:2<=t.2.1
 hi:t.2.1<=100000
 page:∀ p,p∈t.1->p.2.1.length<=4/\(1<t.1.length->p.2.1≠[])
 pw:(Aw t.1).Pairwise fun a b=>lessE a b=true
 ent:∀ e,e∈Aw t.1->e.1.length<=2000/\0<=e.2.1/\e.2.1<=9999
theorem Wc {l:List Ar} (h:In l=true):(l.Pairwise fun a b=>lessE a b=true)/\∀ e,e∈l->e.1.length<=2000/\0<=e.2.1/\e.2.1<=9999:=by
 unfold In at h;rw [AY] at h
 have g:∀ i,i<l.length->DN (Ah l i)=true/\(0<i->lessE (Ah l (i-1)) (Ah l i)=true):=fun i hi=>by
  have:=h i (Nat.zero_le _) (by omega);simp only [Ajb,Ajc,Ajg] at this;exact ⟨this.1,fun h0=>this.2.resolve_left (by omega)⟩
 refine ⟨?_,fun e he=>?_⟩
 ·rw [List.pairwise_iff_getElem];intro i j hi hj hij;have:=Kj (l:=l) (r:=lessE) GF (fun i h0 hi=>(g i hi).2 h0) hij hj;rw [Du hi,Du hj] at this;exact this
 ·obtain ⟨i,hi,rfl⟩:=Ez he;have:=(g i hi).1;simp only [DN,inR,Ajb,Ajg] at this;exact ⟨by omega,this.2.1,this.2.2⟩
theorem Gq {t:Bd} (h:JI t=true):Tree t:=by
 unfold JI inR at h;simp only [Ajb,Ajg] at h;obtain ⟨⟨h1,h2⟩,⟨h3,h4⟩,h5,h6⟩:=h;obtain ⟨g1,g2⟩:=Wc h6;refine ⟨by omega,by omega,h3,h4,fun p hp=>?_,g1,g2⟩;obtain ⟨i,hi,rfl⟩:=Ez hp;have:=(AY _ _ _).1 h5 i (Nat.zero_le _) (by omega);unfold EG at this;simp only [Ajb,Ajg,Bool.not_eq_true',Bool.and_eq_false_iff,beq_eq_false_iff_ne,decide_eq_false_iff_not] at this;refine ⟨by omega,fun hn he=>?_⟩;rcases this.2.2.1 with h | h
 ·exact h (by rw [he];rfl)
 ·exact h hn
theorem Tree.flat_len {t:Bd} (h:Tree t):(Aw t.1).length<=240:=by
 have:∀ (l:List Ew),(∀ p,p∈l->p.2.1.length<=4)->(Aw l).length<=4*l.length:=by
  intro l;induction l with
  |nil=>intro _;simp [Aw]
  |cons p l ih=>
   intro hl;have h1:=hl p (by simp);have h2:=ih fun q hq=>hl q (by simp [hq])
   unfold Aw at h2 ⊢;rw [List.flatMap_cons,Ai9,Aja];omega
 have h1:=this t.1 fun p hp=>(h.page p hp).1
 have:=h.len;omega
def El (e:Ar):List Ew->Nat->Nat->Nat
 |[],_,c=>c
 |p::l,i,c=>El e l (i+1) (match p.2.1 with | []=>c | a::_=>cond (lessE e a) c i)
def AU (t:Bd) (e:Ar):Nat:=El e t.1 0 0
theorem TP (e:Ar) (l:List Ew):∀ (m s c:Nat),s+m=l.length->(c=0\/c<l.length/\∃ a r,(Ah l c).2.1=a::r/\lessE e a=false)->
  (El e (l.drop s) s c=0\/El e (l.drop s) s c<l.length/\∃ a r,(Ah l (El e (l.drop s) s c)).2.1=a::r/\lessE e a=false)
 |0,s,c,hs,hc=>by
  rw [List.drop_eq_nil_of_le (by omega)];exact hc
 |m+1,s,c,hs,hc=>by
  have hi:s<l.length:=by omega
  rw [Ac hi];unfold El;refine TP e l m (s+1) _ (by omega) ?_;cases h:(Ah l s).2.1 with
  |nil=>exact hc
  |cons a r=>
   dsimp only;cases hl:lessE e a with
   |true=>exact hc
   |false=>exact .inr ⟨hi,a,r,h,hl⟩
theorem IM (t:Bd) (e:Ar):AU t e=0\/AU t e<t.1.length/\∃ a r,(Ah t.1 (AU t e)).2.1=a::r/\lessE e a=false:=by
 have:=TP e t.1 t.1.length 0 0 (by omega) (.inl rfl);rw [List.drop_zero] at this;exact this
def De (i:Az) (k:List UInt8):Bool:=!(Op.bytesLess k i.1)&&(i.2.2.1||Op.bytesLess k i.2.1)
def Em (t:Bd) (i:Az):List Ar:=(Aw t.1).filter fun e=>De i e.1
def Yz (found:List Ar) (d:Ae):Bool:=found.any fun e=>e.2.1==CA d
theorem EO (l:List Ew) (k:Nat):Aw l=Aw (l.take k)++Aw (l.drop k):=by
 unfold Aw;rw [<-List.flatMap_append,List.take_append_drop]
theorem HX {x y:List UInt8} (h:Op.bytesLess x y=false):x=y\/Op.bytesLess y x=true:=by
 by_cases e:x=y
 ·exact .inl e
 ·exact .inr (ZJ x y h e)
theorem YA {t:Bd} (h:Tree t) (i:Az):Em t i=(Aw (t.1.drop (AU t (i.1,-1,())))).filter fun e=>De i e.1:=by
 unfold Em;rcases IM t (i.1,-1,()) with h0 | ⟨hlt,a,r,he,hl⟩
 ·rw [h0,List.drop_zero]
 generalize AU t (i.1,-1,())=k at *;have hp:=h.pw;rw [EO t.1 k] at hp;obtain ⟨_,_,hx⟩:=List.pairwise_append.1 hp
 have ha:a∈Aw (t.1.drop k):=by
  rw [Ac hlt];unfold Aw;rw [List.flatMap_cons,he];simp
 conv=>lhs;rw [EO t.1 k]
 rw [List.filter_append,List.filter_eq_nil_iff.2 ?_,List.nil_append];intro x hxm;have h1:=hx x hxm a ha;have h2:=(h.ent x (by rw [EO t.1 k];exact List.mem_append_left _ hxm)).2.1;intro hh;unfold De at hh;rw [Ajb] at hh;have h3:Op.bytesLess x.1 i.1=false:=by simpa using hh.1
 have h4:lessE (i.1,-1,()) x=true:=by
  unfold lessE;rcases HX h3 with e | e
  ·have:(-1:Int)<x.2.1:=by omega
   simp [e,this]
  ·simp [e]
 rw [GF _ _ _ h4 h1] at hl;cases hl
theorem Wd {t:Bd} (h:Tree t) (i:Az) {k:Nat} (hk:k<t.1.length) {a:Ar} {r:List Ar} (he:(Ah t.1 k).2.1=a::r) (ho:i.2.2.1=false) (ha:Op.bytesLess a.1 i.2.1=false) :
  (Aw (t.1.drop k)).filter (fun e=>De i e.1)=[]:=by
 have hp:=h.pw;rw [EO t.1 k] at hp;obtain ⟨_,hp2,_⟩:=List.pairwise_append.1 hp
 have e:Aw (t.1.drop k)=a::(r++Aw (t.1.drop (k+1))):=by
  rw [Ac hk];unfold Aw;rw [List.flatMap_cons,he];rfl
 rw [e] at hp2 ⊢;rw [List.filter_eq_nil_iff];intro x hx hh;unfold De at hh;rw [Ajb,ho,Bool.false_or] at hh;have h5:=hh.2;rcases List.mem_cons.1 hx with rfl | hx
 ·rw [ha] at h5;cases h5
 ·have h6:=List.rel_of_pairwise_cons hp2 hx;unfold lessE at h6;simp only [Ajc,Ajb,beq_iff_eq] at h6;rcases h6 with h6 | ⟨h6,_⟩
  ·rw [Cd _ _ _ h6 h5] at ha;cases ha
  ·rw [h6,h5] at ha;cases ha
theorem Jv (a b:Ar):dC a b=some (lessE a b,()):=by
 unfold dC lessE;cases Op.bytesLess a.1 b.1
 ·cases a.1==b.1<;>rfl
 ·rfl
theorem We (e:Ar):mB e=some (DN e,()):=by
 unfold mB DN;rw [Eu];cases decide (((e.1.length:Nat):Int)<=2000)<;>rfl
theorem Wg (e:Ar):mo e=some (DN e,()):=by
 unfold mo DN;rw [CE];cases decide (((e.1.length:Nat):Int)<=2000)<;>rfl
def Oq (a b:Ar):Int:=DR (fun a b:Ar=>Lib.compareBytes a.1 b.1) (fun a b=>II a.2.1 b.2.1) a b
theorem Pj (a b:Ar):gX a b=some (Oq a b,()):=by
 unfold gX;rw [show ZF a.1 b.1=some (Lib.compareBytes a.1 b.1,()) from rfl,Oi];simp only [Ai5,ZP];unfold Oq DR;rw [CT];rfl
theorem na:PC Oq fun _=>True:=(bW.pull (A:=fun _:Ar=>True) (fun f:Ar=>f.1) fun _ _=>trivial).lex (VW.pull (fun f:Ar=>f.2.1) fun _ _=>trivial)
theorem cd (a b:Ar):decide (Oq a b<0)=lessE a b:=by
 unfold Oq DR lessE;rw [Bn];by_cases h:Lib.compareBytes a.1 b.1=0
 ·rw [if_pos h,h,(AC _ _).1 h];unfold II;by_cases h1:a.2.1<b.2.1
  ·simp [h1]
  ·by_cases h2:a.2.1>b.2.1<;>simp [h1,h2]
 ·rw [if_neg h];have:(a.1==b.1)=false:=by rw [beq_eq_false_iff_ne];intro e;exact h ((AC _ _).2 e)
  rw [this,Bool.false_and,Bool.or_false]
theorem nb (a b:Ar):decide (Oq a b<=0) = !lessE b a:=by
 rw [<-cd b a,na.an a b trivial trivial];by_cases h:Oq a b<=0
 ·rw [decide_eq_true h,decide_eq_false (show ¬ - Oq a b<0 by omega)];rfl
 ·rw [decide_eq_false h,decide_eq_true (show-Oq a b<0 by omega)];rfl
theorem nc (a b:Ar):decide (Oq a b>=0) = !lessE a b:=by
 rw [<-cd a b];by_cases h:Oq a b>=0
 ·rw [decide_eq_true h,decide_eq_false (show ¬Oq a b<0 by omega)];rfl
 ·rw [decide_eq_false h,decide_eq_true (show Oq a b<0 by omega)];rfl
theorem Z_ (i:Az) (k:List UInt8):mR i k=some (De i k,()):=by
 unfold mR De
 have:(Op.bytesLess i.1 k||i.1==k) = !Op.bytesLess k i.1:=by
  cases h:Op.bytesLess k i.1 with
  |true=>
   have h1:Op.bytesLess i.1 k=false:=by
    cases h2:Op.bytesLess i.1 k with
    |false=>rfl
    |true=>have:=Cd _ _ _ h h2;rw [Bj] at this;cases this
   have h3:(i.1==k)=false:=by rw [beq_eq_false_iff_ne];exact (VF h).symm
   rw [h1,h3];rfl
  |false=>
   rcases HX h with e | e
   ·rw [e];simp
   ·rw [e];rfl
 rw [this];cases Op.bytesLess k i.1
 ·cases i.2.2.1<;>rfl
 ·rfl
theorem aa (i:Az) (k:List UInt8):xU i k=some (De i k,()):=by
 unfold xU De;cases Op.bytesLess k i.1
 ·cases i.2.2.1<;>rfl
 ·rfl
def BK:Ar->List Ar->Bool
 |_,[]=>true
 |last,e::l=>DN e&&(lessE last e&&BK e l)
theorem Ga (last e:Ar) (l:List Ar):BK last (e::l)=(DN e&&(lessE last e&&BK e l)):=rfl
def Kr:Ar->List Ar->Ar
 |x,[]=>x
 |_,e::l=>Kr e l
theorem Pk (l:List Ar):∀ (m s:Nat),s+m=l.length->0<s->Bo (fun i=>DN (Ah l i)&&(decide (i=0)||lessE (Ah l (i-1)) (Ah l i))) s m=BK (Ah l (s-1)) (l.drop s)
 |0,s,hs,_=>by rw [List.drop_eq_nil_of_le (by omega)];rfl
 |m+1,s,hs,h0=>by
  have hi:s<l.length:=by omega
  rw [Ac hi];rw [Ga];unfold Bo;rw [Pk l m (s+1) (by omega) (by omega),Nat.add_sub_cancel,decide_eq_false (show ¬s=0 by omega),Bool.false_or,Bool.and_assoc]
theorem iJ (l:List Ar):BK ([],-1,()) l=In l:=by
 unfold In;cases l with
 |nil=>rfl
 |cons e l=>
  rw [Aja,Bo];have h:=Pk (e::l) l.length 1 (by simp;omega) (by decide);rw [h,Ga];have e0:Ah (e::l) 0=e:=rfl;rw [show (1-1:Nat)=0 from rfl,e0,List.drop_one,List.tail_cons];simp only [decide_true,Bool.true_or,Bool.and_true];cases he:DN e with
  |false=>rfl
  |true=>
   have:lessE ([],-1,()) e=true:=by
    unfold lessE;simp only [DN,inR,Ajb,Ajg] at he;have h0:(-1:Int)<e.2.1:=by omega
    cases he1:e.1 with
    |nil=>simp [Op.bytesLess,h0]
    |cons b t=>simp [Op.bytesLess]
   rw [this];rfl
theorem Ks:∀ (l l':List Ar) (last:Ar),BK last (l++l')=(BK last l&&BK (Kr last l) l')
 |[],l',last=>by simp [BK,Kr]
 |e::l,l',last=>by
  rw [List.cons_append,Ga,Ga,Ks l l' e,Bool.and_assoc,Bool.and_assoc];rfl
theorem Tb (t:Bd) (ht:Yy 1048576 t):mE t=some (JI t,()):=by
 unfold mE JI;have hl:=ht.1;simp only [Eu,Ai5];cases h1:inR ((t.1.length:Nat):Int) 1 60
 ·rfl
 cases h2:inR t.2.1 2 100000
 ·rfl
 simp only [Bool.not_true,Ai6,Bool.true_and];have hT:2<=t.2.1/\t.2.1<=100000:=by simpa [inR] using h2
 have hw:IntKind.wrap IntKind.i64 (t.2.1-1)=t.2.1-1:=AN _ (by omega) (by omega)
 have key:∀ (m s k:Nat) (last:Ar),s+m=t.1.length->m<k->iter (HR (fun y33=>(some (true,()))) (fun y34=>(some (y34.1,())))) k ((s:Int),t,last,()) =
   some (Bo (EG t) s m&&BK last (Aw (t.1.drop s)),()):=by
  intro m;induction m with
  |zero=>
   intro s k last hs hk;cases k with
   |zero=>omega
   |succ k=>
    have:¬s<t.1.length:=by omega
    simp only [iter,HR,Ad,this,decide_false,Ai6];rw [List.drop_eq_nil_of_le (by omega)];rfl
  |succ m ih=>
   intro s k last hs hk;cases k with
   |zero=>omega
   |succ k=>
    have hi:s<t.1.length:=by omega
    have hpl:(Ah t.1 s).2.1.length<=1048576:=(ht.2 _ (Au hi)).1;have hd:Aw (t.1.drop s)=(Ah t.1 s).2.1++Aw (t.1.drop (s+1)):=by rw [Ac hi];unfold Aw;rw [List.flatMap_cons]
    simp only [iter,HR,Ad,hi,decide_true,Ai7,Ap,Ai hi,Ai5,hw,Eu]
    have inner2:∀ (last:Ar),iter (Hs (fun y31=>(iter (HR (fun y33=>(some (true,()))) (fun y34=>(some (y34.1,())))) k) ((IntKind.wrap IntKind.i64 (y31.1+(1:Int))),y31.2.1,y31.2.2.1,())) (fun y32=>some (y32.1,()))) Af ((s:Int),(0:Int),t,last,Ah t.1 s,()) =
      some (BK last (Ah t.1 s).2.1&&(Bo (EG t) (s+1) m&&BK (Kr last (Ah t.1 s).2.1) (Aw (t.1.drop (s+1)))),()):=by
     intro last0
     have go:∀ (m' j k':Nat) (last:Ar),j+m'=(Ah t.1 s).2.1.length->m'<k' ->iter (Hs (fun y31=>(iter (HR (fun y33=>(some (true,()))) (fun y34=>(some (y34.1,())))) k) ((IntKind.wrap IntKind.i64 (y31.1+(1:Int))),y31.2.1,y31.2.2.1,())) (fun y32=>some (y32.1,()))) k' ((s:Int),(j:Int),t,last,Ah t.1 s,()) =
       some (BK last ((Ah t.1 s).2.1.drop j)&&(Bo (EG t) (s+1) m&&BK (Kr last ((Ah t.1 s).2.1.drop j)) (Aw (t.1.drop (s+1)))),()):=by
      intro m';induction m' with
      |zero=>
       intro j k' last hj hk';cases k' with
       |zero=>omega
       |succ k' =>
        have:¬j<(Ah t.1 s).2.1.length:=by omega
        simp only [iter,Hs,Ad,this,decide_false,Ai6,Am s _ hi (by omega)];have hdj:(Ah t.1 s).2.1.drop j=[]:=List.drop_eq_nil_of_le (by omega);simp only [hdj,BK,Bool.true_and,Kr];exact ih (s+1) k last (by omega) (by omega)
      |succ m' ih' =>
       intro j k' last hj hk';cases k' with
       |zero=>omega
       |succ k' =>
        have hj':j<(Ah t.1 s).2.1.length:=by omega
        simp only [iter,Hs,Ad,hj',decide_true,Ai7,Ap,Ai hj',Ai5,We,Jv,Am j _ hj' (by omega)];have e:=Ac hj';simp only [e,Ga,Kr];cases DN (Ah (Ah t.1 s).2.1 j)
        ·rfl
        cases lessE last (Ah (Ah t.1 s).2.1 j)
        ·rfl
        simp only [Bool.not_true,Ai6,Bool.true_and];exact ih' (j+1) k' _ (by omega) (by omega)
     have:=go (Ah t.1 s).2.1.length 0 Af last0 (by omega) (Aj (by omega));simp only [List.drop_zero] at this;exact this
    have inner:iter (Kh (fun y19=>(iter (Hs (fun y31=>(iter (HR (fun y33=>(some (true,()))) (fun y34=>(some (y34.1,())))) k) ((IntKind.wrap IntKind.i64 (y31.1+(1:Int))),y31.2.1,y31.2.2.1,())) (fun y32=>some (y32.1,()))) Af (y19.1,(0:Int),y19.2.1,y19.2.2.1,y19.2.2.2.1,()))) (fun y20=>some (y20.1,()))) Af ((s:Int),(0:Int),t,last,Ah t.1 s,()) =
      some (Bo (fun k=>!((Ah t.1 k).1==(Ah t.1 s).1)) 0 s&&(BK last (Ah t.1 s).2.1&&(Bo (EG t) (s+1) m&&BK (Kr last (Ah t.1 s).2.1) (Aw (t.1.drop (s+1))))),()):=by
     refine (Ca (fun j=>((s:Int),(j:Int),t,last,Ah t.1 s,())) (fun k=>!((Ah t.1 k).1==(Ah t.1 s).1)) (some (BK last (Ah t.1 s).2.1&&(Bo (EG t) (s+1) m&&BK (Kr last (Ah t.1 s).2.1) (Aw (t.1.drop (s+1)))),())) (some (false,())) s 0 Af ?_ (fun rec=>?_) (Aj (by omega))).trans ?_
     ·intro j _ hj rec;have hjs:j<s:=by omega
      have hjl:j<t.1.length:=by omega
      simp only [Kh,Ad,hjs,decide_true,Ai7,Ap,Ai hjl,Ai5,Am j _ hjl (by omega)];cases (Ah t.1 j).1==(Ah t.1 s).1<;>rfl
     ·have:¬(0+s<s):=by omega
      simp only [Kh,Ad,this,decide_false,Ai6];exact inner2 last
     ·cases Bo (fun k=>!((Ah t.1 k).1==(Ah t.1 s).1)) 0 s<;>rfl
    rw [Bo,hd,Ks];have hp:EG t s=(inR (Ah t.1 s).1 1 (t.2.1-1)&&(decide ((((Ah t.1 s).2.1.length:Nat):Int)<=4)&&(!(((Ah t.1 s).2.1.length==0)&&decide (1<t.1.length))&&Bo (fun k=>!((Ah t.1 k).1==(Ah t.1 s).1)) 0 s))):=rfl;rw [hp];cases inR (Ah t.1 s).1 1 (t.2.1-1)
    ·rfl
    have hgt:decide ((((Ah t.1 s).2.1.length:Nat):Int)>4) = !decide ((((Ah t.1 s).2.1.length:Nat):Int)<=4):=by
     by_cases h:(((Ah t.1 s).2.1.length:Nat):Int)<=4
     ·have:¬(((Ah t.1 s).2.1.length:Nat):Int)>4:=by omega
      simp only [h,this,decide_true,decide_false,Bool.not_true]
     ·have:(((Ah t.1 s).2.1.length:Nat):Int)>4:=by omega
      simp only [h,this,decide_true,decide_false,Bool.not_false]
    have hgt1:decide (((t.1.length:Nat):Int)>1)=decide (1<t.1.length):=by
     by_cases h:1<t.1.length
     ·have:((t.1.length:Nat):Int)>1:=by omega
      simp only [h,this]
     ·have:¬((t.1.length:Nat):Int)>1:=by omega
      simp only [h,this]
    have heq:((((Ah t.1 s).2.1.length:Nat):Int)==0)=((Ah t.1 s).2.1.length==0):=by
     rw [Bool.eq_iff_iff,beq_iff_eq,beq_iff_eq];omega
    rw [hgt,hgt1,heq]
    have fin:some (Bo (fun k=>!((Ah t.1 k).1==(Ah t.1 s).1)) 0 s&&(BK last (Ah t.1 s).2.1&&(Bo (EG t) (s+1) m&&BK (Kr last (Ah t.1 s).2.1) (Aw (t.1.drop (s+1))))),()) =
      some (Bo (fun k=>!((Ah t.1 k).1==(Ah t.1 s).1)) 0 s&&Bo (EG t) (s+1) m&&(BK last (Ah t.1 s).2.1&&BK (Kr last (Ah t.1 s).2.1) (Aw (t.1.drop (s+1)))),()):=by
     cases Bo (fun k=>!((Ah t.1 k).1==(Ah t.1 s).1)) 0 s<;>cases BK last (Ah t.1 s).2.1<;>cases Bo (EG t) (s+1) m<;>rfl
    cases decide ((((Ah t.1 s).2.1.length:Nat):Int)<=4)
    ·rfl
    cases (Ah t.1 s).2.1.length==0
    ·simp only [Bool.not_true,Bool.false_and,Bool.not_false,Bool.true_and,Ai6];exact inner.trans fin
    ·cases decide (1<t.1.length)
     ·simp only [Bool.not_true,Bool.and_false,Bool.not_false,Bool.true_and,Ai6,Ai7];exact inner.trans fin
     ·rfl
 have:=key t.1.length 0 Af ([],-1,()) (by omega) (Aj (by omega));rw [List.drop_zero,iJ] at this;exact this
end Go.V
