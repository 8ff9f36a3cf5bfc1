import Derived.Test.YtemighjbfanenaaGreatDoorPk1
set_option linter.all false
set_option maxRecDepth 100000
set_option maxHeartbeats 16000000
namespace Go.Proofs.YtemighjbfanenaaGreatDoor
open RowKit
open Iff renaming rfl→zW
open List renaming mem_cons_self→jt,mem_cons_of_mem→gy,mem_cons→lT
section
namespace Hp
def zw(x y:eO): Bool:=rY x y||(!rY y x && decide (x.aZ<y.aZ))
theorem F4(x y:eO): zw x y=true↔x.aR<y.aR∨x.aR=y.aR∧(x.id<y.id∨x.id=y.id∧x.aZ<y.aZ):=by
 simp only[zw,rY,Bool.or_eq_true,Bool.and_eq_true,Bool.not_eq_true',Bool.or_eq_false_iff,Bool.and_eq_false_iff,decide_eq_true_eq,decide_eq_false_iff_not,beq_iff_eq,beq_eq_false_iff_ne];constructor
 ·rintro((h|h)|⟨⟨h1,h2⟩,h3⟩) <;>omega
 omega
theorem vO(x y:eO): zw x y=false↔¬(x.aR<y.aR∨x.aR=y.aR∧(x.id<y.id∨x.id=y.id∧x.aZ<y.aZ)):=by rw[←F4];simp
variable{l a:Nat}
theorem td{x y z:eO}(h1:zw x y=false)(h2:zw y z=false): zw x z=false:=by rw[vO] at *;omega
theorem xK{x y:eO}(h:zw x y=true): zw y x=false:=by rw[F4] at h;rw[vO];omega
def okD(f:Nat→eO)(i:Nat): Prop:=zw (f i) (f ((i - 1) / 2))=false
def Ordered(f:Nat→eO)(l:Nat): Prop:=∀ i,0<i→i<l→okD f i
structure R8(f:Nat→eO)(l a:Nat): Prop where
 rest: ∀ i,0<i→i<l→i≠a→(i - 1) / 2≠a→okD f i
 ai: ∀ i,0<i→i<l→(i - 1) / 2=a→0<a→zw (f i) (f ((a - 1) / 2))=false
structure um(f:Nat→eO)(l a:Nat): Prop where
 rest: ∀ i,0<i→i<l→(i - 1) / 2≠a→okD f i
 ai: ∀ i,0<i→i<l→(i - 1) / 2=a→0<a→zw (f i) (f ((a - 1) / 2))=false
theorem vD(f:Nat→eO)(i k:Nat): cP f i k i=f k:=by simp[cP]
theorem OS(f:Nat→eO)(i k:Nat): cP f i k k=f i:=by
 by_cases h:k=i
 ·subst h;simp[cP]
 simp[cP,h]
theorem iE(f:Nat→eO){i k j:Nat}(h1:j≠i)(h2:j≠k): cP f i k j=f j:=by simp[cP,h1,h2]
theorem R8.step{f:Nat→eO}(h:R8 f l a)(ha:a<l)(h0:0<a)(hlt:zw (f a) (f ((a - 1) / 2))=true): R8 (cP f a ((a - 1) / 2)) l ((a - 1) / 2):=by
 obtain⟨p,hp⟩:=ae ((a - 1) / 2);rw[hp] at hlt ⊢;have hpa:p<a:=ag;refine⟨fun i h1 h2 h3 h4=>?_,fun i h1 h2 h3 h4=>?_⟩
 ·have RO:i≠a:=fun e=>h4 (by rw[e];exact hp)
  unfold okD;by_cases h5:(i - 1) / 2=a
  ·rw[h5,vD,iE f RO h3,←hp];exact h.ai i h1 h2 h5 h0
  rw[iE f RO h3,iE f h5 h4];exact h.rest i h1 h2 RO h5
 have hpp:(p - 1) / 2≠a∧(p - 1) / 2≠p:=ag;rw[iE f hpp.1 hpp.2];have hp1:zw (f p) (f ((p - 1) / 2))=false:=h.rest p h4 ag ag ag;by_cases RO:i=a
 ·subst RO;rw[vD];exact hp1
 have hip:i≠p:=ag;rw[iE f RO hip];have:=h.rest i h1 h2 RO ag;unfold okD at this;rw[h3] at this;exact td this hp1
theorem R8.up_: ∀ (k a:Nat) (f:Nat→eO),a≤k→a<l→R8 f l a→R8 (up k f a).1 l (up k f a).2∧((up k f a).2=0∨okD (up k f a).1 (up k f a).2)
 | 0,a,f,hk,_,h=>by
  obtain rfl:a=0:=ag;exact⟨h,.inl rfl⟩
 | k+1,a,f,hk,ha,h=>by
  by_cases hc:0<a∧iU f a ((a - 1) / 2)=true
  ·rw[OB hc.1 hc.2];exact R8.up_ k _ _ ag ag (h.step ha hc.1 hc.2)
  have hs:a=0∨iU f a ((a - 1) / 2)=false:=by
   rcases Nat.eq_zero_or_pos a with h1|h1
   ·exact .inl h1
   right;cases hh:iU f a ((a - 1) / 2)with
   | false=>rfl
   | true=>exact absurd ⟨h1,hh⟩ hc
  rw[E3 hs];exact⟨h,hs⟩
theorem R8.down{f:Nat→eO}(h:R8 f l a)(fz:a=0∨okD f a): um f l a:=
 ⟨fun i h1 h2 h3=>by
  by_cases e:i=a
  ·subst e;rcases fz with fz|fz;omega;exact fz
  exact h.rest i h1 h2 e h3,h.ai⟩
theorem xH(f:Nat→eO)(l a:Nat): (pick f l a=a∨((pick f l a - 1) / 2=a∧0<pick f l a∧pick f l a<l∧zw (f (pick f l a)) (f a)=true))∧∀ i,0<i→i<l→(i - 1) / 2=a→zw (f i) (f (pick f l a))=false:=by
 have WX: ∀ x,zw x x=false:=fun x=>by rw[vO];omega
 have e2:pick f l a=if 2*a+2<l∧iU f (2*a+2) (pk f l a 1)=true then 2*a+2 else pk f l a 1:=rfl
 have e1:pk f l a 1=if 2*a+1<l∧iU f (2*a+1) a=true then 2*a+1 else a:=rfl
 have hi: ∀ i,0<i→(i - 1) / 2=a→i=2*a+1∨i=2*a+2:=fun i h1 h2=>ag
 by_cases c1:2*a+1<l∧iU f (2*a+1) a=true
 ·rw[if_pos c1] at e1;rw[e1] at e2;have c1':zw (f (2*a+1)) (f a)=true:=c1.2;by_cases c2:2*a+2<l∧iU f (2*a+2) (2*a+1)=true
  ·rw[if_pos c2] at e2;have c2':zw (f (2*a+2)) (f (2*a+1))=true:=c2.2;rw[e2];refine⟨.inr ⟨ag,ag,c2.1,?_⟩,fun i h1 h2 h3=>?_⟩
   ·rw[F4] at c1' c2' ⊢;omega
   rcases hi i h1 h3 with rfl|rfl
   ·exact xK c2'
   exact WX _
  rw[if_neg c2] at e2;rw[e2];refine⟨.inr ⟨ag,ag,c1.1,c1'⟩,fun i h1 h2 h3=>?_⟩;rcases hi i h1 h3 with rfl|rfl
  ·exact WX _
  cases hh:zw (f (2*a+2)) (f (2*a+1))with
  | false=>rfl
  | true=>exact absurd ⟨h2,hh⟩ c2
 rw[if_neg c1] at e1;rw[e1] at e2;have n1:2*a+1<l→zw (f (2*a+1)) (f a)=false:=fun hl=>by
  cases hh:zw (f (2*a+1)) (f a)with
  | false=>rfl
  | true=>exact absurd ⟨hl,hh⟩ c1
 by_cases c2:2*a+2<l∧iU f (2*a+2) a=true
 ·rw[if_pos c2] at e2;have c2':zw (f (2*a+2)) (f a)=true:=c2.2;rw[e2];refine⟨.inr ⟨ag,ag,c2.1,c2'⟩,fun i h1 h2 h3=>?_⟩;rcases hi i h1 h3 with rfl|rfl
  ·exact td (n1 h2) (xK c2')
  exact WX _
 rw[if_neg c2] at e2;rw[e2];refine⟨.inl rfl,fun i h1 h2 h3=>?_⟩;rcases hi i h1 h3 with rfl|rfl
 ·exact n1 h2
 cases hh:zw (f (2*a+2)) (f a)with
 | false=>rfl
 | true=>exact absurd ⟨h2,hh⟩ c2
theorem um.stop{f:Nat→eO}(h:um f l a)(hp:pick f l a=a): Ordered f l:=fun i h1 h2=>by
 by_cases e:(i - 1) / 2=a
 ·have:=(xH f l a).2 i h1 h2 e;rw[hp] at this;unfold okD;rw[e];exact this
 exact h.rest i h1 h2 e
theorem um.step{f:Nat→eO}(h:um f l a)(hp:pick f l a≠a): um (cP f a (pick f l a)) l (pick f l a):=by
 obtain⟨h5,h6⟩:=xH f l a;obtain⟨m,hm⟩:=ae (pick f l a);rw[hm] at h5 h6 hp ⊢;rcases h5 with h5|⟨e,m0,ml,mlt⟩
 ·exact absurd h5 hp
 refine⟨fun i h1 h2 h3=>?_,fun i h1 h2 h3 h4=>?_⟩
 ·unfold okD;by_cases RO:i=a
  ·subst RO;have h7:(i - 1) / 2≠i∧(i - 1) / 2≠m:=⟨ag,h3⟩;rw[vD,iE f h7.1 h7.2];exact h.ai m m0 ml e h1
  by_cases hpa:(i - 1) / 2=a
  ·rw[hpa,vD];by_cases Tc:i=m
   ·subst Tc;rw[OS];exact xK mlt
   rw[iE f RO Tc];exact h6 i h1 h2 hpa
  have Tc:i≠m:=fun e'=>hpa (by rw[e'];exact e)
  rw[iE f RO Tc,iE f hpa h3];exact h.rest i h1 h2 hpa
 have RO:i≠a:=ag;have Tc:i≠m:=ag;rw[e,vD,iE f RO Tc];have:=h.rest i h1 h2 ag;unfold okD at this;rw[h3] at this;exact this
theorem um.adW: ∀ (k a:Nat) (f:Nat→eO),l - a≤k→a<l→um f l a→Ordered (down l k f a) l
 | 0,a,f,hk,ha,_=>ag
 | k+1,a,f,hk,ha,h=>by
  by_cases hp:pick f l a=a
  ·rw[xT hp];exact h.stop hp
  rw[xU hp];have h1:=(xH f l a).1;rcases h1 with h1|⟨h1,h2,h3,_⟩
  ·exact absurd h1 hp
  exact um.adW k _ _ ag h3 (h.step hp)
theorem rQ{f:Nat→eO}(h:R8 f l a)(ha:a<l): Ordered (gm f l a) l:=by
 obtain⟨h1,h2⟩:=R8.up_ a a f (Nat.le_refl _) ha h;exact um.adW l _ _ ag (TR l a a f ha) (h1.down h2)
theorem Ordered.least{f:Nat→eO}(h:Ordered f l): ∀ i,i<l→zw (f i) (f 0)=false:=by
 intro i
 induction i using Nat.strongRecOn with
 | ind i ih=>
  intro hi;rcases Nat.eq_zero_or_pos i with h0|h0
  ·subst h0;rw[vO];omega
  exact td (h i h0 hi) (ih ((i - 1) / 2) ag ag)
theorem Ordered.push{f:Nat→eO}(h:Ordered f l)(x:eO): R8 (cO f l x) (l+1) l:=
 ⟨fun i h1 h2 h3 _=>by
  have:=h i h1 ag;unfold okD at this ⊢;rw[bj f x h3,bj f x ag];exact this,fun i h1 h2 h3 h4=>ag⟩
theorem Ordered.take{f:Nat→eO}(h:Ordered f (l+1))(ha:a<l): R8 (cP f a l) l a:=by
 refine⟨fun i h1 h2 h3 h4=>?_,fun i h1 h2 h3 h4=>?_⟩
 ·unfold okD;rw[iE f h3 ag,iE f h4 ag];exact h i h1 ag
 rw[iE f ag ag,iE f ag ag];have a1:=h i h1 ag;have a2:=h a h4 ag;unfold okD at a1 a2;rw[h3] at a1;exact td a1 a2
end Hp
end
section
namespace Hp
def In(f:Nat→eO)(l:Nat)(x:eO): Prop:=∃ i,i<l∧f i=x
variable{l a:Nat}
theorem Ga{f:Nat→eO}{i k:Nat} (hi:i<l)(hk:k<l)(x:eO): In (cP f i k) l x↔In f l x:=by
 constructor
 ·rintro⟨j,hj,rfl⟩;unfold cP;by_cases h1:j=i
  ·rw[if_pos h1];exact⟨k,hk,rfl⟩
  rw[if_neg h1];by_cases h2:j=k
  ·rw[if_pos h2];exact⟨i,hi,rfl⟩
  rw[if_neg h2];exact⟨j,hj,rfl⟩
 rintro⟨j,hj,rfl⟩;by_cases h1:j=i
 ·subst h1;by_cases h2:j=k
  ·subst h2;exact⟨j,hj,by unfold cP;rw[if_pos rfl]⟩
  exact⟨k,hk,by unfold cP;rw[if_neg (fun e=>h2 e.symm),if_pos rfl]⟩
 by_cases h2:j=k
 ·subst h2;exact⟨i,hi,by unfold cP;rw[if_pos rfl]⟩
 exact⟨j,hj,by unfold cP;rw[if_neg h1,if_neg h2]⟩
theorem adK(x:eO): ∀ (k a:Nat) (f:Nat→eO),a<l→(In (up k f a).1 l x↔In f l x)
 | 0,_,_,_=>zW
 | k+1,a,f,ha=>by
  rw[up];split
  ·rename_i h;rw[adK x k _ _ ag,Ga ha ag]
  exact zW
theorem Pu(x:eO): ∀ (k a:Nat) (f:Nat→eO),a<l→(In (down l k f a) l x↔In f l x)
 | 0,_,_,_=>zW
 | k+1,a,f,ha=>by
  rw[down];split
  ·exact zW
  have hp:pick f l a<l:=O7 ha 2;rw[Pu x k _ _ hp,Ga ha hp]
theorem Ec{f:Nat→eO}(ha:a<l)(x:eO): In (gm f l a) l x↔In f l x:=by
 unfold gm;rw[Pu x l _ _ (TR l a a f ha),adK x a a f ha]
theorem Gb{f:Nat→eO}(y x:eO): In (gm (cO f l y) (l+1) l) (l+1) x↔In f l x∨x=y:=by
 rw[Ec ag];constructor
 ·rintro⟨i,hi,rfl⟩;by_cases h:i=l
  ·subst h;exact .inr (bJ _ _ _)
  rw[bj _ _ h];exact .inl ⟨i,ag,rfl⟩
 rintro(⟨i,hi,rfl⟩|rfl)
 ·exact⟨i,ag,bj _ _ ag⟩
 exact⟨l,ag,bJ _ _ _⟩
def rP(f:Nat→eO)(l a:Nat): Nat→eO:=if a=l then f else gm (cP f a l) l a
theorem aaK{f:Nat→eO}(ha:a≤l)(Xn: ∀ i j,i<l+1→j<l+1→(f i).aZ=(f j).aZ→i=j)(x:eO): In (rP f l a) l x↔In f (l+1) x∧x≠f a:=by
 unfold rP;by_cases h:a=l
 ·subst h;rw[if_pos rfl];constructor
  ·rintro⟨i,hi,rfl⟩;exact⟨⟨i,ag,rfl⟩,fun e=>by have:=Xn i a ag ag mj;omega⟩
  rintro⟨⟨i,hi,rfl⟩,hne⟩;exact⟨i,by have:i≠a:=fun e=>hne mj;omega,rfl⟩
 rw[if_neg h,Ec ag];have hs:In (cP f a l) (l+1) x↔In f (l+1) x:=Ga ag ag x;constructor
 ·rintro⟨i,hi,e⟩;refine⟨hs.1 ⟨i,ag,e⟩,fun e2=>?_⟩;rw[e2] at e;unfold cP at e;by_cases h1:i=a
  ·rw[if_pos h1] at e;have:=Xn l a ag ag mj;omega
  rw[if_neg h1,if_neg ag] at e;exact h1 (Xn i a ag ag mj)
 rintro⟨h1,hne⟩;obtain⟨i,hi,e⟩:=hs.2 h1;refine⟨i,?_,e⟩;have:i≠l:=fun h2=>by
  subst h2;apply hne;rw[←e];unfold cP;rw[if_neg (fun e=>h e.symm),if_pos rfl]
 omega
theorem FM{f:Nat→eO}(h:Ordered f (l+1))(ha:a≤l): Ordered (rP f l a) l:=by
 unfold rP;by_cases e:a=l
 ·rw[if_pos e];exact fun i h1 h2=>h i h1 ag
 rw[if_neg e];exact rQ (h.take ag) ag
theorem FV{f:Nat→eO}(h:Ordered f l)(x:eO): Ordered (gm (cO f l x) (l+1) l) (l+1):=rQ (h.push x) ag
end Hp
end
section
section
variable {α:Type}(key:α→Int)
def sG: List α→Prop
 | []=>True
 | x::l=>(∀ y∈l,key x<key y)∧sG l
variable {key}
theorem sG.rV: ∀ {l:List α},l.Pairwise (fun x y=>key x<key y)→sG key l
 | [],_=>trivial
 | x::l,h=>by
  rw[List.pairwise_cons] at h;exact⟨h.1,sG.rV h.2⟩
theorem sG.ext: ∀ {l m:List α},sG key l→sG key m→(∀ x,x∈l↔x∈m)→l=m
 | [],[],_,_,_=>rfl
 | [],y::m,_,_,h=>by have:=(h y).2 (jt ..);cases this
 | x::l,[],_,_,h=>by have:=(h x).1 (jt ..);cases this
 | x::l,y::m,hl,hm,h=>by
  have S6:x=y:=by
   rcases lT.1 ((h x).1 (jt ..))with e|hx
   ·exact e
   rcases lT.1 ((h y).2 (jt ..))with e|hy
   ·exact e.symm
   have h1:=hl.1 y hy;have h2:=hm.1 x hx;omega
  subst S6;rw[sG.ext hl.2 hm.2 fun z=>?_];constructor
  ·intro hz;rcases lT.1 ((h z).1 (gy _ hz))with e|hz'
   ·subst e;have:=hl.1 z hz;omega
   exact hz'
  intro hz;rcases lT.1 ((h z).2 (gy _ hz))with e|hz'
  ·subst e;have:=hm.1 z hz;omega
  exact hz'
