import Derived.Test.YtemighjbfanenaaGreatDoorQk1
set_option linter.all false
set_option maxRecDepth 100000
set_option maxHeartbeats 16000000
namespace Go.Proofs.YtemighjbfanenaaGreatDoor
open RowKit
open Iff renaming rfl→zS
open List renaming mem_cons_self→jn,mem_cons→lZ,mem_cons_of_mem→gz
section
namespace Hp
def zr(x y:eI): Bool:=rZ x y||(!rZ y x && decide (x.bf<y.bf))
theorem FA(x y:eI): zr x y=true↔x.aR<y.aR∨x.aR=y.aR∧(x.id<y.id∨x.id=y.id∧x.bf<y.bf):=by
 simp only[zr,rZ,Bool.or_eq_true,Bool.and_eq_true,Bool.not_eq_true',Bool.or_eq_false_iff,Bool.and_eq_false_iff,decide_eq_true_eq,decide_eq_false_iff_not,beq_iff_eq,beq_eq_false_iff_ne];constructor
 ·rintro((h|h)|⟨⟨h1,h2⟩,h3⟩) <;>omega
 omega
theorem vK(x y:eI): zr x y=false↔¬(x.aR<y.aR∨x.aR=y.aR∧(x.id<y.id∨x.id=y.id∧x.bf<y.bf)):=by rw[←FA];simp
variable{l a:Nat}
theorem sW{x y z:eI}(h1:zr x y=false)(h2:zr y z=false): zr x z=false:=by rw[vK] at *;omega
theorem xM{x y:eI}(h:zr x y=true): zr y x=false:=by rw[FA] at h;rw[vK];omega
def okD(f:Nat→eI)(i:Nat): Prop:=zr (f i) (f ((i - 1) / 2))=false
def Ordered(f:Nat→eI)(l:Nat): Prop:=∀ i,0<i→i<l→okD f i
structure Q3(f:Nat→eI)(l a:Nat): Prop where
 rest: ∀ i,0<i→i<l→i≠a→(i - 1) / 2≠a→okD f i
 ak: ∀ i,0<i→i<l→(i - 1) / 2=a→0<a→zr (f i) (f ((a - 1) / 2))=false
structure uh(f:Nat→eI)(l a:Nat): Prop where
 rest: ∀ i,0<i→i<l→(i - 1) / 2≠a→okD f i
 ak: ∀ i,0<i→i<l→(i - 1) / 2=a→0<a→zr (f i) (f ((a - 1) / 2))=false
theorem vz(f:Nat→eI)(i k:Nat): cQ f i k i=f k:=by simp[cQ]
theorem NR(f:Nat→eI)(i k:Nat): cQ f i k k=f i:=by
 by_cases h:k=i
 ·subst h;simp[cQ]
 simp[cQ,h]
theorem iA(f:Nat→eI){i k j:Nat}(h1:j≠i)(h2:j≠k): cQ f i k j=f j:=by simp[cQ,h1,h2]
theorem Q3.step{f:Nat→eI}(h:Q3 f l a)(ha:a<l)(h0:0<a)(hlt:zr (f a) (f ((a - 1) / 2))=true): Q3 (cQ f a ((a - 1) / 2)) l ((a - 1) / 2):=by
 obtain⟨p,hp⟩:=ae ((a - 1) / 2);rw[hp] at hlt ⊢;have Z':p<a:=ai;refine⟨fun i h1 h2 h3 h4=>?_,fun i h1 h2 h3 h4=>?_⟩
 ·have QM:i≠a:=fun e=>h4 (by rw[e];exact hp)
  unfold okD;by_cases h5:(i - 1) / 2=a
  ·rw[h5,vz,iA f QM h3,←hp];exact h.ak i h1 h2 h5 h0
  rw[iA f QM h3,iA f h5 h4];exact h.rest i h1 h2 QM h5
 have hpp:(p - 1) / 2≠a∧(p - 1) / 2≠p:=ai;rw[iA f hpp.1 hpp.2];have hp1:zr (f p) (f ((p - 1) / 2))=false:=h.rest p h4 ai ai ai;by_cases QM:i=a
 ·subst QM;rw[vz];exact hp1
 have hip:i≠p:=ai;rw[iA f QM hip];have:=h.rest i h1 h2 QM ai;unfold okD at this;rw[h3] at this;exact sW this hp1
theorem Q3.up_: ∀ (k a:Nat) (f:Nat→eI),a≤k→a<l→Q3 f l a→Q3 (up k f a).1 l (up k f a).2∧((up k f a).2=0∨okD (up k f a).1 (up k f a).2)
 | 0,a,f,hk,_,h=>by
  obtain rfl:a=0:=ai;exact⟨h,.inl rfl⟩
 | k+1,a,f,hk,ha,h=>by
  by_cases hc:0<a∧iT f a ((a - 1) / 2)=true
  ·rw[NA hc.1 hc.2];exact Q3.up_ k _ _ ai ai (h.step ha hc.1 hc.2)
  have hs:a=0∨iT f a ((a - 1) / 2)=false:=by
   rcases Nat.eq_zero_or_pos a with h1|h1
   ·exact .inl h1
   right;cases hh:iT f a ((a - 1) / 2)with
   | false=>rfl
   | true=>exact absurd ⟨h1,hh⟩ hc
  rw[Ex hs];exact⟨h,hs⟩
theorem Q3.down{f:Nat→eI}(h:Q3 f l a)(fw:a=0∨okD f a): uh f l a:=
 ⟨fun i h1 h2 h3=>by
  by_cases e:i=a
  ·subst e;rcases fw with fw|fw;omega;exact fw
  exact h.rest i h1 h2 e h3,h.ak⟩
theorem xJ(f:Nat→eI)(l a:Nat): (pick f l a=a∨((pick f l a - 1) / 2=a∧0<pick f l a∧pick f l a<l∧zr (f (pick f l a)) (f a)=true))∧∀ i,0<i→i<l→(i - 1) / 2=a→zr (f i) (f (pick f l a))=false:=by
 have VM: ∀ x,zr x x=false:=fun x=>by rw[vK];omega
 have e2:pick f l a=if 2*a+2<l∧iT f (2*a+2) (pk f l a 1)=true then 2*a+2 else pk f l a 1:=rfl
 have e1:pk f l a 1=if 2*a+1<l∧iT f (2*a+1) a=true then 2*a+1 else a:=rfl
 have hi: ∀ i,0<i→(i - 1) / 2=a→i=2*a+1∨i=2*a+2:=fun i h1 h2=>ai
 by_cases c1:2*a+1<l∧iT f (2*a+1) a=true
 ·rw[if_pos c1] at e1;rw[e1] at e2;have c1':zr (f (2*a+1)) (f a)=true:=c1.2;by_cases c2:2*a+2<l∧iT f (2*a+2) (2*a+1)=true
  ·rw[if_pos c2] at e2;have c2':zr (f (2*a+2)) (f (2*a+1))=true:=c2.2;rw[e2];refine⟨.inr ⟨ai,ai,c2.1,?_⟩,fun i h1 h2 h3=>?_⟩
   ·rw[FA] at c1' c2' ⊢;omega
   rcases hi i h1 h3 with rfl|rfl
   ·exact xM c2'
   exact VM _
  rw[if_neg c2] at e2;rw[e2];refine⟨.inr ⟨ai,ai,c1.1,c1'⟩,fun i h1 h2 h3=>?_⟩;rcases hi i h1 h3 with rfl|rfl
  ·exact VM _
  cases hh:zr (f (2*a+2)) (f (2*a+1))with
  | false=>rfl
  | true=>exact absurd ⟨h2,hh⟩ c2
 rw[if_neg c1] at e1;rw[e1] at e2;have n1:2*a+1<l→zr (f (2*a+1)) (f a)=false:=fun hl=>by
  cases hh:zr (f (2*a+1)) (f a)with
  | false=>rfl
  | true=>exact absurd ⟨hl,hh⟩ c1
 by_cases c2:2*a+2<l∧iT f (2*a+2) a=true
 ·rw[if_pos c2] at e2;have c2':zr (f (2*a+2)) (f a)=true:=c2.2;rw[e2];refine⟨.inr ⟨ai,ai,c2.1,c2'⟩,fun i h1 h2 h3=>?_⟩;rcases hi i h1 h3 with rfl|rfl
  ·exact sW (n1 h2) (xM c2')
  exact VM _
 rw[if_neg c2] at e2;rw[e2];refine⟨.inl rfl,fun i h1 h2 h3=>?_⟩;rcases hi i h1 h3 with rfl|rfl
 ·exact n1 h2
 cases hh:zr (f (2*a+2)) (f a)with
 | false=>rfl
 | true=>exact absurd ⟨h2,hh⟩ c2
theorem uh.stop{f:Nat→eI}(h:uh f l a)(hp:pick f l a=a): Ordered f l:=fun i h1 h2=>by
 by_cases e:(i - 1) / 2=a
 ·have:=(xJ f l a).2 i h1 h2 e;rw[hp] at this;unfold okD;rw[e];exact this
 exact h.rest i h1 h2 e
theorem uh.step{f:Nat→eI}(h:uh f l a)(hp:pick f l a≠a): uh (cQ f a (pick f l a)) l (pick f l a):=by
 obtain⟨h5,h6⟩:=xJ f l a;obtain⟨m,hm⟩:=ae (pick f l a);rw[hm] at h5 h6 hp ⊢;rcases h5 with h5|⟨e,m0,ml,mlt⟩
 ·exact absurd h5 hp
 refine⟨fun i h1 h2 h3=>?_,fun i h1 h2 h3 h4=>?_⟩
 ·unfold okD;by_cases QM:i=a
  ·subst QM;have h7:(i - 1) / 2≠i∧(i - 1) / 2≠m:=⟨ai,h3⟩;rw[vz,iA f h7.1 h7.2];exact h.ak m m0 ml e h1
  by_cases Z':(i - 1) / 2=a
  ·rw[Z',vz];by_cases RV:i=m
   ·subst RV;rw[NR];exact xM mlt
   rw[iA f QM RV];exact h6 i h1 h2 Z'
  have RV:i≠m:=fun e'=>Z' (by rw[e'];exact e)
  rw[iA f QM RV,iA f Z' h3];exact h.rest i h1 h2 Z'
 have QM:i≠a:=ai;have RV:i≠m:=ai;rw[e,vz,iA f QM RV];have:=h.rest i h1 h2 ai;unfold okD at this;rw[h3] at this;exact this
theorem uh.acY: ∀ (k a:Nat) (f:Nat→eI),l - a≤k→a<l→uh f l a→Ordered (down l k f a) l
 | 0,a,f,hk,ha,_=>ai
 | k+1,a,f,hk,ha,h=>by
  by_cases hp:pick f l a=a
  ·rw[xU hp];exact h.stop hp
  rw[xV hp];have h1:=(xJ f l a).1;rcases h1 with h1|⟨h1,h2,h3,_⟩
  ·exact absurd h1 hp
  exact uh.acY k _ _ ai h3 (h.step hp)
theorem rT{f:Nat→eI}(h:Q3 f l a)(ha:a<l): Ordered (gp f l a) l:=by
 obtain⟨h1,h2⟩:=Q3.up_ a a f (Nat.le_refl _) ha h;exact uh.acY l _ _ ai (SC l a a f ha) (h1.down h2)
theorem Ordered.least{f:Nat→eI}(h:Ordered f l): ∀ i,i<l→zr (f i) (f 0)=false:=by
 intro i
 induction i using Nat.strongRecOn with
 | ind i ih=>
  intro hi;rcases Nat.eq_zero_or_pos i with h0|h0
  ·subst h0;rw[vK];omega
  exact sW (h i h0 hi) (ih ((i - 1) / 2) ai ai)
theorem Ordered.push{f:Nat→eI}(h:Ordered f l)(x:eI): Q3 (cK f l x) (l+1) l:=
 ⟨fun i h1 h2 h3 _=>by
  have:=h i h1 ai;unfold okD at this ⊢;rw[bn f x h3,bn f x ai];exact this,fun i h1 h2 h3 h4=>ai⟩
theorem Ordered.take{f:Nat→eI}(h:Ordered f (l+1))(ha:a<l): Q3 (cQ f a l) l a:=by
 refine⟨fun i h1 h2 h3 h4=>?_,fun i h1 h2 h3 h4=>?_⟩
 ·unfold okD;rw[iA f h3 ai,iA f h4 ai];exact h i h1 ai
 rw[iA f ai ai,iA f ai ai];have a1:=h i h1 ai;have a2:=h a h4 ai;unfold okD at a1 a2;rw[h3] at a1;exact sW a1 a2
end Hp
end
section
namespace Hp
def In(f:Nat→eI)(l:Nat)(x:eI): Prop:=∃ i,i<l∧f i=x
variable{l a:Nat}
theorem FE{f:Nat→eI}{i k:Nat} (hi:i<l)(hk:k<l)(x:eI): In (cQ f i k) l x↔In f l x:=by
 constructor
 ·rintro⟨j,hj,rfl⟩;unfold cQ;by_cases h1:j=i
  ·rw[if_pos h1];exact⟨k,hk,rfl⟩
  rw[if_neg h1];by_cases h2:j=k
  ·rw[if_pos h2];exact⟨i,hi,rfl⟩
  rw[if_neg h2];exact⟨j,hj,rfl⟩
 rintro⟨j,hj,rfl⟩;by_cases h1:j=i
 ·subst h1;by_cases h2:j=k
  ·subst h2;exact⟨j,hj,by unfold cQ;rw[if_pos rfl]⟩
  exact⟨k,hk,by unfold cQ;rw[if_neg (fun e=>h2 e.symm),if_pos rfl]⟩
 by_cases h2:j=k
 ·subst h2;exact⟨i,hi,by unfold cQ;rw[if_pos rfl]⟩
 exact⟨j,hj,by unfold cQ;rw[if_neg h1,if_neg h2]⟩
theorem acO(x:eI): ∀ (k a:Nat) (f:Nat→eI),a<l→(In (up k f a).1 l x↔In f l x)
 | 0,_,_,_=>zS
 | k+1,a,f,ha=>by
  rw[up];split
  ·rename_i h;rw[acO x k _ _ ai,FE ha ai]
  exact zS
theorem Oy(x:eI): ∀ (k a:Nat) (f:Nat→eI),a<l→(In (down l k f a) l x↔In f l x)
 | 0,_,_,_=>zS
 | k+1,a,f,ha=>by
  rw[down];split
  ·exact zS
  have hp:pick f l a<l:=N9 ha 2;rw[Oy x k _ _ hp,FE ha hp]
theorem DG{f:Nat→eI}(ha:a<l)(x:eI): In (gp f l a) l x↔In f l x:=by
 unfold gp;rw[Oy x l _ _ (SC l a a f ha),acO x a a f ha]
theorem FF{f:Nat→eI}(y x:eI): In (gp (cK f l y) (l+1) l) (l+1) x↔In f l x∨x=y:=by
 rw[DG ai];constructor
 ·rintro⟨i,hi,rfl⟩;by_cases h:i=l
  ·subst h;exact .inr (bL _ _ _)
  rw[bn _ _ h];exact .inl ⟨i,ai,rfl⟩
 rintro(⟨i,hi,rfl⟩|rfl)
 ·exact⟨i,ai,bn _ _ ai⟩
 exact⟨l,ai,bL _ _ _⟩
def rS(f:Nat→eI)(l a:Nat): Nat→eI:=if a=l then f else gp (cQ f a l) l a
theorem ZX{f:Nat→eI}(ha:a≤l)(V4: ∀ i j,i<l+1→j<l+1→(f i).bf=(f j).bf→i=j)(x:eI): In (rS f l a) l x↔In f (l+1) x∧x≠f a:=by
 unfold rS;by_cases h:a=l
 ·subst h;rw[if_pos rfl];constructor
  ·rintro⟨i,hi,rfl⟩;exact⟨⟨i,ai,rfl⟩,fun e=>by have:=V4 i a ai ai mA;omega⟩
  rintro⟨⟨i,hi,rfl⟩,hne⟩;exact⟨i,by have:i≠a:=fun e=>hne mA;omega,rfl⟩
 rw[if_neg h,DG ai];have hs:In (cQ f a l) (l+1) x↔In f (l+1) x:=FE ai ai x;constructor
 ·rintro⟨i,hi,e⟩;refine⟨hs.1 ⟨i,ai,e⟩,fun e2=>?_⟩;rw[e2] at e;unfold cQ at e;by_cases h1:i=a
  ·rw[if_pos h1] at e;have:=V4 l a ai ai mA;omega
  rw[if_neg h1,if_neg ai] at e;exact h1 (V4 i a ai ai mA)
 rintro⟨h1,hne⟩;obtain⟨i,hi,e⟩:=hs.2 h1;refine⟨i,?_,e⟩;have:i≠l:=fun h2=>by
  subst h2;apply hne;rw[←e];unfold cQ;rw[if_neg (fun e=>h e.symm),if_pos rfl]
 omega
theorem Fe{f:Nat→eI}(h:Ordered f (l+1))(ha:a≤l): Ordered (rS f l a) l:=by
 unfold rS;by_cases e:a=l
 ·rw[if_pos e];exact fun i h1 h2=>h i h1 ai
 rw[if_neg e];exact rT (h.take ai) ai
theorem Fs{f:Nat→eI}(h:Ordered f l)(x:eI): Ordered (gp (cK f l x) (l+1) l) (l+1):=rT (h.push x) ai
end Hp
end
section
section
variable {α:Type}(key:α→Int)
def sI: List α→Prop
 | []=>True
 | x::l=>(∀ y∈l,key x<key y)∧sI l
variable {key}
theorem sI.rX: ∀ {l:List α},l.Pairwise (fun x y=>key x<key y)→sI key l
 | [],_=>trivial
 | x::l,h=>by
  rw[List.pairwise_cons] at h;exact⟨h.1,sI.rX h.2⟩
theorem sI.ext: ∀ {l m:List α},sI key l→sI key m→(∀ x,x∈l↔x∈m)→l=m
 | [],[],_,_,_=>rfl
 | [],y::m,_,_,h=>by have:=(h y).2 (jn ..);cases this
 | x::l,[],_,_,h=>by have:=(h x).1 (jn ..);cases this
 | x::l,y::m,hl,hm,h=>by
  have RR:x=y:=by
   rcases lZ.1 ((h x).1 (jn ..))with e|hx
   ·exact e
   rcases lZ.1 ((h y).2 (jn ..))with e|hy
   ·exact e.symm
   have h1:=hl.1 y hy;have h2:=hm.1 x hx;omega
  subst RR;rw[sI.ext hl.2 hm.2 fun z=>?_];constructor
  ·intro hz;rcases lZ.1 ((h z).1 (gz _ hz))with e|hz'
   ·subst e;have:=hl.1 z hz;omega
   exact hz'
  intro hz;rcases lZ.1 ((h z).2 (gz _ hz))with e|hz'
  ·subst e;have:=hm.1 z hz;omega
  exact hz'
