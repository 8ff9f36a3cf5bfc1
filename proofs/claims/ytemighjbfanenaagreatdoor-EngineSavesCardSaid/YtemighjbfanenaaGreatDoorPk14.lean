import Derived.Test.YtemighjbfanenaaGreatDoorPk1
set_option linter.all false
set_option maxRecDepth 100000
set_option maxHeartbeats 16000000
namespace Go.Proofs.YtemighjbfanenaaGreatDoor
open RowKit
open Iff renaming rfl→Ap
open List renaming mem_cons_of_mem→gv,mem_cons_self→jl,mem_cons→lT
section
namespace Hp
def zO(x y:eJ): Bool:=r8 x y||(!r8 y x && decide (x.bc<y.bc))
theorem FT(x y:eJ): zO x y=true↔x.aS<y.aS∨x.aS=y.aS∧(x.id<y.id∨x.id=y.id∧x.bc<y.bc):=by
 simp only[zO,r8,Bool.or_eq_true,Bool.and_eq_true,Bool.not_eq_true',Bool.or_eq_false_iff,Bool.and_eq_false_iff,decide_eq_true_eq,decide_eq_false_iff_not,beq_iff_eq,beq_eq_false_iff_ne];constructor
 ·rintro((h|h)|⟨⟨h1,h2⟩,h3⟩) <;>omega
 omega
theorem vU(x y:eJ): zO x y=false↔¬(x.aS<y.aS∨x.aS=y.aS∧(x.id<y.id∨x.id=y.id∧x.bc<y.bc)):=by rw[←FT];simp
variable{l a:Nat}
theorem th{x y z:eJ}(h1:zO x y=false)(h2:zO y z=false): zO x z=false:=by rw[vU] at *;omega
theorem xY{x y:eJ}(h:zO x y=true): zO y x=false:=by rw[FT] at h;rw[vU];omega
def okD(f:Nat→eJ)(i:Nat): Prop:=zO (f i) (f ((i - 1) / 2))=false
def Ordered(f:Nat→eJ)(l:Nat): Prop:=∀ i,0<i→i<l→okD f i
structure Rm(f:Nat→eJ)(l a:Nat): Prop where
 rest: ∀ i,0<i→i<l→i≠a→(i - 1) / 2≠a→okD f i
 ak: ∀ i,0<i→i<l→(i - 1) / 2=a→0<a→zO (f i) (f ((a - 1) / 2))=false
structure um(f:Nat→eJ)(l a:Nat): Prop where
 rest: ∀ i,0<i→i<l→(i - 1) / 2≠a→okD f i
 ak: ∀ i,0<i→i<l→(i - 1) / 2=a→0<a→zO (f i) (f ((a - 1) / 2))=false
theorem vI(f:Nat→eJ)(i k:Nat): cN f i k i=f k:=by simp[cN]
theorem Ob(f:Nat→eJ)(i k:Nat): cN f i k k=f i:=by
 by_cases h:k=i
 ·subst h;simp[cN]
 simp[cN,h]
theorem iG(f:Nat→eJ){i k j:Nat}(h1:j≠i)(h2:j≠k): cN f i k j=f j:=by simp[cN,h1,h2]
theorem Rm.step{f:Nat→eJ}(h:Rm f l a)(ha:a<l)(h0:0<a)(hlt:zO (f a) (f ((a - 1) / 2))=true): Rm (cN f a ((a - 1) / 2)) l ((a - 1) / 2):=by
 obtain⟨p,hp⟩:=ae ((a - 1) / 2);rw[hp] at hlt ⊢;have Jy:p<a:=aj;refine⟨fun i h1 h2 h3 h4=>?_,fun i h1 h2 h3 h4=>?_⟩
 ·have Q0:i≠a:=fun e=>h4 (by rw[e];exact hp)
  unfold okD;by_cases h5:(i - 1) / 2=a
  ·rw[h5,vI,iG f Q0 h3,←hp];exact h.ak i h1 h2 h5 h0
  rw[iG f Q0 h3,iG f h5 h4];exact h.rest i h1 h2 Q0 h5
 have hpp:(p - 1) / 2≠a∧(p - 1) / 2≠p:=aj;rw[iG f hpp.1 hpp.2];have hp1:zO (f p) (f ((p - 1) / 2))=false:=h.rest p h4 aj aj aj;by_cases Q0:i=a
 ·subst Q0;rw[vI];exact hp1
 have hip:i≠p:=aj;rw[iG f Q0 hip];have:=h.rest i h1 h2 Q0 aj;unfold okD at this;rw[h3] at this;exact th this hp1
theorem Rm.up_: ∀ (k a:Nat) (f:Nat→eJ),a≤k→a<l→Rm f l a→Rm (up k f a).1 l (up k f a).2∧((up k f a).2=0∨okD (up k f a).1 (up k f a).2)
 | 0,a,f,hk,_,h=>by
  obtain rfl:a=0:=aj;exact⟨h,.inl rfl⟩
 | k+1,a,f,hk,ha,h=>by
  by_cases hc:0<a∧iR f a ((a - 1) / 2)=true
  ·rw[NS hc.1 hc.2];exact Rm.up_ k _ _ aj aj (h.step ha hc.1 hc.2)
  have hs:a=0∨iR f a ((a - 1) / 2)=false:=by
   rcases Nat.eq_zero_or_pos a with h1|h1
   ·exact .inl h1
   right;cases hh:iR f a ((a - 1) / 2)with
   | false=>rfl
   | true=>exact absurd ⟨h1,hh⟩ hc
  rw[EO hs];exact⟨h,hs⟩
theorem Rm.down{f:Nat→eJ}(h:Rm f l a)(fq:a=0∨okD f a): um f l a:=
 ⟨fun i h1 h2 h3=>by
  by_cases e:i=a
  ·subst e;rcases fq with fq|fq;omega;exact fq
  exact h.rest i h1 h2 e h3,h.ak⟩
theorem xT(f:Nat→eJ)(l a:Nat): (pick f l a=a∨((pick f l a - 1) / 2=a∧0<pick f l a∧pick f l a<l∧zO (f (pick f l a)) (f a)=true))∧∀ i,0<i→i<l→(i - 1) / 2=a→zO (f i) (f (pick f l a))=false:=by
 have VU: ∀ x,zO x x=false:=fun x=>by rw[vU];omega
 have e2:pick f l a=if 2*a+2<l∧iR f (2*a+2) (pk f l a 1)=true then 2*a+2 else pk f l a 1:=rfl
 have e1:pk f l a 1=if 2*a+1<l∧iR f (2*a+1) a=true then 2*a+1 else a:=rfl
 have hi: ∀ i,0<i→(i - 1) / 2=a→i=2*a+1∨i=2*a+2:=fun i h1 h2=>aj
 by_cases c1:2*a+1<l∧iR f (2*a+1) a=true
 ·rw[if_pos c1] at e1;rw[e1] at e2;have c1':zO (f (2*a+1)) (f a)=true:=c1.2;by_cases c2:2*a+2<l∧iR f (2*a+2) (2*a+1)=true
  ·rw[if_pos c2] at e2;have c2':zO (f (2*a+2)) (f (2*a+1))=true:=c2.2;rw[e2];refine⟨.inr ⟨aj,aj,c2.1,?_⟩,fun i h1 h2 h3=>?_⟩
   ·rw[FT] at c1' c2' ⊢;omega
   rcases hi i h1 h3 with rfl|rfl
   ·exact xY c2'
   exact VU _
  rw[if_neg c2] at e2;rw[e2];refine⟨.inr ⟨aj,aj,c1.1,c1'⟩,fun i h1 h2 h3=>?_⟩;rcases hi i h1 h3 with rfl|rfl
  ·exact VU _
  cases hh:zO (f (2*a+2)) (f (2*a+1))with
  | false=>rfl
  | true=>exact absurd ⟨h2,hh⟩ c2
 rw[if_neg c1] at e1;rw[e1] at e2;have n1:2*a+1<l→zO (f (2*a+1)) (f a)=false:=fun hl=>by
  cases hh:zO (f (2*a+1)) (f a)with
  | false=>rfl
  | true=>exact absurd ⟨hl,hh⟩ c1
 by_cases c2:2*a+2<l∧iR f (2*a+2) a=true
 ·rw[if_pos c2] at e2;have c2':zO (f (2*a+2)) (f a)=true:=c2.2;rw[e2];refine⟨.inr ⟨aj,aj,c2.1,c2'⟩,fun i h1 h2 h3=>?_⟩;rcases hi i h1 h3 with rfl|rfl
  ·exact th (n1 h2) (xY c2')
  exact VU _
 rw[if_neg c2] at e2;rw[e2];refine⟨.inl rfl,fun i h1 h2 h3=>?_⟩;rcases hi i h1 h3 with rfl|rfl
 ·exact n1 h2
 cases hh:zO (f (2*a+2)) (f a)with
 | false=>rfl
 | true=>exact absurd ⟨h2,hh⟩ c2
theorem um.stop{f:Nat→eJ}(h:um f l a)(hp:pick f l a=a): Ordered f l:=fun i h1 h2=>by
 by_cases e:(i - 1) / 2=a
 ·have:=(xT f l a).2 i h1 h2 e;rw[hp] at this;unfold okD;rw[e];exact this
 exact h.rest i h1 h2 e
theorem um.step{f:Nat→eJ}(h:um f l a)(hp:pick f l a≠a): um (cN f a (pick f l a)) l (pick f l a):=by
 obtain⟨h5,h6⟩:=xT f l a;obtain⟨m,hm⟩:=ae (pick f l a);rw[hm] at h5 h6 hp ⊢;rcases h5 with h5|⟨e,m0,ml,mlt⟩
 ·exact absurd h5 hp
 refine⟨fun i h1 h2 h3=>?_,fun i h1 h2 h3 h4=>?_⟩
 ·unfold okD;by_cases Q0:i=a
  ·subst Q0;have h7:(i - 1) / 2≠i∧(i - 1) / 2≠m:=⟨aj,h3⟩;rw[vI,iG f h7.1 h7.2];exact h.ak m m0 ml e h1
  by_cases Jy:(i - 1) / 2=a
  ·rw[Jy,vI];by_cases R9:i=m
   ·subst R9;rw[Ob];exact xY mlt
   rw[iG f Q0 R9];exact h6 i h1 h2 Jy
  have R9:i≠m:=fun e'=>Jy (by rw[e'];exact e)
  rw[iG f Q0 R9,iG f Jy h3];exact h.rest i h1 h2 Jy
 have Q0:i≠a:=aj;have R9:i≠m:=aj;rw[e,vI,iG f Q0 R9];have:=h.rest i h1 h2 aj;unfold okD at this;rw[h3] at this;exact this
theorem um.ac7: ∀ (k a:Nat) (f:Nat→eJ),l - a≤k→a<l→um f l a→Ordered (down l k f a) l
 | 0,a,f,hk,ha,_=>aj
 | k+1,a,f,hk,ha,h=>by
  by_cases hp:pick f l a=a
  ·rw[yg hp];exact h.stop hp
  rw[yh hp];have h1:=(xT f l a).1;rcases h1 with h1|⟨h1,h2,h3,_⟩
  ·exact absurd h1 hp
  exact um.ac7 k _ _ aj h3 (h.step hp)
theorem rU{f:Nat→eJ}(h:Rm f l a)(ha:a<l): Ordered (gl f l a) l:=by
 obtain⟨h1,h2⟩:=Rm.up_ a a f (Nat.le_refl _) ha h;exact um.ac7 l _ _ aj (SS l a a f ha) (h1.down h2)
theorem Ordered.least{f:Nat→eJ}(h:Ordered f l): ∀ i,i<l→zO (f i) (f 0)=false:=by
 intro i
 induction i using Nat.strongRecOn with
 | ind i ih=>
  intro hi;rcases Nat.eq_zero_or_pos i with h0|h0
  ·subst h0;rw[vU];omega
  exact th (h i h0 hi) (ih ((i - 1) / 2) aj aj)
theorem Ordered.push{f:Nat→eJ}(h:Ordered f l)(x:eJ): Rm (cH f l x) (l+1) l:=
 ⟨fun i h1 h2 h3 _=>by
  have:=h i h1 aj;unfold okD at this ⊢;rw[bl f x h3,bl f x aj];exact this,fun i h1 h2 h3 h4=>aj⟩
theorem Ordered.take{f:Nat→eJ}(h:Ordered f (l+1))(ha:a<l): Rm (cN f a l) l a:=by
 refine⟨fun i h1 h2 h3 h4=>?_,fun i h1 h2 h3 h4=>?_⟩
 ·unfold okD;rw[iG f h3 aj,iG f h4 aj];exact h i h1 aj
 rw[iG f aj aj,iG f aj aj];have a1:=h i h1 aj;have a2:=h a h4 aj;unfold okD at a1 a2;rw[h3] at a1;exact th a1 a2
end Hp
end
section
namespace Hp
def In(f:Nat→eJ)(l:Nat)(x:eJ): Prop:=∃ i,i<l∧f i=x
variable{l a:Nat}
theorem FX{f:Nat→eJ}{i k:Nat} (hi:i<l)(hk:k<l)(x:eJ): In (cN f i k) l x↔In f l x:=by
 constructor
 ·rintro⟨j,hj,rfl⟩;unfold cN;by_cases h1:j=i
  ·rw[if_pos h1];exact⟨k,hk,rfl⟩
  rw[if_neg h1];by_cases h2:j=k
  ·rw[if_pos h2];exact⟨i,hi,rfl⟩
  rw[if_neg h2];exact⟨j,hj,rfl⟩
 rintro⟨j,hj,rfl⟩;by_cases h1:j=i
 ·subst h1;by_cases h2:j=k
  ·subst h2;exact⟨j,hj,by unfold cN;rw[if_pos rfl]⟩
  exact⟨k,hk,by unfold cN;rw[if_neg (fun e=>h2 e.symm),if_pos rfl]⟩
 by_cases h2:j=k
 ·subst h2;exact⟨i,hi,by unfold cN;rw[if_pos rfl]⟩
 exact⟨j,hj,by unfold cN;rw[if_neg h1,if_neg h2]⟩
theorem acX(x:eJ): ∀ (k a:Nat) (f:Nat→eJ),a<l→(In (up k f a).1 l x↔In f l x)
 | 0,_,_,_=>Ap
 | k+1,a,f,ha=>by
  rw[up];split
  ·rename_i h;rw[acX x k _ _ aj,FX ha aj]
  exact Ap
theorem OS(x:eJ): ∀ (k a:Nat) (f:Nat→eJ),a<l→(In (down l k f a) l x↔In f l x)
 | 0,_,_,_=>Ap
 | k+1,a,f,ha=>by
  rw[down];split
  ·exact Ap
  have hp:pick f l a<l:=Ou ha 2;rw[OS x k _ _ hp,FX ha hp]
theorem DY{f:Nat→eJ}(ha:a<l)(x:eJ): In (gl f l a) l x↔In f l x:=by
 unfold gl;rw[OS x l _ _ (SS l a a f ha),acX x a a f ha]
theorem FY{f:Nat→eJ}(y x:eJ): In (gl (cH f l y) (l+1) l) (l+1) x↔In f l x∨x=y:=by
 rw[DY aj];constructor
 ·rintro⟨i,hi,rfl⟩;by_cases h:i=l
  ·subst h;exact .inr (bM _ _ _)
  rw[bl _ _ h];exact .inl ⟨i,aj,rfl⟩
 rintro(⟨i,hi,rfl⟩|rfl)
 ·exact⟨i,aj,bl _ _ aj⟩
 exact⟨l,aj,bM _ _ _⟩
def rT(f:Nat→eJ)(l a:Nat): Nat→eJ:=if a=l then f else gl (cN f a l) l a
theorem Z7{f:Nat→eJ}(ha:a≤l)(Wh: ∀ i j,i<l+1→j<l+1→(f i).bc=(f j).bc→i=j)(x:eJ): In (rT f l a) l x↔In f (l+1) x∧x≠f a:=by
 unfold rT;by_cases h:a=l
 ·subst h;rw[if_pos rfl];constructor
  ·rintro⟨i,hi,rfl⟩;exact⟨⟨i,aj,rfl⟩,fun e=>by have:=Wh i a aj aj mm;omega⟩
  rintro⟨⟨i,hi,rfl⟩,hne⟩;exact⟨i,by have:i≠a:=fun e=>hne mm;omega,rfl⟩
 rw[if_neg h,DY aj];have hs:In (cN f a l) (l+1) x↔In f (l+1) x:=FX aj aj x;constructor
 ·rintro⟨i,hi,e⟩;refine⟨hs.1 ⟨i,aj,e⟩,fun e2=>?_⟩;rw[e2] at e;unfold cN at e;by_cases h1:i=a
  ·rw[if_pos h1] at e;have:=Wh l a aj aj mm;omega
  rw[if_neg h1,if_neg aj] at e;exact h1 (Wh i a aj aj mm)
 rintro⟨h1,hne⟩;obtain⟨i,hi,e⟩:=hs.2 h1;refine⟨i,?_,e⟩;have:i≠l:=fun h2=>by
  subst h2;apply hne;rw[←e];unfold cN;rw[if_neg (fun e=>h e.symm),if_pos rfl]
 omega
theorem Fy{f:Nat→eJ}(h:Ordered f (l+1))(ha:a≤l): Ordered (rT f l a) l:=by
 unfold rT;by_cases e:a=l
 ·rw[if_pos e];exact fun i h1 h2=>h i h1 aj
 rw[if_neg e];exact rU (h.take aj) aj
theorem FL{f:Nat→eJ}(h:Ordered f l)(x:eJ): Ordered (gl (cH f l x) (l+1) l) (l+1):=rU (h.push x) aj
end Hp
end
section
section
variable {α:Type}(key:α→Int)
def sM: List α→Prop
 | []=>True
 | x::l=>(∀ y∈l,key x<key y)∧sM l
variable {key}
theorem sM.rY: ∀ {l:List α},l.Pairwise (fun x y=>key x<key y)→sM key l
 | [],_=>trivial
 | x::l,h=>by
  rw[List.pairwise_cons] at h;exact⟨h.1,sM.rY h.2⟩
theorem sM.ext: ∀ {l m:List α},sM key l→sM key m→(∀ x,x∈l↔x∈m)→l=m
 | [],[],_,_,_=>rfl
 | [],y::m,_,_,h=>by have:=(h y).2 (jl ..);cases this
 | x::l,[],_,_,h=>by have:=(h x).1 (jl ..);cases this
 | x::l,y::m,hl,hm,h=>by
  have R6:x=y:=by
   rcases lT.1 ((h x).1 (jl ..))with e|hx
   ·exact e
   rcases lT.1 ((h y).2 (jl ..))with e|hy
   ·exact e.symm
   have h1:=hl.1 y hy;have h2:=hm.1 x hx;omega
  subst R6;rw[sM.ext hl.2 hm.2 fun z=>?_];constructor
  ·intro hz;rcases lT.1 ((h z).1 (gv _ hz))with e|hz'
   ·subst e;have:=hl.1 z hz;omega
   exact hz'
  intro hz;rcases lT.1 ((h z).2 (gv _ hz))with e|hz'
  ·subst e;have:=hm.1 z hz;omega
  exact hz'
