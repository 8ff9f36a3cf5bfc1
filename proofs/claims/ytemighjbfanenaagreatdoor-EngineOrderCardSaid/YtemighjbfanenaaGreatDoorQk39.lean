import Derived.Test.YtemighjbfanenaaGreatDoorQk38
import Derived.Test.YtemighjbfanenaaGreatDoorQk17
set_option linter.all false
set_option maxRecDepth 100000
set_option maxHeartbeats 16000000
namespace Go.Proofs.YtemighjbfanenaaGreatDoor
open RowKit
open Bk (dA)
open En (af7 bJ dB O2 Jz)
open Go.Ending renaming returned→jm
open Go.IntKind renaming wrap_i64→mM
open Go.Proofs.Tryz renaming underlying80→oU,prog→af
open RowKit.Below renaming refl→ar
section
namespace Rf
theorem oO(x n:Int)(hx: -9223372036854775808≤x∧x≤9223372036854775807)(hn:1≤n∧n≤1000000000)(w:World): Calls af 34 #[.int .i64 x,.int .i64 n] w fun e w'=>e= .returned (.int .i64 (x % n))∧w'=w:=by
 have h1: ¬n<1:=ai;have h0: ¬n=0:=ai;have h2:(n==0)=false:=beq_eq_false_iff_ne.2 h0;have hr:=Int.emod_nonneg x h0;have hl:=Int.emod_lt_of_pos x (by omega:0<n);have HR:=aa (show x.tmod n=x % n∨x.tmod n=x % n - n∧x % n≠0 by
  rcases Int.le_total 0 x with h|h
  ·exact .inl (Int.tmod_eq_emod_of_nonneg h)
  by_cases hz:x % n=0
  ·left;rw[Int.tmod_eq_emod];have:n ∣ x:=Int.dvd_of_emod_eq_zero hz;simp[this]
  right;refine⟨?_,hz⟩;rw[Int.tmod_eq_emod];have hnd: ¬n ∣ x:=fun hd=>hz (Int.emod_eq_zero_of_dvd hd)
  have hx0: ¬0≤x:=fun h5=>by
   have:x=0:=ai;exact hz (by rw[this];simp)
  have e:(n.natAbs:Int)=n:=Int.natAbs_of_nonneg ai;simp[hnd,hx0,e])
 obtain⟨r,Z7⟩:=ae (x % n);obtain⟨t,hte⟩:=ae (x.tmod n);rw[Z7] at hr hl HR ⊢;rw[hte] at HR;have HN:=aa hn;clear Z7 hx;by_cases ht:t<0
 ·have HF:=aa (show wrap64 (t+n)=r by have:=HR.o;have:=HN.o;unfold wrap64;omega);go_enter Tryz.func34,Tryz.ntmps34;go_wp2_with fail;go_ret;exact⟨by rw[HF.o];rfl,rfl⟩
 have HF:=aa (show t=r by have:=HR.o;have:=HN.o;omega);go_enter Tryz.func34,Tryz.ntmps34;go_wp2_with fail;go_ret;exact⟨by rw[HF.o];rfl,rfl⟩
def Fh(n:Int): Nat × Nat × Nat:=((1+(n % 384) % 12).toNat,(1+(n % 384) / 12 % 8).toNat,(1+(n % 384) / 96).toNat)
theorem Ue(n:Int): (1≤(Fh n).1∧(Fh n).1≤12)∧(1≤(Fh n).2.1∧(Fh n).2.1≤8)∧1≤(Fh n).2.2∧(Fh n).2.2≤4:=by
 unfold Fh;simp only;omega
theorem fT(n:Int)(hn: -9223372036854775808≤n∧n≤9223372036854775807)(w:World): Calls af 42 #[.int .i64 n] w fun e w'=>e= .returned (.agg #[.int .i64 (Fh n).1,.int .i64 (Fh n).2.1,.int .i64 (Fh n).2.2])∧Below w.heap.size w w':=by
 obtain⟨xs,CV⟩:=ae w.heap.size;obtain⟨w1,a8⟩:=ae (w.alloc (.cells #[.int .i64 0,.int .i64 0,.int .i64 0] 80));have dF:=aa (aJ a8 CV);have bA:=aa (aK a8);have HX:=aa CV;have HP:=aa (oO n 384 hn ai);obtain⟨m,hm⟩: ∃ m:Nat,n % 384=(m:Int):=⟨(n % 384).toNat,ai⟩;have Jb:m<384:=ai;have HM:=aa hm;rw[hm] at HP;clear hm hn;go_enter Tryz.func42,Tryz.ntmps42;go_wp2_with fail;refine ag (HP.o w1) ?_;go_wp2_with (refine aj rfl 80 _ _ rfl xs 80 _ #[.int .i64 (1+(m:Int) % 12),.int .i64 (1+(m:Int) / 12 % 8),.int .i64 (1+(m:Int) / 96)] dF.o rfl rfl rfl dA AA ?_;intro w4 oa hg4 tL;have pB:=aa oa;have gj:=aa (show Below w.heap.size w w4 from br bA.o hg4 (Nat.le_of_eq HX.o));clear oa hg4 tL);exact bodyPost_ret (dy Tryz.results42 _ iI (aL 80 pB.o _ oU rfl dA)) rfl ⟨by
  have h:=HM.o;unfold Fh;simp only[h];congr 4 <;>omega,gj.o⟩
def Gj(n s:Nat)(w:World)(e:Ending)(w':World): Prop:=∃ p m k S,e= .returned (.tuple #[.pointer (some ⟨p,0,none⟩),.pointer (some ⟨m,0,none⟩),.bool true])∧dB p ⟨Jz n s,false,-1,0⟩ S w'∧(∀ j,S j→w.heap.size≤j∧j<m)∧aG w' m 235 (dv0 k)∧Pr w' m k n s∧Below w.heap.size w w'∧w.heap.size≤m
theorem RI(n:Nat)(wide:Bool)(hn:1≤n∧n≤64)(w:World): Calls af 45 #[.int .i64 n,.bool wide] w (Gj n (if wide then 128 else 64) w):=by
 have HP:=aa (oO ((n:Int) - 1) 64 ai ai);rw[show((n:Int) - 1) % 64=(n:Int) - 1 from ai] at HP;have hw0:IntKind.i64.wrap ((n:Int) - 1)=(n:Int) - 1:=by rw[mM];omega
 have a8:IntKind.i64.wrap (1+((n:Int) - 1))=(n:Int):=by rw[mM];omega
 have HN:=aa hn;have main: ∀ s:Nat,(s=64∨s=128)→s=(if wide then 128 else 64)→Calls af 45 #[.int .i64 n,.bool wide] w (Gj n s w):=fun s hs hsw=>by
  have HD:=aa (En.uQ n s (by have:=HN.o;omega) hs);have H5:=aa (aa0 n s (by have:=HN.o;omega) hs);have HSW:=aa (show(wide=true∧s=128)∨(wide=false∧s=64)by cases wide <;>simp_all);clear hn hs hsw;rcases HSW.o with⟨rfl,rfl⟩|⟨rfl,rfl⟩
  all_goals
   go_enter Tryz.func45,Tryz.ntmps45;go_wp2_with fail;refine ag (HP.o w) ?_;go_wp2_with fail;refine(HD.o w).mono ?_;rintro e w1 ⟨kp,S0,rfl,hK,hS0,hb1⟩;have HK:=aa hK;have HS0:=aa hS0;have bA:=aa hb1;clear hK hS0 hb1 HD;go_wp2_with fail;refine(O2 HK.o).mono ?_;rintro e w2 ⟨p,rfl,hD,hp,hb2⟩;have HDV:=aa hD;have cu:=bA.dQ hb2;clear hD hp hb2;go_wp2_with fail;refine(H5.o w2).mono ?_;rintro e w3 ⟨k,v,ad,cp,rfl,h5⟩;have H5D:=aa (h5.dkn HN.o.1);have dV:=aa h5.ak;have HKB:=aa h5.news;clear h5 H5;go_wp2_with fail;refine(aaZ H5D.o).mono ?_;rintro e w4 ⟨m,rfl,h6,hm,hb4⟩;have HF:=aa (show Gj n _ w (.returned (.tuple #[.pointer (some ⟨p,0,none⟩),.pointer (some ⟨m,0,none⟩),.bool true])) w4 from⟨p,m,k,_,rfl,(En.aF p _).ak HDV.o (av dV.o hb4),fun j hj=>by
    have V3:=(En.aF p _).lt HDV.o j hj;have hz:=dV.o.size;refine⟨?_,ai⟩;rcases hj with hj|hj
    ·exact HS0.o j hj
    have:=bA.o.size;omega,h6,⟨⟨_,_,_,h6⟩,H5D.o.ah hb4⟩,av (av cu.o dV.o) hb4,by have:=(av cu.o dV.o).size;omega⟩)
   clear h6 hm hb4;go_wp2_with fail;go_ret3;exact HF.o
 cases wide
 ·exact main 64 (.inl rfl) rfl
 exact main 128 (.inr rfl) rfl
end Rf
end
section
namespace Rf
theorem XI(r:Nat)(ep sq:Int)(w:World): Calls af 55 #[.pointer (some ⟨r,0,none⟩),.int .u64 ep,.int .u64 sq] w fun e w'=>∃ x,e= .returned (.pointer (some ⟨x,0,none⟩))∧aG w' x 248 #[.pointer (some ⟨r,0,none⟩),.int .u64 ep,.int .u64 sq,.slice none 0 0,.int .i64 0]∧w.heap.size≤x∧Below w.heap.size w w':=by
 have HF:=aa (show ∃ x,jm (.pointer (some ⟨w.heap.size,0,none⟩))= .returned (.pointer (some ⟨x,0,none⟩))∧aG (w.alloc (.cells #[.pointer (some ⟨r,0,none⟩),.int .u64 ep,.int .u64 sq,.slice none 0 0,.int .i64 0] 248)) x 248 #[.pointer (some ⟨r,0,none⟩),.int .u64 ep,.int .u64 sq,.slice none 0 0,.int .i64 0]∧w.heap.size≤x∧Below w.heap.size w (w.alloc (.cells #[.pointer (some ⟨r,0,none⟩),.int .u64 ep,.int .u64 sq,.slice none 0 0,.int .i64 0] 248))from⟨_,rfl,aG.fresh w _ _,Nat.le_refl _,ay (ar _ _) _⟩);go_enter Tryz.func55,Tryz.ntmps55;go_wp2_with fail;go_ret;exact HF.o
theorem Rb(l s b:Nat)(w:World): Calls af 54 #[.pointer (some ⟨l,0,none⟩),.pointer (some ⟨s,0,none⟩),.pointer (some ⟨b,0,none⟩)] w fun e w'=>∃ x,e= .returned (.pointer (some ⟨x,0,none⟩))∧aG w' x 200 #[.bool true,.pointer (some ⟨l,0,none⟩),.pointer (some ⟨s,0,none⟩),.pointer (some ⟨b,0,none⟩),.slice none 0 0]∧w.heap.size≤x∧Below w.heap.size w w':=by
 have HF:=aa (show ∃ x,jm (.pointer (some ⟨w.heap.size,0,none⟩))= .returned (.pointer (some ⟨x,0,none⟩))∧aG (w.alloc (.cells #[.bool true,.pointer (some ⟨l,0,none⟩),.pointer (some ⟨s,0,none⟩),.pointer (some ⟨b,0,none⟩),.slice none 0 0] 200)) x 200 #[.bool true,.pointer (some ⟨l,0,none⟩),.pointer (some ⟨s,0,none⟩),.pointer (some ⟨b,0,none⟩),.slice none 0 0]∧w.heap.size≤x∧Below w.heap.size w (w.alloc (.cells #[.bool true,.pointer (some ⟨l,0,none⟩),.pointer (some ⟨s,0,none⟩),.pointer (some ⟨b,0,none⟩),.slice none 0 0] 200))from⟨_,rfl,aG.fresh w _ _,Nat.le_refl _,ay (ar _ _) _⟩);go_enter Tryz.func54,Tryz.ntmps54;go_wp2_with fail;go_ret;exact HF.o
theorem RK(a b c:Nat)(h:(1≤a∧a≤1024)∧(1≤b∧b≤4096)∧1≤c∧c≤64)(w:World): Calls af 109 #[.agg #[.int .i64 a,.int .i64 b,.int .i64 c]] w fun e w'=>e= .returned (.int .i64 0)∧Below w.heap.size w w':=by
 have h1:decide ((a:Int)<1)=false:=gR;have h2:decide ((1024:Int)<a)=false:=gR;have h3:decide ((b:Int)<1)=false:=gR;have h4:decide ((4096:Int)<b)=false:=gR;have h5:decide ((c:Int)<1)=false:=gR;have h6:decide ((64:Int)<c)=false:=gR;go_enter Tryz.func109,Tryz.ntmps109;go_wp2_with fail;go_ret;exact⟨rfl,ay (ar _ _) _⟩
theorem XG(a b c:Nat)(h:(1≤a∧a≤1024)∧(1≤b∧b≤4096)∧1≤c∧c≤64)(w:World): Calls af 53 #[.agg #[.int .i64 a,.int .i64 b,.int .i64 c]] w fun e w'=>∃ x,e= .returned (.tuple #[.pointer (some ⟨x,0,none⟩),.int .i64 0])∧aG w' x 245 #[.bool true,.int .i64 a,.int .i64 b,.int .i64 c,.slice none 0 0,.int .u32 1,.int .i64 0]∧w.heap.size≤x∧Below w.heap.size w w':=by
 obtain⟨xs,CV⟩:=ae w.heap.size;obtain⟨w1,a8⟩:=ae (w.alloc (.cells #[.int .i64 a,.int .i64 b,.int .i64 c] 80));have dF:=aa (aJ a8 CV);have bA:=aa (aK a8);have HC:=aa (RK a b c h);clear h;go_enter Tryz.func53,Tryz.ntmps53;go_wp2_with (refine aC rfl 80 _ rfl xs 80 _ dF.o rfl _ oU rfl dA ?_);refine(HC.o w1).mono ?_;rintro e w2 ⟨rfl,hb2⟩;have jB:=dF.jC hb2;have cu:=bA.dQ hb2;clear hb2;have HF:=aa (show ∃ x,jm (.tuple #[.pointer (some ⟨w2.heap.size,0,none⟩),.int .i64 0])= .returned (.tuple #[.pointer (some ⟨x,0,none⟩),.int .i64 0])∧aG (w2.alloc (.cells #[.bool true,.int .i64 a,.int .i64 b,.int .i64 c,.slice none 0 0,.int .u32 1,.int .i64 0] 245)) x 245 #[.bool true,.int .i64 a,.int .i64 b,.int .i64 c,.slice none 0 0,.int .u32 1,.int .i64 0]∧w.heap.size≤x∧Below w.heap.size w (w2.alloc (.cells #[.bool true,.int .i64 a,.int .i64 b,.int .i64 c,.slice none 0 0,.int .u32 1,.int .i64 0] 245))from⟨_,rfl,aG.fresh w2 _ _,cu.o.size,ay cu.o _⟩);go_wp2_with (refine aC rfl 80 _ rfl xs 80 _ jB.o rfl _ oU rfl dA ?_);go_ret2;exact HF.o
