import Derived.Test.YtemighjbfanenaaGreatDoorQk35
set_option linter.all false
set_option maxRecDepth 100000
set_option maxHeartbeats 16000000
namespace Go.Proofs.YtemighjbfanenaaGreatDoor
open RowKit
open En (By Rq aH kZ sT dx cS)
open Oc (Bs fG aO dX bu le bG qV eT cM e8 val)
open Go.IntKind renaming u8→GB,wrap_u32→PA,wrap_u64→lN,u64→cU,wrap_u8→Gz
open Go.Proofs.Tryz renaming prog→af,underlying34→fM,underlying63→GA
open RowKit.Below renaming refl→ar
theorem yE{p:Prop}(h:p:=by
 clear h1 h2 h3;go_enter Tryz.func185,Tryz.ntmps185;go_wp2_with fail;refine ag (HHS.o w1) ?_;go_wp2_with fail;go_ret;exact⟨rfl,HB.o⟩):p:=h
theorem pI{p:Prop}(h:p:=by have:=wJ.o.lt;have:=tj.o;have:=kS.o;omega):p:=h
theorem pG{p:Prop}(h:p:=by have:=kS.o;have:=tj.o;omega):p:=h
theorem jo{p:Prop}(h:p:=by have:=kS.o;omega):p:=h
theorem pF{p:Prop}(h:p:=by rw[bu,bG]):p:=h
theorem rP{p:Prop}(h:p:=by rw[HE.o];simp[bG]):p:=h
theorem rN{p:Prop}(h:p:=by rw[uT.o];simp):p:=h
section
namespace Rf
def XF(n k:Nat)(w:World)(e:Ending)(w':World): Prop:=∃ A c,e= .returned (.slice A k c)∧w'.ownsRow w.heap.size 5 1 (.slice A k c) k (aO (le n k))∧Below w.heap.size w w'
theorem th(n k:Nat)(hn:n<18446744073709551616)(hk:k≤8)(w:World): Calls af 119 #[.int .u64 n,.int .i64 k] w (XF n k w):=by
 obtain⟨i0,hi,hz0,hz1,hz2⟩:=info_parts e8;obtain⟨B,hB⟩:=ae w.heap.size;have kS:=aa hB;go_enter Tryz.func119,Tryz.ntmps119;go_wp2_with fail;go_loopw [0,5,6] (fun v0 v5 v6 wr=>∃ (i:Nat) (A:Option Addr) (c:Nat),i≤k∧v6= .int .i64 i∧v0= .int .u64 (n / 256 ^ i:Nat)∧v5= .slice A i c∧wr.ownsRow B 5 1 (.slice A i c) i (aO (le n i))∧Below w.heap.size w wr) (fun _ _ v6 _=>(k - intOf v6).toNat)
 case atStart=>exact⟨0,none,0,Nat.zero_le _,rfl,dM,rfl,sV _ _ _ _,ar _ _⟩
 case round=>
  obtain⟨i,A,c,hik,rfl,rfl,rfl,ho,hb⟩:=hrel;by_cases h2:i<k
  ·have Y9:(i:Int)<(k:Int):=by omega
   obtain⟨x,hx⟩:=ae (n / 256 ^ i);have agI:x<18446744073709551616:=by rw[←hx];exact Nat.lt_of_le_of_lt (Nat.div_le_self _ _) hn
   have DL:x / 256=n / 256 ^ (i+1):=by rw[←hx,Nat.div_div_eq_div_mul,Nat.pow_succ]
   have hbt:aO (le n (i+1))=aO (le n i)++ [.int .u8 ((x % 256:Nat):Int)]:=by
    rw[le,dX,hx];simp[aO,fG]
   have hcv:GB.wrap ((x:Int) % 256)=(x:Int) % 256:=by rw[Gz];omega
   have akG:GB.wrap ((x % 256:Nat):Int)=((x % 256:Nat):Int):=by rw[Gz];omega
   have ak2:=aa agI;have F7:=aa DL;have HBT:=aa hbt;rw[hx];obtain⟨y,hy⟩:=ae (x % 256:Nat);obtain⟨w1,a8⟩:=ae (wr.alloc (.cells #[.int .u8 ((x % 256:Nat):Int)] 5));have hb1:=aK a8;have Q1:=aa (show w1.ownsRow B 5 1 (.slice A i c) i (aO (le n i))from fP ho hb1);have Q2:=aa (show ∀ (j:Nat) (u:Value),[Value.int .u8 ((x % 256:Nat):Int)][j]? =some u→w1.cell? ((⟨wr.heap.size,0,none⟩:Addr).add j)=some u by rw[←a8];exact cell_one_new wr _ _);have Q5:=aa (show B≤w1.heap.size from by have:=hb.size;have:=hb1.size;omega);have bA:=aa (av hb hb1);have al0:wr.alloc (.cells #[.int .u8 ((x:Int) % 256)] 5)=w1:=by rw[←a8];rfl
   clear ho hb hb1 hx agI DL hbt hy;go_wp2_with (refine wpList_append_own _ rfl (.tmp 12) (.tmp 16) 34 rfl B 5 i0 (.int .u8 0) 1 1 fM hi hz0 hz1 hz2 rfl aM (.slice A i c) i _ rfl Q1.o ⟨wr.heap.size,0,none⟩ 1 1 [.int .u8 ((x % 256:Nat):Int)] rfl rfl Q2.o EY jR ai Q5.o ?_;intro v' w2 jr hg2 px;obtain⟨A2,c2,rfl⟩:=cB jr;have HO2:=aa jr;have yc:=aa hg2;clear jr hg2 px);go_roundw
   case rel=>
    refine⟨i+1,A2,c2,ai,by go_num,?_,rfl,?_,?_⟩
    ·rw[←F7.o];congr 1;rw[lN];have:=ak2.o;omega
    ·rw[HBT.o];exact HO2.o
    exact iC bA.o Q1.o yc.o jo
   case measure=>simp[intOf];omega
  obtain rfl:i=k:=ai;have HF:=aa (show XF n i w (.returned (.slice A i c)) wr from⟨A,c,rfl,by rw[kS.o];exact ho,hb⟩);clear ho hb;go_wp2_with fail;go_ret;exact HF.o
theorem Nd(q:Rq)(hq:q.ry)(w:World): Calls af 185 #[.agg (cS q)] w fun e w'=>e= .returned (.int .i64 0)∧Below w.heap.size w w':=by
 have HHS:=aa (fun W=>pc q.ax W);have h1:=hq.idf;have h2:=hq.Iu;have h3:=hq.SI;obtain⟨b1,b2,b3,hb⟩: ∃ x y z,dx q.ax=(x,y,z):=⟨_,_,_,rfl⟩;rw[hb] at HHS h1 h2 h3;have k1:decide (q.ax<1)=false:=decide_eq_false (by have:=hq.good.ax;omega);have k2:decide ((10:Int)<q.ax)=false:=decide_eq_false (by have:=hq.good.ax;omega);have k3:decide (q.aw<0)=false:=decide_eq_false KQ;have k4:decide ((65535:Int)<q.aw)=false:=decide_eq_false KQ;have k5:decide (q.bV<0)=false:=decide_eq_false (by have:=hq.good.bV;omega);clear hb hq;obtain⟨xq,il⟩:=ae w.heap.size;obtain⟨w1,a8⟩:=ae (w.alloc (.cells (cS q) 41));have hA:=aJ a8 il;have HB:=aa (aK a8);have c0:w1.cell? ⟨xq,0,none⟩=some (.int .i64 q.ax):=hA.cell 0;have c2:w1.cell? ⟨xq,2,none⟩=some (.int .u32 q.id):=hA.cell 2;have c3:w1.cell? ⟨xq,3,none⟩=some (.int .i64 q.aw):=hA.cell 3;have c4:w1.cell? ⟨xq,4,none⟩=some (.int .i64 q.bV):=hA.cell 4;clear hA;cases b1 <;>cases b2 <;>cases b3
 ·have z1:(q.id==0)=true:=beq_iff_eq.2 (h1 rfl);have y1:(q.id != 0)=false:=by rw[h1 rfl];rfl
  have z2:(q.aw==0)=true:=beq_iff_eq.2 (h2 rfl);have y2:(q.aw != 0)=false:=by rw[h2 rfl];rfl
  have z3:(q.bV==0)=true:=beq_iff_eq.2 (h3 rfl);have y3:(q.bV != 0)=false:=by rw[h3 rfl];rfl
  exact yE
 ·have z1:(q.id==0)=true:=beq_iff_eq.2 (h1 rfl);have y1:(q.id != 0)=false:=by rw[h1 rfl];rfl
  have z2:(q.aw==0)=true:=beq_iff_eq.2 (h2 rfl);have y2:(q.aw != 0)=false:=by rw[h2 rfl];rfl
  exact yE
 ·have z1:(q.id==0)=true:=beq_iff_eq.2 (h1 rfl);have y1:(q.id != 0)=false:=by rw[h1 rfl];rfl
  have z3:(q.bV==0)=true:=beq_iff_eq.2 (h3 rfl);have y3:(q.bV != 0)=false:=by rw[h3 rfl];rfl
  exact yE
 ·have z1:(q.id==0)=true:=beq_iff_eq.2 (h1 rfl);have y1:(q.id != 0)=false:=by rw[h1 rfl];rfl
  exact yE
 ·have z2:(q.aw==0)=true:=beq_iff_eq.2 (h2 rfl);have y2:(q.aw != 0)=false:=by rw[h2 rfl];rfl
  have z3:(q.bV==0)=true:=beq_iff_eq.2 (h3 rfl);have y3:(q.bV != 0)=false:=by rw[h3 rfl];rfl
  exact yE
 ·have z2:(q.aw==0)=true:=beq_iff_eq.2 (h2 rfl);have y2:(q.aw != 0)=false:=by rw[h2 rfl];rfl
  exact yE
 ·have z3:(q.bV==0)=true:=beq_iff_eq.2 (h3 rfl);have y3:(q.bV != 0)=false:=by rw[h3 rfl];rfl
  exact yE
 exact yE
theorem jc{W:World}{B:Nat}{v:Value}{n m:Nat}{a b:By}(h:W.ownsRow B 5 1 v (n+m) (aO a++aO b)): W.ownsRow B 5 1 v (n+m) (aO (a++b)):=by rw[dX];exact h
theorem LN(w:World)(x:Value)(B:Nat)(hB:B≤w.heap.size)(hx:x.oneCell'=true): (w.alloc (.cells #[x] 5)).ownsRow B 5 1 (.slice (some ⟨w.heap.size,0,none⟩) 1 1) 1 [x]:=by refine⟨dM,.inr ⟨w.heap.size,1,#[x],rfl,hB,aG.fresh w _ _,aM,aM,rfl,rfl⟩⟩
def qJ(bs:By)(w:World)(e:Ending)(w':World): Prop:=∃ A c,e= .returned (.tuple #[.slice A bs.length c,.int .i64 0])∧w'.ownsRow w.heap.size 5 1 (.slice A bs.length c) bs.length (aO bs)∧Below w.heap.size w w'
theorem lC{W:World}{B:Nat}{A:Option Addr}{k c:Nat}{bs:By}(h:W.ownsRow B 5 1 (.slice A k c) k (aO bs))(hk:bs.length=k)(hp:0<k): ∃ g,A=some ⟨g,0,none⟩∧B≤g∧g<W.heap.size∧∀ j u,(aO bs)[j]? =some u→W.cell? ((⟨g,0,none⟩:Addr).add j)=some u:=by
 obtain⟨n,rfl⟩: ∃ n,k=n+1:=⟨k - 1,ai⟩;obtain⟨g,cap,hv⟩:=IC h;injection hv with e1 e2 e3
 subst e1;have hl:=eP h (g:=g) rfl;have hb:Bs W (some ⟨g,0,none⟩) bs:=Bs.own (by rw[←hk] at h;exact h);exact⟨g,rfl,hl.2,hl.1,fun j u hu=>hb.read j u hu⟩
theorem XA(q:Rq)(hq:q.ry)(w:World): Calls af 78 #[.agg (cS q)] w (qJ (kZ q) w):=by
 obtain⟨i0,hi,hz0,hz1,hz2⟩:=info_parts e8;have HHS:=aa (fun W=>pc q.ax W);have jz:=aa (fun W=>Nd q hq W);have DM:=hq.good.ax;have L5:=hq.good.tag;have hid:=hq.good.id;have hst:=hq.good.aw;have htt:=hq.good.bV;have hbg:=hq.WY;obtain⟨k,hk⟩: ∃ k:Nat,q.ax=k:=⟨q.ax.toNat,ai⟩;obtain⟨tg,ht⟩: ∃ i:Nat,q.tag=i:=⟨q.tag.toNat,ai⟩;obtain⟨id,hi2⟩: ∃ i:Nat,q.id=i:=⟨q.id.toNat,ai⟩;obtain⟨st,hs2⟩: ∃ i:Nat,q.aw=i:=⟨q.aw.toNat,ai⟩;obtain⟨tt,ud⟩: ∃ i:Nat,q.bV=i:=⟨q.bV.toNat,ai⟩;obtain⟨b1,b2,b3,hb⟩: ∃ x y z,dx q.ax=(x,y,z):=⟨_,_,_,rfl⟩;have uT:=aa (show kZ q=le k 1++le tg 4++(if b1=true then le id 4 else [])++(if b2=true then le st 2 else [])++(if b3=true then le tt 8 else [])from by unfold kZ;rw[hb,hk,ht,hi2,hs2,ud];rfl);rw[hb,hk] at HHS;have akr:k≤10:=ai;have LY:tg<4294967296:=ai;have aml:id<4294967296:=ai;have al4:st<65536:=ai;have al2:tt<9223372036854775808:=ai;have hc1:GB.wrap (k:Int)=(k:Int):=by rw[Gz];omega
 have hc2:cU.wrap (tg:Int)=(tg:Int):=ow;have hc3:cU.wrap (id:Int)=(id:Int):=ow;have Ks:cU.wrap (st:Int)=(st:Int):=ow;have FM:cU.wrap (tt:Int)=(tt:Int):=ow;have HN4:=aa (fun W=>th tg 4 ai ai W);have HNI:=aa (fun W=>th id 4 ai ai W);have oT:=aa (fun W=>th st 2 ai ai W);have HNT:=aa (fun W=>th tt 8 ai ai W);obtain⟨xq,il⟩:=ae w.heap.size;obtain⟨w1,a8⟩:=ae (w.alloc (.cells (cS q) 41));have vo:=aa (show aG w1 xq 41 #[.int .i64 (k:Int),.int .u32 (tg:Int),.int .u32 (id:Int),.int .i64 (st:Int),.int .i64 (tt:Int)] by rw[←a8,←il,←hk,←ht,←hi2,←hs2,←ud];exact aG.fresh w _ _);have bA:=aa (aK a8);have tj:=aa (show xq=w.heap.size from il.symm);have Cx:cS q= #[.int .i64 (k:Int),.int .u32 (tg:Int),.int .u32 (id:Int),.int .i64 (st:Int),.int .i64 (tt:Int)]:=by unfold cS;rw[hk,ht,hi2,hs2,ud]
 rw[Cx] at jz a8 ⊢;obtain⟨B,hB⟩:=ae (w.heap.size+1);have kS:=aa hB;clear DM L5 hid hst htt hbg hb hk ht hi2 hs2 ud hq Cx hB;go_enter Tryz.func78,Tryz.ntmps78;go_wp2_with (refine aC rfl 41 (.tmp 1) rfl xq 41 #[.int .i64 (k:Int),.int .u32 (tg:Int),.int .u32 (id:Int),.int .i64 (st:Int),.int .i64 (tt:Int)] vo.o rfl _ Tryz.underlying41 rfl aH ?_);clear a8 il;refine(jz.o w1).mono ?_;rintro e w2 ⟨rfl,hb⟩;have rH:=vo.jC hb;have cu:=bA.dQ hb;clear hb vo bA;have c0:=rH.o.cl 0;have c1:=rH.o.cl 1;go_wp2_with fail;refine ag (HHS.o w2) ?_;obtain⟨w3,hw3⟩:=ae (w2.alloc (.cells #[.int .u8 (k:Int)] 5));have hb3:=aK hw3;have jy:=rH.jC hb3;have dV:=cu.dQ hb3;have HO3:=aa (show w3.ownsRow B 5 1 (.slice (some ⟨w2.heap.size,0,none⟩) 1 1) 1 (aO (le k 1))from by
  have h9:aO (le k 1)= [.int .u8 (k:Int)]:=by simp[le,aO,fG];omega
  rw[h9,←hw3];exact LN w2 _ _ (by have:=rH.o.lt;have:=tj.o;have:=kS.o;omega) rfl)
 obtain⟨g2,hg2⟩:=ae w2.heap.size;rw[hg2] at HO3;have c1':=jy.o.cl 1;clear hb3;go_wp2_with fail;clear hw3 hg2 c0 c1 c1';have HQ:=jy;have HB:=dV;have HO:=HO3;clear rH cu jy dV HO3;refine(HN4.o w3).mono ?_;rintro e wn ⟨A',c',rfl,pS,hb⟩;obtain⟨g',rfl,kB,hg3,eh⟩:=lC pS (bG _ _) aM;have wJ:=aa (HQ.o.ah hb);have zh:=HB.dQ hb;have mK:=aa (fP HO.o hb);have mj:=aa eh;have mz:=aa (show B≤wn.heap.size from pI);clear pS hb kB hg3 eh HQ HB HO;go_upto_region 7 with(refine wpList_append_own _ rfl (.tmp 25) (.tmp 29) 34 rfl B 5 i0 (.int .u8 0) 1 1 fM hi hz0 hz1 hz2 rfl aM _ 1 _ rfl mK.o ⟨g',0,none⟩ 4 c' (aO (le tg 4)) rfl pF mj.o (Oc.bO _) jR ai mz.o ?_;intro v' w5 jr hg2 px;obtain⟨A2,c2,rfl⟩:=cB jr;have HO:=aa (jc jr);have HB:=aa (iC zh.o mK.o hg2 jo);have HQ:=aa (aG.app wJ.o mK.o hg2 pG);clear jr hg2 px)
 cases b1 <;>cases b2 <;>cases b3
 ·have HE:=aa (show kZ q=le k 1++le tg 4 from rN);have HF:=aa (show ∀ A c,w5.ownsRow B 5 1 (.slice A 5 c) 5 (aO (le k 1++le tg 4))→qJ (kZ q) w (.returned (.tuple #[.slice A 5 c,.int .i64 0])) w5 from fun A c h=>by
   have hl:(kZ q).length=5:=rP;refine⟨A,c,mB,?_,HB.o⟩;rw[hl,HE.o];exact fj h jo)
  go_wp2_with fail;go_ret2;exact HF.o _ _ HO.o
 ·have d4:w5.cell? ⟨xq,4,none⟩=some (.int .i64 (tt:Int)):=HQ.o.cell 4;go_wp2_with fail;clear d4;refine(HNT.o w5).mono ?_;rintro e wn ⟨A',c',rfl,pS,hb⟩;obtain⟨g',rfl,kB,hg3,eh⟩:=lC pS (bG _ _) aM;have wJ:=aa (HQ.o.ah hb);have zh:=HB.dQ hb;have mK:=aa (fP HO.o hb);have mj:=aa eh;have mz:=aa (show B≤wn.heap.size from pI);clear pS hb kB hg3 eh HQ HB HO;go_upto_region 13 with(refine wpList_append_own _ rfl (.tmp 46) (.tmp 50) 34 rfl B 5 i0 (.int .u8 0) 1 1 fM hi hz0 hz1 hz2 rfl aM _ 5 _ rfl mK.o ⟨g',0,none⟩ 8 c' (aO (le tt 8)) rfl pF mj.o (Oc.bO _) jR ai mz.o ?_;intro v' w6 jr hg2 px;obtain⟨A2,c2,rfl⟩:=cB jr;have HO:=aa (jc jr);have HB:=aa (iC zh.o mK.o hg2 jo);have HQ:=aa (aG.app wJ.o mK.o hg2 pG);clear jr hg2 px)
  have HE:=aa (show kZ q=le k 1++le tg 4++le tt 8 from rN);have HF:=aa (show ∀ A c,w6.ownsRow B 5 1 (.slice A 13 c) 13 (aO (le k 1++le tg 4++le tt 8))→qJ (kZ q) w (.returned (.tuple #[.slice A 13 c,.int .i64 0])) w6 from fun A c h=>by
   have hl:(kZ q).length=13:=rP;refine⟨A,c,mB,?_,HB.o⟩;rw[hl,HE.o];exact fj h jo)
  go_wp2_with fail;go_ret2;exact HF.o _ _ HO.o
 ·have d3:w5.cell? ⟨xq,3,none⟩=some (.int .i64 (st:Int)):=HQ.o.cell 3;go_wp2_with fail;clear d3;refine(oT.o w5).mono ?_;rintro e wn ⟨A',c',rfl,pS,hb⟩;obtain⟨g',rfl,kB,hg3,eh⟩:=lC pS (bG _ _) aM;have wJ:=aa (HQ.o.ah hb);have zh:=HB.dQ hb;have mK:=aa (fP HO.o hb);have mj:=aa eh;have mz:=aa (show B≤wn.heap.size from pI);clear pS hb kB hg3 eh HQ HB HO;go_upto_region 11 with(refine wpList_append_own _ rfl (.tmp 39) (.tmp 43) 34 rfl B 5 i0 (.int .u8 0) 1 1 fM hi hz0 hz1 hz2 rfl aM _ 5 _ rfl mK.o ⟨g',0,none⟩ 2 c' (aO (le st 2)) rfl pF mj.o (Oc.bO _) jR ai mz.o ?_;intro v' w6 jr hg2 px;obtain⟨A2,c2,rfl⟩:=cB jr;have HO:=aa (jc jr);have HB:=aa (iC zh.o mK.o hg2 jo);have HQ:=aa (aG.app wJ.o mK.o hg2 pG);clear jr hg2 px)
  have HE:=aa (show kZ q=le k 1++le tg 4++le st 2 from rN);have HF:=aa (show ∀ A c,w6.ownsRow B 5 1 (.slice A 7 c) 7 (aO (le k 1++le tg 4++le st 2))→qJ (kZ q) w (.returned (.tuple #[.slice A 7 c,.int .i64 0])) w6 from fun A c h=>by
   have hl:(kZ q).length=7:=rP;refine⟨A,c,mB,?_,HB.o⟩;rw[hl,HE.o];exact fj h jo)
  go_wp2_with fail;go_ret2;exact HF.o _ _ HO.o
 ·have d3:w5.cell? ⟨xq,3,none⟩=some (.int .i64 (st:Int)):=HQ.o.cell 3;go_wp2_with fail;clear d3;refine(oT.o w5).mono ?_;rintro e wn ⟨A',c',rfl,pS,hb⟩;obtain⟨g',rfl,kB,hg3,eh⟩:=lC pS (bG _ _) aM;have wJ:=aa (HQ.o.ah hb);have zh:=HB.dQ hb;have mK:=aa (fP HO.o hb);have mj:=aa eh;have mz:=aa (show B≤wn.heap.size from pI);clear pS hb kB hg3 eh HQ HB HO;go_upto_region 11 with(refine wpList_append_own _ rfl (.tmp 39) (.tmp 43) 34 rfl B 5 i0 (.int .u8 0) 1 1 fM hi hz0 hz1 hz2 rfl aM _ 5 _ rfl mK.o ⟨g',0,none⟩ 2 c' (aO (le st 2)) rfl pF mj.o (Oc.bO _) jR ai mz.o ?_;intro v' w6 jr hg2 px;obtain⟨A2,c2,rfl⟩:=cB jr;have HO:=aa (jc jr);have HB:=aa (iC zh.o mK.o hg2 jo);have HQ:=aa (aG.app wJ.o mK.o hg2 pG);clear jr hg2 px)
  have d4:=HQ.o.cl 4;go_wp2_with fail;clear d4;refine(HNT.o w6).mono ?_;rintro e wn ⟨A',c',rfl,pS,hb⟩;obtain⟨g',rfl,kB,hg3,eh⟩:=lC pS (bG _ _) aM;have wJ:=aa (HQ.o.ah hb);have zh:=HB.dQ hb;have mK:=aa (fP HO.o hb);have mj:=aa eh;have mz:=aa (show B≤wn.heap.size from pI);clear pS hb kB hg3 eh HQ HB HO;go_upto_region 13 with(refine wpList_append_own _ rfl (.tmp 46) (.tmp 50) 34 rfl B 5 i0 (.int .u8 0) 1 1 fM hi hz0 hz1 hz2 rfl aM _ 7 _ rfl mK.o ⟨g',0,none⟩ 8 c' (aO (le tt 8)) rfl pF mj.o (Oc.bO _) jR ai mz.o ?_;intro v' w7 jr hg2 px;obtain⟨A2,c2,rfl⟩:=cB jr;have HO:=aa (jc jr);have HB:=aa (iC zh.o mK.o hg2 jo);have HQ:=aa (aG.app wJ.o mK.o hg2 pG);clear jr hg2 px)
  have HE:=aa (show kZ q=le k 1++le tg 4++le st 2++le tt 8 from rN);have HF:=aa (show ∀ A c,w7.ownsRow B 5 1 (.slice A 15 c) 15 (aO (le k 1++le tg 4++le st 2++le tt 8))→qJ (kZ q) w (.returned (.tuple #[.slice A 15 c,.int .i64 0])) w7 from fun A c h=>by
   have hl:(kZ q).length=15:=rP;refine⟨A,c,mB,?_,HB.o⟩;rw[hl,HE.o];exact fj h jo)
  go_wp2_with fail;go_ret2;exact HF.o _ _ HO.o
 ·have d2:w5.cell? ⟨xq,2,none⟩=some (.int .u32 (id:Int)):=HQ.o.cell 2;go_wp2_with fail;clear d2;refine(HNI.o w5).mono ?_;rintro e wn ⟨A',c',rfl,pS,hb⟩;obtain⟨g',rfl,kB,hg3,eh⟩:=lC pS (bG _ _) aM;have wJ:=aa (HQ.o.ah hb);have zh:=HB.dQ hb;have mK:=aa (fP HO.o hb);have mj:=aa eh;have mz:=aa (show B≤wn.heap.size from pI);clear pS hb kB hg3 eh HQ HB HO;go_upto_region 9 with(refine wpList_append_own _ rfl (.tmp 32) (.tmp 36) 34 rfl B 5 i0 (.int .u8 0) 1 1 fM hi hz0 hz1 hz2 rfl aM _ 5 _ rfl mK.o ⟨g',0,none⟩ 4 c' (aO (le id 4)) rfl pF mj.o (Oc.bO _) jR ai mz.o ?_;intro v' w6 jr hg2 px;obtain⟨A2,c2,rfl⟩:=cB jr;have HO:=aa (jc jr);have HB:=aa (iC zh.o mK.o hg2 jo);have HQ:=aa (aG.app wJ.o mK.o hg2 pG);clear jr hg2 px)
  have HE:=aa (show kZ q=le k 1++le tg 4++le id 4 from rN);have HF:=aa (show ∀ A c,w6.ownsRow B 5 1 (.slice A 9 c) 9 (aO (le k 1++le tg 4++le id 4))→qJ (kZ q) w (.returned (.tuple #[.slice A 9 c,.int .i64 0])) w6 from fun A c h=>by
   have hl:(kZ q).length=9:=rP;refine⟨A,c,mB,?_,HB.o⟩;rw[hl,HE.o];exact fj h jo)
  go_wp2_with fail;go_ret2;exact HF.o _ _ HO.o
 ·have d2:w5.cell? ⟨xq,2,none⟩=some (.int .u32 (id:Int)):=HQ.o.cell 2;go_wp2_with fail;clear d2;refine(HNI.o w5).mono ?_;rintro e wn ⟨A',c',rfl,pS,hb⟩;obtain⟨g',rfl,kB,hg3,eh⟩:=lC pS (bG _ _) aM;have wJ:=aa (HQ.o.ah hb);have zh:=HB.dQ hb;have mK:=aa (fP HO.o hb);have mj:=aa eh;have mz:=aa (show B≤wn.heap.size from pI);clear pS hb kB hg3 eh HQ HB HO;go_upto_region 9 with(refine wpList_append_own _ rfl (.tmp 32) (.tmp 36) 34 rfl B 5 i0 (.int .u8 0) 1 1 fM hi hz0 hz1 hz2 rfl aM _ 5 _ rfl mK.o ⟨g',0,none⟩ 4 c' (aO (le id 4)) rfl pF mj.o (Oc.bO _) jR ai mz.o ?_;intro v' w6 jr hg2 px;obtain⟨A2,c2,rfl⟩:=cB jr;have HO:=aa (jc jr);have HB:=aa (iC zh.o mK.o hg2 jo);have HQ:=aa (aG.app wJ.o mK.o hg2 pG);clear jr hg2 px)
  have d4:=HQ.o.cl 4;go_wp2_with fail;clear d4;refine(HNT.o w6).mono ?_;rintro e wn ⟨A',c',rfl,pS,hb⟩;obtain⟨g',rfl,kB,hg3,eh⟩:=lC pS (bG _ _) aM;have wJ:=aa (HQ.o.ah hb);have zh:=HB.dQ hb;have mK:=aa (fP HO.o hb);have mj:=aa eh;have mz:=aa (show B≤wn.heap.size from pI);clear pS hb kB hg3 eh HQ HB HO;go_upto_region 13 with(refine wpList_append_own _ rfl (.tmp 46) (.tmp 50) 34 rfl B 5 i0 (.int .u8 0) 1 1 fM hi hz0 hz1 hz2 rfl aM _ 9 _ rfl mK.o ⟨g',0,none⟩ 8 c' (aO (le tt 8)) rfl pF mj.o (Oc.bO _) jR ai mz.o ?_;intro v' w7 jr hg2 px;obtain⟨A2,c2,rfl⟩:=cB jr;have HO:=aa (jc jr);have HB:=aa (iC zh.o mK.o hg2 jo);have HQ:=aa (aG.app wJ.o mK.o hg2 pG);clear jr hg2 px)
  have HE:=aa (show kZ q=le k 1++le tg 4++le id 4++le tt 8 from rN);have HF:=aa (show ∀ A c,w7.ownsRow B 5 1 (.slice A 17 c) 17 (aO (le k 1++le tg 4++le id 4++le tt 8))→qJ (kZ q) w (.returned (.tuple #[.slice A 17 c,.int .i64 0])) w7 from fun A c h=>by
   have hl:(kZ q).length=17:=rP;refine⟨A,c,mB,?_,HB.o⟩;rw[hl,HE.o];exact fj h jo)
  go_wp2_with fail;go_ret2;exact HF.o _ _ HO.o
 ·have d2:w5.cell? ⟨xq,2,none⟩=some (.int .u32 (id:Int)):=HQ.o.cell 2;go_wp2_with fail;clear d2;refine(HNI.o w5).mono ?_;rintro e wn ⟨A',c',rfl,pS,hb⟩;obtain⟨g',rfl,kB,hg3,eh⟩:=lC pS (bG _ _) aM;have wJ:=aa (HQ.o.ah hb);have zh:=HB.dQ hb;have mK:=aa (fP HO.o hb);have mj:=aa eh;have mz:=aa (show B≤wn.heap.size from pI);clear pS hb kB hg3 eh HQ HB HO;go_upto_region 9 with(refine wpList_append_own _ rfl (.tmp 32) (.tmp 36) 34 rfl B 5 i0 (.int .u8 0) 1 1 fM hi hz0 hz1 hz2 rfl aM _ 5 _ rfl mK.o ⟨g',0,none⟩ 4 c' (aO (le id 4)) rfl pF mj.o (Oc.bO _) jR ai mz.o ?_;intro v' w6 jr hg2 px;obtain⟨A2,c2,rfl⟩:=cB jr;have HO:=aa (jc jr);have HB:=aa (iC zh.o mK.o hg2 jo);have HQ:=aa (aG.app wJ.o mK.o hg2 pG);clear jr hg2 px)
  have d3:=HQ.o.cl 3;go_wp2_with fail;clear d3;refine(oT.o w6).mono ?_;rintro e wn ⟨A',c',rfl,pS,hb⟩;obtain⟨g',rfl,kB,hg3,eh⟩:=lC pS (bG _ _) aM;have wJ:=aa (HQ.o.ah hb);have zh:=HB.dQ hb;have mK:=aa (fP HO.o hb);have mj:=aa eh;have mz:=aa (show B≤wn.heap.size from pI);clear pS hb kB hg3 eh HQ HB HO;go_upto_region 11 with(refine wpList_append_own _ rfl (.tmp 39) (.tmp 43) 34 rfl B 5 i0 (.int .u8 0) 1 1 fM hi hz0 hz1 hz2 rfl aM _ 9 _ rfl mK.o ⟨g',0,none⟩ 2 c' (aO (le st 2)) rfl pF mj.o (Oc.bO _) jR ai mz.o ?_;intro v' w7 jr hg2 px;obtain⟨A2,c2,rfl⟩:=cB jr;have HO:=aa (jc jr);have HB:=aa (iC zh.o mK.o hg2 jo);have HQ:=aa (aG.app wJ.o mK.o hg2 pG);clear jr hg2 px)
  have HE:=aa (show kZ q=le k 1++le tg 4++le id 4++le st 2 from rN);have HF:=aa (show ∀ A c,w7.ownsRow B 5 1 (.slice A 11 c) 11 (aO (le k 1++le tg 4++le id 4++le st 2))→qJ (kZ q) w (.returned (.tuple #[.slice A 11 c,.int .i64 0])) w7 from fun A c h=>by
   have hl:(kZ q).length=11:=rP;refine⟨A,c,mB,?_,HB.o⟩;rw[hl,HE.o];exact fj h jo)
  go_wp2_with fail;go_ret2;exact HF.o _ _ HO.o
 have d2:=HQ.o.cl 2;go_wp2_with fail;clear d2;refine(HNI.o w5).mono ?_;rintro e wn ⟨A',c',rfl,pS,hb⟩;obtain⟨g',rfl,kB,hg3,eh⟩:=lC pS (bG _ _) aM;have wJ:=aa (HQ.o.ah hb);have zh:=HB.dQ hb;have mK:=aa (fP HO.o hb);have mj:=aa eh;have mz:=aa (show B≤wn.heap.size from pI);clear pS hb kB hg3 eh HQ HB HO;go_upto_region 9 with(refine wpList_append_own _ rfl (.tmp 32) (.tmp 36) 34 rfl B 5 i0 (.int .u8 0) 1 1 fM hi hz0 hz1 hz2 rfl aM _ 5 _ rfl mK.o ⟨g',0,none⟩ 4 c' (aO (le id 4)) rfl pF mj.o (Oc.bO _) jR ai mz.o ?_;intro v' w6 jr hg2 px;obtain⟨A2,c2,rfl⟩:=cB jr;have HO:=aa (jc jr);have HB:=aa (iC zh.o mK.o hg2 jo);have HQ:=aa (aG.app wJ.o mK.o hg2 pG);clear jr hg2 px)
 have d3:=HQ.o.cl 3;go_wp2_with fail;clear d3;refine(oT.o w6).mono ?_;rintro e wn ⟨A',c',rfl,pS,hb⟩;obtain⟨g',rfl,kB,hg3,eh⟩:=lC pS (bG _ _) aM;have wJ:=aa (HQ.o.ah hb);have zh:=HB.dQ hb;have mK:=aa (fP HO.o hb);have mj:=aa eh;have mz:=aa (show B≤wn.heap.size from pI);clear pS hb kB hg3 eh HQ HB HO;go_upto_region 11 with(refine wpList_append_own _ rfl (.tmp 39) (.tmp 43) 34 rfl B 5 i0 (.int .u8 0) 1 1 fM hi hz0 hz1 hz2 rfl aM _ 9 _ rfl mK.o ⟨g',0,none⟩ 2 c' (aO (le st 2)) rfl pF mj.o (Oc.bO _) jR ai mz.o ?_;intro v' w7 jr hg2 px;obtain⟨A2,c2,rfl⟩:=cB jr;have HO:=aa (jc jr);have HB:=aa (iC zh.o mK.o hg2 jo);have HQ:=aa (aG.app wJ.o mK.o hg2 pG);clear jr hg2 px)
 have d4:=HQ.o.cl 4;go_wp2_with fail;clear d4;refine(HNT.o w7).mono ?_;rintro e wn ⟨A',c',rfl,pS,hb⟩;obtain⟨g',rfl,kB,hg3,eh⟩:=lC pS (bG _ _) aM;have wJ:=aa (HQ.o.ah hb);have zh:=HB.dQ hb;have mK:=aa (fP HO.o hb);have mj:=aa eh;have mz:=aa (show B≤wn.heap.size from pI);clear pS hb kB hg3 eh HQ HB HO;go_upto_region 13 with(refine wpList_append_own _ rfl (.tmp 46) (.tmp 50) 34 rfl B 5 i0 (.int .u8 0) 1 1 fM hi hz0 hz1 hz2 rfl aM _ 11 _ rfl mK.o ⟨g',0,none⟩ 8 c' (aO (le tt 8)) rfl pF mj.o (Oc.bO _) jR ai mz.o ?_;intro v' w8 jr hg2 px;obtain⟨A2,c2,rfl⟩:=cB jr;have HO:=aa (jc jr);have HB:=aa (iC zh.o mK.o hg2 jo);have HQ:=aa (aG.app wJ.o mK.o hg2 pG);clear jr hg2 px)
 have HE:=aa (show kZ q=le k 1++le tg 4++le id 4++le st 2++le tt 8 from rN);have HF:=aa (show ∀ A c,w8.ownsRow B 5 1 (.slice A 19 c) 19 (aO (le k 1++le tg 4++le id 4++le st 2++le tt 8))→qJ (kZ q) w (.returned (.tuple #[.slice A 19 c,.int .i64 0])) w8 from fun A c h=>by
  have hl:(kZ q).length=19:=rP;refine⟨A,c,mB,?_,HB.o⟩;rw[hl,HE.o];exact fj h jo)
 go_wp2_with fail;go_ret2;exact HF.o _ _ HO.o
end Rf
end
section
namespace Rf
def adK(bs:By)(w:World)(e:Ending)(w':World): Prop:=∃ A c,e= .returned (.slice A bs.length c)∧w'.ownsRow w.heap.size 5 1 (.slice A bs.length c) bs.length (aO bs)∧Below w.heap.size w w'
theorem Kd(a:iM)(ha:a.Ok)(w:World): Calls af 22 #[.agg (jG a)] w (adK (kZ a.rq) w):=by
 have HQ:=aa (fun W=>B0 a ha W);have HP:=aa (fun W=>XA a.rq ha.may W);obtain⟨xa,iZ⟩:=ae w.heap.size;obtain⟨w1,a8⟩:=ae (w.alloc (.cells (jG a) 63));have HX:=aa (aJ a8 iZ);have HB:=aa (aK a8);go_enter Tryz.func22,Tryz.ntmps22;go_wp2_with (refine aC rfl 63 (.tmp 1) rfl xa 63 (jG a) HX.o rfl _ GA rfl ask_size ?_);clear a8 iZ;refine(HQ.o w1).mono ?_;rintro e w2 ⟨rfl,hb⟩;have cu:=HB.dQ hb;clear hb HB;go_wp2_with fail;refine(HP.o w2).mono ?_;rintro e w3 ⟨A,c,rfl,ho,hb⟩;have HF:=aa (show adK (kZ a.rq) w (.returned (.slice A (kZ a.rq).length c)) w3 from⟨A,c,rfl,fj ho (by have:=cu.o.size;omega),av cu.o hb⟩);clear ho hb cu;go_wp2_with fail;go_ret;exact HF.o
end Rf
end
section
namespace Rf
theorem qf: (af.info? 24).map (·.size)=some 6:=bh
theorem Fp: (af.info? 41).map (fun i=>(i.zero,i.size,i.bytes))=some (some (.agg #[.int .i64 0,.int .u32 0,.int .u32 0,.int .i64 0,.int .i64 0]),5,32):=bh
structure StN where
 shape:Int
 log:Int
 wide:Bool
 ep:Nat
 sq:Nat
 odd:Int
def NS(s:StN): Array Value:=#[.int .i64 s.shape,.int .i64 s.log,.bool s.wide,.int .u64 (s.ep:Int),.int .u64 (s.sq:Int),.int .i64 s.odd]
structure StN.Ok(s:StN): Prop where
 shape: -9223372036854775808≤s.shape∧s.shape≤9223372036854775807
 log: -9223372036854775808≤s.log∧s.log≤9223372036854775807
def stU(s:StN): StN:=⟨s.shape,s.log,s.wide,0,0,0⟩
theorem Ur(w:World): Calls af 30 #[] w fun e w'=>e= .returned (.agg (NS ⟨110,4,false,1,0,0⟩))∧Below w.heap.size w w':=by
 go_enter Tryz.func30,Tryz.ntmps30;go_wp2_with fail;refine bodyPost_ret (dy Tryz.results30 _ iI (aL 24 (aG.fresh w 24 (NS ⟨110,4,false,1,0,0⟩)) _ Tryz.underlying24 rfl qf)) rfl ?_;exact⟨rfl,ay (ar _ _) _⟩
theorem SA(s:StN)(w:World): Calls af 9 #[.agg (NS s)] w fun e w'=>e= .returned (.agg (NS (stU s)))∧Below w.heap.size w w':=by
 obtain⟨x,hx⟩:=ae w.heap.size;obtain⟨w0,hw0⟩:=ae (w.alloc (.cells (NS s) 24));obtain⟨y,hy⟩:=ae w0.heap.size;obtain⟨w1,a8⟩:=ae (w0.alloc (.cells #[.int .i64 0,.int .i64 0,.bool false,.int .u64 0,.int .u64 0,.int .i64 0] 24));have hS:aG w1 x 24 (NS s):=by rw[←a8,←hw0,←hx];exact(aG.fresh w _ _).alloc _
 have HA:=aa (show aG w1 y 24 (NS ⟨0,0,false,0,0,0⟩)by rw[←a8,←hy];exact aG.fresh w0 _ _);have HB:=aa (show Below w.heap.size w w1 by rw[←a8,←hw0];exact ay (ay (ar _ _) _) _);have HY:=aa (show w.heap.size≤y by rw[←hy,←hw0];simp);have c0:w1.cell? ⟨x,0,none⟩=some (.int .i64 s.shape):=hS.cell 0;have c1:w1.cell? ⟨x,1,none⟩=some (.int .i64 s.log):=hS.cell 1;have c2:w1.cell? ⟨x,2,none⟩=some (.bool s.wide):=hS.cell 2;clear hS;go_enter Tryz.func9,Tryz.ntmps9;go_wp2_with (refine aj rfl 24 (.tmp 2) _ rfl y 24 _ (NS (stU s)) HA.o rfl rfl rfl qf (by simp[NS,Value.oneCell']) ?_;intro w9 dG dD gJ;have pA:=aa dG;have p8:=aa dD;clear dG dD gJ);refine bodyPost_ret (dy Tryz.results9 _ iI (aL 24 pA.o _ Tryz.underlying24 rfl qf)) rfl ?_;exact⟨rfl,HB.o.grown p8.o HB.o.size (fun k e=>by injection e with e;have:=HY.o;omega)⟩
def Ng(w:World)(A:Option Addr)(l:List iM): Prop:=l≠ []→∃ g off,A=some ⟨g,off,none⟩∧g<w.heap.size∧∀ i (h:i<l.length),w.rangeAt g (off+i*5) (jG l[i]).toList
theorem Ng.ah{w w':World}{A:Option Addr}{l:List iM}(h:Ng w A l)(hb:Below w.heap.size w w'): Ng w' A l:=fun hne=>by
 obtain⟨g,off,h1,h2,h3⟩:=h hne;exact⟨g,off,h1,Nat.lt_of_lt_of_le h2 hb.size,fun i hi j u hj=>(hb.cell (p:=⟨g,off+i*5+j,none⟩) h2).trans (h3 i hi j u hj)⟩
def Io(a:iM)(i:Nat): iM:=⟨a.ax,a.id,a.aw,a.bV,(i:Int)+1⟩
def JL(l:List iM)(i:Nat): Rq:=(Io (l.getD i ⟨0,0,0,0,0⟩) i).rq
def F0(l:List iM)(i:Nat): List Value:=(cS (JL l i)).toList
theorem NQ{a:iM}(h:a.Ok){i:Nat}(hi:i<1000000): (Io a i).Ok:=⟨h.ax,h.id,h.aw,h.bV,by show 0≤(i:Int)+1∧(i:Int)+1<4294967296;omega⟩
def adH(l:List iM)(w:World)(e:Ending)(w':World): Prop:=∃ v,e= .returned v∧aP (fun k=>w.heap.size≤k) w' 41 5 v (min l.length 40) (F0 l)∧Below w.heap.size w w'
theorem aaL(l:List iM)(fw: ∀ a∈l,a.Ok)(A:Option Addr)(c:Nat)(w:World)(hA:Ng w A l)(hl:l.length≤70368744177664): Calls af 10 #[.slice A l.length c] w (adH l w):=by
 obtain⟨j0,hj,hz0,hz1,hz2⟩:=info_parts Fp;have HA:=aa hA;have uk:=aa fw;clear hA fw;go_enter Tryz.func10,Tryz.ntmps10;go_wp2_with fail;go_loopw [3,4] (fun v3 i wr=>∃ j:Nat,j≤min l.length 40∧i= .int .i64 j∧aP (fun k=>w.heap.size≤k) wr 41 5 v3 j (F0 l)∧Below w.heap.size w wr) (fun _ i _=>(40 - intOf i).toNat)
 case atStart=>exact⟨0,Nat.zero_le _,rfl,aP.nil _ _ _ _ _,ar _ _⟩
 case round=>
  obtain⟨j,V3,rfl,hR,hbr⟩:=hrel;by_cases h2:j<min l.length 40
  ·have Y9:(j:Int)<(l.length:Int):=by omega
   have h3':(j:Int)<40:=ai;have HJ:=aa h2;have hlt:j<l.length:=ai;obtain⟨g,off,rfl,pU,hcell⟩:=(HA.o.ah hbr) (fun h0=>by rw[h0] at hlt;simp at hlt);obtain⟨a,ha⟩:=ae (l[j]);have M1:=aa (hcell j hlt);rw[ha] at M1;have ahQ:a.Ok:=uk.o a (by rw[←ha];exact List.getElem_mem hlt);have wj:=aa (show F0 l j=(cS (Io a j).rq).toList by unfold F0 JL;rw[List.getD_eq_getElem?_getD,List.getElem?_eq_getElem hlt,ha];rfl);have I6:=fun W=>B0 (Io a j) (NQ ahQ ai) W
   obtain⟨q,hq⟩:=ae ((Io a j).rq);rw[hq] at I6 wj;have F5:=aa (show ∀ W,Calls af 56 #[.agg (jG (Io a j))] W fun e w'=>e= .returned (.agg #[.int .i64 q.ax,.int .u32 q.tag,.int .u32 q.id,.int .i64 q.aw,.int .i64 q.bV])∧Below W.heap.size W w' from I6);clear I6 hq;have hcv:IntKind.u32.wrap (j:Int)=(j:Int):=by rw[PA];omega
   have akG:IntKind.u32.wrap ((j:Int)+1)=(j:Int)+1:=by rw[PA];omega
   have HR:=aa hR;have Yn:=aa hbr;clear hcell ahQ hR hbr pU ha;obtain⟨xb,yX⟩:=ae wr.heap.size;obtain⟨w4,hw4⟩:=ae (wr.alloc (.cells #[.int .i64 0,.int .i64 0,.int .i64 0,.int .i64 0,.int .u32 0] 63));have pB:=aa (aJ hw4 yX);have gj:=aa (aK hw4);have qF:=aa yX;go_upto_region 6 with(first|(refine wpList_load_mid rfl 63 (.tmp 18) rfl g (off+j*5) rfl (jG a).toList _ M1.o GA rfl ask_size ?_)|(refine aj rfl 63 (.tmp 5) _ rfl xb 63 _ (jG a) pB.o rfl rfl rfl ask_size (by simp[jG,Value.oneCell']) ?_;intro w5 gB fF hs5;have eu:=aa (show Below wr.heap.size wr w5 from br gj.o fF (Nat.le_of_eq qF.o));have pj:=aa gB;clear gB fF hs5))
   have o1:w5.cell? ⟨xb,4,none⟩=some (.int .u32 a.tag):=pj.o.cell 4;have m1:=pj.o.mark 4;obtain⟨w6,og⟩:=ae (w5.setCell ⟨xb,4,none⟩ (.int .u32 ((j:Int)+1)));have tx:=aa (show aG w6 xb 63 (jG (Io a j))by rw[←og];exact pj.o.put 4 _);have iL:=aa (show Below wr.heap.size wr w6 by rw[←og];exact eu.o.setCell (Nat.le_of_eq qF.o) _);go_upto_region 7 with fail
   try rw[og]
   clear og o1 m1;go_wp2_with (refine aC rfl 63 (.tmp 5) rfl xb 63 _ tx.o rfl _ GA rfl ask_size ?_);refine(F5.o w6).mono ?_;rintro e w7 ⟨rfl,su⟩;have nc:=iL.dQ su;have ou:=aa (ay (av iL.o su) (.cells #[.int .i64 q.ax,.int .u32 q.tag,.int .u32 q.id,.int .i64 q.aw,.int .i64 q.bV] 41));have Kz:=aa (HR.o.ah ou.o);have Zj:=aa (iQ w7 [.int .i64 q.ax,.int .u32 q.tag,.int .u32 q.id,.int .i64 q.aw,.int .i64 q.bV] 41);clear su;go_wp2_with (refine gM _ rfl (.tmp 24) (.tmp 27) 31 rfl 41 j0 (.agg #[.int .i64 0,.int .u32 0,.int .u32 0,.int .i64 0,.int .i64 0]) 5 32 Tryz.underlying31 hj hz0 hz1 hz2 rfl aM _ j _ rfl Kz.o ⟨w7.heap.size,0,none⟩ 1 [.int .i64 q.ax,.int .u32 q.tag,.int .u32 q.id,.int .i64 q.aw,.int .i64 q.bV] rfl rfl Zj.o (by intro u hu;simp at hu;rcases hu with rfl|rfl|rfl|rfl|rfl <;>rfl) jR ai ?_;intro ga ca w9 DI dD;have R7:=aa DI;have p8:=aa dD;clear DI dD);go_roundw
   case rel=>
    have hz8:=nc.o.size;have uH:=Yn.o.size;refine⟨j+1,HJ.o,by go_num,?_,(av Yn.o ou.o).grown p8.o (av Yn.o ou.o).size (fun k e=>HR.o.block k e)⟩;have he:cK (F0 l) j [.int .i64 q.ax,.int .u32 q.tag,.int .u32 q.id,.int .i64 q.aw,.int .i64 q.bV]=F0 l:=by
     funext i;unfold cK;by_cases h:i=j
     ·rw[if_pos h,h,wj.o];rfl
     rw[if_neg h]
    have h9:=R7.o;rw[he] at h9;exact h9.mono fun k hk _=>by
     rcases hk with hk|hk
     ·exact hk
     have h7:(w7.alloc (.cells #[.int .i64 q.ax,.int .u32 q.tag,.int .u32 q.id,.int .i64 q.aw,.int .i64 q.bV] 41)).heap.size=w7.heap.size+1:=dM;omega
   case measure=>simp[intOf];omega
  obtain rfl:j=min l.length 40:=ai;have HF:=aa (show adH l w (.returned _) wr from⟨_,rfl,hR,hbr⟩);by_cases h40:l.length<40
  ·have e1:min l.length 40=l.length:=by omega
   rw[e1];have n1: ¬(l.length:Int)<(l.length:Int):=ai;clear hR hbr h2 V3;go_wp2_with fail;go_ret;exact HF.o
  have e1:min l.length 40=40:=ai;rw[e1];clear hR hbr h2 V3;by_cases h41:l.length=40
  ·have n1: ¬(40:Int)<(l.length:Int):=by omega
   go_wp2_with fail;go_ret;exact HF.o
  have n1:(40:Int)<(l.length:Int):=ai;go_wp2_with fail;go_ret;exact HF.o
