import Derived.Test.YtemighjbfanenaaGreatDoorPk35
set_option linter.all false
set_option maxRecDepth 100000
set_option maxHeartbeats 16000000
namespace Go.Proofs.YtemighjbfanenaaGreatDoor
open RowKit
open En (By Rq aH kW sY dt cZ)
open Oc (Bs fF aP ed bu le bF rh eP cI eY val)
open Go.IntKind renaming wrap_u64→mJ,u8→GU,wrap_u32→PL,u64→cR,wrap_u8→GW
open Go.Proofs.Tryz renaming underlying34→fL,prog→af,underlying63→GV
open RowKit.Below renaming refl→au
theorem yS{p:Prop}(h:p:=by
 clear h1 h2 h3;go_enter Tryz.func185,Tryz.ntmps185;go_wp2_with fail;refine ag (HHS.o w1) ?_;go_wp2_with fail;go_ret;exact⟨rfl,HB.o⟩):p:=h
theorem pI{p:Prop}(h:p:=by have:=wU.o.lt;have:=vx.o;have:=ie.o;omega):p:=h
theorem pF{p:Prop}(h:p:=by have:=ie.o;have:=vx.o;omega):p:=h
theorem jm{p:Prop}(h:p:=by have:=ie.o;omega):p:=h
theorem pE{p:Prop}(h:p:=by rw[bu,bF]):p:=h
theorem rQ{p:Prop}(h:p:=by rw[HE.o];simp[bF]):p:=h
theorem rO{p:Prop}(h:p:=by rw[uZ.o];simp):p:=h
section
namespace Rf
def XN(n k:Nat)(w:World)(e:Ending)(w':World): Prop:=∃ A c,e= .returned (.slice A k c)∧w'.ownsRow w.heap.size 5 1 (.slice A k c) k (aP (le n k))∧Below w.heap.size w w'
theorem tz(n k:Nat)(hn:n<18446744073709551616)(hk:k≤8)(w:World): Calls af 119 #[.int .u64 n,.int .i64 k] w (XN n k w):=by
 obtain⟨i0,hi,hz0,hz1,hz2⟩:=info_parts eY;obtain⟨B,hB⟩:=ae w.heap.size;have ie:=aa hB;go_enter Tryz.func119,Tryz.ntmps119;go_wp2_with fail;go_loopw [0,5,6] (fun v0 v5 v6 wr=>∃ (i:Nat) (A:Option Addr) (c:Nat),i≤k∧v6= .int .i64 i∧v0= .int .u64 (n / 256 ^ i:Nat)∧v5= .slice A i c∧wr.ownsRow B 5 1 (.slice A i c) i (aP (le n i))∧Below w.heap.size w wr) (fun _ _ v6 _=>(k - intOf v6).toNat)
 case atStart=>exact⟨0,none,0,Nat.zero_le _,rfl,dR,rfl,td _ _ _ _,au _ _⟩
 case round=>
  obtain⟨i,A,c,hik,rfl,rfl,rfl,ho,hb⟩:=hrel;by_cases h2:i<k
  ·have Q8:(i:Int)<(k:Int):=by omega
   obtain⟨x,hx⟩:=ae (n / 256 ^ i);have agS:x<18446744073709551616:=by rw[←hx];exact Nat.lt_of_le_of_lt (Nat.div_le_self _ _) hn
   have D5:x / 256=n / 256 ^ (i+1):=by rw[←hx,Nat.div_div_eq_div_mul,Nat.pow_succ]
   have hbt:aP (le n (i+1))=aP (le n i)++ [.int .u8 ((x % 256:Nat):Int)]:=by
    rw[le,ed,hx];simp[aP,fF]
   have hcv:GU.wrap ((x:Int) % 256)=(x:Int) % 256:=by rw[GW];omega
   have akJ:GU.wrap ((x % 256:Nat):Int)=((x % 256:Nat):Int):=by rw[GW];omega
   have ak6:=aa agS;have CX:=aa D5;have HBT:=aa hbt;rw[hx];obtain⟨y,hy⟩:=ae (x % 256:Nat);obtain⟨w1,aZ⟩:=ae (wr.alloc (.cells #[.int .u8 ((x % 256:Nat):Int)] 5));have hb1:=aL aZ;have Q1:=aa (show w1.ownsRow B 5 1 (.slice A i c) i (aP (le n i))from fO ho hb1);have Q2:=aa (show ∀ (j:Nat) (u:Value),[Value.int .u8 ((x % 256:Nat):Int)][j]? =some u→w1.cell? ((⟨wr.heap.size,0,none⟩:Addr).add j)=some u by rw[←aZ];exact cell_one_new wr _ _);have Q5:=aa (show B≤w1.heap.size from by have:=hb.size;have:=hb1.size;omega);have bz:=aa (av hb hb1);have al3:wr.alloc (.cells #[.int .u8 ((x:Int) % 256)] 5)=w1:=by rw[←aZ];rfl
   clear ho hb hb1 hx agS D5 hbt hy;go_wp2_with (refine wpList_append_own _ rfl (.tmp 12) (.tmp 16) 34 rfl B 5 i0 (.int .u8 0) 1 1 fL hi hz0 hz1 hz2 rfl aN (.slice A i c) i _ rfl Q1.o ⟨wr.heap.size,0,none⟩ 1 1 [.int .u8 ((x % 256:Nat):Int)] rfl rfl Q2.o Fg km aj Q5.o ?_;intro v' w2 jo hg2 pq;obtain⟨A2,c2,rfl⟩:=cy jo;have HO2:=aa jo;have yq:=aa hg2;clear jo hg2 pq);go_roundw
   case rel=>
    refine⟨i+1,A2,c2,aj,by go_num,?_,rfl,?_,?_⟩
    ·rw[←CX.o];congr 1;rw[mJ];have:=ak6.o;omega
    ·rw[HBT.o];exact HO2.o
    exact iI bz.o Q1.o yq.o jm
   case measure=>simp[intOf];omega
  obtain rfl:i=k:=aj;have HF:=aa (show XN n i w (.returned (.slice A i c)) wr from⟨A,c,rfl,by rw[ie.o];exact ho,hb⟩);clear ho hb;go_wp2_with fail;go_ret;exact HF.o
theorem Nw(q:Rq)(hq:q.qc)(w:World): Calls af 185 #[.agg (cZ q)] w fun e w'=>e= .returned (.int .i64 0)∧Below w.heap.size w w':=by
 have HHS:=aa (fun W=>pd q.ay W);have h1:=hq.idf;have h2:=hq.IV;have h3:=hq.SY;obtain⟨b1,b2,b3,hb⟩: ∃ x y z,dt q.ay=(x,y,z):=⟨_,_,_,rfl⟩;rw[hb] at HHS h1 h2 h3;have k1:decide (q.ay<1)=false:=decide_eq_false (by have:=hq.good.ay;omega);have k2:decide ((10:Int)<q.ay)=false:=decide_eq_false (by have:=hq.good.ay;omega);have k3:decide (q.aw<0)=false:=decide_eq_false K7;have k4:decide ((65535:Int)<q.aw)=false:=decide_eq_false K7;have k5:decide (q.bT<0)=false:=decide_eq_false (by have:=hq.good.bT;omega);clear hb hq;obtain⟨xq,iO⟩:=ae w.heap.size;obtain⟨w1,aZ⟩:=ae (w.alloc (.cells (cZ q) 41));have hA:=aK aZ iO;have HB:=aa (aL aZ);have c0:w1.cell? ⟨xq,0,none⟩=some (.int .i64 q.ay):=hA.cell 0;have c2:w1.cell? ⟨xq,2,none⟩=some (.int .u32 q.id):=hA.cell 2;have c3:w1.cell? ⟨xq,3,none⟩=some (.int .i64 q.aw):=hA.cell 3;have c4:w1.cell? ⟨xq,4,none⟩=some (.int .i64 q.bT):=hA.cell 4;clear hA;cases b1 <;>cases b2 <;>cases b3
 ·have z1:(q.id==0)=true:=beq_iff_eq.2 (h1 rfl);have y1:(q.id != 0)=false:=by rw[h1 rfl];rfl
  have z2:(q.aw==0)=true:=beq_iff_eq.2 (h2 rfl);have y2:(q.aw != 0)=false:=by rw[h2 rfl];rfl
  have z3:(q.bT==0)=true:=beq_iff_eq.2 (h3 rfl);have y3:(q.bT != 0)=false:=by rw[h3 rfl];rfl
  exact yS
 ·have z1:(q.id==0)=true:=beq_iff_eq.2 (h1 rfl);have y1:(q.id != 0)=false:=by rw[h1 rfl];rfl
  have z2:(q.aw==0)=true:=beq_iff_eq.2 (h2 rfl);have y2:(q.aw != 0)=false:=by rw[h2 rfl];rfl
  exact yS
 ·have z1:(q.id==0)=true:=beq_iff_eq.2 (h1 rfl);have y1:(q.id != 0)=false:=by rw[h1 rfl];rfl
  have z3:(q.bT==0)=true:=beq_iff_eq.2 (h3 rfl);have y3:(q.bT != 0)=false:=by rw[h3 rfl];rfl
  exact yS
 ·have z1:(q.id==0)=true:=beq_iff_eq.2 (h1 rfl);have y1:(q.id != 0)=false:=by rw[h1 rfl];rfl
  exact yS
 ·have z2:(q.aw==0)=true:=beq_iff_eq.2 (h2 rfl);have y2:(q.aw != 0)=false:=by rw[h2 rfl];rfl
  have z3:(q.bT==0)=true:=beq_iff_eq.2 (h3 rfl);have y3:(q.bT != 0)=false:=by rw[h3 rfl];rfl
  exact yS
 ·have z2:(q.aw==0)=true:=beq_iff_eq.2 (h2 rfl);have y2:(q.aw != 0)=false:=by rw[h2 rfl];rfl
  exact yS
 ·have z3:(q.bT==0)=true:=beq_iff_eq.2 (h3 rfl);have y3:(q.bT != 0)=false:=by rw[h3 rfl];rfl
  exact yS
 exact yS
theorem jb{W:World}{B:Nat}{v:Value}{n m:Nat}{a b:By}(h:W.ownsRow B 5 1 v (n+m) (aP a++aP b)): W.ownsRow B 5 1 v (n+m) (aP (a++b)):=by rw[ed];exact h
theorem Mb(w:World)(x:Value)(B:Nat)(hB:B≤w.heap.size)(hx:x.oneCell'=true): (w.alloc (.cells #[x] 5)).ownsRow B 5 1 (.slice (some ⟨w.heap.size,0,none⟩) 1 1) 1 [x]:=by refine⟨dR,.inr ⟨w.heap.size,1,#[x],rfl,hB,aG.fresh w _ _,aN,aN,rfl,rfl⟩⟩
def qO(bs:By)(w:World)(e:Ending)(w':World): Prop:=∃ A c,e= .returned (.tuple #[.slice A bs.length c,.int .i64 0])∧w'.ownsRow w.heap.size 5 1 (.slice A bs.length c) bs.length (aP bs)∧Below w.heap.size w w'
theorem lA{W:World}{B:Nat}{A:Option Addr}{k c:Nat}{bs:By}(h:W.ownsRow B 5 1 (.slice A k c) k (aP bs))(hk:bs.length=k)(hp:0<k): ∃ g,A=some ⟨g,0,none⟩∧B≤g∧g<W.heap.size∧∀ j u,(aP bs)[j]? =some u→W.cell? ((⟨g,0,none⟩:Addr).add j)=some u:=by
 obtain⟨n,rfl⟩: ∃ n,k=n+1:=⟨k - 1,aj⟩;obtain⟨g,cap,hv⟩:=I4 h;injection hv with e1 e2 e3
 subst e1;have hl:=dM h (g:=g) rfl;have hb:Bs W (some ⟨g,0,none⟩) bs:=Bs.own (by rw[←hk] at h;exact h);exact⟨g,rfl,hl.2,hl.1,fun j u hu=>hb.read j u hu⟩
theorem XI(q:Rq)(hq:q.qc)(w:World): Calls af 78 #[.agg (cZ q)] w (qO (kW q) w):=by
 obtain⟨i0,hi,hz0,hz1,hz2⟩:=info_parts eY;have HHS:=aa (fun W=>pd q.ay W);have jy:=aa (fun W=>Nw q hq W);have Hy:=hq.good.ay;have Mm:=hq.good.tag;have hid:=hq.good.id;have hst:=hq.good.aw;have htt:=hq.good.bT;have hbg:=hq.Xd;obtain⟨k,hk⟩: ∃ k:Nat,q.ay=k:=⟨q.ay.toNat,aj⟩;obtain⟨tg,ht⟩: ∃ i:Nat,q.tag=i:=⟨q.tag.toNat,aj⟩;obtain⟨id,hi2⟩: ∃ i:Nat,q.id=i:=⟨q.id.toNat,aj⟩;obtain⟨st,hs2⟩: ∃ i:Nat,q.aw=i:=⟨q.aw.toNat,aj⟩;obtain⟨tt,uh⟩: ∃ i:Nat,q.bT=i:=⟨q.bT.toNat,aj⟩;obtain⟨b1,b2,b3,hb⟩: ∃ x y z,dt q.ay=(x,y,z):=⟨_,_,_,rfl⟩;have uZ:=aa (show kW q=le k 1++le tg 4++(if b1=true then le id 4 else [])++(if b2=true then le st 2 else [])++(if b3=true then le tt 8 else [])from by unfold kW;rw[hb,hk,ht,hi2,hs2,uh];rfl);rw[hb,hk] at HHS;have aku:k≤10:=aj;have OW:tg<4294967296:=aj;have amr:id<4294967296:=aj;have al7:st<65536:=aj;have al5:tt<9223372036854775808:=aj;have hc1:GU.wrap (k:Int)=(k:Int):=by rw[GW];omega
 have hc2:cR.wrap (tg:Int)=(tg:Int):=qW;have hc3:cR.wrap (id:Int)=(id:Int):=qW;have KO:cR.wrap (st:Int)=(st:Int):=qW;have F5:cR.wrap (tt:Int)=(tt:Int):=qW;have HN4:=aa (fun W=>tz tg 4 aj aj W);have HNI:=aa (fun W=>tz id 4 aj aj W);have oO:=aa (fun W=>tz st 2 aj aj W);have HNT:=aa (fun W=>tz tt 8 aj aj W);obtain⟨xq,iO⟩:=ae w.heap.size;obtain⟨w1,aZ⟩:=ae (w.alloc (.cells (cZ q) 41));have vz:=aa (show aG w1 xq 41 #[.int .i64 (k:Int),.int .u32 (tg:Int),.int .u32 (id:Int),.int .i64 (st:Int),.int .i64 (tt:Int)] by rw[←aZ,←iO,←hk,←ht,←hi2,←hs2,←uh];exact aG.fresh w _ _);have bz:=aa (aL aZ);have vx:=aa (show xq=w.heap.size from iO.symm);have CO:cZ q= #[.int .i64 (k:Int),.int .u32 (tg:Int),.int .u32 (id:Int),.int .i64 (st:Int),.int .i64 (tt:Int)]:=by unfold cZ;rw[hk,ht,hi2,hs2,uh]
 rw[CO] at jy aZ ⊢;obtain⟨B,hB⟩:=ae (w.heap.size+1);have ie:=aa hB;clear Hy Mm hid hst htt hbg hb hk ht hi2 hs2 uh hq CO hB;go_enter Tryz.func78,Tryz.ntmps78;go_wp2_with (refine aC rfl 41 (.tmp 1) rfl xq 41 #[.int .i64 (k:Int),.int .u32 (tg:Int),.int .u32 (id:Int),.int .i64 (st:Int),.int .i64 (tt:Int)] vz.o rfl _ Tryz.underlying41 rfl aH ?_);clear aZ iO;refine(jy.o w1).mono ?_;rintro e w2 ⟨rfl,hb⟩;have rI:=vz.js hb;have cu:=bz.dP hb;clear hb vz bz;have c0:=rI.o.cl 0;have c1:=rI.o.cl 1;go_wp2_with fail;refine ag (HHS.o w2) ?_;obtain⟨w3,hw3⟩:=ae (w2.alloc (.cells #[.int .u8 (k:Int)] 5));have hb3:=aL hw3;have jx:=rI.js hb3;have dV:=cu.dP hb3;have HO3:=aa (show w3.ownsRow B 5 1 (.slice (some ⟨w2.heap.size,0,none⟩) 1 1) 1 (aP (le k 1))from by
  have h9:aP (le k 1)= [.int .u8 (k:Int)]:=by simp[le,aP,fF];omega
  rw[h9,←hw3];exact Mb w2 _ _ (by have:=rI.o.lt;have:=vx.o;have:=ie.o;omega) rfl)
 obtain⟨g2,hg2⟩:=ae w2.heap.size;rw[hg2] at HO3;have c1':=jx.o.cl 1;clear hb3;go_wp2_with fail;clear hw3 hg2 c0 c1 c1';have HQ:=jx;have HB:=dV;have HO:=HO3;clear rI cu jx dV HO3;refine(HN4.o w3).mono ?_;rintro e wn ⟨A',c',rfl,pS,hb⟩;obtain⟨g',rfl,kX,hg3,ek⟩:=lA pS (bF _ _) aN;have wU:=aa (HQ.o.ai hb);have zC:=HB.dP hb;have mF:=aa (fO HO.o hb);have nh:=aa ek;have mi:=aa (show B≤wn.heap.size from pI);clear pS hb kX hg3 ek HQ HB HO;go_upto_region 7 with(refine wpList_append_own _ rfl (.tmp 25) (.tmp 29) 34 rfl B 5 i0 (.int .u8 0) 1 1 fL hi hz0 hz1 hz2 rfl aN _ 1 _ rfl mF.o ⟨g',0,none⟩ 4 c' (aP (le tg 4)) rfl pE nh.o (Oc.bQ _) km aj mi.o ?_;intro v' w5 jo hg2 pq;obtain⟨A2,c2,rfl⟩:=cy jo;have HO:=aa (jb jo);have HB:=aa (iI zC.o mF.o hg2 jm);have HQ:=aa (aG.app wU.o mF.o hg2 pF);clear jo hg2 pq)
 cases b1 <;>cases b2 <;>cases b3
 ·have HE:=aa (show kW q=le k 1++le tg 4 from rO);have HF:=aa (show ∀ A c,w5.ownsRow B 5 1 (.slice A 5 c) 5 (aP (le k 1++le tg 4))→qO (kW q) w (.returned (.tuple #[.slice A 5 c,.int .i64 0])) w5 from fun A c h=>by
   have hl:(kW q).length=5:=rQ;refine⟨A,c,mo,?_,HB.o⟩;rw[hl,HE.o];exact fg h jm)
  go_wp2_with fail;go_ret2;exact HF.o _ _ HO.o
 ·have d4:w5.cell? ⟨xq,4,none⟩=some (.int .i64 (tt:Int)):=HQ.o.cell 4;go_wp2_with fail;clear d4;refine(HNT.o w5).mono ?_;rintro e wn ⟨A',c',rfl,pS,hb⟩;obtain⟨g',rfl,kX,hg3,ek⟩:=lA pS (bF _ _) aN;have wU:=aa (HQ.o.ai hb);have zC:=HB.dP hb;have mF:=aa (fO HO.o hb);have nh:=aa ek;have mi:=aa (show B≤wn.heap.size from pI);clear pS hb kX hg3 ek HQ HB HO;go_upto_region 13 with(refine wpList_append_own _ rfl (.tmp 46) (.tmp 50) 34 rfl B 5 i0 (.int .u8 0) 1 1 fL hi hz0 hz1 hz2 rfl aN _ 5 _ rfl mF.o ⟨g',0,none⟩ 8 c' (aP (le tt 8)) rfl pE nh.o (Oc.bQ _) km aj mi.o ?_;intro v' w6 jo hg2 pq;obtain⟨A2,c2,rfl⟩:=cy jo;have HO:=aa (jb jo);have HB:=aa (iI zC.o mF.o hg2 jm);have HQ:=aa (aG.app wU.o mF.o hg2 pF);clear jo hg2 pq)
  have HE:=aa (show kW q=le k 1++le tg 4++le tt 8 from rO);have HF:=aa (show ∀ A c,w6.ownsRow B 5 1 (.slice A 13 c) 13 (aP (le k 1++le tg 4++le tt 8))→qO (kW q) w (.returned (.tuple #[.slice A 13 c,.int .i64 0])) w6 from fun A c h=>by
   have hl:(kW q).length=13:=rQ;refine⟨A,c,mo,?_,HB.o⟩;rw[hl,HE.o];exact fg h jm)
  go_wp2_with fail;go_ret2;exact HF.o _ _ HO.o
 ·have d3:w5.cell? ⟨xq,3,none⟩=some (.int .i64 (st:Int)):=HQ.o.cell 3;go_wp2_with fail;clear d3;refine(oO.o w5).mono ?_;rintro e wn ⟨A',c',rfl,pS,hb⟩;obtain⟨g',rfl,kX,hg3,ek⟩:=lA pS (bF _ _) aN;have wU:=aa (HQ.o.ai hb);have zC:=HB.dP hb;have mF:=aa (fO HO.o hb);have nh:=aa ek;have mi:=aa (show B≤wn.heap.size from pI);clear pS hb kX hg3 ek HQ HB HO;go_upto_region 11 with(refine wpList_append_own _ rfl (.tmp 39) (.tmp 43) 34 rfl B 5 i0 (.int .u8 0) 1 1 fL hi hz0 hz1 hz2 rfl aN _ 5 _ rfl mF.o ⟨g',0,none⟩ 2 c' (aP (le st 2)) rfl pE nh.o (Oc.bQ _) km aj mi.o ?_;intro v' w6 jo hg2 pq;obtain⟨A2,c2,rfl⟩:=cy jo;have HO:=aa (jb jo);have HB:=aa (iI zC.o mF.o hg2 jm);have HQ:=aa (aG.app wU.o mF.o hg2 pF);clear jo hg2 pq)
  have HE:=aa (show kW q=le k 1++le tg 4++le st 2 from rO);have HF:=aa (show ∀ A c,w6.ownsRow B 5 1 (.slice A 7 c) 7 (aP (le k 1++le tg 4++le st 2))→qO (kW q) w (.returned (.tuple #[.slice A 7 c,.int .i64 0])) w6 from fun A c h=>by
   have hl:(kW q).length=7:=rQ;refine⟨A,c,mo,?_,HB.o⟩;rw[hl,HE.o];exact fg h jm)
  go_wp2_with fail;go_ret2;exact HF.o _ _ HO.o
 ·have d3:w5.cell? ⟨xq,3,none⟩=some (.int .i64 (st:Int)):=HQ.o.cell 3;go_wp2_with fail;clear d3;refine(oO.o w5).mono ?_;rintro e wn ⟨A',c',rfl,pS,hb⟩;obtain⟨g',rfl,kX,hg3,ek⟩:=lA pS (bF _ _) aN;have wU:=aa (HQ.o.ai hb);have zC:=HB.dP hb;have mF:=aa (fO HO.o hb);have nh:=aa ek;have mi:=aa (show B≤wn.heap.size from pI);clear pS hb kX hg3 ek HQ HB HO;go_upto_region 11 with(refine wpList_append_own _ rfl (.tmp 39) (.tmp 43) 34 rfl B 5 i0 (.int .u8 0) 1 1 fL hi hz0 hz1 hz2 rfl aN _ 5 _ rfl mF.o ⟨g',0,none⟩ 2 c' (aP (le st 2)) rfl pE nh.o (Oc.bQ _) km aj mi.o ?_;intro v' w6 jo hg2 pq;obtain⟨A2,c2,rfl⟩:=cy jo;have HO:=aa (jb jo);have HB:=aa (iI zC.o mF.o hg2 jm);have HQ:=aa (aG.app wU.o mF.o hg2 pF);clear jo hg2 pq)
  have d4:=HQ.o.cl 4;go_wp2_with fail;clear d4;refine(HNT.o w6).mono ?_;rintro e wn ⟨A',c',rfl,pS,hb⟩;obtain⟨g',rfl,kX,hg3,ek⟩:=lA pS (bF _ _) aN;have wU:=aa (HQ.o.ai hb);have zC:=HB.dP hb;have mF:=aa (fO HO.o hb);have nh:=aa ek;have mi:=aa (show B≤wn.heap.size from pI);clear pS hb kX hg3 ek HQ HB HO;go_upto_region 13 with(refine wpList_append_own _ rfl (.tmp 46) (.tmp 50) 34 rfl B 5 i0 (.int .u8 0) 1 1 fL hi hz0 hz1 hz2 rfl aN _ 7 _ rfl mF.o ⟨g',0,none⟩ 8 c' (aP (le tt 8)) rfl pE nh.o (Oc.bQ _) km aj mi.o ?_;intro v' w7 jo hg2 pq;obtain⟨A2,c2,rfl⟩:=cy jo;have HO:=aa (jb jo);have HB:=aa (iI zC.o mF.o hg2 jm);have HQ:=aa (aG.app wU.o mF.o hg2 pF);clear jo hg2 pq)
  have HE:=aa (show kW q=le k 1++le tg 4++le st 2++le tt 8 from rO);have HF:=aa (show ∀ A c,w7.ownsRow B 5 1 (.slice A 15 c) 15 (aP (le k 1++le tg 4++le st 2++le tt 8))→qO (kW q) w (.returned (.tuple #[.slice A 15 c,.int .i64 0])) w7 from fun A c h=>by
   have hl:(kW q).length=15:=rQ;refine⟨A,c,mo,?_,HB.o⟩;rw[hl,HE.o];exact fg h jm)
  go_wp2_with fail;go_ret2;exact HF.o _ _ HO.o
 ·have d2:w5.cell? ⟨xq,2,none⟩=some (.int .u32 (id:Int)):=HQ.o.cell 2;go_wp2_with fail;clear d2;refine(HNI.o w5).mono ?_;rintro e wn ⟨A',c',rfl,pS,hb⟩;obtain⟨g',rfl,kX,hg3,ek⟩:=lA pS (bF _ _) aN;have wU:=aa (HQ.o.ai hb);have zC:=HB.dP hb;have mF:=aa (fO HO.o hb);have nh:=aa ek;have mi:=aa (show B≤wn.heap.size from pI);clear pS hb kX hg3 ek HQ HB HO;go_upto_region 9 with(refine wpList_append_own _ rfl (.tmp 32) (.tmp 36) 34 rfl B 5 i0 (.int .u8 0) 1 1 fL hi hz0 hz1 hz2 rfl aN _ 5 _ rfl mF.o ⟨g',0,none⟩ 4 c' (aP (le id 4)) rfl pE nh.o (Oc.bQ _) km aj mi.o ?_;intro v' w6 jo hg2 pq;obtain⟨A2,c2,rfl⟩:=cy jo;have HO:=aa (jb jo);have HB:=aa (iI zC.o mF.o hg2 jm);have HQ:=aa (aG.app wU.o mF.o hg2 pF);clear jo hg2 pq)
  have HE:=aa (show kW q=le k 1++le tg 4++le id 4 from rO);have HF:=aa (show ∀ A c,w6.ownsRow B 5 1 (.slice A 9 c) 9 (aP (le k 1++le tg 4++le id 4))→qO (kW q) w (.returned (.tuple #[.slice A 9 c,.int .i64 0])) w6 from fun A c h=>by
   have hl:(kW q).length=9:=rQ;refine⟨A,c,mo,?_,HB.o⟩;rw[hl,HE.o];exact fg h jm)
  go_wp2_with fail;go_ret2;exact HF.o _ _ HO.o
 ·have d2:w5.cell? ⟨xq,2,none⟩=some (.int .u32 (id:Int)):=HQ.o.cell 2;go_wp2_with fail;clear d2;refine(HNI.o w5).mono ?_;rintro e wn ⟨A',c',rfl,pS,hb⟩;obtain⟨g',rfl,kX,hg3,ek⟩:=lA pS (bF _ _) aN;have wU:=aa (HQ.o.ai hb);have zC:=HB.dP hb;have mF:=aa (fO HO.o hb);have nh:=aa ek;have mi:=aa (show B≤wn.heap.size from pI);clear pS hb kX hg3 ek HQ HB HO;go_upto_region 9 with(refine wpList_append_own _ rfl (.tmp 32) (.tmp 36) 34 rfl B 5 i0 (.int .u8 0) 1 1 fL hi hz0 hz1 hz2 rfl aN _ 5 _ rfl mF.o ⟨g',0,none⟩ 4 c' (aP (le id 4)) rfl pE nh.o (Oc.bQ _) km aj mi.o ?_;intro v' w6 jo hg2 pq;obtain⟨A2,c2,rfl⟩:=cy jo;have HO:=aa (jb jo);have HB:=aa (iI zC.o mF.o hg2 jm);have HQ:=aa (aG.app wU.o mF.o hg2 pF);clear jo hg2 pq)
  have d4:=HQ.o.cl 4;go_wp2_with fail;clear d4;refine(HNT.o w6).mono ?_;rintro e wn ⟨A',c',rfl,pS,hb⟩;obtain⟨g',rfl,kX,hg3,ek⟩:=lA pS (bF _ _) aN;have wU:=aa (HQ.o.ai hb);have zC:=HB.dP hb;have mF:=aa (fO HO.o hb);have nh:=aa ek;have mi:=aa (show B≤wn.heap.size from pI);clear pS hb kX hg3 ek HQ HB HO;go_upto_region 13 with(refine wpList_append_own _ rfl (.tmp 46) (.tmp 50) 34 rfl B 5 i0 (.int .u8 0) 1 1 fL hi hz0 hz1 hz2 rfl aN _ 9 _ rfl mF.o ⟨g',0,none⟩ 8 c' (aP (le tt 8)) rfl pE nh.o (Oc.bQ _) km aj mi.o ?_;intro v' w7 jo hg2 pq;obtain⟨A2,c2,rfl⟩:=cy jo;have HO:=aa (jb jo);have HB:=aa (iI zC.o mF.o hg2 jm);have HQ:=aa (aG.app wU.o mF.o hg2 pF);clear jo hg2 pq)
  have HE:=aa (show kW q=le k 1++le tg 4++le id 4++le tt 8 from rO);have HF:=aa (show ∀ A c,w7.ownsRow B 5 1 (.slice A 17 c) 17 (aP (le k 1++le tg 4++le id 4++le tt 8))→qO (kW q) w (.returned (.tuple #[.slice A 17 c,.int .i64 0])) w7 from fun A c h=>by
   have hl:(kW q).length=17:=rQ;refine⟨A,c,mo,?_,HB.o⟩;rw[hl,HE.o];exact fg h jm)
  go_wp2_with fail;go_ret2;exact HF.o _ _ HO.o
 ·have d2:w5.cell? ⟨xq,2,none⟩=some (.int .u32 (id:Int)):=HQ.o.cell 2;go_wp2_with fail;clear d2;refine(HNI.o w5).mono ?_;rintro e wn ⟨A',c',rfl,pS,hb⟩;obtain⟨g',rfl,kX,hg3,ek⟩:=lA pS (bF _ _) aN;have wU:=aa (HQ.o.ai hb);have zC:=HB.dP hb;have mF:=aa (fO HO.o hb);have nh:=aa ek;have mi:=aa (show B≤wn.heap.size from pI);clear pS hb kX hg3 ek HQ HB HO;go_upto_region 9 with(refine wpList_append_own _ rfl (.tmp 32) (.tmp 36) 34 rfl B 5 i0 (.int .u8 0) 1 1 fL hi hz0 hz1 hz2 rfl aN _ 5 _ rfl mF.o ⟨g',0,none⟩ 4 c' (aP (le id 4)) rfl pE nh.o (Oc.bQ _) km aj mi.o ?_;intro v' w6 jo hg2 pq;obtain⟨A2,c2,rfl⟩:=cy jo;have HO:=aa (jb jo);have HB:=aa (iI zC.o mF.o hg2 jm);have HQ:=aa (aG.app wU.o mF.o hg2 pF);clear jo hg2 pq)
  have d3:=HQ.o.cl 3;go_wp2_with fail;clear d3;refine(oO.o w6).mono ?_;rintro e wn ⟨A',c',rfl,pS,hb⟩;obtain⟨g',rfl,kX,hg3,ek⟩:=lA pS (bF _ _) aN;have wU:=aa (HQ.o.ai hb);have zC:=HB.dP hb;have mF:=aa (fO HO.o hb);have nh:=aa ek;have mi:=aa (show B≤wn.heap.size from pI);clear pS hb kX hg3 ek HQ HB HO;go_upto_region 11 with(refine wpList_append_own _ rfl (.tmp 39) (.tmp 43) 34 rfl B 5 i0 (.int .u8 0) 1 1 fL hi hz0 hz1 hz2 rfl aN _ 9 _ rfl mF.o ⟨g',0,none⟩ 2 c' (aP (le st 2)) rfl pE nh.o (Oc.bQ _) km aj mi.o ?_;intro v' w7 jo hg2 pq;obtain⟨A2,c2,rfl⟩:=cy jo;have HO:=aa (jb jo);have HB:=aa (iI zC.o mF.o hg2 jm);have HQ:=aa (aG.app wU.o mF.o hg2 pF);clear jo hg2 pq)
  have HE:=aa (show kW q=le k 1++le tg 4++le id 4++le st 2 from rO);have HF:=aa (show ∀ A c,w7.ownsRow B 5 1 (.slice A 11 c) 11 (aP (le k 1++le tg 4++le id 4++le st 2))→qO (kW q) w (.returned (.tuple #[.slice A 11 c,.int .i64 0])) w7 from fun A c h=>by
   have hl:(kW q).length=11:=rQ;refine⟨A,c,mo,?_,HB.o⟩;rw[hl,HE.o];exact fg h jm)
  go_wp2_with fail;go_ret2;exact HF.o _ _ HO.o
 have d2:=HQ.o.cl 2;go_wp2_with fail;clear d2;refine(HNI.o w5).mono ?_;rintro e wn ⟨A',c',rfl,pS,hb⟩;obtain⟨g',rfl,kX,hg3,ek⟩:=lA pS (bF _ _) aN;have wU:=aa (HQ.o.ai hb);have zC:=HB.dP hb;have mF:=aa (fO HO.o hb);have nh:=aa ek;have mi:=aa (show B≤wn.heap.size from pI);clear pS hb kX hg3 ek HQ HB HO;go_upto_region 9 with(refine wpList_append_own _ rfl (.tmp 32) (.tmp 36) 34 rfl B 5 i0 (.int .u8 0) 1 1 fL hi hz0 hz1 hz2 rfl aN _ 5 _ rfl mF.o ⟨g',0,none⟩ 4 c' (aP (le id 4)) rfl pE nh.o (Oc.bQ _) km aj mi.o ?_;intro v' w6 jo hg2 pq;obtain⟨A2,c2,rfl⟩:=cy jo;have HO:=aa (jb jo);have HB:=aa (iI zC.o mF.o hg2 jm);have HQ:=aa (aG.app wU.o mF.o hg2 pF);clear jo hg2 pq)
 have d3:=HQ.o.cl 3;go_wp2_with fail;clear d3;refine(oO.o w6).mono ?_;rintro e wn ⟨A',c',rfl,pS,hb⟩;obtain⟨g',rfl,kX,hg3,ek⟩:=lA pS (bF _ _) aN;have wU:=aa (HQ.o.ai hb);have zC:=HB.dP hb;have mF:=aa (fO HO.o hb);have nh:=aa ek;have mi:=aa (show B≤wn.heap.size from pI);clear pS hb kX hg3 ek HQ HB HO;go_upto_region 11 with(refine wpList_append_own _ rfl (.tmp 39) (.tmp 43) 34 rfl B 5 i0 (.int .u8 0) 1 1 fL hi hz0 hz1 hz2 rfl aN _ 9 _ rfl mF.o ⟨g',0,none⟩ 2 c' (aP (le st 2)) rfl pE nh.o (Oc.bQ _) km aj mi.o ?_;intro v' w7 jo hg2 pq;obtain⟨A2,c2,rfl⟩:=cy jo;have HO:=aa (jb jo);have HB:=aa (iI zC.o mF.o hg2 jm);have HQ:=aa (aG.app wU.o mF.o hg2 pF);clear jo hg2 pq)
 have d4:=HQ.o.cl 4;go_wp2_with fail;clear d4;refine(HNT.o w7).mono ?_;rintro e wn ⟨A',c',rfl,pS,hb⟩;obtain⟨g',rfl,kX,hg3,ek⟩:=lA pS (bF _ _) aN;have wU:=aa (HQ.o.ai hb);have zC:=HB.dP hb;have mF:=aa (fO HO.o hb);have nh:=aa ek;have mi:=aa (show B≤wn.heap.size from pI);clear pS hb kX hg3 ek HQ HB HO;go_upto_region 13 with(refine wpList_append_own _ rfl (.tmp 46) (.tmp 50) 34 rfl B 5 i0 (.int .u8 0) 1 1 fL hi hz0 hz1 hz2 rfl aN _ 11 _ rfl mF.o ⟨g',0,none⟩ 8 c' (aP (le tt 8)) rfl pE nh.o (Oc.bQ _) km aj mi.o ?_;intro v' w8 jo hg2 pq;obtain⟨A2,c2,rfl⟩:=cy jo;have HO:=aa (jb jo);have HB:=aa (iI zC.o mF.o hg2 jm);have HQ:=aa (aG.app wU.o mF.o hg2 pF);clear jo hg2 pq)
 have HE:=aa (show kW q=le k 1++le tg 4++le id 4++le st 2++le tt 8 from rO);have HF:=aa (show ∀ A c,w8.ownsRow B 5 1 (.slice A 19 c) 19 (aP (le k 1++le tg 4++le id 4++le st 2++le tt 8))→qO (kW q) w (.returned (.tuple #[.slice A 19 c,.int .i64 0])) w8 from fun A c h=>by
  have hl:(kW q).length=19:=rQ;refine⟨A,c,mo,?_,HB.o⟩;rw[hl,HE.o];exact fg h jm)
 go_wp2_with fail;go_ret2;exact HF.o _ _ HO.o
end Rf
end
section
namespace Rf
def adW(bs:By)(w:World)(e:Ending)(w':World): Prop:=∃ A c,e= .returned (.slice A bs.length c)∧w'.ownsRow w.heap.size 5 1 (.slice A bs.length c) bs.length (aP bs)∧Below w.heap.size w w'
theorem Ky(a:iD)(ha:a.Ok)(w:World): Calls af 22 #[.agg (jD a)] w (adW (kW a.rq) w):=by
 have HQ:=aa (fun W=>Cj a ha W);have HP:=aa (fun W=>XI a.rq ha.may W);obtain⟨xa,iz⟩:=ae w.heap.size;obtain⟨w1,aZ⟩:=ae (w.alloc (.cells (jD a) 63));have HX:=aa (aK aZ iz);have HB:=aa (aL aZ);go_enter Tryz.func22,Tryz.ntmps22;go_wp2_with (refine aC rfl 63 (.tmp 1) rfl xa 63 (jD a) HX.o rfl _ GV rfl ask_size ?_);clear aZ iz;refine(HQ.o w1).mono ?_;rintro e w2 ⟨rfl,hb⟩;have cu:=HB.dP hb;clear hb HB;go_wp2_with fail;refine(HP.o w2).mono ?_;rintro e w3 ⟨A,c,rfl,ho,hb⟩;have HF:=aa (show adW (kW a.rq) w (.returned (.slice A (kW a.rq).length c)) w3 from⟨A,c,rfl,fg ho (by have:=cu.o.size;omega),av cu.o hb⟩);clear ho hb cu;go_wp2_with fail;go_ret;exact HF.o
end Rf
end
section
namespace Rf
theorem jR: (af.info? 24).map (·.size)=some 6:=br
theorem FJ: (af.info? 41).map (fun i=>(i.zero,i.size,i.bytes))=some (some (.agg #[.int .i64 0,.int .u32 0,.int .u32 0,.int .i64 0,.int .i64 0]),5,32):=br
structure StN where
 shape:Int
 log:Int
 wide:Bool
 ep:Nat
 sq:Nat
 odd:Int
def FC(s:StN): Array Value:=#[.int .i64 s.shape,.int .i64 s.log,.bool s.wide,.int .u64 (s.ep:Int),.int .u64 (s.sq:Int),.int .i64 s.odd]
structure StN.Ok(s:StN): Prop where
 shape: -9223372036854775808≤s.shape∧s.shape≤9223372036854775807
 log: -9223372036854775808≤s.log∧s.log≤9223372036854775807
def stU(s:StN): StN:=⟨s.shape,s.log,s.wide,0,0,0⟩
theorem UE(w:World): Calls af 30 #[] w fun e w'=>e= .returned (.agg (FC ⟨110,4,false,1,0,0⟩))∧Below w.heap.size w w':=by
 go_enter Tryz.func30,Tryz.ntmps30;go_wp2_with fail;refine bodyPost_ret (dw Tryz.results30 _ im (aJ 24 (aG.fresh w 24 (FC ⟨110,4,false,1,0,0⟩)) _ Tryz.underlying24 rfl jR)) rfl ?_;exact⟨rfl,ax (au _ _) _⟩
theorem SQ(s:StN)(w:World): Calls af 9 #[.agg (FC s)] w fun e w'=>e= .returned (.agg (FC (stU s)))∧Below w.heap.size w w':=by
 obtain⟨x,hx⟩:=ae w.heap.size;obtain⟨w0,hw0⟩:=ae (w.alloc (.cells (FC s) 24));obtain⟨y,hy⟩:=ae w0.heap.size;obtain⟨w1,aZ⟩:=ae (w0.alloc (.cells #[.int .i64 0,.int .i64 0,.bool false,.int .u64 0,.int .u64 0,.int .i64 0] 24));have hS:aG w1 x 24 (FC s):=by rw[←aZ,←hw0,←hx];exact(aG.fresh w _ _).alloc _
 have HA:=aa (show aG w1 y 24 (FC ⟨0,0,false,0,0,0⟩)by rw[←aZ,←hy];exact aG.fresh w0 _ _);have HB:=aa (show Below w.heap.size w w1 by rw[←aZ,←hw0];exact ax (ax (au _ _) _) _);have HY:=aa (show w.heap.size≤y by rw[←hy,←hw0];simp);have c0:w1.cell? ⟨x,0,none⟩=some (.int .i64 s.shape):=hS.cell 0;have c1:w1.cell? ⟨x,1,none⟩=some (.int .i64 s.log):=hS.cell 1;have c2:w1.cell? ⟨x,2,none⟩=some (.bool s.wide):=hS.cell 2;clear hS;go_enter Tryz.func9,Tryz.ntmps9;go_wp2_with (refine ah rfl 24 (.tmp 2) _ rfl y 24 _ (FC (stU s)) HA.o rfl rfl rfl jR (by simp[FC,Value.oneCell']) ?_;intro w9 dE dC gJ;have pz:=aa dE;have qd:=aa dC;clear dE dC gJ);refine bodyPost_ret (dw Tryz.results9 _ im (aJ 24 pz.o _ Tryz.underlying24 rfl jR)) rfl ?_;exact⟨rfl,HB.o.grown qd.o HB.o.size (fun k e=>by injection e with e;have:=HY.o;omega)⟩
def Ny(w:World)(A:Option Addr)(l:List iD): Prop:=l≠ []→∃ g off,A=some ⟨g,off,none⟩∧g<w.heap.size∧∀ i (h:i<l.length),w.rangeAt g (off+i*5) (jD l[i]).toList
theorem Ny.ai{w w':World}{A:Option Addr}{l:List iD}(h:Ny w A l)(hb:Below w.heap.size w w'): Ny w' A l:=fun hne=>by
 obtain⟨g,off,h1,h2,h3⟩:=h hne;exact⟨g,off,h1,Nat.lt_of_lt_of_le h2 hb.size,fun i hi j u hj=>(hb.cell (p:=⟨g,off+i*5+j,none⟩) h2).trans (h3 i hi j u hj)⟩
def Fz(a:iD)(i:Nat): iD:=⟨a.ay,a.id,a.aw,a.bT,(i:Int)+1⟩
def uT(l:List iD)(i:Nat): Rq:=(Fz (l.getD i ⟨0,0,0,0,0⟩) i).rq
def Cc(l:List iD)(i:Nat): List Value:=(cZ (uT l i)).toList
theorem Oa{a:iD}(h:a.Ok){i:Nat}(hi:i<1000000): (Fz a i).Ok:=⟨h.ay,h.id,h.aw,h.bT,by show 0≤(i:Int)+1∧(i:Int)+1<4294967296;omega⟩
def adS(l:List iD)(w:World)(e:Ending)(w':World): Prop:=∃ v,e= .returned v∧aM (fun k=>w.heap.size≤k) w' 41 5 v (min l.length 40) (Cc l)∧Below w.heap.size w w'
theorem aaS(l:List iD)(fq: ∀ a∈l,a.Ok)(A:Option Addr)(c:Nat)(w:World)(hA:Ny w A l)(hl:l.length≤70368744177664): Calls af 10 #[.slice A l.length c] w (adS l w):=by
 obtain⟨j0,hj,hz0,hz1,hz2⟩:=info_parts FJ;have HA:=aa hA;have ur:=aa fq;clear hA fq;go_enter Tryz.func10,Tryz.ntmps10;go_wp2_with fail;go_loopw [3,4] (fun v3 i wr=>∃ j:Nat,j≤min l.length 40∧i= .int .i64 j∧aM (fun k=>w.heap.size≤k) wr 41 5 v3 j (Cc l)∧Below w.heap.size w wr) (fun _ i _=>(40 - intOf i).toNat)
 case atStart=>exact⟨0,Nat.zero_le _,rfl,aM.nil _ _ _ _ _,au _ _⟩
 case round=>
  obtain⟨j,Wf,rfl,hR,hbr⟩:=hrel;by_cases h2:j<min l.length 40
  ·have Q8:(j:Int)<(l.length:Int):=by omega
   have h3':(j:Int)<40:=aj;have HJ:=aa h2;have hlt:j<l.length:=aj;obtain⟨g,off,rfl,sw,hcell⟩:=(HA.o.ai hbr) (fun h0=>by rw[h0] at hlt;simp at hlt);obtain⟨a,ha⟩:=ae (l[j]);have HCE:=aa (hcell j hlt);rw[ha] at HCE;have ahV:a.Ok:=ur.o a (by rw[←ha];exact List.getElem_mem hlt);have sO:=aa (show Cc l j=(cZ (Fz a j).rq).toList by unfold Cc uT;rw[List.getD_eq_getElem?_getD,List.getElem?_eq_getElem hlt,ha];rfl);have Js:=fun W=>Cj (Fz a j) (Oa ahV aj) W
   obtain⟨q,hq⟩:=ae ((Fz a j).rq);rw[hq] at Js sO;have zz:=aa (show ∀ W,Calls af 56 #[.agg (jD (Fz a j))] W fun e w'=>e= .returned (.agg #[.int .i64 q.ay,.int .u32 q.tag,.int .u32 q.id,.int .i64 q.aw,.int .i64 q.bT])∧Below W.heap.size W w' from Js);clear Js hq;have hcv:IntKind.u32.wrap (j:Int)=(j:Int):=by rw[PL];omega
   have akJ:IntKind.u32.wrap ((j:Int)+1)=(j:Int)+1:=by rw[PL];omega
   have HR:=aa hR;have Yu:=aa hbr;clear hcell ahV hR hbr sw ha;obtain⟨xb,zm⟩:=ae wr.heap.size;obtain⟨w4,hw4⟩:=ae (wr.alloc (.cells #[.int .i64 0,.int .i64 0,.int .i64 0,.int .i64 0,.int .u32 0] 63));have pA:=aa (aK hw4 zm);have gH:=aa (aL hw4);have qK:=aa zm;go_upto_region 6 with(first|(refine wpList_load_mid rfl 63 (.tmp 18) rfl g (off+j*5) rfl (jD a).toList _ HCE.o GV rfl ask_size ?_)|(refine ah rfl 63 (.tmp 5) _ rfl xb 63 _ (jD a) pA.o rfl rfl rfl ask_size (by simp[jD,Value.oneCell']) ?_;intro w5 fX ft hs5;have eA:=aa (show Below wr.heap.size wr w5 from bn gH.o ft (Nat.le_of_eq qK.o));have ou:=aa fX;clear fX ft hs5))
   have o1:w5.cell? ⟨xb,4,none⟩=some (.int .u32 a.tag):=ou.o.cell 4;have m1:=ou.o.mark 4;obtain⟨w6,og⟩:=ae (w5.setCell ⟨xb,4,none⟩ (.int .u32 ((j:Int)+1)));have tC:=aa (show aG w6 xb 63 (jD (Fz a j))by rw[←og];exact ou.o.put 4 _);have ij:=aa (show Below wr.heap.size wr w6 by rw[←og];exact eA.o.setCell (Nat.le_of_eq qK.o) _);go_upto_region 7 with fail
   try rw[og]
   clear og o1 m1;go_wp2_with (refine aC rfl 63 (.tmp 5) rfl xb 63 _ tC.o rfl _ GV rfl ask_size ?_);refine(zz.o w6).mono ?_;rintro e w7 ⟨rfl,sy⟩;have lI:=ij.dP sy;have py:=aa (ax (av ij.o sy) (.cells #[.int .i64 q.ay,.int .u32 q.tag,.int .u32 q.id,.int .i64 q.aw,.int .i64 q.bT] 41));have KS:=aa (HR.o.ai py.o);have Zq:=aa (iN w7 [.int .i64 q.ay,.int .u32 q.tag,.int .u32 q.id,.int .i64 q.aw,.int .i64 q.bT] 41);clear sy;go_wp2_with (refine gN _ rfl (.tmp 24) (.tmp 27) 31 rfl 41 j0 (.agg #[.int .i64 0,.int .u32 0,.int .u32 0,.int .i64 0,.int .i64 0]) 5 32 Tryz.underlying31 hj hz0 hz1 hz2 rfl aN _ j _ rfl KS.o ⟨w7.heap.size,0,none⟩ 1 [.int .i64 q.ay,.int .u32 q.tag,.int .u32 q.id,.int .i64 q.aw,.int .i64 q.bT] rfl rfl Zq.o (by intro u hu;simp at hu;rcases hu with rfl|rfl|rfl|rfl|rfl <;>rfl) km aj ?_;intro ga ca w9 DZ dC;have Sm:=aa DZ;have qd:=aa dC;clear DZ dC);go_roundw
   case rel=>
    have hz8:=lI.o.size;have wP:=Yu.o.size;refine⟨j+1,HJ.o,by go_num,?_,(av Yu.o py.o).grown qd.o (av Yu.o py.o).size (fun k e=>HR.o.block k e)⟩;have he:cH (Cc l) j [.int .i64 q.ay,.int .u32 q.tag,.int .u32 q.id,.int .i64 q.aw,.int .i64 q.bT]=Cc l:=by
     funext i;unfold cH;by_cases h:i=j
     ·rw[if_pos h,h,sO.o];rfl
     rw[if_neg h]
    have h9:=Sm.o;rw[he] at h9;exact h9.mono fun k hk _=>by
     rcases hk with hk|hk
     ·exact hk
     have h7:(w7.alloc (.cells #[.int .i64 q.ay,.int .u32 q.tag,.int .u32 q.id,.int .i64 q.aw,.int .i64 q.bT] 41)).heap.size=w7.heap.size+1:=dR;omega
   case measure=>simp[intOf];omega
  obtain rfl:j=min l.length 40:=aj;have HF:=aa (show adS l w (.returned _) wr from⟨_,rfl,hR,hbr⟩);by_cases h40:l.length<40
  ·have e1:min l.length 40=l.length:=by omega
   rw[e1];have n1: ¬(l.length:Int)<(l.length:Int):=aj;clear hR hbr h2 Wf;go_wp2_with fail;go_ret;exact HF.o
  have e1:min l.length 40=40:=aj;rw[e1];clear hR hbr h2 Wf;by_cases h41:l.length=40
  ·have n1: ¬(40:Int)<(l.length:Int):=by omega
   go_wp2_with fail;go_ret;exact HF.o
  have n1:(40:Int)<(l.length:Int):=aj;go_wp2_with fail;go_ret;exact HF.o
