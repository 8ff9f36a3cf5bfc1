import Derived.Lib.AppendZeros
import Derived.Test.YtemighjbfanenaaGreatDoorQk19
set_option linter.all false
set_option maxRecDepth 100000
set_option maxHeartbeats 16000000
namespace Go.Proofs.YtemighjbfanenaaGreatDoor
open RowKit
open Oc (Bs gl fG aO dX bu bO qV eT cM mW e8)
open Bool renaming false_and→GO
open Go.Builtin renaming zeroCells→fN
open Go.Ending renaming returned→jm
open Go.IntKind renaming i64→aN
open Go.IntWalk renaming i64_in→uX
open Go.Proofs.Tryz renaming prog→af
open Go.Value renaming int→eK,slice→jl
open Go.World renaming block_lt_of_cell?→bE,cell?_of_block→eQ
open List renaming drop_succ_cons→tD,length_take→gT,drop_eq_nil_of_le→PO,mem_cons_of_mem→gz,flatten_append→PN,length_append→bZ,take_length→GP
open Nat renaming zero_le→cx,le_trans→aV,le_succ→zP,lt_of_lt_of_le→aU,le_refl→aY
open RowKit.Below renaming refl→ar
theorem Vd{p:Prop}(h:p:=by
 go_wp2_with fail;refine ag (iU q r w x4) ?_;go_wp2_with fail;go_ret;exact⟨rfl,rfl⟩):p:=h
theorem TG{p:Prop}(h:p:=by have:=aau L (k+1);rw[HN.o] at this;rw[←hst];exact aV this hl):p:=h
theorem KY{p:Prop}(h:p:=by simp[Value.ownBlock] at hk):p:=h
theorem oW{p:Prop}(h:p:=by trivial):p:=h
theorem EC{p:Prop}(h:p:=by rw[gT];omega):p:=h
section
namespace Oc
theorem tQ(v:Value)(n:Nat): (fN #[v] n).size=n:=by simp[fN]
def adA(n:Nat)(w:World)(e:Ending)(w':World): Prop:=
 ∃ v,e= .returned v∧w'.ownsRow w.heap.size 5 1 v 0 []∧(∃ A c,v= .slice A 0 c∧A≠none∧n≤c)∧Below w.heap.size w w'
theorem abf(n:Nat)(w:World)(h0:0<n)(hn:n≤70368744177664): Calls af 361 #[.slice none 0 0,.int .i64 n] w (adA n w):=by
 obtain⟨i0,hi,hz0,hz1,hz2⟩:=info_parts e8;have h1: ¬(n:Int)<0:=ai;have h2:(0:Int)<(n:Int):=ai;obtain⟨cp,hcp⟩:=ae (grownCap w n 0 5);have hc1:n≤cp:=by rw[←hcp];exact grownCap_ge _ _ _ _
 have hc2:cp≤maxLen:=by rw[←hcp];exact grownCap_le_maxLen _ _ _ _ jR
 have hrun:=Go.Lib.run_append_nil_zeros (P:=af) w 34 3 34 5 i0 (.int .u8 0) .i64 .i64 Tryz.underlying34 Tryz.underlying3 hi hz0 n h0 (by rw[hz1];decide) ai Az;rw[hcp] at hrun;obtain⟨ZC,hZC⟩:=ae (fN (eK .u8 0).cells n++fN (eK .u8 0).cells (cp - n));have hzs:ZC.size=cp:=by rw[←hZC,show(eK IntKind.u8 0).cells= #[.int .u8 0] from rfl,Array.size_append,tQ,tQ];omega
 rw[hZC] at hrun;obtain⟨w1,a8⟩:=ae (w.drew.alloc (.cells ZC 5));rw[a8] at hrun;have hb1:Below w.heap.size w w1:=by rw[←a8];exact ay (az (ar _ _)) _
 have ho:w1.ownsRow w.heap.size 5 1 (.slice (some ⟨w.heap.size,0,none⟩) 0 cp) 0 []:=by
  refine⟨rfl,.inr ⟨w.heap.size,cp,ZC,rfl,aY _,?_,cx _,hc2,by rw[hzs,Nat.mul_one],dM⟩⟩;rw[←a8];exact aG.fresh w.drew _ _
 have hc3:(0:Int)≤(cp:Int):=ai;have HF:=aa (show adA n w (.returned (.slice (some ⟨w.heap.size,0,none⟩) 0 cp)) w1 from⟨_,rfl,ho,⟨_,_,rfl,dM,hc1⟩,hb1⟩);have alc:=aa hrun;clear hb1 ho a8 hcp hc1 hc2 hZC hzs hi hz0 hz1 hz2 hrun;go_enter Tryz.func361,Tryz.ntmps361;go_wp2_with (refine Go.Lib.wpList_append_run _ rfl _ _ 34 3 rfl (.slice none 0 0) (.int .i64 n) rfl rfl _ _ alc.o ?_);go_ret;exact HF.o
def oF(L:List (List UInt8))(k:Nat): Nat:=((L.take k).flatten).length
theorem xS{L:List (List UInt8)}{k:Nat}(h:k<L.length): (L.take (k+1)).flatten=(L.take k).flatten++L[k]:=by rw[List.take_add_one,List.getElem?_eq_getElem h,PN,Option.toList_some,List.flatten_cons,List.flatten_nil,List.append_nil]
theorem aau(L:List (List UInt8))(k:Nat): ((L.take k).flatten).length≤L.flatten.length:=by
 conv=>rhs;rw[←List.take_append_drop k L]
 rw[PN,bZ];omega
theorem yi(L:List (List UInt8))(sb sc:Nat)(w:World)(ad:Nat→Addr)(cc:Nat→Nat)(hc: ∀ i (h:i<L.length),w.cell? ⟨sb,i,none⟩=some (.slice (some (ad i)) (L[i]).length (cc i)))
  (hB: ∀ i (h:i<L.length),Bs w (some (ad i)) L[i]) (kU:sb<w.heap.size) (h0:0<L.flatten.length) (hl:L.flatten.length≤67108864) (hlc:L.length≤1000) :
  Calls af 331 #[.slice (some ⟨sb,0,none⟩) L.length sc] w fun e w'=>∃ g c,e= .returned (.slice (some ⟨g,0,none⟩) L.flatten.length c)∧w.heap.size≤g∧L.flatten.length≤c∧jO w' 5 g L.flatten∧Below w.heap.size w w':=by
 have HC:=aa hc;have HB:=aa hB;have amh:(L.length:Int)≤1000:=ai;obtain⟨N,hN⟩:=ae L.flatten.length;rw[hN] at h0 hl ⊢;have HN:=aa hN;have hN0:(0:Int)≤(N:Int):=ai;clear hc hB hN;go_enter Tryz.func331,Tryz.ntmps331;go_wp2_with fail;go_loopw [3,11] (fun s i wr=>∃ k:Nat,k≤L.length∧i= .int .i64 k∧s= .int .i64 (oF L k:Nat)∧Below w.heap.size w wr) (fun _ i _=>(L.length - intOf i).toNat)
 case atStart=>exact⟨0,cx _,rfl,rfl,ar _ _⟩
 case round=>
  obtain⟨k,hk,rfl,rfl,hb⟩:=hrel;have HWB:=aa hb;clear hb;by_cases hlt:k<L.length
  ·have Bp:(k:Int)<(L.length:Int):=by omega
   have DN:(0:Int)≤(k:Int):=ai;have x0:wr.cell? ⟨sb,k,none⟩=some (.slice (some (ad k)) (L[k]).length (cc k)):=(HWB.o.cell (p:=⟨sb,k,none⟩) kU).trans (HC.o k hlt);obtain⟨a,ha⟩:=ae (oF L k);obtain⟨m,hm⟩:=ae ((L[k]).length);have hst:oF L (k+1)=a+m:=by rw[oF,xS hlt,bZ,hm,←ha];rfl
   have hle:a+m≤67108864:=TG;have amg:(a:Int)+(m:Int)≤67108864:=ai;rw[ha];rw[hm] at x0;have hng: ¬((a:Int)+(m:Int))<0:=ai;have HST:=aa hst;clear ha hm hst hle;go_wp2_with fail;go_roundw
   case rel=>exact⟨k+1,hlt,by go_num,by rw[HST.o];push_cast;rfl,HWB.o⟩
   case measure=>simp[intOf];omega
  have Mb:k=L.length:=ai;subst Mb;rw[show oF L L.length=N from by rw[oF,GP];exact HN.o];have Bp: ¬((L.length:Nat):Int)<((L.length:Nat):Int):=ai;have HG:=aa (abf N wr h0 ai);go_wp2_with fail;refine HG.o.mono ?_;rintro e w2 ⟨v2,rfl,jr,⟨A2,c2,rfl,gZ,hc2⟩,hb2⟩;have HO2:=aa jr;have afE:=aa hb2;have Ek:=aa hc2;clear jr hb2 hc2 gZ;have xP:Below w.heap.size w w2:=av HWB.o afE.o;obtain⟨base,hbase⟩:=ae wr.heap.size;rw[hbase] at HO2;have hbw:w.heap.size≤base:=by rw[←hbase];exact HWB.o.size
  have ahN:base≤w2.heap.size:=by rw[←hbase];exact afE.o.size
  have afQ:=aa xP;have iK:=aa hbw;have KE:=aa ahN;clear xP hbw ahN hbase HWB afE Ek;obtain⟨n0,VY⟩:=ae L.length;go_wp2_with fail;go_loopw [6,27] (fun v i wr=>∃ k:Nat,k≤L.length∧i= .int .i64 k∧wr.ownsRow base 5 1 v (oF L k) (aO (L.take k).flatten)∧Below w.heap.size w wr∧base≤wr.heap.size) (fun _ i _=>(L.length - intOf i).toNat)
  case atStart=>exact⟨0,cx _,rfl,HO2.o,afQ.o,KE.o⟩
  case round=>
   obtain⟨k,hk,rfl,ho,hb,hs⟩:=hrel;by_cases hlt:k<L.length
   ·have Bp:(k:Int)<(n0:Int):=by omega
    have DN:(0:Int)≤(k:Int):=ai;have x0:=(hb.cell (p:=⟨sb,k,none⟩) kU).trans (HC.o k hlt);obtain⟨i0,hi,hz0,hz1,hz2⟩:=info_parts e8;have hst:oF L (k+1)=oF L k+(L[k]).length:=by rw[oF,xS hlt,bZ];rfl
    have hle:oF L k+(L[k]).length≤67108864:=TG;have hBk:Bs wr (some (ad k)) L[k]:=(HB.o k hlt).ah hb;obtain⟨m,hm⟩:=ae ((L[k]).length);obtain⟨a,ha⟩:=ae (oF L k);obtain⟨cs,hcs⟩:=ae (L[k]);obtain⟨fl,lS⟩:=ae ((L.take k).flatten);have hf1:(L.take (k+1)).flatten=fl++cs:=by rw[xS hlt,lS,hcs]
    rw[hm,ha] at hst hle;rw[hm] at x0;rw[hcs] at hBk hm;rw[ha,lS] at ho;have HO:=aa ho;have HWB:=aa hb;have HS:=aa hs;have fC:=aa hBk;have HM:=aa hm;have HLE:=aa hle;have HST:=aa hst;have HF1:=aa hf1;have HI0:=aa hi;have HZ0:=aa hz0;have HZ1:=aa hz1;have R6:=aa hz2;clear ho hb hs hBk hm ha hcs lS hle hst hf1 hi hz0 hz1 hz2;go_wp2_with (refine wpList_append_own _ rfl _ _ 34 rfl base 5 i0 (.int .u8 0) 1 1 Tryz.underlying34 HI0.o HZ0.o HZ1.o R6.o rfl aM u6 a (aO fl) rfl HO.o (ad k) m (cc k) (aO cs) rfl (by rw[bu,HM.o,Nat.mul_one]) fC.o.read (bO _) (by have:=HLE.o;unfold maxLen;omega) (by have:=HLE.o;omega) HS.o ?_;intro v5 w5 kA mg VU;have um:=aa kA;have p3:=aa mg;clear kA mg VU);go_roundw
    case rel=>exact⟨k+1,hlt,by go_num,by rw[HST.o,HF1.o,dX];exact um.o,HWB.o.grown p3.o HWB.o.size (fun g hg=>aV iK.o (pO HO.o g hg)),aV HS.o p3.o.size⟩
    case measure=>simp[intOf];omega
   have Mb:k=L.length:=ai;subst Mb;have Bp: ¬((L.length:Nat):Int)<(n0:Int):=ai;rw[show oF L L.length=N from by rw[oF,GP];exact HN.o,GP] at ho;obtain⟨A,c,rfl⟩:=cB ho;obtain⟨g,cp,hv⟩:=xL ho (by intro e;injection e with e1 e2 _;omega);injection hv with kq _ hv3
   subst kq hv3;obtain⟨h1,h2,h3,_⟩:=mW ho HN.o;have HF:=aa (show ∃ g' c',jm (.slice (some ⟨g,0,none⟩) N c)= .returned (.slice (some ⟨g',0,none⟩) N c')∧w.heap.size≤g'∧N≤c'∧jO wr 5 g' L.flatten∧Below w.heap.size w wr from⟨g,c,rfl,aV iK.o h3,h2,h1,hb⟩);clear ho h1 h2 h3 hb hs;go_wp2_with fail;go_ret;exact HF.o
end Oc
end
section
namespace En
open Oc (yi)
theorem bJ.lr(d:bJ)(at_:Int)(b:By): (d.write at_ b).2.dk.size=d.dk.size∧(d.write at_ b).2.dk.row.length≤d.dk.row.length+1∧(d.write at_ b).2.dk.dh.length=d.dk.dh.length:=by
 unfold bJ.write;split
 ·simp only[bJ.tZ];unfold Dk.write;split
  ·exact⟨rfl,zP _,rfl⟩
  split
  ·exact⟨rfl,dM,rfl⟩
  exact⟨rfl,zP _,rfl⟩
 rw[bJ.tZ];exact⟨rfl,zP _,rfl⟩
variable{p:Nat}{S:Nat→Prop}
theorem dB.ok{d:bJ}{w:World}(h:dB p d S w): d.dk.Ok:=by obtain⟨kp,SK,h1⟩:=h;obtain⟨q,h2⟩:=h1.BI;exact h2.ok
structure WrI(S:Nat→Prop)(w1:World)(bb bx r p size:Nat)(g:Rg)(R:Int × bJ)(ps:List Piece)(W:World): Prop where
 rg:fV W r p g size
 box:W.cell? ⟨bx,0,none⟩=some (.pointer (some ⟨r,0,none⟩))
 body: ∃ d rem A c,dB p d (Gr S w1 W) W∧d.dk.size=size∧aG W bb 34 #[.slice A rem.length c]∧Bs W A rem∧(∀ gs off,A=some ⟨gs,off,none⟩→gs<w1.heap.size∧¬S gs∧gs≠bb)∧rem.length≤c∧R=KH g d ps rem∧rem.length=P3 ps∧d.dk.row.length+rem.length≤1000000
 pcs: ∀ x∈ps,x.f<x.t∧x.t≤size
 cR:aI (fun k=>S k∨k=bb) w1 W
def WrE(S:Nat→Prop)(w1:World)(bb p:Nat)(R:Int × bJ)(er:Int)(W:World): Prop:=∃ d,R=(er,d)∧dB p d (Gr S w1 W) W∧aI (fun k=>S k∨k=bb) w1 W
structure WrO(S:Nat→Prop)(w1:World)(bb bx r size:Nat): Prop where
 mr:bx<w1.heap.size∧¬S bx∧bx≠bb
 wG:bb<w1.heap.size∧¬S bb
 hr:r<w1.heap.size∧¬S r∧r≠bb
 hS: ∀ k,S k→k<w1.heap.size
 hz:1≤size∧size≤4096
theorem Sq{w1 W V:World}{bb bx r size:Nat} {g:Rg}{R:Int × bJ}{x:Piece}{ps:List Piece}(hO:WrO S w1 bb bx r size)(h:WrI S w1 bb bx r p size g R (x::ps) W)
  {A2:Option Addr} {c2:Nat} {rem:By} {d3:bJ} {er:Int} (hR:R=if er=0 then KH g d3 ps rem else(er,d3)) (hD:dB p d3 (Gr S w1 V) V) (hT:aI (fun k=>S k∨k=bb) w1 V)
  (hWV: ∀ k,k<w1.heap.size→¬S k→k≠bb→V.heap[k]? =W.heap[k]?) (hv:aG V bb 34 #[.slice A2 rem.length c2]) (hB:Bs V A2 rem)
  (hA: ∀ gs off,A2=some ⟨gs,off,none⟩→gs<w1.heap.size∧¬S gs∧gs≠bb) (hc:rem.length≤c2) (CX:rem.length=P3 ps) (hrow:d3.dk.row.length+rem.length≤1000000) (hsz:d3.dk.size=size) :
  (jm (.int .i64 er)= .returned (.int .i64 0)∧WrI S w1 bb bx r p size g R ps V)∨∃ WK:Int,WK≠0∧jm (.int .i64 er)= .returned (.int .i64 WK)∧WrE S w1 bb p R WK V:=by
 by_cases h0:er=0
 ·subst h0;rw[if_pos rfl] at hR;exact .inl ⟨rfl,⟨(hWV r hO.hr.1 hO.hr.2.1 hO.hr.2.2).trans h.rg.own,h.rg.size,h.rg.count⟩,(eQ (a:=⟨bx,0,none⟩) (hWV bx hO.mr.1 hO.mr.2.1 hO.mr.2.2)).trans h.box,⟨d3,rem,A2,c2,hD,hsz,hv,hB,hA,hc,hR,CX,hrow⟩,fun y hy=>h.pcs y (gz _ hy),hT⟩
 ·rw[if_neg h0] at hR;exact .inr ⟨er,h0,rfl,d3,hR,hD,hT⟩
theorem adL{w1 W:World}{bb bx r size:Nat} {g:Rg}{R:Int × bJ}{x:Piece}{ps:List Piece}(hO:WrO S w1 bb bx r size)(h:WrI S w1 bb bx r p size g R (x::ps) W):
  Calls af 329 (#[.int .i64 ((g.from_+x.s:Nat):Int),.int .i64 x.f,.int .i64 x.t]++ #[.pointer (some ⟨bb,0,none⟩),.pointer (some ⟨bx,0,none⟩)]) W fun e W'=>(e= .returned (.int .i64 0)∧WrI S w1 bb bx r p size g R ps W')∨∃ er:Int,er≠0∧e= .returned (.int .i64 er)∧WrE S w1 bb p R er W':=by
 obtain⟨d,rem,A,c,hD,hsz,hv,hB,hA,YZ,hR,CX,hrow⟩:=h.body;obtain⟨Y2,hts⟩:=h.pcs x (List.mem_cons_self ..);obtain⟨dl,C8⟩:=ae (x.t - x.f);rw[P3,C8] at CX;have hne:rem≠ []:=by intro e;rw[e] at CX;simp at CX;omega
 obtain⟨gs,off,rfl,pU,hcell⟩:=hB hne;have hAS:=hA gs off rfl;have hz:=h.cR.size;have x3:W.cell? ⟨bb,0,none⟩=some (.slice (some ⟨gs,off,none⟩) rem.length c):=hv.cell 0;have m3:W.frozen? ⟨bb,0,none⟩=false:=hv.mark 0;have x0:W.cell? ⟨r,0,none⟩=some (.pointer (some ⟨p,0,none⟩)):=h.rg.own.cell 0;have x4:W.cell? ⟨r,3,none⟩=some (.int .i64 size):=h.rg.own.cell 3;have x5:=h.box;obtain⟨a,ha⟩:=ae (g.from_+x.s:Nat);rw[ha];have hstep:R=if(Et g d x rem).1=0 then KH g (Et g d x rem).2 ps (rem.drop dl)else Et g d x rem:=by rw[hR,KH,C8]
 have hdi:(x.t:Int) - (x.f:Int)=(dl:Int):=ai;have hd0:(0:Int)≤(dl:Int):=ai;have hd4:(dl:Int)≤4096:=by have:=hO.hz;omega
 have hdn:(dl:Int)≤(rem.length:Int):=ai;have hdc:(dl:Int)≤(c:Int):=ai;have hnc:(rem.length:Int)≤(c:Int):=ai;have hkp: ∀ u,aI (· =bb) W (W.setCell ⟨bb,0,none⟩ u):=fun u=>aI.at W bb 0 u
 have VP: ∀ u,(W.setCell ⟨bb,0,none⟩ u).cell? ⟨r,0,none⟩=some (.pointer (some ⟨p,0,none⟩)):=fun u=>((hkp u).cells h.rg.own.lt hO.hr.2.2 0).trans x0
 have hq4: ∀ u,(W.setCell ⟨bb,0,none⟩ u).cell? ⟨r,3,none⟩=some (.int .i64 size):=fun u=>((hkp u).cells h.rg.own.lt hO.hr.2.2 3).trans x4
 have hq5: ∀ u,(W.setCell ⟨bb,0,none⟩ u).cell? ⟨bx,0,none⟩=some (.pointer (some ⟨r,0,none⟩)):=fun u=>((hkp u).cells (aU hO.mr.1 hz) hO.mr.2.2 0).trans x5
 obtain⟨A2,gZ⟩:=ae ((if c=dl then some (⟨gs,off,none⟩:Addr) else some ⟨gs,off+dl,none⟩));have ah5: ∀ g' o',A2=some ⟨g',o',none⟩→g'=gs:=by
  intro g' o' e;rw[←gZ] at e;split at e <;>(injection e with e;injection e with e;exact e.symm)
 have o9: ∀ V,V.heap[gs]? =W.heap[gs]?→W.heap.size≤V.heap.size→Bs V A2 (rem.drop dl):=by
  intro V hV hVz;have hVB:Bs V (some ⟨gs,off,none⟩) rem:=fun hn=>by
   obtain⟨g',o',e,hl,hc⟩:=hB hn;injection e with e;injection e with e1 e2;subst e1 e2
   exact⟨_,_,rfl,aU hl hVz,fun i u hu=>(eQ (a:=⟨gs,off+i,none⟩) hV).trans (hc i u hu)⟩
  rw[←gZ];split
  ·rename_i e;rw[PO ai];exact Bs.nil _ _
  exact hVB.drop dl
 have H:=aa h;have HO:=aa hO;have HD:=aa hD;have mz:=aa hsz;have HV:=aa hv;have HB:=aa hB;have CG:=aa hAS;have HT:=aa CX;have rG:=aa hrow;have HST:=aa hstep;have MY:=aa Y2;have HTS:=aa hts;have Po:=aa C8;have jB:=aa ah5;have cu:=aa o9;have HA:=aa ha;have Sc:=aa pU;have HZ:=aa hz;have HKP:=aa hkp;have wF:c=dl∨¬c=dl:=Classical.em _;clear h hO hD hsz hv hB hA YZ hR CX hrow hstep Y2 hts C8 hcell hne ah5 o9 ha pU hAS hz hkp;obtain⟨W1,hW1⟩:=ae (W.setCell ⟨bb,0,none⟩ (.slice A2 (rem.length - dl) (c - dl)));have sx:aI (· =bb) W W1:=by rw[←hW1];exact HKP.o _
 have VX: ∀ k,k<w1.heap.size→¬S k→¬Gr S w1 W k:=fun k hk hs hg=>by rcases hg with hg|hg;exact hs hg;omega
 have hSl: ∀ k,Gr S w1 W k→k<W.heap.size:=fun k hk=>by rcases hk with hk|hk;exact aU (HO.o.hS k hk) HZ.o;exact hk.2
 have hD1:dB p d (Gr S w1 W) W1:=(aF p d).cR HD.o sx fun k hk e=>by subst e;exact VX _ HO.o.wG.1 HO.o.wG.2 hk
 have Wv:Bs W1 A2 (rem.drop dl):=cu.o W1 (sx.block gs Sc.o CG.o.2.2) sx.size;have kq:aG W1 bb 34 #[.slice A2 (rem.length - dl) (c - dl)]:=by rw[←hW1];have:=HV.o.put 0 (.slice A2 (rem.length - dl) (c - dl));simpa using this
 have ahY:aI (fun k=>S k∨k=bb) w1 W1:=H.o.cR.trans (sx.mono fun k _ e=>.inr e);have hdr:(rem.drop dl).length=rem.length - dl:=List.length_drop;have sK:=aa hW1;have iN:=aa sx;have oT:=aa VX;have pY:=aa hSl;have M0:=aa hD1;have bA:=aa Wv;have HV1:=aa kq;have aiG:=aa ahY;have Rx:=aa hdr;clear sx VX hSl hD1 Wv kq ahY hW1 hdr;by_cases hlt:dl<size
 ·have Bp:(dl:Int)<(size:Int):=by omega
  obtain⟨er,o6⟩:=ae ((d.read (a:Int)).1);obtain⟨b,hb⟩:=ae ((d.read (a:Int)).2.1);obtain⟨d',OL⟩:=ae ((d.read (a:Int)).2.2);have fE:d.read (a:Int)=(er,b,d'):=by rw[←o6,←hb,←OL]
  have V':d'.dk=d.dk:=by rw[←OL];exact bJ.lQ _ _
  have hbl:er=0→b.length=size:=fun e0=>by rw[←hb,←mz.o];exact bJ.NY (o6.trans e0) HD.o.ok
  have VH:Et g d x rem=if er=0 then d'.write (a:Int) (b.take x.f++rem.take dl++b.drop x.t)else(er,d'):=by
   unfold Et;rw[Po.o,mz.o,if_pos hlt,HA.o,fE]
  have mj:=aa (JW M0.o (a:Int));rw[fE] at mj;have El:=aa hbl;have Ry:=aa V';have B5:=aa VH;clear o6 hb OL fE V' hbl VH;go_enter Tryz.func329,Tryz.ntmps329;go_wp2_with fail;rw[sK.o];have y0:W1.cell? ⟨r,0,none⟩=some (.pointer (some ⟨p,0,none⟩)):=by rw[←sK.o];exact VP _
  have y5:W1.cell? ⟨bx,0,none⟩=some (.pointer (some ⟨r,0,none⟩)):=by rw[←sK.o];exact hq5 _
  refine mj.o.mono ?_;rintro e W2 ⟨⟨Ar,cr,rfl,hblk,hcr⟩,Mo,ud⟩;have z0:W2.cell? ⟨r,0,none⟩=some (.pointer (some ⟨p,0,none⟩)):=(eQ (a:=⟨r,0,none⟩) (ud.block r (bE _ _ y0) (oT.o r HO.o.hr.1 HO.o.hr.2.1))).trans y0;have z5:W2.cell? ⟨bx,0,none⟩=some (.pointer (some ⟨r,0,none⟩)):=(eQ (a:=⟨bx,0,none⟩) (ud.block bx (bE _ _ y5) (oT.o bx HO.o.mr.1 HO.o.mr.2.1))).trans y5;have Ci:=aa hblk;have Zl:=aa (show b.length≤cr from hcr);have oo:=aa (show dB p d' (Gr S w1 W) W2 from Mo);have gI:=aa ud;clear hblk hcr Mo ud y0 y5 VP hq4 hq5 x0 x3 x4 x5 m3;have ahX:aI (fun k=>S k∨k=bb) w1 W2:=aiG.o.new (gI.o.mono fun k _ hk=>by
   rcases hk with hk|hk
   ·exact .inl (.inl hk)
   exact .inr hk.1)
  have hz2:W.heap.size≤W2.heap.size:=aV iN.o.size gI.o.size;have hG2: ∀ k,Gr S w1 W k→Gr S w1 W2 k:=fun k hk=>by rcases hk with hk|hk;exact .inl hk;exact .inr ⟨hk.1,aU hk.2 hz2⟩
  have FK: ∀ k,Gr S w1 W2 k→k<W2.heap.size:=fun k hk=>by rcases hk with hk|hk;exact aU (HO.o.hS k hk) (aV HZ.o hz2);exact hk.2
  have ahR: ∀ k,k<w1.heap.size→¬S k→k≠bb→W2.heap[k]? =W.heap[k]?:=fun k hk hs hne=>(gI.o.block k (aU (aU hk HZ.o) iN.o.size) (oT.o k hk hs)).trans (iN.o.block k (aU hk HZ.o) hne)
  have hV2:aG W2 bb 34 #[.slice A2 (rem.length - dl) (c - dl)]:=gI.o.arr HV1.o (oT.o bb HO.o.wG.1 HO.o.wG.2);have aiF:=aa ahX;have R6:=aa hz2;have yc:=aa hG2;have alo:=aa FK;have afD:=aa ahR;have HV2:=aa hV2;clear ahX hz2 hG2 FK ahR hV2;by_cases h0:er=0
  ·subst h0;have hwr:Et g d x rem=d'.write (a:Int) (b.take x.f++rem.take dl++b.drop x.t):=by rw[B5.o,if_pos rfl]
   have hbl:=El.o rfl;have aiB:=aa hwr;have afS:=aa hbl;have hne:b≠ []:=by intro e;rw[e] at hbl;have:=HO.o.hz;simp at hbl;omega
   obtain⟨gb,rfl,hgb,hBb⟩:=Ci.o hne;have Y2:(x.f:Int)≤(b.length:Int):=by have:=MY.o;have:=HTS.o;omega
   have LY:(x.t:Int)≤(b.length:Int):=by have:=HTS.o;omega
   have hf0:(0:Int)≤(x.f:Int):=ai;have ht0:(0:Int)≤(x.t:Int):=ai;have hfc:(x.f:Int)≤(cr:Int):=by have:=Zl.o;omega
   have Z5:(x.t:Int)≤(cr:Int):=by have:=Zl.o;omega
   have QP:(b.length:Int)≤(cr:Int):=by have:=Zl.o;omega
   obtain⟨A3,dE⟩:=ae ((if cr=x.t then(⟨gb,0,none⟩:Addr) else⟨gb,x.t,none⟩));have amJ:(if cr=x.t then some (⟨gb,0,none⟩:Addr)else some ⟨gb,x.t,none⟩)=some A3:=by rw[←dE];split <;>rfl
   have Sd:=aa (show W1.heap.size≤gb from hgb);have kS:=aa (show jO W2 5 gb b from hBb);have pC:=aa dE;clear hgb hBb dE hne hwr hbl B5 El Ci;go_wp2_with fail;refine wp_region_held_drew (S:=(fun _=>True)) bh oW (fun hHeld=>?_);refine P2 0 1 2 3 4 5 ?_;refine ty 6 ?_;refine cJ 7 fun K hK=>?_
   go_simp;obtain⟨W3,hW3⟩:=ae ((W2.alloc (.cells #[.slice (some ⟨gb,0,none⟩) x.f cr,.slice (some ⟨gs,off,none⟩) dl c,.slice (some A3) (b.length - x.t) (cr - x.t)] 34)).drew);obtain⟨sb,kU⟩:=ae W2.heap.size;have hb3:Below W2.heap.size W2 W3:=by rw[←hW3];exact az (ay (ar _ _) _)
   have Wm:aG W3 sb 34 #[.slice (some ⟨gb,0,none⟩) x.f cr,.slice (some ⟨gs,off,none⟩) dl c,.slice (some A3) (b.length - x.t) (cr - x.t)]:=by rw[←hW3,←kU];exact aG.fresh W2 _ _
   rw[hW3,kU];have dV:=aa hb3;have aba:=aa Wm;have Pf:=aa kU;clear hW3 kU hb3 Wm;refine bW hK oW fun o8=>?_
   clear hK K;refine cJ 8 fun K hK=>?_
   go_simp;have ahw:W3.heap[gs]? =W.heap[gs]?:=(dV.o.block gs (aU (aU Sc.o iN.o.size) gI.o.size)).trans (afD.o gs CG.o.1 CG.o.2.1 CG.o.2.2);have ah1:Bs W3 (some ⟨gs,off,none⟩) rem:=fun hn=>by
    obtain⟨g',o',e,hl,hc⟩:=HB.o hn;injection e with e;injection e with e1 e2;subst e1 e2
    exact⟨_,_,rfl,aU hl (aV R6.o dV.o.size),fun i u hu=>(eQ (a:=⟨gs,off+i,none⟩) ahw).trans (hc i u hu)⟩
   have ae4:Bs W3 (some ⟨gb,0,none⟩) b:=fun hn=>(kS.o.same (dV.o.block gb kS.o.lt)).bs hn
   have hl0:(b.take x.f).length=x.f:=EC;have rD:(rem.take dl).length=dl:=EC;have hl2:(b.drop x.t).length=b.length - x.t:=List.length_drop;have ah0:Bs W3 (some A3) (b.drop x.t):=by
    rw[←pC.o];split
    ·rename_i e;rw[PO ai];exact Bs.nil _ _
    have:=ae4.drop x.t
    rwa [Nat.zero_add] at this
   have lS: [b.take x.f,rem.take dl,b.drop x.t].flatten=b.take x.f++rem.take dl++b.drop x.t:=dM;have hfn: [b.take x.f,rem.take dl,b.drop x.t].flatten.length=size:=by
    rw[lS,bZ,bZ,hl0,rD,hl2];have:=afS.o;have:=Po.o;have:=MY.o;omega
   have hCC:=yi [b.take x.f,rem.take dl,b.drop x.t] sb 3 W3 (fun i=>if i=0 then⟨gb,0,none⟩else if i=1 then⟨gs,off,none⟩else A3) (fun i=>if i=0 then cr else if i=1 then c else cr - x.t)
    (fun i hi=>by
     match i,hi with
     | 0,_=>exact(aba.o.cell 0).trans (by show _=some (jl (some ⟨gb,0,none⟩) (b.take x.f).length cr);rw[hl0];rfl)
     | 1,_=>exact(aba.o.cell 1).trans (by show _=some (jl (some ⟨gs,off,none⟩) (rem.take dl).length c);rw[rD];rfl)
     | 2,_=>exact(aba.o.cell 2).trans (by show _=some (jl (some A3) (b.drop x.t).length (cr - x.t));rw[hl2];rfl))
    (fun i hi=>by
     match i,hi with
     | 0,_=>exact ae4.take x.f
     | 1,_=>exact ah1.take dl
     | 2,_=>exact ah0)
    aba.o.lt (by rw[hfn];have:=HO.o.hz;omega) (by rw[hfn];have:=HO.o.hz;omega) (by show 3≤1000;decide)
   rw[hfn,lS] at hCC;have HFN:=aa (show(b.take x.f++rem.take dl++b.drop x.t).length=size by rw[←lS];exact hfn);refine hCC.mono ?_;clear hCC hfn lS ah0 hl0 rD hl2 ae4 ah1 ahw;rintro e W4 ⟨g4,c4,rfl,hg4,Ks,wH,hb4⟩;have uV:=aa hg4;have RB:=aa Ks;have gj:=aa wH;have aly:=aa hb4;clear hg4 Ks wH hb4;go_wp2_with fail;refine bW hK oW fun qu=>?_
   clear hK K;refine ty 9 ?_;refine bM ?_;obtain⟨full,kf⟩:=ae (b.take x.f++rem.take dl++b.drop x.t);rw[kf] at HFN gj aiB;have Wl:Below W2.heap.size W2 W4:=av dV.o aly.o;have u0:W4.cell? ⟨r,0,none⟩=some (.pointer (some ⟨p,0,none⟩)):=(Wl.cell (p:=⟨r,0,none⟩) (bE _ _ z0)).trans z0;have u5:W4.cell? ⟨bx,0,none⟩=some (.pointer (some ⟨r,0,none⟩)):=(Wl.cell (p:=⟨bx,0,none⟩) (bE _ _ z5)).trans z5;have hPW:=Ed ((aF p d').ak oo.o Wl) (a:Int) full (some ⟨g4,0,none⟩) c4 (fun hn=>gj.o.bs hn) (cM _ _) (fun gq oq e hq=>by
    injection e with e;injection e with e _
    subst e;have h1:=uV.o;have h2:=dV.o.size;have h3:=R6.o;have h4:=pY.o _ hq;omega) (by have:=rG.o;rw[Ry.o];have:=HT.o;have:=Po.o;have:=MY.o;omega)
   rw[HFN.o] at hPW;have Zf:=aa hPW;have Yp:=aa Wl;clear hPW kf Wl z0 z5;go_wp2_with fail;refine Zf.o.mono ?_;rintro e W5 ⟨rfl,hD5,oH⟩;have OA:W.heap.size≤W5.heap.size:=aV R6.o (aV Yp.o.size oH.size);have FN: ∀ k,k<w1.heap.size→¬S k→W5.heap[k]? =W2.heap[k]?:=fun k hk hs=>(oH.block k (aU (aU hk HZ.o) (aV R6.o Yp.o.size)) (oT.o k hk hs)).trans (Yp.o.block k (aU (aU hk HZ.o) R6.o))
   have HF:=aa (Sq HO.o H.o (V:=W5) (A2:=A2) (c2:=c - dl) (rem:=rem.drop dl) (d3:=(d'.write (a:Int) full).2) (er:=(d'.write (a:Int) full).1)
    (by rw[HST.o,aiB.o]) ((aF p _).mono hD5 (fun k hk=>by
     rcases hk with hk|hk
     ·rcases hk with hk|hk
      ·exact .inl hk
      exact .inr ⟨hk.1,aU hk.2 OA⟩
     ·exact .inr ⟨aV HZ.o (aV (aV R6.o Yp.o.size) hk.1),hk.2⟩) (fun k hk=>by
     rcases hk with hk|hk
     ·exact aU (HO.o.hS k hk) (aV HZ.o OA)
     exact hk.2))
    ((aiF.o.ak Yp.o).new (oH.mono fun k _ hk=>by
     rcases hk with hk|hk
     ·exact .inl (.inl hk)
     exact .inr hk.1))
    (fun k hk hs hne=>(FN k hk hs).trans (afD.o k hk hs hne))
    (by rw[Rx.o];exact(FN bb HO.o.wG.1 HO.o.wG.2).trans HV2.o)
    (cu.o W5 ((FN gs CG.o.1 CG.o.2.1).trans (afD.o gs CG.o.1 CG.o.2.1 CG.o.2.2)) OA)
    (fun g' o' e=>by rw[jB.o g' o' e];exact CG.o)
    (by rw[Rx.o];omega) (by rw[Rx.o];have:=HT.o;omega)
    (by have h1:=(bJ.lr d' (a:Int) full).2.1;rw[Ry.o] at h1;have h2:=rG.o;have h3:=HT.o;have h4:=Po.o;have h5:=MY.o;rw[Rx.o];omega)
    (by rw[(bJ.lr d' (a:Int) full).1,Ry.o];exact mz.o))
   clear hD5 oH OA FN Zf;go_wp2_with fail;go_ret;exact HF.o
  have HF:=aa (show(jm (.int .i64 er)= .returned (.int .i64 0)∧WrI S w1 bb bx r p size g R ps W2)∨∃ WK:Int,WK≠0∧jm (.int .i64 er)= .returned (.int .i64 WK)∧WrE S w1 bb p R WK W2 from .inr ⟨er,h0,rfl,d',by rw[HST.o,B5.o,if_neg h0,if_neg h0],(aF p d').mono oo.o yc.o alo.o,aiF.o⟩);have hq:(er==0)=false:=by simp[h0]
  clear HST B5 El h0;go_wp2_with fail;go_ret;exact HF.o
 ·have Bp: ¬(dl:Int)<(size:Int):=by omega
  have VH:Et g d x rem=d.write (a:Int) (rem.take dl):=by unfold Et;rw[Po.o,mz.o,if_neg hlt,HA.o]
  have rD:(rem.take dl).length=dl:=EC;have ah2:Bs W1 (some ⟨gs,off,none⟩) rem:=fun hn=>by
   obtain⟨g',o',e,hl,hc⟩:=HB.o hn;injection e with e;injection e with e1 e2;subst e1 e2
   exact⟨_,_,rfl,aU hl iN.o.size,fun i u hu=>(eQ (a:=⟨gs,off+i,none⟩) (iN.o.block gs hl CG.o.2.2)).trans (hc i u hu)⟩
  have hPW:=Ed M0.o (a:Int) (rem.take dl) (some ⟨gs,off,none⟩) c (ah2.take dl) (cM _ _) (fun gq oq e hq=>by
   injection e with e;injection e with e _
   subst e;exact oT.o _ CG.o.1 CG.o.2.1 hq) (by have:=rG.o;have:=HT.o;have:=Po.o;have:=MY.o;omega)
  rw[rD] at hPW;have Zf:=aa hPW;have B5:=aa VH;clear hPW VH rD ah2;go_enter Tryz.func329,Tryz.ntmps329;go_wp2_with fail;rw[sK.o];refine Zf.o.mono ?_;rintro e W5 ⟨rfl,hD5,oH⟩;have OA:W.heap.size≤W5.heap.size:=aV iN.o.size oH.size;have FN: ∀ k,k<w1.heap.size→¬S k→W5.heap[k]? =W1.heap[k]?:=fun k hk hs=>oH.block k (aU (aU hk HZ.o) iN.o.size) (oT.o k hk hs)
  have HF:=aa (Sq HO.o H.o (V:=W5) (A2:=A2) (c2:=c - dl) (rem:=rem.drop dl) (d3:=(d.write (a:Int) (rem.take dl)).2) (er:=(d.write (a:Int) (rem.take dl)).1)
   (by rw[HST.o,B5.o]) ((aF p _).mono hD5 (fun k hk=>by
    rcases hk with hk|hk
    ·rcases hk with hk|hk
     ·exact .inl hk
     exact .inr ⟨hk.1,aU hk.2 OA⟩
    ·exact .inr ⟨aV HZ.o (aV iN.o.size hk.1),hk.2⟩) (fun k hk=>by
    rcases hk with hk|hk
    ·exact aU (HO.o.hS k hk) (aV HZ.o OA)
    exact hk.2))
   (aiG.o.new (oH.mono fun k _ hk=>by
    rcases hk with hk|hk
    ·exact .inl (.inl hk)
    exact .inr hk.1))
   (fun k hk hs hne=>(FN k hk hs).trans (iN.o.block k (aU hk HZ.o) hne))
   (by rw[Rx.o];exact(FN bb HO.o.wG.1 HO.o.wG.2).trans HV1.o)
   (cu.o W5 ((FN gs CG.o.1 CG.o.2.1).trans (iN.o.block gs Sc.o CG.o.2.2)) OA)
   (fun g' o' e=>by rw[jB.o g' o' e];exact CG.o)
   (by rw[Rx.o];omega) (by rw[Rx.o];have:=HT.o;omega)
   (by have h1:=(bJ.lr d (a:Int) (rem.take dl)).2.1;have h2:=rG.o;have h3:=HT.o;have h4:=Po.o;have h5:=MY.o;rw[Rx.o];omega)
   (by rw[(bJ.lr d (a:Int) (rem.take dl)).1];exact mz.o))
  clear hD5 oH OA FN Zf;go_wp2_with fail;go_ret;exact HF.o
end En
end
section
namespace En
open Oc (yi)
def ac3(S:Nat→Prop)(p:Nat)(R:Int × bJ)(w:World)(e:Ending)(w':World): Prop:=e= .returned (.int .i64 R.1)∧dB p R.2 (Gr S w w') w'∧aI S w w'
theorem Ec{S:Nat→Prop}{w:World}{r p:Nat}{g:Rg}{d:bJ}(h:fV w r p g d.dk.size)(hD:dB p d S w)(hr: ¬S r)(at_:Nat)(hat:at_≤268435456)(b:By)(A:Option Addr)(c:Nat)
  (hB:Bs w A b) (hA: ∀ gs off,A=some ⟨gs,off,none⟩→gs<w.heap.size∧¬S gs) (hc:b.length≤c) (hn:b.length≤268435456) (hrow:d.dk.row.length+b.length≤1000000) :
  Calls af 294 #[.pointer (some ⟨r,0,none⟩),.int .i64 at_,.slice A b.length c] w (ac3 S p (g.write d at_ b) w):=by
 have hS: ∀ k,S k→k<w.heap.size:=(aF p d).lt hD;obtain⟨n,hbn⟩:=ae b.length;obtain⟨bx,mr⟩:=ae w.heap.size;obtain⟨w0,hw0⟩:=ae (w.alloc (.cells #[.pointer (some ⟨r,0,none⟩)] 44));obtain⟨bb,wG⟩:=ae w0.heap.size;obtain⟨w1,a8⟩:=ae (w0.alloc (.cells #[.slice A b.length c] 34));have hb0:=aK hw0;have y9:=aK a8;have hb1:Below w.heap.size w w1:=av hb0 y9;have ha0:=aJ hw0 mr;have ha1:aG w1 bx 44 #[.pointer (some ⟨r,0,none⟩)]:=ha0.ah y9;have ha2:=aJ a8 wG;have ahM:bx+1=bb:=by rw[←wG,←hw0,←mr];simp only[World.alloc,Array.size_push]
 have akJ:bx<bb:=by rw[←wG];exact ha0.lt
 have hD1:=(aF p d).ak hD hb1;have kB:=h.ah hb1;have hO:WrO S w1 bb bx r d.dk.size:=by
  have h1:=ha1.lt;have h2:=ha2.lt;have h3:=h.own.lt;have h4:=hb1.size;refine⟨⟨h1,fun hs=>?_,ai⟩,⟨h2,fun hs=>?_⟩,⟨ai,hr,ai⟩,fun k hk=>aU (hS k hk) h4,hD.ok.size⟩
  ·have:=hS _ hs;omega
  have:=hS _ hs;omega
 have x1:=ha1.cl 0;have x2:w1.cell? ⟨bb,0,none⟩=some (.slice A n c):=by rw[←hbn];exact ha2.cell 0
 have y1:w1.cell? ⟨r,0,none⟩=some (.pointer (some ⟨p,0,none⟩)):=kB.own.cell 0;have hI: ∀ W,Below w1.heap.size w1 W→WrI S w1 bb bx r p d.dk.size g (KH g d (pieces d.dk.size n at_ n) b) (pieces d.dk.size n at_ n) W:=fun W hW=>by
  refine⟨kB.ah hW,(hW.cell (p:=⟨bx,0,none⟩) ha1.lt).trans x1,⟨d,b,A,c,(aF p d).Ac ((aF p d).ak hD1 hW) hO.hS hW.size,rfl,ha2.ah hW,(hB.ah hb1).ah hW,fun gs off e=>?_,hc,rfl,?_,hrow⟩,pM _ hD.ok.size.1 _ _ _ (aY _),aI.aW hW⟩
  ·have:=hA gs off e;exact⟨aU this.1 hb1.size,this.2,by have:=hb0.size;omega⟩
  rw[hbn,nE _ hD.ok.size.1 _ _ _ (aY _)]
 have HO:=aa hO;have HI:=aa hI;have M0:=aa hD1;have Pk:=aa kB;have bA:=aa hb1;have uk:=aa hD.ok;have XZ:=aa hw0;have sK:=aa a8;have yf:=aa mr;have kS:=aa ahM;have HH:=aa h;have HD:=aa hD;rw[hbn] at hn sK ⊢;have VY:(0:Int)≤(n:Int):=ai;have hcc:(n:Int)≤(c:Int):=ai;have HBN:=aa hbn;clear hS hw0 a8 mr wG ahM hb0 y9 hb1 ha0 ha1 ha2 akJ hD1 kB hO hI hB hA hc hrow hr h hD hbn;cases nK:g.bad d.dk.size at_ n with
 | true=>
  have hres:g.write d at_ b=(2,d):=by unfold Rg.write;rw[HBN.o,if_pos nK]
  rw[hres];have Ge:=aa nK;clear nK hres;go_enter Tryz.func294,Tryz.ntmps294;go_wp2_with fail;rw[XZ.o,sK.o,yf.o,kS.o];refine ag (nT r p w1 y1) ?_;go_wp2_with fail;refine wp_region_held_drew (S:=(fun w'=>w'.cell? ⟨bx,0,none⟩=some (.pointer (some ⟨r,0,none⟩))∧w'.cell? ⟨bb,0,none⟩=some (.slice A n c))) bh (by exact⟨x1,x2⟩) (fun hHeld=>?_);refine P2 0 1 2 3 4 5 ?_;refine cJ 6 fun K hK=>?_
  go_simp;refine(vR (w:=w1.drew) (Pk.o.ah (az (ar _ _))) at_ n hat hn).mono ?_;rintro e w2 ⟨rfl,hb2⟩;rw[Ge.o];have q1:w2.cell? ⟨bx,0,none⟩=some (.pointer (some ⟨r,0,none⟩)):=(hb2.cell (p:=⟨bx,0,none⟩) (bE _ _ x1)).trans x1;have q2:w2.cell? ⟨bb,0,none⟩=some (.slice A n c):=(hb2.cell (p:=⟨bb,0,none⟩) (bE _ _ x2)).trans x2;have cu:=aa (show Below w1.heap.size w1 w2 from av (az (ar _ _)) hb2);clear hb2;go_wp2_with fail;refine bW hK (by exact⟨q1,q2⟩) fun qw=>?_
  clear hK K;refine tJ 7 8 ?_;refine bM ?_;have hb:=av bA.o cu.o;have HF:=aa (show ac3 S p (2,d) w (.returned (.int .i64 2)) w2 from⟨rfl,(aF p d).Ac ((aF p d).ak HD.o hb) ((aF p d).lt HD.o) hb.size,aI.aW hb⟩);clear hb;go_wp2_with fail;go_ret;exact HF.o
 | false=>
  have hres:g.write d at_ b=KH g d (pieces d.dk.size n at_ n) b:=by unfold Rg.write;rw[HBN.o,if_neg (by rw[nK];simp),Int.toNat_natCast]
  rw[hres];obtain⟨R,hR⟩:=ae (KH g d (pieces d.dk.size n at_ n) b);rw[hR] at HI ⊢;have Ge:=aa nK;clear nK hres hR;go_enter Tryz.func294,Tryz.ntmps294;go_wp2_with fail;rw[XZ.o,sK.o,yf.o,kS.o];refine ag (nT r p w1 y1) ?_;go_wp2_with fail;refine wp_region_held_drew (S:=(fun w'=>w'.cell? ⟨bx,0,none⟩=some (.pointer (some ⟨r,0,none⟩))∧w'.cell? ⟨bb,0,none⟩=some (.slice A n c))) bh (by exact⟨x1,x2⟩) (fun hHeld=>?_);refine P2 0 1 2 3 4 5 ?_;refine cJ 6 fun K hK=>?_
  go_simp;refine(vR (w:=w1.drew) (Pk.o.ah (az (ar _ _))) at_ n hat hn).mono ?_;rintro e w2 ⟨rfl,hb2⟩;rw[Ge.o];have q1:w2.cell? ⟨bx,0,none⟩=some (.pointer (some ⟨r,0,none⟩)):=(hb2.cell (p:=⟨bx,0,none⟩) (bE _ _ x1)).trans x1;have q2:w2.cell? ⟨bb,0,none⟩=some (.slice A n c):=(hb2.cell (p:=⟨bb,0,none⟩) (bE _ _ x2)).trans x2;have cu:=aa (show Below w1.heap.size w1 w2 from av (az (ar _ _)) hb2);clear hb2;go_wp2_with fail;refine bW hK (by exact⟨q1,q2⟩) fun qw=>?_
  clear hK K;refine tJ 7 8 ?_;refine bM ?_;go_wp2_with fail;refine dL bh ?_;refine bm.any (S:=(fun w'=>w'.cell? ⟨bx,0,none⟩=some (.pointer (some ⟨r,0,none⟩))∧w'.cell? ⟨bb,0,none⟩=some (.slice A n c))) (t:=7) _ _ _ _ ?_;have hHeld:=(show(fun w'=>w'.cell? ⟨bx,0,none⟩=some (.pointer (some ⟨r,0,none⟩))∧w'.cell? ⟨bb,0,none⟩=some (.slice A n c)) w2.drew from⟨q1,q2⟩);refine AM [1,2] (i:=0) (oi:=?alX) (d:=(some 20)) (v:=?alT) ?ahu bh bh bh bh bh bh (fun _ _ _ h=>h) ?ahF ?agM ?agH hHeld ?_
  case ahu=>(simp only[nL];exact rfl)
  case ahF=>rfl
  case agM=>rfl
  case agH=>(intro w hSw;(try dsimp only at hSw);obtain⟨hSa,Y6⟩:=hSw;go_simp;try with_reducible rfl)
  try simp only[aZ]
  refine tp 1 ?_;refine tt 2 ?_;refine tt 3 ?_;refine AM [5] (i:=4) (oi:=?alW) (d:=(some 24)) (v:=?alS) ?aht bh bh bh bh bh bh (fun _ _ _ h=>h) ?ahE ?agL ?agG hHeld ?_
  case aht=>(simp only[nL];exact rfl)
  case ahE=>rfl
  case agL=>rfl
  case agG=>(intro w hSw;(try dsimp only at hSw);obtain⟨hSa,Y6⟩:=hSw;go_simp;try with_reducible rfl)
  try simp only[aZ]
  refine tt 5 ?_;refine tt 6 ?_;refine bm.last bh ?_;refine kD 7 bh bh ?_;simp only[tD,List.drop_zero];go_wp2_with fail;refine(Ms w2.drew #[.pointer (some ⟨bb,0,none⟩),.pointer (some ⟨bx,0,none⟩)] at_ n (WrI S w1 bb bx r p d.dk.size g R) (WrE S w1 bb p R) uk.o.size HH.o.Oe ?_ (fun ps W h=>h.rg) (fun x ps W h=>adL HO.o h) (HI.o w2.drew (az cu.o))).mono ?_
  ·have h1:=Ge.o;unfold Rg.bad at h1;have h2:=HH.o.eU;simp only[Bool.or_eq_false_iff,decide_eq_false_iff_not] at h1;omega
  rintro e w3 hor;have lH: ∃ er:Int,e= .returned (.int .i64 er)∧∃ d3,R=(er,d3)∧dB p d3 (Gr S w1 w3) w3∧aI (fun k=>S k∨k=bb) w1 w3:=by
   rcases hor with⟨he,h3⟩|⟨er,_,he,d3,h3,h4,h5⟩
   ·obtain⟨d3,rem,A3,c3,OQ,_,_,_,_,_,dO,_⟩:=h3.body;exact⟨0,he,d3,dO,OQ,h3.cR⟩
   exact⟨er,he,d3,h3,h4,h5⟩
  obtain⟨er,rfl,d3,dO,OQ,ki⟩:=lH;have iu:=aa dO;have Yj:=aa OQ;have iJ:=aa ki;clear hor dO OQ ki;go_wp2_with fail;go_ret;rw[iu.o];have hzz:=bA.o.size;have hz3:=iJ.o.size;refine⟨rfl,(aF p d3).mono Yj.o (fun k hk=>?_) (fun k hk=>?_),(aI.aW bA.o).new (iJ.o.mono fun k _ hk=>?_)⟩
  ·rcases hk with hk|hk
   ·exact .inl hk
   exact .inr ⟨aV hzz hk.1,hk.2⟩
  ·rcases hk with hk|hk
   ·exact aU ((aF p d).lt HD.o k hk) (aV hzz hz3)
   exact hk.2
  rcases hk with hk|rfl
  ·exact .inl hk
  exact .inr (by have h1:=yf.o;have h2:=kS.o;omega)
end En
end
section
namespace En
def lgC(l:Lg)(r:Nat)(v:Value): Array Value:=#[v,.int .i64 (l.cz.length:Nat),.int .u64 (l.cm:Nat),.int .u64 (l.last:Nat),.pointer (some ⟨r,0,none⟩),.int .u64 (l.bX:Nat)]
structure gF(S:Nat→Prop)(w:World)(q r p:Nat)(l:Lg)(g:Rg)(size:Nat)(v:Value): Prop where
 own:aG w q 88 (lgC l r v)
 rg:fV w r p g size
 row:w.ownsRow 0 5 1 v l.aD.length (aO l.aD)
 bB:S q∧S r∧∀ k,v.ownBlock=some k→S k∧k≠q∧k≠r
 lt: ∀ k,S k→k<w.heap.size
 ok:l.Ok
 fit:l.used≤g.bytes size
def uR(q r p:Nat)(l:Lg)(g:Rg)(size:Nat)(S:Nat→Prop)(w:World): Prop:=∃ v,gF S w q r p l g size v
theorem cI(q r p:Nat)(l:Lg)(g:Rg)(size:Nat): Loc (uR q r p l g size):=by
 refine⟨fun⟨_,h⟩=>h.lt,fun {S w w'} ⟨v,h⟩ hz hk=>⟨v,?_⟩,fun {S T w} ⟨v,h⟩ p7 hT=>⟨v,?_⟩⟩
 ·exact⟨(hk q h.bB.1).trans h.own,⟨(hk r h.bB.2.1).trans h.rg.own,h.rg.size,h.rg.count⟩,eB h.row fun k hb=>hk k (h.bB.2.2 k hb).1,h.bB,fun k hs=>aU (h.lt k hs) hz,h.ok,h.fit⟩
 exact⟨h.own,h.rg,h.row,⟨p7 _ h.bB.1,p7 _ h.bB.2.1,fun k hk=>⟨p7 _ (h.bB.2.2 k hk).1,(h.bB.2.2 k hk).2⟩⟩,hT,h.ok,h.fit⟩
variable{S:Nat→Prop}{w:World}{q r p size:Nat}{v:Value}
theorem gF.small{l:Lg}{g:Rg}(h:gF S w q r p l g size v): l.cz.length+l.aD.length≤268435456∧l.used=l.cz.length+l.aD.length:=by
 have h1:=l.uo h.ok.done;have h2:=h.fit;have h3:=h.rg.eU;exact⟨ai,h1⟩
theorem iU(q r:Nat)(w:World)(h:w.cell? ⟨q,4,none⟩=some (.pointer (some ⟨r,0,none⟩))): Calls af 186 #[.pointer (some ⟨q,0,none⟩)] w fun e w'=>e= .returned (.bool true)∧w'=w:=by
 go_enter Tryz.func186,Tryz.ntmps186;go_wp2_with fail;go_ret;exact⟨rfl,rfl⟩
theorem JX{l:Lg}{g:Rg}(h:gF S w q r p l g size v): Calls af 187 #[.pointer (some ⟨q,0,none⟩)] w fun e w'=>e= .returned (.int .i64 (l.used:Nat))∧Below w.heap.size w w':=by
 obtain⟨A,c,rfl⟩:=cB h.row;have x0:w.cell? ⟨q,0,none⟩=some (.slice A l.aD.length c):=h.own.cell 0;have x1:w.cell? ⟨q,1,none⟩=some (.int .i64 (l.cz.length:Nat)):=h.own.cell 1;obtain⟨h1,h2⟩:=h.small;rw[h2];obtain⟨a,ha⟩:=ae l.cz.length;obtain⟨b,hb⟩:=ae l.aD.length;rw[ha,hb] at h1 ⊢;rw[ha] at x1;rw[hb] at x0;have hab:(a:Int)+(b:Int)≤268435456:=ai;have hw:aN.wrap ((a:Int)+(b:Int))=((a+b:Nat):Int):=by rw[uX _ ai];push_cast;rfl
 clear h h1 h2 ha hb;go_enter Tryz.func187,Tryz.ntmps187;exact Vb
theorem vZ{l:Lg}{g:Rg}(h:gF S w q r p l g size v): Calls af 96 #[.pointer (some ⟨q,0,none⟩)] w fun e w'=>e= .returned (.int .i64 (g.bytes size - l.used:Nat))∧Below w.heap.size w w':=by
 have x4:w.cell? ⟨q,4,none⟩=some (.pointer (some ⟨r,0,none⟩)):=h.own.cell 4;have L:=cI q r p l g size;have uT:=aa fun(W:World) (hW:Below w.heap.size w W)=>ny (h.rg.ah hW)
 have Pa:=aa fun(W:World) (hW:Below w.heap.size w W)=>by
  obtain⟨v',h'⟩:=L.ak ⟨v,h⟩ hW;exact JX h'
 have h1:=h.fit;have h2:=h.rg.eU;obtain⟨a,ha⟩:=ae (g.bytes size);obtain⟨b,hb⟩:=ae l.used;rw[ha] at uT h1 h2 ⊢;rw[hb] at Pa h1 ⊢;have hab:(a:Int) - (b:Int)=((a - b:Nat):Int):=ai;have ha4:(a:Int)≤268435456:=ai;have hwr:aN.wrap ((a - b:Nat):Int)=((a - b:Nat):Int):=uX _ ai;have He:(b:Int)≤(a:Int):=ai;clear h ha hb h1 h2 L;go_enter Tryz.func96,Tryz.ntmps96;go_wp2_with fail;refine ag (iU q r w x4) ?_;go_wp2_with fail;refine tW (S:=(fun w'=>w'.cell? ⟨q,4,none⟩=some (.pointer (some ⟨r,0,none⟩)))) (by exact x4) fun hHeld=>?_
 refine P2 0 1 2 3 5 6 ?_;refine ty 7 ?_;refine cJ 4 fun K hK=>?_
 go_simp;refine(uT.o _ (az (ar _ _))).mono ?_;rintro e w2 ⟨rfl,hw2⟩;have Bi:Below w.heap.size w w2:=av (az (ar _ _)) hw2;have q4:w2.cell? ⟨q,4,none⟩=some (.pointer (some ⟨r,0,none⟩)):=(Bi.cell (p:=⟨q,4,none⟩) (bE _ _ x4)).trans x4;have Kw:=aa Bi;clear hw2 Bi;go_wp2_with fail;refine bW hK (by exact q4) fun lI=>?_
 clear hK K;refine cJ 8 fun K hK=>?_
 go_simp;refine(Pa.o _ Kw.o).mono ?_;rintro e w3 ⟨rfl,hw3⟩;have aez:Below w.heap.size w w3:=av Kw.o hw3;have r4:w3.cell? ⟨q,4,none⟩=some (.pointer (some ⟨r,0,none⟩)):=(aez.cell (p:=⟨q,4,none⟩) (bE _ _ x4)).trans x4;have MO:=aa aez;clear hw3 aez;go_wp2_with fail;refine bW hK (by exact r4) fun qu=>?_
 clear hK K;refine tJ 9 10 ?_;refine bM ?_;go_wp2_with fail;go_ret;exact⟨rfl,MO.o⟩
theorem XL{l:Lg}{g:Rg}(h:gF S w q r p l g size v): Calls af 80 #[.pointer (some ⟨q,0,none⟩)] w fun e w'=>e= .returned (.int .u64 (l.last:Nat))∧w'=w:=by
 have x4:w.cell? ⟨q,4,none⟩=some (.pointer (some ⟨r,0,none⟩)):=h.own.cell 4;have x5:w.cell? ⟨q,3,none⟩=some (.int .u64 (l.last:Nat)):=h.own.cell 3;clear h;go_enter Tryz.func80,Tryz.ntmps80;exact Vd
theorem J0{l:Lg}{g:Rg}(h:gF S w q r p l g size v): Calls af 79 #[.pointer (some ⟨q,0,none⟩)] w fun e w'=>e= .returned (.int .u64 (l.cm:Nat))∧w'=w:=by
 have x4:w.cell? ⟨q,4,none⟩=some (.pointer (some ⟨r,0,none⟩)):=h.own.cell 4;have x5:w.cell? ⟨q,2,none⟩=some (.int .u64 (l.cm:Nat)):=h.own.cell 2;clear h;go_enter Tryz.func79,Tryz.ntmps79;exact Vd
theorem JZ{l:Lg}{g:Rg}(h:gF S w q r p l g size v): Calls af 81 #[.pointer (some ⟨q,0,none⟩)] w fun e w'=>e= .returned (.int .i64 (l.used:Nat))∧Below w.heap.size w w':=by
 have x4:w.cell? ⟨q,4,none⟩=some (.pointer (some ⟨r,0,none⟩)):=h.own.cell 4;have Pa:=aa (JX h);clear h;go_enter Tryz.func81,Tryz.ntmps81;go_wp2_with fail;refine ag (iU q r w x4) ?_;go_wp2_with fail;refine Pa.o.mono ?_;exact IH
theorem JY{l:Lg}{g:Rg}(h:gF S w q r p l g size v): Calls af 305 #[.pointer (some ⟨q,0,none⟩)] w fun e w'=>e= .returned (if l.last=18446744073709551615 then .tuple #[.int .u64 0,.bool false] else .tuple #[.int .u64 (l.last+1:Nat),.bool true])∧w'=w:=by
 have x3:w.cell? ⟨q,3,none⟩=some (.int .u64 (l.last:Nat)):=h.own.cell 3;have hl:=h.ok.last;obtain⟨a,ha⟩:=ae l.last;rw[ha] at x3 hl ⊢;clear h ha;by_cases h0:a=18446744073709551615
 ·subst h0;rw[if_pos rfl];go_enter Tryz.func305,Tryz.ntmps305;go_wp2_with fail;go_ret2;exact⟨rfl,rfl⟩
 rw[if_neg h0];have hq:((a:Int)==18446744073709551615)=false:=mQ;have hw:IntKind.u64.wrap ((a:Int)+1)=((a+1:Nat):Int):=by rw[IntWalk.u64_in _ ai];push_cast;rfl
 have HL:=aa hl;clear h0;go_enter Tryz.func305,Tryz.ntmps305;go_wp2_with fail;go_ret2;exact⟨rfl,rfl⟩
end En
end
section
namespace En
variable{S:Nat→Prop}{w:World}{q r p size:Nat}{v:Value}
theorem XM{l:Lg}{g:Rg}(h:gF S w q r p l g size v)(n:Nat)(hn:n≤268435456): Calls af 304 #[.pointer (some ⟨q,0,none⟩),.int .i64 n] w fun e w'=>e= .returned (.bool (l.fits (g.bytes size) n))∧Below w.heap.size w w':=by
 have x4:w.cell? ⟨q,4,none⟩=some (.pointer (some ⟨r,0,none⟩)):=h.own.cell 4;have F7:=aa (JY h);have MQ:=aa (vZ h);have y7:=h.fit;have hby:=h.rg.eU;unfold Lg.fits;obtain⟨a,ha⟩:=ae l.last;obtain⟨B,hB⟩:=ae (g.bytes size);obtain⟨u,hu⟩:=ae l.used;rw[ha] at F7 ⊢;rw[hB,hu] at MQ y7 ⊢;rw[hB] at hby;clear h ha hB hu;have VY: ¬(n:Int)<0:=ai;by_cases Hh:n≤32
 ·have px: ¬(32:Int)<(n:Int):=by omega
  have hn3:(n:Int)≤32:=ai;have HFS:=aa fun W=>Ck n Hh W
  rw[show decide (n≤32)=true by simpa using Hh,Bool.true_and];by_cases h0:a=18446744073709551615
  ·subst h0;rw[show decide ((18446744073709551615:Nat)≠18446744073709551615)=false from dM,GO];rw[if_pos rfl] at F7;go_enter Tryz.func304,Tryz.ntmps304;go_wp2_with fail;refine ag (iU q r w x4) ?_;go_wp2_with fail;refine ag F7.o ?_;go_wp2_with fail;go_ret;exact⟨rfl,ar _ _⟩
  rw[show decide (a≠18446744073709551615)=true by simpa using h0,Bool.true_and];rw[if_neg h0] at F7;obtain⟨m,hm⟩:=ae (B - u);have hdec:decide (22+n+u≤B)=decide ((22:Int)+(n:Int)≤(m:Int)):=by rw[decide_eq_decide];omega
  rw[hm] at MQ;rw[hdec];have xO:(m:Int)≤268435456:=ai;clear h0 hm hdec y7 hby;go_enter Tryz.func304,Tryz.ntmps304;go_wp2_with fail;refine ag (iU q r w x4) ?_;go_wp2_with fail;refine ag F7.o ?_;go_wp2_with fail;refine ag (HFS.o w) ?_;go_wp2_with fail;refine MQ.o.mono ?_;exact IH
 have px:(32:Int)<(n:Int):=ai;rw[show decide (n≤32)=false by simpa using Hh,GO,GO];go_enter Tryz.func304,Tryz.ntmps304;go_wp2_with fail;refine ag (iU q r w x4) ?_;go_wp2_with fail;go_ret;exact⟨rfl,ar _ _⟩
def ac2(q r:Nat)(l:Lg)(w:World)(e:Ending)(w':World): Prop:=(∃ u,e= .returned u)∧aG w' q 88 #[.slice none 0 0,.int .i64 (l.used:Nat),.int .u64 (l.last:Nat),.int .u64 (l.last:Nat),.pointer (some ⟨r,0,none⟩),.int .u64 (l.bX:Nat)]∧aI (· =q) w w'
theorem B4{l:Lg}{g:Rg}(h:gF S w q r p l g size v): Calls af 296 #[.pointer (some ⟨q,0,none⟩)] w (ac2 q r l w):=by
 obtain⟨A,c,rfl⟩:=cB h.row;obtain⟨h1,h2⟩:=h.small;have ho:=h.own;unfold lgC at ho;unfold ac2;rw[h2];obtain⟨a,ha⟩:=ae l.cz.length;obtain⟨b,hb⟩:=ae l.aD.length;obtain⟨la,hla⟩:=ae l.last;obtain⟨du,Y5⟩:=ae l.cm;obtain⟨ep,Me⟩:=ae l.bX;rw[ha,hb] at h1 ⊢;rw[hla,Me] at ho ⊢;rw[ha,hb,Y5] at ho;have x0:w.cell? ⟨q,0,none⟩=some (.slice A b c):=ho.cell 0;have x1:w.cell? ⟨q,1,none⟩=some (.int .i64 (a:Nat)):=ho.cell 1;have x3:w.cell? ⟨q,3,none⟩=some (.int .u64 (la:Nat)):=ho.cell 3;have x2:w.cell? ⟨q,2,none⟩=some (.int .u64 (du:Nat)):=ho.cell 2;have m0:=ho.mark 0;have m1:=ho.mark 1;have m2:=ho.mark 2;have hab:(a:Int)+(b:Int)≤268435456:=ai;have hw:aN.wrap ((a:Int)+(b:Int))=((a+b:Nat):Int):=by rw[uX _ ai];push_cast;rfl
 have HO:=aa ho;clear h h1 h2 ha hb hla Y5 Me ho;go_enter Tryz.func296,Tryz.ntmps296;go_wp2_with fail;refine dL bh ?_;refine bm.any (S:=(fun w'=>w'.cell? ⟨q,0,none⟩=some (.slice A b c)∧w'.cell? ⟨q,1,none⟩=some (.int .i64 (a:Nat)))) (t:=12) _ _ _ _ ?_;have hHeld:=(show(fun w'=>w'.cell? ⟨q,0,none⟩=some (.slice A b c)∧w'.cell? ⟨q,1,none⟩=some (.int .i64 (a:Nat))) w.drew from⟨x0,x1⟩);refine tt 0 ?_;refine tt 1 ?_;refine tt 2 ?_;refine tt 3 ?_;refine tt 4 ?_;refine tt 5 ?_;refine tt 6 ?_;refine tt 7 ?_;refine tt 8 ?_;refine tt 9 ?_;refine tp 10 ?_;refine tp 11 ?_;refine bm.last bh ?_;refine kD 12 bh bh ?_;simp only[tD,List.drop_zero];go_wp2_with fail;refine bodyPost_end (results_none Tryz.results296 _ _ _) rfl ⟨⟨_,rfl⟩,?_,?_⟩
 ·have:=((HO.o.put 1 (.int .i64 ((a:Int)+(b:Int)))).put 0 (.slice none 0 0)).put 2 (.int .u64 (la:Int));simp at this;exact this
 exact aI.ak (((aI.at w q 1 _).BQ 0 _).BQ 2 _) (az (ar _ _))
theorem Sr(g:Rg): ∀ (ps:List Piece) (d:bJ) (b:By),(∀ x∈ps,x.f<x.t)→(KH g d ps b).2.dk.size=d.dk.size∧(KH g d ps b).2.dk.row.length≤d.dk.row.length+P3 ps
 | [],d,b,_=>⟨rfl,aY _⟩
 | x::ps,d,b,h=>by
  have h1:(Et g d x b).2.dk.size=d.dk.size∧(Et g d x b).2.dk.row.length≤d.dk.row.length+1:=by
   unfold Et;split
   ·split
    ·have h2:=bJ.lr (d.read (g.from_+x.s:Nat)).2.2 (g.from_+x.s:Nat) ((d.read (g.from_+x.s:Nat)).2.1.take x.f++b.take (x.t - x.f)++(d.read (g.from_+x.s:Nat)).2.1.drop x.t);rw[bJ.lQ] at h2;exact⟨h2.1,h2.2.1⟩
    rw[bJ.lQ];exact⟨rfl,zP _⟩
   have h2:=bJ.lr d (g.from_+x.s:Nat) (b.take (x.t - x.f));exact⟨h2.1,h2.2.1⟩
  have hx:=h x (List.mem_cons_self ..);rw[KH,P3];split
  ·have h3:=Sr g ps (Et g d x b).2 (b.drop (x.t - x.f)) (fun y hy=>h y (gz _ hy));exact⟨h3.1.trans h1.1,ai⟩
  exact⟨h1.1,ai⟩
theorem Rg.pD(g:Rg)(d:bJ)(at_:Nat)(b:By)(hs:1≤d.dk.size): (g.write d at_ b).2.dk.size=d.dk.size∧(g.write d at_ b).2.dk.row.length≤d.dk.row.length+b.length:=by
 unfold Rg.write;split
 ·exact⟨rfl,Nat.le_add_right _ _⟩
 have h1:=Sr g (pieces d.dk.size b.length (at_:Int).toNat b.length) d b (fun x hx=>(pM _ hs _ _ _ (aY _) x hx).1);rw[nE _ hs _ _ _ (aY _)] at h1;exact h1
def Lg.iB(l:Lg): Lg:={l with done:=l.eC.length}
theorem Lg.QR(l:Lg): l.iB.cz.length=l.used∧l.iB.aD= []∧l.iB.cm=l.last∧l.iB.last=l.last∧l.iB.used=l.used∧l.iB.bX=l.bX:=by
 refine⟨?_,?_,rfl,rfl,rfl,rfl⟩
 ·simp[Lg.iB,Lg.cz,Lg.used]
 simp[Lg.iB,Lg.aD,jd]
def Em(SL SD:Nat→Prop)(q r p:Nat)(g:Rg)(size:Nat)(R:Int × Lg × bJ)(w:World)(e:Ending)(w':World): Prop:=
 e= .returned (.int .i64 R.1)∧uR q r p R.2.1 g size SL w'∧dB p R.2.2 (Gr SD w w') w'∧aI (fun k=>SL k∨SD k) w w'
theorem gF.flush{w':World} {l:Lg}{g:Rg}(h:gF S w q r p l g size v)(ho:aG w' q 88 #[.slice none 0 0,.int .i64 (l.used:Nat),.int .u64 (l.last:Nat),.int .u64 (l.last:Nat),.pointer (some ⟨r,0,none⟩),.int .u64 (l.bX:Nat)])(hr:w'.heap[r]? =w.heap[r]?)(hz:w.heap.size≤w'.heap.size): uR q r p l.iB g size S w':=by
 obtain⟨f1,f2,f3,f4,f5,f6⟩:=l.QR;refine⟨.slice none 0 0,?_,⟨hr.trans h.rg.own,h.rg.size,h.rg.count⟩,?_,⟨h.bB.1,h.bB.2.1,fun k hk=>KY⟩,fun k hk=>aU (h.lt k hk) hz,⟨aY _,h.ok.last,h.ok.bX,h.ok.short⟩,h.fit⟩
 ·unfold lgC;rw[f1,f3,f4,f6];exact ho
 rw[f2];exact sV w' 0 1 _
theorem Re{SL SD:Nat→Prop}{l:Lg}{g:Rg}{d:bJ}(h:gF SL w q r p l g d.dk.size v)(hD:dB p d SD w)(We: ∀ k,SL k→¬SD k)(hrow:d.dk.row.length+l.aD.length≤1000000):
  Calls af 210 #[.pointer (some ⟨q,0,none⟩)] w (Em SL SD q r p g d.dk.size (l.flush g d) w):=by
 obtain⟨A,c,rfl⟩:=cB h.row;have x0:w.cell? ⟨q,0,none⟩=some (.slice A l.aD.length c):=h.own.cell 0;have x1:w.cell? ⟨q,1,none⟩=some (.int .i64 (l.cz.length:Nat)):=h.own.cell 1;have x2:w.cell? ⟨q,2,none⟩=some (.int .u64 (l.cm:Nat)):=h.own.cell 2;have x3:w.cell? ⟨q,3,none⟩=some (.int .u64 (l.last:Nat)):=h.own.cell 3;have x4:w.cell? ⟨q,4,none⟩=some (.pointer (some ⟨r,0,none⟩)):=h.own.cell 4;have H:=aa h;have HD:=aa hD;have Rz:=aa We;have rG:=aa hrow;obtain⟨h1,h2⟩:=h.small;by_cases h0:l.done=l.eC.length
 ·have hq:((l.cm:Int)==(l.last:Int))=true:=by rw[beq_iff_eq];unfold Lg.cm Lg.last;omega
  have Cz:(l.cm==l.last)=true:=by rw[beq_iff_eq];unfold Lg.cm Lg.last;omega
  have lS:l.flush g d=(0,l,d):=by unfold Lg.flush;rw[if_pos h0]
  rw[lS];have HF:=aa fun(W:World) (hb:Below w.heap.size w W)=>(show Em SL SD q r p g d.dk.size (0,l,d) w (.returned (.int .i64 0)) W from⟨rfl,(cI q r p l g _).ak ⟨_,h⟩ hb,(aF p d).Ac ((aF p d).ak hD hb) ((aF p d).lt hD) hb.size,aI.aW hb⟩)
  obtain⟨du,Y5⟩:=ae l.cm;obtain⟨la,hla⟩:=ae l.last;rw[Y5] at x2 hq Cz;rw[hla] at x3 hq Cz;clear h hD We hrow h1 h2 h0 lS Y5 hla;go_enter Tryz.func210,Tryz.ntmps210;go_wp2_with fail;refine ag (iU q r w x4) ?_;go_wp2_with fail;go_quiet (fail);go_wp2_with fail;go_ret;exact HF.o _ (aQ (ar _ _) _)
 ·have hq:((l.cm:Int)==(l.last:Int))=false:=by rw[beq_eq_false_iff_ne];unfold Lg.cm Lg.last;omega
  have Cz:(l.cm==l.last)=false:=by rw[beq_eq_false_iff_ne];unfold Lg.cm Lg.last;omega
  obtain⟨er,o6⟩:=ae ((g.write d (l.cz.length:Nat) l.aD).1);obtain⟨d1,Wf⟩:=ae ((g.write d (l.cz.length:Nat) l.aD).2);have hwr:g.write d (l.cz.length:Nat) l.aD=(er,d1):=by rw[←o6,←Wf]
  have lS:l.flush g d=if er=0 then(if d1.sync.1=0 then(0,l.iB,d1.sync.2)else(d1.sync.1,l,d1.sync.2))else(er,l,d1):=by unfold Lg.flush;rw[if_neg h0,hwr];rfl
  have aeO:=Rg.pD g d l.cz.length l.aD hD.ok.size.1;rw[Wf] at aeO;have hSD:=(aF p d).lt hD;have hWR: ∀ W,Below w.heap.size w W→Calls af 294 #[.pointer (some ⟨r,0,none⟩),.int .i64 (l.cz.length:Nat),.slice A l.aD.length c] W fun e W'=>e= .returned (.int .i64 er)∧dB p d1 (Gr SD w W') W'∧aI SD w W':=fun W hW=>by
   refine(Ec (h.rg.ah hW) ((aF p d).ak hD hW) (We r h.bB.2.1) l.cz.length ai l.aD A c ((Bs.own h.row).ah hW) (fun gs off e=>?_) ?_ ai hrow).mono ?_
   ·subst e;have h3:=h.bB.2.2 gs rfl;exact⟨aU (h.lt gs h3.1) hW.size,We gs h3.1⟩
   ·rcases h.row.2 with⟨_,e1⟩|⟨g',cap,cur,e0,_,_,e3,_⟩
    ·omega
    injection e0 with _ _ e7;omega
   rintro e W' ⟨he,h3,h4⟩;rw[hwr] at he h3;have h5:=hW.size;have h6:=h4.size;refine⟨he,(aF p d1).mono h3 (fun k hk=>?_) (fun k hk=>?_),(aI.aW hW).trans h4⟩
   ·rcases hk with hk|hk
    ·exact .inl hk
    exact .inr ⟨aV h5 hk.1,hk.2⟩
   rcases hk with hk|hk
   ·exact aU (hSD k hk) (aV h5 h6)
   exact hk.2
  obtain⟨R,hR⟩:=ae (l.flush g d);rw[hR] at lS ⊢;have B5:=aa hWR;have Ga:=aa lS;have alu:=aa aeO;have HSD:=aa hSD;obtain⟨du,Y5⟩:=ae l.cm;obtain⟨la,hla⟩:=ae l.last;obtain⟨wl,CW⟩:=ae l.cz.length;obtain⟨n,hn⟩:=ae l.aD.length;rw[Y5] at x2 hq Cz;rw[hla] at x3 hq Cz;rw[CW,hn] at B5;rw[CW] at x1;rw[hn] at x0;have HNN:=aa hn;clear h hD We hrow h1 h2 h0 lS Y5 hla CW hn hwr o6 Wf aeO hSD hWR hR;go_enter Tryz.func210,Tryz.ntmps210;go_wp2_with fail;refine ag (iU q r w x4) ?_;go_wp2_with fail;go_quiet (fail);obtain⟨wz,hwz⟩:=ae (w.drewN nq);have Bu:Below w.heap.size w wz:=by rw[←hwz];exact aQ (ar _ _) _
  rw[hwz];have z0:wz.cell? ⟨q,0,none⟩=some (.slice A n c):=(Bu.cell (p:=⟨q,0,none⟩) (bE _ _ x0)).trans x0;have z1:wz.cell? ⟨q,1,none⟩=some (.int .i64 (wl:Nat)):=(Bu.cell (p:=⟨q,1,none⟩) (bE _ _ x1)).trans x1;have z4:wz.cell? ⟨q,4,none⟩=some (.pointer (some ⟨r,0,none⟩)):=(Bu.cell (p:=⟨q,4,none⟩) (bE _ _ x4)).trans x4;have HBZ:=aa Bu;clear Bu hwz;go_wp2_with fail;refine wp_region_held_drew (S:=(fun w'=>w'.cell? ⟨q,0,none⟩=some (.slice A n c)∧w'.cell? ⟨q,1,none⟩=some (.int .i64 (wl:Nat))∧w'.cell? ⟨q,4,none⟩=some (.pointer (some ⟨r,0,none⟩)))) bh (by exact⟨z0,z1,z4⟩) (fun hHeld=>?_);refine ov 0 1 2 3 4 5 6 7 ?_;refine P2 8 9 10 11 12 13 ?_;refine cJ 14 fun K hK=>?_
  go_simp;refine(B5.o _ (az HBZ.o)).mono ?_;rintro e w2 ⟨rfl,Mo,jE⟩;have Z8:=Rz.o q H.o.bB.1;have q0:w2.cell? ⟨q,0,none⟩=some (.slice A n c):=(eQ (a:=⟨q,0,none⟩) (jE.block q (H.o.lt q H.o.bB.1) Z8)).trans x0;have q1:w2.cell? ⟨q,1,none⟩=some (.int .i64 (wl:Nat)):=(eQ (a:=⟨q,1,none⟩) (jE.block q (H.o.lt q H.o.bB.1) Z8)).trans x1;have q4:w2.cell? ⟨q,4,none⟩=some (.pointer (some ⟨r,0,none⟩)):=(eQ (a:=⟨q,4,none⟩) (jE.block q (H.o.lt q H.o.bB.1) Z8)).trans x4;have oo:=aa Mo;have gI:=aa jE;clear Mo jE Z8;go_wp2_with fail;refine bW hK (by exact⟨q0,q1,q4⟩) fun lT=>?_
  clear hK K;refine ty 15 ?_;refine bM ?_;have hrg2:fV w2 r p g d.dk.size:=H.o.rg.cR gI.o (Rz.o r H.o.bB.2.1);have y0:w2.cell? ⟨r,0,none⟩=some (.pointer (some ⟨p,0,none⟩)):=hrg2.own.cell 0;obtain⟨hy0,hy1,hy4⟩:=lT;by_cases h0:er=0
  ·subst h0;have Yd:=aa (show R=if d1.sync.1=0 then(0,l.iB,d1.sync.2)else(d1.sync.1,l,d1.sync.2)from by rw[Ga.o,if_pos rfl]);have yO:=aa (JT hrg2 oo.o (by have:=alu.o.2;have:=rG.o;have:=HNN.o;omega));clear hrg2 Ga B5;obtain⟨es,hes⟩:=ae d1.sync.1;obtain⟨ds,hds⟩:=ae d1.sync.2;rw[hes,hds] at Yd yO;clear hes hds;go_wp2_with fail;refine yO.o.mono ?_;rintro e w3 ⟨rfl,OQ,ki⟩;have hz2:=gI.o.size;have hz3:=ki.size;have aas:dB p ds (Gr SD w w3) w3:=(aF p ds).grow OQ hz2 hz3 HSD.o;have Da:aI SD w w3:=gI.o.gr ki;have ae1:uR q r p l g d.dk.size SL w3:=(cI q r p l g _).cR ⟨_,H.o⟩ Da Rz.o;have r4:w3.cell? ⟨q,4,none⟩=some (.pointer (some ⟨r,0,none⟩)):=(eQ (a:=⟨q,4,none⟩) (Da.block q (H.o.lt q H.o.bB.1) (Rz.o q H.o.bB.1))).trans x4;by_cases h1:es=0
   ·subst h1;have HR0:=aa (show R=(0,l.iB,ds)from by rw[Yd.o,if_pos rfl]);obtain⟨v3,h3⟩:=ae1;have F4:=aa (B4 h3);have HL3:=aa h3;have Yj:=aa aas;have iJ:=aa Da;clear Yd OQ ki hz2 hz3 aas Da h3;go_wp2_with fail;refine F4.o.mono ?_;rintro e w4 ⟨⟨u,rfl⟩,ho4,Cv⟩;have hnq: ∀ k,Gr SD w w3 k→¬k=q:=fun k hk e=>by
     subst e;rcases hk with hk|hk
     ·exact Rz.o _ H.o.bB.1 hk
     have:=H.o.lt _ H.o.bB.1;omega
    have HF:=aa (show Em SL SD q r p g d.dk.size R w (.returned (.int .i64 0)) w4 from by
     rw[HR0.o];refine⟨rfl,HL3.o.flush ho4 (Cv.block r HL3.o.rg.own.lt fun e=>?_) Cv.size,?_,?_⟩
     ·subst e;have a1:=HL3.o.own;have a2:=HL3.o.rg.own;unfold aG at a1 a2;rw[a1] at a2;injection a2 with a2
      injection a2 with _ a3
      revert a3;decide
     ·have h5:=(aF p ds).cR Yj.o Cv hnq;exact(aF p ds).mono h5 (fun k hk=>by rcases hk with hk|hk;exact .inl hk;exact .inr ⟨hk.1,aU hk.2 Cv.size⟩) (fun k hk=>by rcases hk with hk|hk;exact aU (HSD.o k hk) (aV iJ.o.size Cv.size);exact hk.2)
     exact(iJ.o.mono fun k _ hk=>.inr hk).trans (Cv.mono fun k _ e=>.inl (by subst e;exact H.o.bB.1)))
    clear ho4 Cv hnq;go_wp2_with fail;go_ret;exact HF.o
   have hqe:(es==0)=false:=by simp[h1]
   have HF:=aa (show Em SL SD q r p g d.dk.size R w (.returned (.int .i64 es)) w3 from by
    rw[Yd.o,if_neg h1];exact⟨rfl,ae1,aas,Da.mono fun k _ hk=>.inr hk⟩)
   clear Yd h1 OQ ki hz2 hz3 aas Da ae1;go_wp2_with fail;go_ret;exact HF.o
  have hqe:(er==0)=false:=by simp[h0]
  have HF:=aa (show Em SL SD q r p g d.dk.size R w (.returned (.int .i64 er)) w2 from by
   rw[Ga.o,if_neg h0];exact⟨rfl,(cI q r p l g _).cR ⟨_,H.o⟩ gI.o Rz.o,oo.o,gI.o.mono fun k _ hk=>.inr hk⟩)
  clear Ga B5 h0 hrg2;go_wp2_with fail;go_ret;exact HF.o
