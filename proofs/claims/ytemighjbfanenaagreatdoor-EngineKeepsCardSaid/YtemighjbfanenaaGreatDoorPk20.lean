import Derived.Test.YtemighjbfanenaaGreatDoorPk3
import Derived.Lib.AppendZeros
import Derived.Test.YtemighjbfanenaaGreatDoorPk1
import Derived.Test.YtemighjbfanenaaGreatDoorPk19
import Derived.Test.YtemighjbfanenaaGreatDoorPk2
import Derived.Test.YtemighjbfanenaaGreatDoorPk6
import Derived.Maps.AppendAt
set_option linter.all false
set_option maxRecDepth 100000
set_option maxHeartbeats 16000000
namespace Go.Proofs.YtemighjbfanenaaGreatDoor
open RowKit
open Oc (Bs gj fJ aN eh bn bO rU eZ dm mV dX)
open Bool renaming false_and→Hj
open Go.Builtin renaming zeroCells→fN
open Go.Ending renaming returned→js
open Go.IntKind renaming i64→aT
open Go.IntWalk renaming i64_in→vg
open Go.Value renaming int→gJ,slice→jr
open Go.World renaming block_lt_of_cell?→bz,cell?_of_block→eF
open List renaming flatten_append→Qy,drop_eq_nil_of_le→Qz,length_append→dz,take_length→Hk,length_take→gW,drop_succ_cons→tE,mem_cons_of_mem→gy
open Nat renaming le_succ→zT,zero_le→cu,le_trans→bf,lt_of_lt_of_le→aP,le_refl→aL
open RowKit.Below renaming refl→aq
open Tryz renaming prog→af
theorem Wk{p:Prop}(h:p:=by
 go_wp2_with fail;refine ah (iV q r w x4) ?_;go_wp2_with fail;go_ret;exact⟨rfl,rfl⟩):p:=h
theorem UO{p:Prop}(h:p:=by have:=abh L (k+1);rw[HN.o] at this;rw[←hst];exact bf this hl):p:=h
theorem LD{p:Prop}(h:p:=by simp[Value.ownBlock] at hk):p:=h
theorem oN{p:Prop}(h:p:=by trivial):p:=h
theorem E8{p:Prop}(h:p:=by rw[gW];omega):p:=h
section
namespace Oc
theorem tT(v:Value)(n:Nat): (fN #[v] n).size=n:=by simp[fN]
def aex(n:Nat)(w:World)(e:Ending)(w':World): Prop:=
 ∃ v,e= .returned v∧w'.ownsRow w.heap.size 5 1 v 0 []∧(∃ A c,v= .slice A 0 c∧A≠none∧n≤c)∧Below w.heap.size w w'
theorem ab4(n:Nat)(w:World)(h0:0<n)(hn:n≤70368744177664): Calls af 361 #[.slice none 0 0,.int .i64 n] w (aex n w):=by
 obtain⟨i0,hi,hz0,hz1,hz2⟩:=info_parts dX;have h1: ¬(n:Int)<0:=ag;have h2:(0:Int)<(n:Int):=ag;obtain⟨cp,hcp⟩:=ae (grownCap w n 0 5);have hc1:n≤cp:=by rw[←hcp];exact grownCap_ge _ _ _ _
 have hc2:cp≤maxLen:=by rw[←hcp];exact grownCap_le_maxLen _ _ _ _ iM
 have hrun:=Go.Lib.run_append_nil_zeros (P:=af) w 34 3 34 5 i0 (.int .u8 0) .i64 .i64 Tryz.underlying34 Tryz.underlying3 hi hz0 n h0 (by rw[hz1];decide) ag AG;rw[hcp] at hrun;obtain⟨ZC,hZC⟩:=ae (fN (gJ .u8 0).cells n++fN (gJ .u8 0).cells (cp - n));have hzs:ZC.size=cp:=by rw[←hZC,show(gJ IntKind.u8 0).cells= #[.int .u8 0] from rfl,Array.size_append,tT,tT];omega
 rw[hZC] at hrun;obtain⟨w1,aX⟩:=ae (w.drew.alloc (.cells ZC 5));rw[aX] at hrun;have hb1:Below w.heap.size w w1:=by rw[←aX];exact aw (ay (aq _ _)) _
 have ho:w1.ownsRow w.heap.size 5 1 (.slice (some ⟨w.heap.size,0,none⟩) 0 cp) 0 []:=by
  refine⟨rfl,.inr ⟨w.heap.size,cp,ZC,rfl,aL _,?_,cu _,hc2,by rw[hzs,Nat.mul_one],dA⟩⟩;rw[←aX];exact aD.fresh w.drew _ _
 have hc3:(0:Int)≤(cp:Int):=ag;have HF:=aa (show aex n w (.returned (.slice (some ⟨w.heap.size,0,none⟩) 0 cp)) w1 from⟨_,rfl,ho,⟨_,_,rfl,dA,hc1⟩,hb1⟩);have amY:=aa hrun;clear hb1 ho aX hcp hc1 hc2 hZC hzs hi hz0 hz1 hz2 hrun;go_enter Tryz.func361,Tryz.ntmps361;go_wp2_with (refine Go.Lib.wpList_append_run _ rfl _ _ 34 3 rfl (.slice none 0 0) (.int .i64 n) rfl rfl _ _ amY.o ?_);go_ret;exact HF.o
def ow(L:List (List UInt8))(k:Nat): Nat:=((L.take k).flatten).length
theorem xR{L:List (List UInt8)}{k:Nat}(h:k<L.length): (L.take (k+1)).flatten=(L.take k).flatten++L[k]:=by rw[List.take_add_one,List.getElem?_eq_getElem h,Qy,Option.toList_some,List.flatten_cons,List.flatten_nil,List.append_nil]
theorem abh(L:List (List UInt8))(k:Nat): ((L.take k).flatten).length≤L.flatten.length:=by
 conv=>rhs;rw[←List.take_append_drop k L]
 rw[Qy,dz];omega
theorem yi(L:List (List UInt8))(sb sc:Nat)(w:World)(ad:Nat→Addr)(cc:Nat→Nat)(hc: ∀ i (h:i<L.length),w.cell? ⟨sb,i,none⟩=some (.slice (some (ad i)) (L[i]).length (cc i)))
  (hB: ∀ i (h:i<L.length),Bs w (some (ad i)) L[i]) (k8:sb<w.heap.size) (h0:0<L.flatten.length) (hl:L.flatten.length≤67108864) (hlc:L.length≤1000) :
  Calls af 331 #[.slice (some ⟨sb,0,none⟩) L.length sc] w fun e w'=>∃ g c,e= .returned (.slice (some ⟨g,0,none⟩) L.flatten.length c)∧w.heap.size≤g∧L.flatten.length≤c∧eC w' 5 g L.flatten∧Below w.heap.size w w':=by
 have HC:=aa hc;have HB:=aa hB;have an9:(L.length:Int)≤1000:=ag;obtain⟨N,hN⟩:=ae L.flatten.length;rw[hN] at h0 hl ⊢;have HN:=aa hN;have hN0:(0:Int)≤(N:Int):=ag;clear hc hB hN;go_enter Tryz.func331,Tryz.ntmps331;go_wp2_with fail;go_loopw [3,11] (fun s i wr=>∃ k:Nat,k≤L.length∧i= .int .i64 k∧s= .int .i64 (ow L k:Nat)∧Below w.heap.size w wr) (fun _ i _=>(L.length - intOf i).toNat)
 case atStart=>exact⟨0,cu _,rfl,rfl,aq _ _⟩
 case round=>
  obtain⟨k,hk,rfl,rfl,hb⟩:=hrel;have HWB:=aa hb;clear hb;by_cases hlt:k<L.length
  ·have BB:(k:Int)<(L.length:Int):=by omega
   have Eh:(0:Int)≤(k:Int):=ag;have x0:wr.cell? ⟨sb,k,none⟩=some (.slice (some (ad k)) (L[k]).length (cc k)):=(HWB.o.cell (p:=⟨sb,k,none⟩) k8).trans (HC.o k hlt);obtain⟨a,ha⟩:=ae (ow L k);obtain⟨m,hm⟩:=ae ((L[k]).length);have hst:ow L (k+1)=a+m:=by rw[ow,xR hlt,dz,hm,←ha];rfl
   have hle:a+m≤67108864:=UO;have an8:(a:Int)+(m:Int)≤67108864:=ag;rw[ha];rw[hm] at x0;have hng: ¬((a:Int)+(m:Int))<0:=ag;have HST:=aa hst;clear ha hm hst hle;go_wp2_with fail;go_roundw
   case rel=>exact⟨k+1,hlt,by go_num,by rw[HST.o];push_cast;rfl,HWB.o⟩
   case measure=>simp[intOf];omega
  have M1:k=L.length:=ag;subst M1;rw[show ow L L.length=N from by rw[ow,Hk];exact HN.o];have BB: ¬((L.length:Nat):Int)<((L.length:Nat):Int):=ag;have HG:=aa (ab4 N wr h0 ag);go_wp2_with fail;refine HG.o.mono ?_;rintro e w2 ⟨v2,rfl,gM,⟨A2,c2,rfl,gK,hc2⟩,hb2⟩;have Sy:=aa gM;have agT:=aa hb2;have EP:=aa hc2;clear gM hb2 hc2 gK;have xO:Below w.heap.size w w2:=ar HWB.o agT.o;obtain⟨base,hbase⟩:=ae wr.heap.size;rw[hbase] at Sy;have hbw:w.heap.size≤base:=by rw[←hbase];exact HWB.o.size
  have ai7:base≤w2.heap.size:=by rw[←hbase];exact agT.o.size
  have ag7:=aa xO;have HBW:=aa hbw;have Lj:=aa ai7;clear xO hbw ai7 hbase HWB agT EP;obtain⟨n0,Xi⟩:=ae L.length;go_wp2_with fail;go_loopw [6,27] (fun v i wr=>∃ k:Nat,k≤L.length∧i= .int .i64 k∧wr.ownsRow base 5 1 v (ow L k) (aN (L.take k).flatten)∧Below w.heap.size w wr∧base≤wr.heap.size) (fun _ i _=>(L.length - intOf i).toNat)
  case atStart=>exact⟨0,cu _,rfl,Sy.o,ag7.o,Lj.o⟩
  case round=>
   obtain⟨k,hk,rfl,ho,hb,hs⟩:=hrel;by_cases hlt:k<L.length
   ·have BB:(k:Int)<(n0:Int):=by omega
    have Eh:(0:Int)≤(k:Int):=ag;have x0:=(hb.cell (p:=⟨sb,k,none⟩) k8).trans (HC.o k hlt);obtain⟨i0,hi,hz0,hz1,hz2⟩:=info_parts dX;have hst:ow L (k+1)=ow L k+(L[k]).length:=by rw[ow,xR hlt,dz];rfl
    have hle:ow L k+(L[k]).length≤67108864:=UO;have hBk:Bs wr (some (ad k)) L[k]:=(HB.o k hlt).keep hb;obtain⟨m,hm⟩:=ae ((L[k]).length);obtain⟨a,ha⟩:=ae (ow L k);obtain⟨cs,hcs⟩:=ae (L[k]);obtain⟨fl,lM⟩:=ae ((L.take k).flatten);have hf1:(L.take (k+1)).flatten=fl++cs:=by rw[xR hlt,lM,hcs]
    rw[hm,ha] at hst hle;rw[hm] at x0;rw[hcs] at hBk hm;rw[ha,lM] at ho;have HO:=aa ho;have HWB:=aa hb;have HS:=aa hs;have eX:=aa hBk;have HM:=aa hm;have HLE:=aa hle;have HST:=aa hst;have HF1:=aa hf1;have HI0:=aa hi;have HZ0:=aa hz0;have HZ1:=aa hz1;have Tn:=aa hz2;clear ho hb hs hBk hm ha hcs lM hle hst hf1 hi hz0 hz1 hz2;go_wp2_with (refine wpList_append_own _ rfl _ _ 34 rfl base 5 i0 (.int .u8 0) 1 1 Tryz.underlying34 HI0.o HZ0.o HZ1.o Tn.o rfl aM u6 a (aN fl) rfl HO.o (ad k) m (cc k) (aN cs) rfl (by rw[bn,HM.o,Nat.mul_one]) eX.o.read (bO _) (by have:=HLE.o;unfold maxLen;omega) (by have:=HLE.o;omega) HS.o ?_;intro v5 w5 bT lY Xe;have rj:=aa bT;have jk:=aa lY;clear bT lY Xe);go_roundw
    case rel=>exact⟨k+1,hlt,by go_num,by rw[HST.o,HF1.o,eh];exact rj.o,HWB.o.grown jk.o HWB.o.size (fun g hg=>bf HBW.o (pI HO.o g hg)),bf HS.o jk.o.size⟩
    case measure=>simp[intOf];omega
   have M1:k=L.length:=ag;subst M1;have BB: ¬((L.length:Nat):Int)<(n0:Int):=ag;rw[show ow L L.length=N from by rw[ow,Hk];exact HN.o,Hk] at ho;obtain⟨A,c,rfl⟩:=cg ho;obtain⟨g,cp,hv⟩:=xJ ho (by intro e;injection e with e1 e2 _;omega);injection hv with kA _ hv3
   subst kA hv3;obtain⟨h1,h2,h3,_⟩:=mV ho HN.o;have HF:=aa (show ∃ g' c',js (.slice (some ⟨g,0,none⟩) N c)= .returned (.slice (some ⟨g',0,none⟩) N c')∧w.heap.size≤g'∧N≤c'∧eC wr 5 g' L.flatten∧Below w.heap.size w wr from⟨g,c,rfl,bf HBW.o h3,h2,h1,hb⟩);clear ho h1 h2 h3 hb hs;go_wp2_with fail;go_ret;exact HF.o
end Oc
end
section
namespace En
open Oc (yi)
theorem bG.lr(d:bG)(at_:Int)(b:By): (d.write at_ b).2.dk.size=d.dk.size∧(d.write at_ b).2.dk.row.length≤d.dk.row.length+1∧(d.write at_ b).2.dk.dr.length=d.dk.dr.length:=by
 unfold bG.write;split
 ·simp only[bG.uf];unfold Dk.write;split
  ·exact⟨rfl,zT _,rfl⟩
  split
  ·exact⟨rfl,dA,rfl⟩
  exact⟨rfl,zT _,rfl⟩
 rw[bG.uf];exact⟨rfl,zT _,rfl⟩
variable{p:Nat}{S:Nat→Prop}
theorem dI.ok{d:bG}{w:World}(h:dI p d S w): d.dk.Ok:=by obtain⟨kp,SK,h1⟩:=h;obtain⟨q,h2⟩:=h1.Dq;exact h2.ok
structure WrI(S:Nat→Prop)(w1:World)(bb bx r p size:Nat)(g:Rg)(R:Int × bG)(ps:List Piece)(W:World): Prop where
 rg:fV W r p g size
 box:W.cell? ⟨bx,0,none⟩=some (.pointer (some ⟨r,0,none⟩))
 body: ∃ d rem A c,dI p d (Gr S w1 W) W∧d.dk.size=size∧aD W bb 34 #[.slice A rem.length c]∧Bs W A rem∧(∀ gs off,A=some ⟨gs,off,none⟩→gs<w1.heap.size∧¬S gs∧gs≠bb)∧rem.length≤c∧R=Lm g d ps rem∧rem.length=QO ps∧d.dk.row.length+rem.length≤1000000
 pcs: ∀ x∈ps,x.f<x.t∧x.t≤size
 cG:aG (fun k=>S k∨k=bb) w1 W
def WrE(S:Nat→Prop)(w1:World)(bb p:Nat)(R:Int × bG)(er:Int)(W:World): Prop:=∃ d,R=(er,d)∧dI p d (Gr S w1 W) W∧aG (fun k=>S k∨k=bb) w1 W
structure WrO(S:Nat→Prop)(w1:World)(bb bx r size:Nat): Prop where
 mg:bx<w1.heap.size∧¬S bx∧bx≠bb
 wH:bb<w1.heap.size∧¬S bb
 hr:r<w1.heap.size∧¬S r∧r≠bb
 hS: ∀ k,S k→k<w1.heap.size
 hz:1≤size∧size≤4096
theorem TE{w1 W V:World}{bb bx r size:Nat} {g:Rg}{R:Int × bG}{x:Piece}{ps:List Piece}(hO:WrO S w1 bb bx r size)(h:WrI S w1 bb bx r p size g R (x::ps) W)
  {A2:Option Addr} {c2:Nat} {rem:By} {d3:bG} {er:Int} (hR:R=if er=0 then Lm g d3 ps rem else(er,d3)) (hD:dI p d3 (Gr S w1 V) V) (hT:aG (fun k=>S k∨k=bb) w1 V)
  (hWV: ∀ k,k<w1.heap.size→¬S k→k≠bb→V.heap[k]? =W.heap[k]?) (hv:aD V bb 34 #[.slice A2 rem.length c2]) (hB:Bs V A2 rem)
  (hA: ∀ gs off,A2=some ⟨gs,off,none⟩→gs<w1.heap.size∧¬S gs∧gs≠bb) (hc:rem.length≤c2) (Dh:rem.length=QO ps) (hrow:d3.dk.row.length+rem.length≤1000000) (hsz:d3.dk.size=size) :
  (js (.int .i64 er)= .returned (.int .i64 0)∧WrI S w1 bb bx r p size g R ps V)∨∃ X2:Int,X2≠0∧js (.int .i64 er)= .returned (.int .i64 X2)∧WrE S w1 bb p R X2 V:=by
 by_cases h0:er=0
 ·subst h0;rw[if_pos rfl] at hR;exact .inl ⟨rfl,⟨(hWV r hO.hr.1 hO.hr.2.1 hO.hr.2.2).trans h.rg.own,h.rg.size,h.rg.count⟩,(eF (a:=⟨bx,0,none⟩) (hWV bx hO.mg.1 hO.mg.2.1 hO.mg.2.2)).trans h.box,⟨d3,rem,A2,c2,hD,hsz,hv,hB,hA,hc,hR,Dh,hrow⟩,fun y hy=>h.pcs y (gy _ hy),hT⟩
 ·rw[if_neg h0] at hR;exact .inr ⟨er,h0,rfl,d3,hR,hD,hT⟩
theorem aeI{w1 W:World}{bb bx r size:Nat} {g:Rg}{R:Int × bG}{x:Piece}{ps:List Piece}(hO:WrO S w1 bb bx r size)(h:WrI S w1 bb bx r p size g R (x::ps) W):
  Calls af 329 (#[.int .i64 ((g.from_+x.s:Nat):Int),.int .i64 x.f,.int .i64 x.t]++ #[.pointer (some ⟨bb,0,none⟩),.pointer (some ⟨bx,0,none⟩)]) W fun e W'=>(e= .returned (.int .i64 0)∧WrI S w1 bb bx r p size g R ps W')∨∃ er:Int,er≠0∧e= .returned (.int .i64 er)∧WrE S w1 bb p R er W':=by
 obtain⟨d,rem,A,c,hD,hsz,hv,hB,hA,Z9,hR,Dh,hrow⟩:=h.body;obtain⟨hft,hts⟩:=h.pcs x (List.mem_cons_self ..);obtain⟨dl,tM⟩:=ae (x.t - x.f);rw[QO,tM] at Dh;have hne:rem≠ []:=by intro e;rw[e] at Dh;simp at Dh;omega
 obtain⟨gs,off,rfl,oT,hcell⟩:=hB hne;have hAS:=hA gs off rfl;have hz:=h.cG.size;have x3:W.cell? ⟨bb,0,none⟩=some (.slice (some ⟨gs,off,none⟩) rem.length c):=hv.cell 0;have m3:W.frozen? ⟨bb,0,none⟩=false:=hv.mark 0;have x0:=h.rg.own.cl 0;have x4:=h.rg.own.cl 3;have x5:=h.box;obtain⟨a,ha⟩:=ae (g.from_+x.s:Nat);rw[ha];have hstep:R=if(EW g d x rem).1=0 then Lm g (EW g d x rem).2 ps (rem.drop dl)else EW g d x rem:=by rw[hR,Lm,tM]
 have hdi:(x.t:Int) - (x.f:Int)=(dl:Int):=ag;have hd0:(0:Int)≤(dl:Int):=ag;have hd4:(dl:Int)≤4096:=by have:=hO.hz;omega
 have hdn:(dl:Int)≤(rem.length:Int):=ag;have hdc:(dl:Int)≤(c:Int):=ag;have RL:(rem.length:Int)≤(c:Int):=ag;have hkp: ∀ u,aG (· =bb) W (W.setCell ⟨bb,0,none⟩ u):=fun u=>aG.at W bb 0 u
 have W6: ∀ u,(W.setCell ⟨bb,0,none⟩ u).cell? ⟨r,0,none⟩=some (.pointer (some ⟨p,0,none⟩)):=fun u=>((hkp u).cells h.rg.own.lt hO.hr.2.2 0).trans x0
 have hq4: ∀ u,(W.setCell ⟨bb,0,none⟩ u).cell? ⟨r,3,none⟩=some (.int .i64 size):=fun u=>((hkp u).cells h.rg.own.lt hO.hr.2.2 3).trans x4
 have hq5: ∀ u,(W.setCell ⟨bb,0,none⟩ u).cell? ⟨bx,0,none⟩=some (.pointer (some ⟨r,0,none⟩)):=fun u=>((hkp u).cells (aP hO.mg.1 hz) hO.mg.2.2 0).trans x5
 obtain⟨A2,gK⟩:=ae ((if c=dl then some (⟨gs,off,none⟩:Addr) else some ⟨gs,off+dl,none⟩));have ajr: ∀ g' o',A2=some ⟨g',o',none⟩→g'=gs:=by
  intro g' o' e;rw[←gK] at e;split at e <;>(injection e with e;injection e with e;exact e.symm)
 have nL: ∀ V,V.heap[gs]? =W.heap[gs]?→W.heap.size≤V.heap.size→Bs V A2 (rem.drop dl):=by
  intro V hV hVz;have hVB:Bs V (some ⟨gs,off,none⟩) rem:=fun hn=>by
   obtain⟨g',o',e,hl,hc⟩:=hB hn;injection e with e;injection e with e1 e2;subst e1 e2
   exact⟨_,_,rfl,aP hl hVz,fun i u hu=>(eF (a:=⟨gs,off+i,none⟩) hV).trans (hc i u hu)⟩
  rw[←gK];split
  ·rename_i e;rw[Qz ag];exact Bs.nil _ _
  exact hVB.drop dl
 have H:=aa h;have HO:=aa hO;have HD:=aa hD;have mi:=aa hsz;have HV:=aa hv;have HB:=aa hB;have CU:=aa hAS;have HT:=aa Dh;have rB:=aa hrow;have HST:=aa hstep;have NW:=aa hft;have HTS:=aa hts;have Qa:=aa tM;have jI:=aa ajr;have cx:=aa nL;have HA:=aa ha;have Ts:=aa oT;have HZ:=aa hz;have HKP:=aa hkp;have wG:c=dl∨¬c=dl:=Classical.em _;clear h hO hD hsz hv hB hA Z9 hR Dh hrow hstep hft hts tM hcell hne ajr nL ha oT hAS hz hkp;obtain⟨W1,hW1⟩:=ae (W.setCell ⟨bb,0,none⟩ (.slice A2 (rem.length - dl) (c - dl)));have su:aG (· =bb) W W1:=by rw[←hW1];exact HKP.o _
 have Xh: ∀ k,k<w1.heap.size→¬S k→¬Gr S w1 W k:=fun k hk hs hg=>by rcases hg with hg|hg;exact hs hg;omega
 have hSl: ∀ k,Gr S w1 W k→k<W.heap.size:=fun k hk=>by rcases hk with hk|hk;exact aP (HO.o.hS k hk) HZ.o;exact hk.2
 have hD1:dI p d (Gr S w1 W) W1:=(aC p d).cG HD.o su fun k hk e=>by subst e;exact Xh _ HO.o.wH.1 HO.o.wH.2 hk
 have XO:Bs W1 A2 (rem.drop dl):=cx.o W1 (su.block gs Ts.o CU.o.2.2) su.size;have kA:aD W1 bb 34 #[.slice A2 (rem.length - dl) (c - dl)]:=by rw[←hW1];have:=HV.o.put 0 (.slice A2 (rem.length - dl) (c - dl));simpa using this
 have ajj:aG (fun k=>S k∨k=bb) w1 W1:=H.o.cG.trans (su.mono fun k _ e=>.inr e);have hdr:(rem.drop dl).length=rem.length - dl:=List.length_drop;have sK:=aa hW1;have jx:=aa su;have oJ:=aa Xh;have pT:=aa hSl;have NX:=aa hD1;have bu:=aa XO;have HV1:=aa kA;have aj0:=aa ajj;have HDR:=aa hdr;clear su Xh hSl hD1 XO kA ajj hW1 hdr;by_cases hlt:dl<size
 ·have BB:(dl:Int)<(size:Int):=by omega
  obtain⟨er,oU⟩:=ae ((d.read (a:Int)).1);obtain⟨b,hb⟩:=ae ((d.read (a:Int)).2.1);obtain⟨d',PC⟩:=ae ((d.read (a:Int)).2.2);have kX:d.read (a:Int)=(er,b,d'):=by rw[←oU,←hb,←PC]
  have Xv:d'.dk=d.dk:=by rw[←PC];exact bG.lK _ _
  have hbl:er=0→b.length=size:=fun e0=>by rw[←hb,←mi.o];exact bG.OZ (oU.trans e0) HD.o.ok
  have WS:EW g d x rem=if er=0 then d'.write (a:Int) (b.take x.f++rem.take dl++b.drop x.t)else(er,d'):=by
   unfold EW;rw[Qa.o,mi.o,if_pos hlt,HA.o,kX]
  have oH:=aa (Ku NX.o (a:Int));rw[kX] at oH;have vd:=aa hbl;have SG:=aa Xv;have Cg:=aa WS;clear oU hb PC kX Xv hbl WS;go_enter Tryz.func329,Tryz.ntmps329;go_wp2_with fail;rw[sK.o];have y0:W1.cell? ⟨r,0,none⟩=some (.pointer (some ⟨p,0,none⟩)):=by rw[←sK.o];exact W6 _
  have y5:W1.cell? ⟨bx,0,none⟩=some (.pointer (some ⟨r,0,none⟩)):=by rw[←sK.o];exact hq5 _
  refine oH.o.mono ?_;rintro e W2 ⟨⟨Ar,cr,rfl,hblk,hcr⟩,Ng,ug⟩;have z0:W2.cell? ⟨r,0,none⟩=some (.pointer (some ⟨p,0,none⟩)):=(eF (a:=⟨r,0,none⟩) (ug.block r (bz _ _ y0) (oJ.o r HO.o.hr.1 HO.o.hr.2.1))).trans y0;have z5:W2.cell? ⟨bx,0,none⟩=some (.pointer (some ⟨r,0,none⟩)):=(eF (a:=⟨bx,0,none⟩) (ug.block bx (bz _ _ y5) (oJ.o bx HO.o.mg.1 HO.o.mg.2.1))).trans y5;have Cs:=aa hblk;have HCR:=aa (show b.length≤cr from hcr);have om:=aa (show dI p d' (Gr S w1 W) W2 from Ng);have gV:=aa ug;clear hblk hcr Ng ug y0 y5 W6 hq4 hq5 x0 x3 x4 x5 m3;have aji:aG (fun k=>S k∨k=bb) w1 W2:=aj0.o.new (gV.o.mono fun k _ hk=>by
   rcases hk with hk|hk
   ·exact .inl (.inl hk)
   exact .inr hk.1)
  have hz2:W.heap.size≤W2.heap.size:=bf jx.o.size gV.o.size;have hG2: ∀ k,Gr S w1 W k→Gr S w1 W2 k:=fun k hk=>by rcases hk with hk|hk;exact .inl hk;exact .inr ⟨hk.1,aP hk.2 hz2⟩
  have Gg: ∀ k,Gr S w1 W2 k→k<W2.heap.size:=fun k hk=>by rcases hk with hk|hk;exact aP (HO.o.hS k hk) (bf HZ.o hz2);exact hk.2
  have ajc: ∀ k,k<w1.heap.size→¬S k→k≠bb→W2.heap[k]? =W.heap[k]?:=fun k hk hs hne=>(gV.o.block k (aP (aP hk HZ.o) jx.o.size) (oJ.o k hk hs)).trans (jx.o.block k (aP hk HZ.o) hne)
  have hV2:aD W2 bb 34 #[.slice A2 (rem.length - dl) (c - dl)]:=gV.o.arr HV1.o (oJ.o bb HO.o.wH.1 HO.o.wH.2);have ajZ:=aa aji;have Tn:=aa hz2;have tR:=aa hG2;have ana:=aa Gg;have agS:=aa ajc;have HV2:=aa hV2;clear aji hz2 hG2 Gg ajc hV2;by_cases h0:er=0
  ·subst h0;have hwr:EW g d x rem=d'.write (a:Int) (b.take x.f++rem.take dl++b.drop x.t):=by rw[Cg.o,if_pos rfl]
   have hbl:=vd.o rfl;have ajV:=aa hwr;have ag9:=aa hbl;have hne:b≠ []:=by intro e;rw[e] at hbl;have:=HO.o.hz;simp at hbl;omega
   obtain⟨gb,rfl,hgb,hBb⟩:=Cs.o hne;have hft:(x.f:Int)≤(b.length:Int):=by have:=NW.o;have:=HTS.o;omega
   have htl:(x.t:Int)≤(b.length:Int):=by have:=HTS.o;omega
   have hf0:(0:Int)≤(x.f:Int):=ag;have ht0:(0:Int)≤(x.t:Int):=ag;have hfc:(x.f:Int)≤(cr:Int):=by have:=HCR.o;omega
   have htc:(x.t:Int)≤(cr:Int):=by have:=HCR.o;omega
   have RS:(b.length:Int)≤(cr:Int):=by have:=HCR.o;omega
   obtain⟨A3,dB⟩:=ae ((if cr=x.t then(⟨gb,0,none⟩:Addr) else⟨gb,x.t,none⟩));have aoD:(if cr=x.t then some (⟨gb,0,none⟩:Addr)else some ⟨gb,x.t,none⟩)=some A3:=by rw[←dB];split <;>rfl
   have GH:=aa (show W1.heap.size≤gb from hgb);have jl:=aa (show eC W2 5 gb b from hBb);have pq:=aa dB;clear hgb hBb dB hne hwr hbl Cg vd Cs;go_wp2_with fail;refine wp_region_held_drew (S:=(fun _=>True)) aW oN (fun hHeld=>?_);refine OC 0 1 2 3 4 5 ?_;refine ty 6 ?_;refine cD 7 fun K hK=>?_
   go_simp;obtain⟨W3,hW3⟩:=ae ((W2.alloc (.cells #[.slice (some ⟨gb,0,none⟩) x.f cr,.slice (some ⟨gs,off,none⟩) dl c,.slice (some A3) (b.length - x.t) (cr - x.t)] 34)).drew);obtain⟨sb,k8⟩:=ae W2.heap.size;have hb3:Below W2.heap.size W2 W3:=by rw[←hW3];exact ay (aw (aq _ _) _)
   have XF:aD W3 sb 34 #[.slice (some ⟨gb,0,none⟩) x.f cr,.slice (some ⟨gs,off,none⟩) dl c,.slice (some A3) (b.length - x.t) (cr - x.t)]:=by rw[←hW3,←k8];exact aD.fresh W2 _ _
   rw[hW3,k8];have ek:=aa hb3;have abZ:=aa XF;have P6:=aa k8;clear hW3 k8 hb3 XF;refine bW hK oN fun nK=>?_
   clear hK K;refine cD 8 fun K hK=>?_
   go_simp;have aiR:W3.heap[gs]? =W.heap[gs]?:=(ek.o.block gs (aP (aP Ts.o jx.o.size) gV.o.size)).trans (agS.o gs CU.o.1 CU.o.2.1 CU.o.2.2);have ajn:Bs W3 (some ⟨gs,off,none⟩) rem:=fun hn=>by
    obtain⟨g',o',e,hl,hc⟩:=HB.o hn;injection e with e;injection e with e1 e2;subst e1 e2
    exact⟨_,_,rfl,aP hl (bf Tn.o ek.o.size),fun i u hu=>(eF (a:=⟨gs,off+i,none⟩) aiR).trans (hc i u hu)⟩
   have aga:Bs W3 (some ⟨gb,0,none⟩) b:=fun hn=>(jl.o.same (ek.o.block gb jl.o.lt)).bs hn
   have hl0:(b.take x.f).length=x.f:=E8;have tr:(rem.take dl).length=dl:=E8;have hl2:(b.drop x.t).length=b.length - x.t:=List.length_drop;have ajm:Bs W3 (some A3) (b.drop x.t):=by
    rw[←pq.o];split
    ·rename_i e;rw[Qz ag];exact Bs.nil _ _
    have:=aga.drop x.t
    rwa [Nat.zero_add] at this
   have lM: [b.take x.f,rem.take dl,b.drop x.t].flatten=b.take x.f++rem.take dl++b.drop x.t:=dA;have hfn: [b.take x.f,rem.take dl,b.drop x.t].flatten.length=size:=by
    rw[lM,dz,dz,hl0,tr,hl2];have:=ag9.o;have:=Qa.o;have:=NW.o;omega
   have hCC:=yi [b.take x.f,rem.take dl,b.drop x.t] sb 3 W3 (fun i=>if i=0 then⟨gb,0,none⟩else if i=1 then⟨gs,off,none⟩else A3) (fun i=>if i=0 then cr else if i=1 then c else cr - x.t)
    (fun i hi=>by
     match i,hi with
     | 0,_=>exact(abZ.o.cell 0).trans (by show _=some (jr (some ⟨gb,0,none⟩) (b.take x.f).length cr);rw[hl0];rfl)
     | 1,_=>exact(abZ.o.cell 1).trans (by show _=some (jr (some ⟨gs,off,none⟩) (rem.take dl).length c);rw[tr];rfl)
     | 2,_=>exact(abZ.o.cell 2).trans (by show _=some (jr (some A3) (b.drop x.t).length (cr - x.t));rw[hl2];rfl))
    (fun i hi=>by
     match i,hi with
     | 0,_=>exact aga.take x.f
     | 1,_=>exact ajn.take dl
     | 2,_=>exact ajm)
    abZ.o.lt (by rw[hfn];have:=HO.o.hz;omega) (by rw[hfn];have:=HO.o.hz;omega) (by show 3≤1000;decide)
   rw[hfn,lM] at hCC;have HFN:=aa (show(b.take x.f++rem.take dl++b.drop x.t).length=size by rw[←lM];exact hfn);refine hCC.mono ?_;clear hCC hfn lM ajm hl0 tr hl2 aga ajn aiR;rintro e W4 ⟨g4,c4,rfl,hg4,K5,wI,hb4⟩;have uZ:=aa hg4;have SJ:=aa K5;have gI:=aa wI;have ank:=aa hb4;clear hg4 K5 wI hb4;go_wp2_with fail;refine bW hK oN fun nJ=>?_
   clear hK K;refine ty 9 ?_;refine bF ?_;obtain⟨full,pP⟩:=ae (b.take x.f++rem.take dl++b.drop x.t);rw[pP] at HFN gI ajV;have XE:Below W2.heap.size W2 W4:=ar ek.o ank.o;have u0:W4.cell? ⟨r,0,none⟩=some (.pointer (some ⟨p,0,none⟩)):=(XE.cell (p:=⟨r,0,none⟩) (bz _ _ z0)).trans z0;have u5:W4.cell? ⟨bx,0,none⟩=some (.pointer (some ⟨r,0,none⟩)):=(XE.cell (p:=⟨bx,0,none⟩) (bz _ _ z5)).trans z5;have hPW:=EG ((aC p d').ai om.o XE) (a:Int) full (some ⟨g4,0,none⟩) c4 (fun hn=>gI.o.bs hn) (dm _ _) (fun gq oq e hq=>by
    injection e with e;injection e with e _
    subst e;have h1:=uZ.o;have h2:=ek.o.size;have h3:=Tn.o;have h4:=pT.o _ hq;omega) (by have:=rB.o;rw[SG.o];have:=HT.o;have:=Qa.o;have:=NW.o;omega)
   rw[HFN.o] at hPW;have HPW:=aa hPW;have ZE:=aa XE;clear hPW pP XE z0 z5;go_wp2_with fail;refine HPW.o.mono ?_;rintro e W5 ⟨rfl,hD5,oz⟩;have KX:W.heap.size≤W5.heap.size:=bf Tn.o (bf ZE.o.size oz.size);have Gh: ∀ k,k<w1.heap.size→¬S k→W5.heap[k]? =W2.heap[k]?:=fun k hk hs=>(oz.block k (aP (aP hk HZ.o) (bf Tn.o ZE.o.size)) (oJ.o k hk hs)).trans (ZE.o.block k (aP (aP hk HZ.o) Tn.o))
   have HF:=aa (TE HO.o H.o (V:=W5) (A2:=A2) (c2:=c - dl) (rem:=rem.drop dl) (d3:=(d'.write (a:Int) full).2) (er:=(d'.write (a:Int) full).1)
    (by rw[HST.o,ajV.o]) ((aC p _).mono hD5 (fun k hk=>by
     rcases hk with hk|hk
     ·rcases hk with hk|hk
      ·exact .inl hk
      exact .inr ⟨hk.1,aP hk.2 KX⟩
     ·exact .inr ⟨bf HZ.o (bf (bf Tn.o ZE.o.size) hk.1),hk.2⟩) (fun k hk=>by
     rcases hk with hk|hk
     ·exact aP (HO.o.hS k hk) (bf HZ.o KX)
     exact hk.2))
    ((ajZ.o.ai ZE.o).new (oz.mono fun k _ hk=>by
     rcases hk with hk|hk
     ·exact .inl (.inl hk)
     exact .inr hk.1))
    (fun k hk hs hne=>(Gh k hk hs).trans (agS.o k hk hs hne))
    (by rw[HDR.o];exact(Gh bb HO.o.wH.1 HO.o.wH.2).trans HV2.o)
    (cx.o W5 ((Gh gs CU.o.1 CU.o.2.1).trans (agS.o gs CU.o.1 CU.o.2.1 CU.o.2.2)) KX)
    (fun g' o' e=>by rw[jI.o g' o' e];exact CU.o)
    (by rw[HDR.o];omega) (by rw[HDR.o];have:=HT.o;omega)
    (by have h1:=(bG.lr d' (a:Int) full).2.1;rw[SG.o] at h1;have h2:=rB.o;have h3:=HT.o;have h4:=Qa.o;have h5:=NW.o;rw[HDR.o];omega)
    (by rw[(bG.lr d' (a:Int) full).1,SG.o];exact mi.o))
   clear hD5 oz KX Gh HPW;go_wp2_with fail;go_ret;exact HF.o
  have HF:=aa (show(js (.int .i64 er)= .returned (.int .i64 0)∧WrI S w1 bb bx r p size g R ps W2)∨∃ X2:Int,X2≠0∧js (.int .i64 er)= .returned (.int .i64 X2)∧WrE S w1 bb p R X2 W2 from .inr ⟨er,h0,rfl,d',by rw[HST.o,Cg.o,if_neg h0,if_neg h0],(aC p d').mono om.o tR.o ana.o,ajZ.o⟩);have hq:(er==0)=false:=by simp[h0]
  clear HST Cg vd h0;go_wp2_with fail;go_ret;exact HF.o
 ·have BB: ¬(dl:Int)<(size:Int):=by omega
  have WS:EW g d x rem=d.write (a:Int) (rem.take dl):=by unfold EW;rw[Qa.o,mi.o,if_neg hlt,HA.o]
  have tr:(rem.take dl).length=dl:=E8;have ajo:Bs W1 (some ⟨gs,off,none⟩) rem:=fun hn=>by
   obtain⟨g',o',e,hl,hc⟩:=HB.o hn;injection e with e;injection e with e1 e2;subst e1 e2
   exact⟨_,_,rfl,aP hl jx.o.size,fun i u hu=>(eF (a:=⟨gs,off+i,none⟩) (jx.o.block gs hl CU.o.2.2)).trans (hc i u hu)⟩
  have hPW:=EG NX.o (a:Int) (rem.take dl) (some ⟨gs,off,none⟩) c (ajo.take dl) (dm _ _) (fun gq oq e hq=>by
   injection e with e;injection e with e _
   subst e;exact oJ.o _ CU.o.1 CU.o.2.1 hq) (by have:=rB.o;have:=HT.o;have:=Qa.o;have:=NW.o;omega)
  rw[tr] at hPW;have HPW:=aa hPW;have Cg:=aa WS;clear hPW WS tr ajo;go_enter Tryz.func329,Tryz.ntmps329;go_wp2_with fail;rw[sK.o];refine HPW.o.mono ?_;rintro e W5 ⟨rfl,hD5,oz⟩;have KX:W.heap.size≤W5.heap.size:=bf jx.o.size oz.size;have Gh: ∀ k,k<w1.heap.size→¬S k→W5.heap[k]? =W1.heap[k]?:=fun k hk hs=>oz.block k (aP (aP hk HZ.o) jx.o.size) (oJ.o k hk hs)
  have HF:=aa (TE HO.o H.o (V:=W5) (A2:=A2) (c2:=c - dl) (rem:=rem.drop dl) (d3:=(d.write (a:Int) (rem.take dl)).2) (er:=(d.write (a:Int) (rem.take dl)).1)
   (by rw[HST.o,Cg.o]) ((aC p _).mono hD5 (fun k hk=>by
    rcases hk with hk|hk
    ·rcases hk with hk|hk
     ·exact .inl hk
     exact .inr ⟨hk.1,aP hk.2 KX⟩
    ·exact .inr ⟨bf HZ.o (bf jx.o.size hk.1),hk.2⟩) (fun k hk=>by
    rcases hk with hk|hk
    ·exact aP (HO.o.hS k hk) (bf HZ.o KX)
    exact hk.2))
   (aj0.o.new (oz.mono fun k _ hk=>by
    rcases hk with hk|hk
    ·exact .inl (.inl hk)
    exact .inr hk.1))
   (fun k hk hs hne=>(Gh k hk hs).trans (jx.o.block k (aP hk HZ.o) hne))
   (by rw[HDR.o];exact(Gh bb HO.o.wH.1 HO.o.wH.2).trans HV1.o)
   (cx.o W5 ((Gh gs CU.o.1 CU.o.2.1).trans (jx.o.block gs Ts.o CU.o.2.2)) KX)
   (fun g' o' e=>by rw[jI.o g' o' e];exact CU.o)
   (by rw[HDR.o];omega) (by rw[HDR.o];have:=HT.o;omega)
   (by have h1:=(bG.lr d (a:Int) (rem.take dl)).2.1;have h2:=rB.o;have h3:=HT.o;have h4:=Qa.o;have h5:=NW.o;rw[HDR.o];omega)
   (by rw[(bG.lr d (a:Int) (rem.take dl)).1];exact mi.o))
  clear hD5 oz KX Gh HPW;go_wp2_with fail;go_ret;exact HF.o
end En
end
section
namespace En
open Oc (yi)
def ad2(S:Nat→Prop)(p:Nat)(R:Int × bG)(w:World)(e:Ending)(w':World): Prop:=e= .returned (.int .i64 R.1)∧dI p R.2 (Gr S w w') w'∧aG S w w'
theorem EF{S:Nat→Prop}{w:World}{r p:Nat}{g:Rg}{d:bG}(h:fV w r p g d.dk.size)(hD:dI p d S w)(hr: ¬S r)(at_:Nat)(hat:at_≤268435456)(b:By)(A:Option Addr)(c:Nat)
  (hB:Bs w A b) (hA: ∀ gs off,A=some ⟨gs,off,none⟩→gs<w.heap.size∧¬S gs) (hc:b.length≤c) (hn:b.length≤268435456) (hrow:d.dk.row.length+b.length≤1000000) :
  Calls af 294 #[.pointer (some ⟨r,0,none⟩),.int .i64 at_,.slice A b.length c] w (ad2 S p (g.write d at_ b) w):=by
 have hS: ∀ k,S k→k<w.heap.size:=(aC p d).lt hD;obtain⟨n,hbn⟩:=ae b.length;obtain⟨bx,mg⟩:=ae w.heap.size;obtain⟨w0,hw0⟩:=ae (w.alloc (.cells #[.pointer (some ⟨r,0,none⟩)] 44));obtain⟨bb,wH⟩:=ae w0.heap.size;obtain⟨w1,aX⟩:=ae (w0.alloc (.cells #[.slice A b.length c] 34));have hb0:=aJ hw0;have y9:=aJ aX;have hb1:Below w.heap.size w w1:=ar hb0 y9;have ha0:=aH hw0 mg;have ha1:aD w1 bx 44 #[.pointer (some ⟨r,0,none⟩)]:=ha0.keep y9;have ha2:=aH aX wH;have ai6:bx+1=bb:=by rw[←wH,←hw0,←mg];simp only[World.alloc,Array.size_push]
 have amr:bx<bb:=by rw[←wH];exact ha0.lt
 have hD1:=(aC p d).ai hD hb1;have kY:=h.keep hb1;have hO:WrO S w1 bb bx r d.dk.size:=by
  have h1:=ha1.lt;have h2:=ha2.lt;have h3:=h.own.lt;have h4:=hb1.size;refine⟨⟨h1,fun hs=>?_,ag⟩,⟨h2,fun hs=>?_⟩,⟨ag,hr,ag⟩,fun k hk=>aP (hS k hk) h4,hD.ok.size⟩
  ·have:=hS _ hs;omega
  have:=hS _ hs;omega
 have x1:=ha1.cl 0;have x2:w1.cell? ⟨bb,0,none⟩=some (.slice A n c):=by rw[←hbn];exact ha2.cell 0
 have y1:=kY.own.cl 0;have hI: ∀ W,Below w1.heap.size w1 W→WrI S w1 bb bx r p d.dk.size g (Lm g d (pieces d.dk.size n at_ n) b) (pieces d.dk.size n at_ n) W:=fun W hW=>by
  refine⟨kY.keep hW,(hW.cell (p:=⟨bx,0,none⟩) ha1.lt).trans x1,⟨d,b,A,c,(aC p d).Ag ((aC p d).ai hD1 hW) hO.hS hW.size,rfl,ha2.keep hW,(hB.keep hb1).keep hW,fun gs off e=>?_,hc,rfl,?_,hrow⟩,pG _ hD.ok.size.1 _ _ _ (aL _),aG.aU hW⟩
  ·have:=hA gs off e;exact⟨aP this.1 hb1.size,this.2,by have:=hb0.size;omega⟩
  rw[hbn,nC _ hD.ok.size.1 _ _ _ (aL _)]
 have HO:=aa hO;have HI:=aa hI;have NX:=aa hD1;have P9:=aa kY;have bu:=aa hb1;have uq:=aa hD.ok;have Y9:=aa hw0;have sK:=aa aX;have yb:=aa mg;have jl:=aa ai6;have HH:=aa h;have HD:=aa hD;rw[hbn] at hn sK ⊢;have Xi:(0:Int)≤(n:Int):=ag;have hcc:(n:Int)≤(c:Int):=ag;have HBN:=aa hbn;clear hS hw0 aX mg wH ai6 hb0 y9 hb1 ha0 ha1 ha2 amr hD1 kY hO hI hB hA hc hrow hr h hD hbn;cases nI:g.bad d.dk.size at_ n with
 | true=>
  have hres:g.write d at_ b=(2,d):=by unfold Rg.write;rw[HBN.o,if_pos nI]
  rw[hres];have GM:=aa nI;clear nI hres;go_enter Tryz.func294,Tryz.ntmps294;go_wp2_with fail;rw[Y9.o,sK.o,yb.o,jl.o];refine ah (nT r p w1 y1) ?_;go_wp2_with fail;refine wp_region_held_drew (S:=(fun w'=>w'.cell? ⟨bx,0,none⟩=some (.pointer (some ⟨r,0,none⟩))∧w'.cell? ⟨bb,0,none⟩=some (.slice A n c))) aW (by exact⟨x1,x2⟩) (fun hHeld=>?_);refine OC 0 1 2 3 4 5 ?_;refine cD 6 fun K hK=>?_
  go_simp;refine(vU (w:=w1.drew) (P9.o.keep (ay (aq _ _))) at_ n hat hn).mono ?_;rintro e w2 ⟨rfl,hb2⟩;rw[GM.o];have q1:w2.cell? ⟨bx,0,none⟩=some (.pointer (some ⟨r,0,none⟩)):=(hb2.cell (p:=⟨bx,0,none⟩) (bz _ _ x1)).trans x1;have q2:w2.cell? ⟨bb,0,none⟩=some (.slice A n c):=(hb2.cell (p:=⟨bb,0,none⟩) (bz _ _ x2)).trans x2;have cx:=aa (show Below w1.heap.size w1 w2 from ar (ay (aq _ _)) hb2);clear hb2;go_wp2_with fail;refine bW hK (by exact⟨q1,q2⟩) fun qp=>?_
  clear hK K;refine uw 7 8 ?_;refine bF ?_;have hb:=ar bu.o cx.o;have HF:=aa (show ad2 S p (2,d) w (.returned (.int .i64 2)) w2 from⟨rfl,(aC p d).Ag ((aC p d).ai HD.o hb) ((aC p d).lt HD.o) hb.size,aG.aU hb⟩);clear hb;go_wp2_with fail;go_ret;exact HF.o
 | false=>
  have hres:g.write d at_ b=Lm g d (pieces d.dk.size n at_ n) b:=by unfold Rg.write;rw[HBN.o,if_neg (by rw[nI];simp),Int.toNat_natCast]
  rw[hres];obtain⟨R,hR⟩:=ae (Lm g d (pieces d.dk.size n at_ n) b);rw[hR] at HI ⊢;have GM:=aa nI;clear nI hres hR;go_enter Tryz.func294,Tryz.ntmps294;go_wp2_with fail;rw[Y9.o,sK.o,yb.o,jl.o];refine ah (nT r p w1 y1) ?_;go_wp2_with fail;refine wp_region_held_drew (S:=(fun w'=>w'.cell? ⟨bx,0,none⟩=some (.pointer (some ⟨r,0,none⟩))∧w'.cell? ⟨bb,0,none⟩=some (.slice A n c))) aW (by exact⟨x1,x2⟩) (fun hHeld=>?_);refine OC 0 1 2 3 4 5 ?_;refine cD 6 fun K hK=>?_
  go_simp;refine(vU (w:=w1.drew) (P9.o.keep (ay (aq _ _))) at_ n hat hn).mono ?_;rintro e w2 ⟨rfl,hb2⟩;rw[GM.o];have q1:w2.cell? ⟨bx,0,none⟩=some (.pointer (some ⟨r,0,none⟩)):=(hb2.cell (p:=⟨bx,0,none⟩) (bz _ _ x1)).trans x1;have q2:w2.cell? ⟨bb,0,none⟩=some (.slice A n c):=(hb2.cell (p:=⟨bb,0,none⟩) (bz _ _ x2)).trans x2;have cx:=aa (show Below w1.heap.size w1 w2 from ar (ay (aq _ _)) hb2);clear hb2;go_wp2_with fail;refine bW hK (by exact⟨q1,q2⟩) fun qp=>?_
  clear hK K;refine uw 7 8 ?_;refine bF ?_;go_wp2_with fail;refine dN aW ?_;refine bc.any (S:=(fun w'=>w'.cell? ⟨bx,0,none⟩=some (.pointer (some ⟨r,0,none⟩))∧w'.cell? ⟨bb,0,none⟩=some (.slice A n c))) (t:=7) _ _ _ _ ?_;have hHeld:=(show(fun w'=>w'.cell? ⟨bx,0,none⟩=some (.pointer (some ⟨r,0,none⟩))∧w'.cell? ⟨bb,0,none⟩=some (.slice A n c)) w2.drew from⟨q1,q2⟩);refine AX [1,2] (i:=0) (oi:=?anL) (d:=(some 20)) (v:=?anJ) ?aiP aW aW aW aW aW aW (fun _ _ _ h=>h) ?ai1 ?ahY ?ahU hHeld ?_
  case aiP=>(simp only[dZ];exact rfl)
  case ai1=>rfl
  case ahY=>rfl
  case ahU=>(intro w hSw;(try dsimp only at hSw);obtain⟨hSa,hSb⟩:=hSw;go_simp;try with_reducible rfl)
  try simp only[aQ]
  refine tp 1 ?_;refine tt 2 ?_;refine tt 3 ?_;refine AX [5] (i:=4) (oi:=?anK) (d:=(some 24)) (v:=?anI) ?aiO aW aW aW aW aW aW (fun _ _ _ h=>h) ?ai0 ?ahX ?ahT hHeld ?_
  case aiO=>(simp only[dZ];exact rfl)
  case ai0=>rfl
  case ahX=>rfl
  case ahT=>(intro w hSw;(try dsimp only at hSw);obtain⟨hSa,hSb⟩:=hSw;go_simp;try with_reducible rfl)
  try simp only[aQ]
  refine tt 5 ?_;refine tt 6 ?_;refine bc.last aW ?_;refine kI 7 aW aW ?_;simp only[tE,List.drop_zero];go_wp2_with fail;refine(Nn w2.drew #[.pointer (some ⟨bb,0,none⟩),.pointer (some ⟨bx,0,none⟩)] at_ n (WrI S w1 bb bx r p d.dk.size g R) (WrE S w1 bb p R) uq.o.size HH.o.Pa ?_ (fun ps W h=>h.rg) (fun x ps W h=>aeI HO.o h) (HI.o w2.drew (ay cx.o))).mono ?_
  ·have h1:=GM.o;unfold Rg.bad at h1;have h2:=HH.o.e8;simp only[Bool.or_eq_false_iff,decide_eq_false_iff_not] at h1;omega
  rintro e w3 hor;have lF: ∃ er:Int,e= .returned (.int .i64 er)∧∃ d3,R=(er,d3)∧dI p d3 (Gr S w1 w3) w3∧aG (fun k=>S k∨k=bb) w1 w3:=by
   rcases hor with⟨he,h3⟩|⟨er,_,he,d3,h3,h4,h5⟩
   ·obtain⟨d3,rem,A3,c3,PH,_,_,_,_,_,dS,_⟩:=h3.body;exact⟨0,he,d3,dS,PH,h3.cG⟩
   exact⟨er,he,d3,h3,h4,h5⟩
  obtain⟨er,rfl,d3,dS,PH,kv⟩:=lF;have iO:=aa dS;have Zx:=aa PH;have jR:=aa kv;clear hor dS PH kv;go_wp2_with fail;go_ret;rw[iO.o];have hzz:=bu.o.size;have hz3:=jR.o.size;refine⟨rfl,(aC p d3).mono Zx.o (fun k hk=>?_) (fun k hk=>?_),(aG.aU bu.o).new (jR.o.mono fun k _ hk=>?_)⟩
  ·rcases hk with hk|hk
   ·exact .inl hk
   exact .inr ⟨bf hzz hk.1,hk.2⟩
  ·rcases hk with hk|hk
   ·exact aP ((aC p d).lt HD.o k hk) (bf hzz hz3)
   exact hk.2
  rcases hk with hk|rfl
  ·exact .inl hk
  exact .inr (by have h1:=yb.o;have h2:=jl.o;omega)
end En
end
section
namespace En
def lgC(l:Lg)(r:Nat)(v:Value): Array Value:=#[v,.int .i64 (l.cE.length:Nat),.int .u64 (l.dO:Nat),.int .u64 (l.last:Nat),.pointer (some ⟨r,0,none⟩),.int .u64 (l.bY:Nat)]
structure gF(S:Nat→Prop)(w:World)(q r p:Nat)(l:Lg)(g:Rg)(size:Nat)(v:Value): Prop where
 own:aD w q 88 (lgC l r v)
 rg:fV w r p g size
 row:w.ownsRow 0 5 1 v l.aK.length (aN l.aK)
 bt:S q∧S r∧∀ k,v.ownBlock=some k→S k∧k≠q∧k≠r
 lt: ∀ k,S k→k<w.heap.size
 ok:l.Ok
 fit:l.used≤g.bytes size
def uW(q r p:Nat)(l:Lg)(g:Rg)(size:Nat)(S:Nat→Prop)(w:World): Prop:=∃ v,gF S w q r p l g size v
theorem cC(q r p:Nat)(l:Lg)(g:Rg)(size:Nat): Loc (uW q r p l g size):=by
 refine⟨fun⟨_,h⟩=>h.lt,fun {S w w'} ⟨v,h⟩ hz hk=>⟨v,?_⟩,fun {S T w} ⟨v,h⟩ pY hT=>⟨v,?_⟩⟩
 ·exact⟨(hk q h.bt.1).trans h.own,⟨(hk r h.bt.2.1).trans h.rg.own,h.rg.size,h.rg.count⟩,dY h.row fun k hb=>hk k (h.bt.2.2 k hb).1,h.bt,fun k hs=>aP (h.lt k hs) hz,h.ok,h.fit⟩
 exact⟨h.own,h.rg,h.row,⟨pY _ h.bt.1,pY _ h.bt.2.1,fun k hk=>⟨pY _ (h.bt.2.2 k hk).1,(h.bt.2.2 k hk).2⟩⟩,hT,h.ok,h.fit⟩
variable{S:Nat→Prop}{w:World}{q r p size:Nat}{v:Value}
theorem gF.small{l:Lg}{g:Rg}(h:gF S w q r p l g size v): l.cE.length+l.aK.length≤268435456∧l.used=l.cE.length+l.aK.length:=by
 have h1:=l.uv h.ok.done;have h2:=h.fit;have h3:=h.rg.e8;exact⟨ag,h1⟩
theorem iV(q r:Nat)(w:World)(h:w.cell? ⟨q,4,none⟩=some (.pointer (some ⟨r,0,none⟩))): Calls af 186 #[.pointer (some ⟨q,0,none⟩)] w fun e w'=>e= .returned (.bool true)∧w'=w:=by
 go_enter Tryz.func186,Tryz.ntmps186;go_wp2_with fail;go_ret;exact⟨rfl,rfl⟩
theorem Kv{l:Lg}{g:Rg}(h:gF S w q r p l g size v): Calls af 187 #[.pointer (some ⟨q,0,none⟩)] w fun e w'=>e= .returned (.int .i64 (l.used:Nat))∧Below w.heap.size w w':=by
 obtain⟨A,c,rfl⟩:=cg h.row;have x0:w.cell? ⟨q,0,none⟩=some (.slice A l.aK.length c):=h.own.cell 0;have x1:w.cell? ⟨q,1,none⟩=some (.int .i64 (l.cE.length:Nat)):=h.own.cell 1;obtain⟨h1,h2⟩:=h.small;rw[h2];obtain⟨a,ha⟩:=ae l.cE.length;obtain⟨b,hb⟩:=ae l.aK.length;rw[ha,hb] at h1 ⊢;rw[ha] at x1;rw[hb] at x0;have hab:(a:Int)+(b:Int)≤268435456:=ag;have hw:aT.wrap ((a:Int)+(b:Int))=((a+b:Nat):Int):=by rw[vg _ ag];push_cast;rfl
 clear h h1 h2 ha hb;go_enter Tryz.func187,Tryz.ntmps187;exact Wh
theorem wk{l:Lg}{g:Rg}(h:gF S w q r p l g size v): Calls af 96 #[.pointer (some ⟨q,0,none⟩)] w fun e w'=>e= .returned (.int .i64 (g.bytes size - l.used:Nat))∧Below w.heap.size w w':=by
 have x4:w.cell? ⟨q,4,none⟩=some (.pointer (some ⟨r,0,none⟩)):=h.own.cell 4;have L:=cC q r p l g size;have tP:=aa fun(W:World) (hW:Below w.heap.size w W)=>ny (h.rg.keep hW)
 have P2:=aa fun(W:World) (hW:Below w.heap.size w W)=>by
  obtain⟨v',h'⟩:=L.ai ⟨v,h⟩ hW;exact Kv h'
 have h1:=h.fit;have h2:=h.rg.e8;obtain⟨a,ha⟩:=ae (g.bytes size);obtain⟨b,hb⟩:=ae l.used;rw[ha] at tP h1 h2 ⊢;rw[hb] at P2 h1 ⊢;have hab:(a:Int) - (b:Int)=((a - b:Nat):Int):=ag;have ha4:(a:Int)≤268435456:=ag;have hwr:aT.wrap ((a - b:Nat):Int)=((a - b:Nat):Int):=vg _ ag;have Ih:(b:Int)≤(a:Int):=ag;clear h ha hb h1 h2 L;go_enter Tryz.func96,Tryz.ntmps96;go_wp2_with fail;refine ah (iV q r w x4) ?_;go_wp2_with fail;refine sY (S:=(fun w'=>w'.cell? ⟨q,4,none⟩=some (.pointer (some ⟨r,0,none⟩)))) (by exact x4) fun hHeld=>?_
 refine OC 0 1 2 3 5 6 ?_;refine ty 7 ?_;refine cD 4 fun K hK=>?_
 go_simp;refine(tP.o _ (ay (aq _ _))).mono ?_;rintro e w2 ⟨rfl,hw2⟩;have Bt:Below w.heap.size w w2:=ar (ay (aq _ _)) hw2;have q4:w2.cell? ⟨q,4,none⟩=some (.pointer (some ⟨r,0,none⟩)):=(Bt.cell (p:=⟨q,4,none⟩) (bz _ _ x4)).trans x4;have Gz:=aa Bt;clear hw2 Bt;go_wp2_with fail;refine bW hK (by exact q4) fun oX=>?_
 clear hK K;refine cD 8 fun K hK=>?_
 go_simp;refine(P2.o _ Gz.o).mono ?_;rintro e w3 ⟨rfl,hw3⟩;have afA:Below w.heap.size w w3:=ar Gz.o hw3;have r4:w3.cell? ⟨q,4,none⟩=some (.pointer (some ⟨r,0,none⟩)):=(afA.cell (p:=⟨q,4,none⟩) (bz _ _ x4)).trans x4;have Ir:=aa afA;clear hw3 afA;go_wp2_with fail;refine bW hK (by exact r4) fun nJ=>?_
 clear hK K;refine uw 9 10 ?_;refine bF ?_;go_wp2_with fail;go_ret;exact⟨rfl,Ir.o⟩
theorem YV{l:Lg}{g:Rg}(h:gF S w q r p l g size v): Calls af 80 #[.pointer (some ⟨q,0,none⟩)] w fun e w'=>e= .returned (.int .u64 (l.last:Nat))∧w'=w:=by
 have x4:w.cell? ⟨q,4,none⟩=some (.pointer (some ⟨r,0,none⟩)):=h.own.cell 4;have x5:w.cell? ⟨q,3,none⟩=some (.int .u64 (l.last:Nat)):=h.own.cell 3;clear h;go_enter Tryz.func80,Tryz.ntmps80;exact Wk
theorem Kz{l:Lg}{g:Rg}(h:gF S w q r p l g size v): Calls af 79 #[.pointer (some ⟨q,0,none⟩)] w fun e w'=>e= .returned (.int .u64 (l.dO:Nat))∧w'=w:=by
 have x4:w.cell? ⟨q,4,none⟩=some (.pointer (some ⟨r,0,none⟩)):=h.own.cell 4;have x5:w.cell? ⟨q,2,none⟩=some (.int .u64 (l.dO:Nat)):=h.own.cell 2;clear h;go_enter Tryz.func79,Tryz.ntmps79;exact Wk
theorem Ky{l:Lg}{g:Rg}(h:gF S w q r p l g size v): Calls af 81 #[.pointer (some ⟨q,0,none⟩)] w fun e w'=>e= .returned (.int .i64 (l.used:Nat))∧Below w.heap.size w w':=by
 have x4:w.cell? ⟨q,4,none⟩=some (.pointer (some ⟨r,0,none⟩)):=h.own.cell 4;have P2:=aa (Kv h);clear h;go_enter Tryz.func81,Tryz.ntmps81;go_wp2_with fail;refine ah (iV q r w x4) ?_;go_wp2_with fail;refine P2.o.mono ?_;exact Je
theorem Kw{l:Lg}{g:Rg}(h:gF S w q r p l g size v): Calls af 305 #[.pointer (some ⟨q,0,none⟩)] w fun e w'=>e= .returned (if l.last=18446744073709551615 then .tuple #[.int .u64 0,.bool false] else .tuple #[.int .u64 (l.last+1:Nat),.bool true])∧w'=w:=by
 have x3:w.cell? ⟨q,3,none⟩=some (.int .u64 (l.last:Nat)):=h.own.cell 3;have hl:=h.ok.last;obtain⟨a,ha⟩:=ae l.last;rw[ha] at x3 hl ⊢;clear h ha;by_cases h0:a=18446744073709551615
 ·subst h0;rw[if_pos rfl];go_enter Tryz.func305,Tryz.ntmps305;go_wp2_with fail;go_ret2;exact⟨rfl,rfl⟩
 rw[if_neg h0];have hq:((a:Int)==18446744073709551615)=false:=mK;have hw:IntKind.u64.wrap ((a:Int)+1)=((a+1:Nat):Int):=by rw[IntWalk.u64_in _ ag];push_cast;rfl
 have HL:=aa hl;clear h0;go_enter Tryz.func305,Tryz.ntmps305;go_wp2_with fail;go_ret2;exact⟨rfl,rfl⟩
end En
end
section
namespace En
variable{S:Nat→Prop}{w:World}{q r p size:Nat}{v:Value}
theorem YW{l:Lg}{g:Rg}(h:gF S w q r p l g size v)(n:Nat)(hn:n≤268435456): Calls af 304 #[.pointer (some ⟨q,0,none⟩),.int .i64 n] w fun e w'=>e= .returned (.bool (l.fits (g.bytes size) n))∧Below w.heap.size w w':=by
 have x4:w.cell? ⟨q,4,none⟩=some (.pointer (some ⟨r,0,none⟩)):=h.own.cell 4;have GF:=aa (Kw h);have Sq:=aa (wk h);have y6:=h.fit;have hby:=h.rg.e8;unfold Lg.fits;obtain⟨a,ha⟩:=ae l.last;obtain⟨B,hB⟩:=ae (g.bytes size);obtain⟨u,hu⟩:=ae l.used;rw[ha] at GF ⊢;rw[hB,hu] at Sq y6 ⊢;rw[hB] at hby;clear h ha hB hu;have Xi: ¬(n:Int)<0:=ag;by_cases Il:n≤32
 ·have mW: ¬(32:Int)<(n:Int):=by omega
  have hn3:(n:Int)≤32:=ag;have HFS:=aa fun W=>Cw n Il W
  rw[show decide (n≤32)=true by simpa using Il,Bool.true_and];by_cases h0:a=18446744073709551615
  ·subst h0;rw[show decide ((18446744073709551615:Nat)≠18446744073709551615)=false from dA,Hj];rw[if_pos rfl] at GF;go_enter Tryz.func304,Tryz.ntmps304;go_wp2_with fail;refine ah (iV q r w x4) ?_;go_wp2_with fail;refine ah GF.o ?_;go_wp2_with fail;go_ret;exact⟨rfl,aq _ _⟩
  rw[show decide (a≠18446744073709551615)=true by simpa using h0,Bool.true_and];rw[if_neg h0] at GF;obtain⟨m,hm⟩:=ae (B - u);have hdec:decide (22+n+u≤B)=decide ((22:Int)+(n:Int)≤(m:Int)):=by rw[decide_eq_decide];omega
  rw[hm] at Sq;rw[hdec];have xM:(m:Int)≤268435456:=ag;clear h0 hm hdec y6 hby;go_enter Tryz.func304,Tryz.ntmps304;go_wp2_with fail;refine ah (iV q r w x4) ?_;go_wp2_with fail;refine ah GF.o ?_;go_wp2_with fail;refine ah (HFS.o w) ?_;go_wp2_with fail;refine Sq.o.mono ?_;exact Je
 have mW:(32:Int)<(n:Int):=ag;rw[show decide (n≤32)=false by simpa using Il,Hj,Hj];go_enter Tryz.func304,Tryz.ntmps304;go_wp2_with fail;refine ah (iV q r w x4) ?_;go_wp2_with fail;go_ret;exact⟨rfl,aq _ _⟩
def ad1(q r:Nat)(l:Lg)(w:World)(e:Ending)(w':World): Prop:=(∃ u,e= .returned u)∧aD w' q 88 #[.slice none 0 0,.int .i64 (l.used:Nat),.int .u64 (l.last:Nat),.int .u64 (l.last:Nat),.pointer (some ⟨r,0,none⟩),.int .u64 (l.bY:Nat)]∧aG (· =q) w w'
theorem Cc{l:Lg}{g:Rg}(h:gF S w q r p l g size v): Calls af 296 #[.pointer (some ⟨q,0,none⟩)] w (ad1 q r l w):=by
 obtain⟨A,c,rfl⟩:=cg h.row;obtain⟨h1,h2⟩:=h.small;have ho:=h.own;unfold lgC at ho;unfold ad1;rw[h2];obtain⟨a,ha⟩:=ae l.cE.length;obtain⟨b,hb⟩:=ae l.aK.length;obtain⟨la,hla⟩:=ae l.last;obtain⟨du,hdu⟩:=ae l.dO;obtain⟨ep,M4⟩:=ae l.bY;rw[ha,hb] at h1 ⊢;rw[hla,M4] at ho ⊢;rw[ha,hb,hdu] at ho;have x0:w.cell? ⟨q,0,none⟩=some (.slice A b c):=ho.cell 0;have x1:w.cell? ⟨q,1,none⟩=some (.int .i64 (a:Nat)):=ho.cell 1;have x3:w.cell? ⟨q,3,none⟩=some (.int .u64 (la:Nat)):=ho.cell 3;have x2:w.cell? ⟨q,2,none⟩=some (.int .u64 (du:Nat)):=ho.cell 2;have m0:=ho.mark 0;have m1:=ho.mark 1;have m2:=ho.mark 2;have hab:(a:Int)+(b:Int)≤268435456:=ag;have hw:aT.wrap ((a:Int)+(b:Int))=((a+b:Nat):Int):=by rw[vg _ ag];push_cast;rfl
 have HO:=aa ho;clear h h1 h2 ha hb hla hdu M4 ho;go_enter Tryz.func296,Tryz.ntmps296;go_wp2_with fail;refine dN aW ?_;refine bc.any (S:=(fun w'=>w'.cell? ⟨q,0,none⟩=some (.slice A b c)∧w'.cell? ⟨q,1,none⟩=some (.int .i64 (a:Nat)))) (t:=12) _ _ _ _ ?_;have hHeld:=(show(fun w'=>w'.cell? ⟨q,0,none⟩=some (.slice A b c)∧w'.cell? ⟨q,1,none⟩=some (.int .i64 (a:Nat))) w.drew from⟨x0,x1⟩);refine tt 0 ?_;refine tt 1 ?_;refine tt 2 ?_;refine tt 3 ?_;refine tt 4 ?_;refine tt 5 ?_;refine tt 6 ?_;refine tt 7 ?_;refine tt 8 ?_;refine tt 9 ?_;refine tp 10 ?_;refine tp 11 ?_;refine bc.last aW ?_;refine kI 12 aW aW ?_;simp only[tE,List.drop_zero];go_wp2_with fail;refine bodyPost_end (results_none Tryz.results296 _ _ _) rfl ⟨⟨_,rfl⟩,?_,?_⟩
 ·have:=((HO.o.put 1 (.int .i64 ((a:Int)+(b:Int)))).put 0 (.slice none 0 0)).put 2 (.int .u64 (la:Int));simp at this;exact this
 exact aG.ai (((aG.at w q 1 _).B1 0 _).B1 2 _) (ay (aq _ _))
theorem TF(g:Rg): ∀ (ps:List Piece) (d:bG) (b:By),(∀ x∈ps,x.f<x.t)→(Lm g d ps b).2.dk.size=d.dk.size∧(Lm g d ps b).2.dk.row.length≤d.dk.row.length+QO ps
 | [],d,b,_=>⟨rfl,aL _⟩
 | x::ps,d,b,h=>by
  have h1:(EW g d x b).2.dk.size=d.dk.size∧(EW g d x b).2.dk.row.length≤d.dk.row.length+1:=by
   unfold EW;split
   ·split
    ·have h2:=bG.lr (d.read (g.from_+x.s:Nat)).2.2 (g.from_+x.s:Nat) ((d.read (g.from_+x.s:Nat)).2.1.take x.f++b.take (x.t - x.f)++(d.read (g.from_+x.s:Nat)).2.1.drop x.t);rw[bG.lK] at h2;exact⟨h2.1,h2.2.1⟩
    rw[bG.lK];exact⟨rfl,zT _⟩
   have h2:=bG.lr d (g.from_+x.s:Nat) (b.take (x.t - x.f));exact⟨h2.1,h2.2.1⟩
  have hx:=h x (List.mem_cons_self ..);rw[Lm,QO];split
  ·have h3:=TF g ps (EW g d x b).2 (b.drop (x.t - x.f)) (fun y hy=>h y (gy _ hy));exact⟨h3.1.trans h1.1,ag⟩
  exact⟨h1.1,ag⟩
theorem Rg.pw(g:Rg)(d:bG)(at_:Nat)(b:By)(hs:1≤d.dk.size): (g.write d at_ b).2.dk.size=d.dk.size∧(g.write d at_ b).2.dk.row.length≤d.dk.row.length+b.length:=by
 unfold Rg.write;split
 ·exact⟨rfl,Nat.le_add_right _ _⟩
 have h1:=TF g (pieces d.dk.size b.length (at_:Int).toNat b.length) d b (fun x hx=>(pG _ hs _ _ _ (aL _) x hx).1);rw[nC _ hs _ _ _ (aL _)] at h1;exact h1
def Lg.iF(l:Lg): Lg:={l with done:=l.eD.length}
theorem Lg.RX(l:Lg): l.iF.cE.length=l.used∧l.iF.aK= []∧l.iF.dO=l.last∧l.iF.last=l.last∧l.iF.used=l.used∧l.iF.bY=l.bY:=by
 refine⟨?_,?_,rfl,rfl,rfl,rfl⟩
 ·simp[Lg.iF,Lg.cE,Lg.used]
 simp[Lg.iF,Lg.aK,jh]
def ER(SL SD:Nat→Prop)(q r p:Nat)(g:Rg)(size:Nat)(R:Int × Lg × bG)(w:World)(e:Ending)(w':World): Prop:=
 e= .returned (.int .i64 R.1)∧uW q r p R.2.1 g size SL w'∧dI p R.2.2 (Gr SD w w') w'∧aG (fun k=>SL k∨SD k) w w'
theorem gF.flush{w':World} {l:Lg}{g:Rg}(h:gF S w q r p l g size v)(ho:aD w' q 88 #[.slice none 0 0,.int .i64 (l.used:Nat),.int .u64 (l.last:Nat),.int .u64 (l.last:Nat),.pointer (some ⟨r,0,none⟩),.int .u64 (l.bY:Nat)])(hr:w'.heap[r]? =w.heap[r]?)(hz:w.heap.size≤w'.heap.size): uW q r p l.iF g size S w':=by
 obtain⟨f1,f2,f3,f4,f5,f6⟩:=l.RX;refine⟨.slice none 0 0,?_,⟨hr.trans h.rg.own,h.rg.size,h.rg.count⟩,?_,⟨h.bt.1,h.bt.2.1,fun k hk=>LD⟩,fun k hk=>aP (h.lt k hk) hz,⟨aL _,h.ok.last,h.ok.bY,h.ok.short⟩,h.fit⟩
 ·unfold lgC;rw[f1,f3,f4,f6];exact ho
 rw[f2];exact qd w' 0 1 _
theorem Si{SL SD:Nat→Prop}{l:Lg}{g:Rg}{d:bG}(h:gF SL w q r p l g d.dk.size v)(hD:dI p d SD w)(Xw: ∀ k,SL k→¬SD k)(hrow:d.dk.row.length+l.aK.length≤1000000):
  Calls af 210 #[.pointer (some ⟨q,0,none⟩)] w (ER SL SD q r p g d.dk.size (l.flush g d) w):=by
 obtain⟨A,c,rfl⟩:=cg h.row;have x0:w.cell? ⟨q,0,none⟩=some (.slice A l.aK.length c):=h.own.cell 0;have x1:w.cell? ⟨q,1,none⟩=some (.int .i64 (l.cE.length:Nat)):=h.own.cell 1;have x2:w.cell? ⟨q,2,none⟩=some (.int .u64 (l.dO:Nat)):=h.own.cell 2;have x3:w.cell? ⟨q,3,none⟩=some (.int .u64 (l.last:Nat)):=h.own.cell 3;have x4:w.cell? ⟨q,4,none⟩=some (.pointer (some ⟨r,0,none⟩)):=h.own.cell 4;have H:=aa h;have HD:=aa hD;have SH:=aa Xw;have rB:=aa hrow;obtain⟨h1,h2⟩:=h.small;by_cases h0:l.done=l.eD.length
 ·have hq:((l.dO:Int)==(l.last:Int))=true:=by rw[beq_iff_eq];unfold Lg.dO Lg.last;omega
  have CL:(l.dO==l.last)=true:=by rw[beq_iff_eq];unfold Lg.dO Lg.last;omega
  have lM:l.flush g d=(0,l,d):=by unfold Lg.flush;rw[if_pos h0]
  rw[lM];have HF:=aa fun(W:World) (hb:Below w.heap.size w W)=>(show ER SL SD q r p g d.dk.size (0,l,d) w (.returned (.int .i64 0)) W from⟨rfl,(cC q r p l g _).ai ⟨_,h⟩ hb,(aC p d).Ag ((aC p d).ai hD hb) ((aC p d).lt hD) hb.size,aG.aU hb⟩)
  obtain⟨du,hdu⟩:=ae l.dO;obtain⟨la,hla⟩:=ae l.last;rw[hdu] at x2 hq CL;rw[hla] at x3 hq CL;clear h hD Xw hrow h1 h2 h0 lM hdu hla;go_enter Tryz.func210,Tryz.ntmps210;go_wp2_with fail;refine ah (iV q r w x4) ?_;go_wp2_with fail;go_quiet (fail);go_wp2_with fail;go_ret;exact HF.o _ (bK (aq _ _) _)
 ·have hq:((l.dO:Int)==(l.last:Int))=false:=by rw[beq_eq_false_iff_ne];unfold Lg.dO Lg.last;omega
  have CL:(l.dO==l.last)=false:=by rw[beq_eq_false_iff_ne];unfold Lg.dO Lg.last;omega
  obtain⟨er,oU⟩:=ae ((g.write d (l.cE.length:Nat) l.aK).1);obtain⟨d1,Xx⟩:=ae ((g.write d (l.cE.length:Nat) l.aK).2);have hwr:g.write d (l.cE.length:Nat) l.aK=(er,d1):=by rw[←oU,←Xx]
  have lM:l.flush g d=if er=0 then(if d1.sync.1=0 then(0,l.iF,d1.sync.2)else(d1.sync.1,l,d1.sync.2))else(er,l,d1):=by unfold Lg.flush;rw[if_neg h0,hwr];rfl
  have afQ:=Rg.pw g d l.cE.length l.aK hD.ok.size.1;rw[Xx] at afQ;have hSD:=(aC p d).lt hD;have hWR: ∀ W,Below w.heap.size w W→Calls af 294 #[.pointer (some ⟨r,0,none⟩),.int .i64 (l.cE.length:Nat),.slice A l.aK.length c] W fun e W'=>e= .returned (.int .i64 er)∧dI p d1 (Gr SD w W') W'∧aG SD w W':=fun W hW=>by
   refine(EF (h.rg.keep hW) ((aC p d).ai hD hW) (Xw r h.bt.2.1) l.cE.length ag l.aK A c ((Bs.own h.row).keep hW) (fun gs off e=>?_) ?_ ag hrow).mono ?_
   ·subst e;have h3:=h.bt.2.2 gs rfl;exact⟨aP (h.lt gs h3.1) hW.size,Xw gs h3.1⟩
   ·rcases h.row.2 with⟨_,e1⟩|⟨g',cap,cur,e0,_,_,e3,_⟩
    ·omega
    injection e0 with _ _ e7;omega
   rintro e W' ⟨he,h3,h4⟩;rw[hwr] at he h3;have h5:=hW.size;have h6:=h4.size;refine⟨he,(aC p d1).mono h3 (fun k hk=>?_) (fun k hk=>?_),(aG.aU hW).trans h4⟩
   ·rcases hk with hk|hk
    ·exact .inl hk
    exact .inr ⟨bf h5 hk.1,hk.2⟩
   rcases hk with hk|hk
   ·exact aP (hSD k hk) (bf h5 h6)
   exact hk.2
  obtain⟨R,hR⟩:=ae (l.flush g d);rw[hR] at lM ⊢;have Cg:=aa hWR;have GJ:=aa lM;have ang:=aa afQ;have HSD:=aa hSD;obtain⟨du,hdu⟩:=ae l.dO;obtain⟨la,hla⟩:=ae l.last;obtain⟨wl,H9⟩:=ae l.cE.length;obtain⟨n,hn⟩:=ae l.aK.length;rw[hdu] at x2 hq CL;rw[hla] at x3 hq CL;rw[H9,hn] at Cg;rw[H9] at x1;rw[hn] at x0;have HNN:=aa hn;clear h hD Xw hrow h1 h2 h0 lM hdu hla H9 hn hwr oU Xx afQ hSD hWR hR;go_enter Tryz.func210,Tryz.ntmps210;go_wp2_with fail;refine ah (iV q r w x4) ?_;go_wp2_with fail;go_quiet (fail);obtain⟨wz,hwz⟩:=ae (w.drewN nq);have ry:Below w.heap.size w wz:=by rw[←hwz];exact bK (aq _ _) _
  rw[hwz];have z0:wz.cell? ⟨q,0,none⟩=some (.slice A n c):=(ry.cell (p:=⟨q,0,none⟩) (bz _ _ x0)).trans x0;have z1:wz.cell? ⟨q,1,none⟩=some (.int .i64 (wl:Nat)):=(ry.cell (p:=⟨q,1,none⟩) (bz _ _ x1)).trans x1;have z4:wz.cell? ⟨q,4,none⟩=some (.pointer (some ⟨r,0,none⟩)):=(ry.cell (p:=⟨q,4,none⟩) (bz _ _ x4)).trans x4;have HBZ:=aa ry;clear ry hwz;go_wp2_with fail;refine wp_region_held_drew (S:=(fun w'=>w'.cell? ⟨q,0,none⟩=some (.slice A n c)∧w'.cell? ⟨q,1,none⟩=some (.int .i64 (wl:Nat))∧w'.cell? ⟨q,4,none⟩=some (.pointer (some ⟨r,0,none⟩)))) aW (by exact⟨z0,z1,z4⟩) (fun hHeld=>?_);refine nZ 0 1 2 3 4 5 6 7 ?_;refine OC 8 9 10 11 12 13 ?_;refine cD 14 fun K hK=>?_
  go_simp;refine(Cg.o _ (ay HBZ.o)).mono ?_;rintro e w2 ⟨rfl,Ng,jL⟩;have aaP:=SH.o q H.o.bt.1;have q0:w2.cell? ⟨q,0,none⟩=some (.slice A n c):=(eF (a:=⟨q,0,none⟩) (jL.block q (H.o.lt q H.o.bt.1) aaP)).trans x0;have q1:w2.cell? ⟨q,1,none⟩=some (.int .i64 (wl:Nat)):=(eF (a:=⟨q,1,none⟩) (jL.block q (H.o.lt q H.o.bt.1) aaP)).trans x1;have q4:w2.cell? ⟨q,4,none⟩=some (.pointer (some ⟨r,0,none⟩)):=(eF (a:=⟨q,4,none⟩) (jL.block q (H.o.lt q H.o.bt.1) aaP)).trans x4;have om:=aa Ng;have gV:=aa jL;clear Ng jL aaP;go_wp2_with fail;refine bW hK (by exact⟨q0,q1,q4⟩) fun lN=>?_
  clear hK K;refine ty 15 ?_;refine bF ?_;have hrg2:fV w2 r p g d.dk.size:=H.o.rg.cG gV.o (SH.o r H.o.bt.2.1);have y0:w2.cell? ⟨r,0,none⟩=some (.pointer (some ⟨p,0,none⟩)):=hrg2.own.cell 0;obtain⟨hy0,hy1,hy4⟩:=lN;by_cases h0:er=0
  ·subst h0;have Zr:=aa (show R=if d1.sync.1=0 then(0,l.iF,d1.sync.2)else(d1.sync.1,l,d1.sync.2)from by rw[GJ.o,if_pos rfl]);have yO:=aa (Ko hrg2 om.o (by have:=ang.o.2;have:=rB.o;have:=HNN.o;omega));clear hrg2 GJ Cg;obtain⟨es,hes⟩:=ae d1.sync.1;obtain⟨ds,hds⟩:=ae d1.sync.2;rw[hes,hds] at Zr yO;clear hes hds;go_wp2_with fail;refine yO.o.mono ?_;rintro e w3 ⟨rfl,PH,kv⟩;have hz2:=gV.o.size;have hz3:=kv.size;have abf:dI p ds (Gr SD w w3) w3:=(aC p ds).grow PH hz2 hz3 HSD.o;have Dp:aG SD w w3:=gV.o.gr kv;have af7:uW q r p l g d.dk.size SL w3:=(cC q r p l g _).cG ⟨_,H.o⟩ Dp SH.o;have r4:w3.cell? ⟨q,4,none⟩=some (.pointer (some ⟨r,0,none⟩)):=(eF (a:=⟨q,4,none⟩) (Dp.block q (H.o.lt q H.o.bt.1) (SH.o q H.o.bt.1))).trans x4;by_cases h1:es=0
   ·subst h1;have HR0:=aa (show R=(0,l.iF,ds)from by rw[Zr.o,if_pos rfl]);obtain⟨v3,h3⟩:=af7;have GA:=aa (Cc h3);have HL3:=aa h3;have Zx:=aa abf;have jR:=aa Dp;clear Zr PH kv hz2 hz3 abf Dp h3;go_wp2_with fail;refine GA.o.mono ?_;rintro e w4 ⟨⟨u,rfl⟩,Z',CG⟩;have hnq: ∀ k,Gr SD w w3 k→¬k=q:=fun k hk e=>by
     subst e;rcases hk with hk|hk
     ·exact SH.o _ H.o.bt.1 hk
     have:=H.o.lt _ H.o.bt.1;omega
    have HF:=aa (show ER SL SD q r p g d.dk.size R w (.returned (.int .i64 0)) w4 from by
     rw[HR0.o];refine⟨rfl,HL3.o.flush Z' (CG.block r HL3.o.rg.own.lt fun e=>?_) CG.size,?_,?_⟩
     ·subst e;have a1:=HL3.o.own;have a2:=HL3.o.rg.own;unfold aD at a1 a2;rw[a1] at a2;injection a2 with a2
      injection a2 with _ a3
      revert a3;decide
     ·have h5:=(aC p ds).cG Zx.o CG hnq;exact(aC p ds).mono h5 (fun k hk=>by rcases hk with hk|hk;exact .inl hk;exact .inr ⟨hk.1,aP hk.2 CG.size⟩) (fun k hk=>by rcases hk with hk|hk;exact aP (HSD.o k hk) (bf jR.o.size CG.size);exact hk.2)
     exact(jR.o.mono fun k _ hk=>.inr hk).trans (CG.mono fun k _ e=>.inl (by subst e;exact H.o.bt.1)))
    clear Z' CG hnq;go_wp2_with fail;go_ret;exact HF.o
   have hqe:(es==0)=false:=by simp[h1]
   have HF:=aa (show ER SL SD q r p g d.dk.size R w (.returned (.int .i64 es)) w3 from by
    rw[Zr.o,if_neg h1];exact⟨rfl,af7,abf,Dp.mono fun k _ hk=>.inr hk⟩)
   clear Zr h1 PH kv hz2 hz3 abf Dp af7;go_wp2_with fail;go_ret;exact HF.o
  have hqe:(er==0)=false:=by simp[h0]
  have HF:=aa (show ER SL SD q r p g d.dk.size R w (.returned (.int .i64 er)) w2 from by
   rw[GJ.o,if_neg h0];exact⟨rfl,(cC q r p l g _).cG ⟨_,H.o⟩ gV.o SH.o,om.o,gV.o.mono fun k _ hk=>.inr hk⟩)
  clear GJ Cg h0 hrg2;go_wp2_with fail;go_ret;exact HF.o
