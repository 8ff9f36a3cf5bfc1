import Derived.Lib.AppendZeros
import Derived.Test.YtemighjbfanenaaGreatDoorPk19
set_option linter.all false
set_option maxRecDepth 100000
set_option maxHeartbeats 16000000
namespace Go.Proofs.YtemighjbfanenaaGreatDoor
open RowKit
open Oc (Bs fZ fF aP ed bu bQ rh eP cI mV eY)
open Bool renaming false_and→G'
open Go.Builtin renaming zeroCells→fM
open Go.Ending renaming returned→jk
open Go.IntKind renaming i64→aO
open Go.IntWalk renaming i64_in→vh
open Go.Proofs.Tryz renaming prog→af
open Go.Value renaming int→gI,slice→ji
open Go.World renaming cell?_of_block→eO,block_lt_of_cell?→bD
open List renaming mem_cons_of_mem→gv,take_length→Ha,length_append→dh,flatten_append→P0,length_take→gU,drop_succ_cons→tI,drop_eq_nil_of_le→PZ
open Nat renaming le_refl→aQ,le_trans→aT,lt_of_lt_of_le→aW,le_succ→Al,zero_le→cm
open RowKit.Below renaming refl→au
theorem Vo{p:Prop}(h:p:=by
 go_wp2_with fail;refine ag (iT q r w x4) ?_;go_wp2_with fail;go_ret;exact⟨rfl,rfl⟩):p:=h
theorem TR{p:Prop}(h:p:=by have:=aaB L (k+1);rw[HN.o] at this;rw[←hst];exact aT this hl):p:=h
theorem Lh{p:Prop}(h:p:=by simp[Value.ownBlock] at hk):p:=h
theorem oU{p:Prop}(h:p:=by trivial):p:=h
theorem EU{p:Prop}(h:p:=by rw[gU];omega):p:=h
section
namespace Oc
theorem tT(v:Value)(n:Nat): (fM #[v] n).size=n:=by simp[fM]
def adJ(n:Nat)(w:World)(e:Ending)(w':World): Prop:=
 ∃ v,e= .returned v∧w'.ownsRow w.heap.size 5 1 v 0 []∧(∃ A c,v= .slice A 0 c∧A≠none∧n≤c)∧Below w.heap.size w w'
theorem abm(n:Nat)(w:World)(h0:0<n)(hn:n≤70368744177664): Calls af 361 #[.slice none 0 0,.int .i64 n] w (adJ n w):=by
 obtain⟨i0,hi,hz0,hz1,hz2⟩:=info_parts eY;have h1: ¬(n:Int)<0:=aj;have h2:(0:Int)<(n:Int):=aj;obtain⟨cp,hcp⟩:=ae (grownCap w n 0 5);have hc1:n≤cp:=by rw[←hcp];exact grownCap_ge _ _ _ _
 have hc2:cp≤maxLen:=by rw[←hcp];exact grownCap_le_maxLen _ _ _ _ km
 have hrun:=Go.Lib.run_append_nil_zeros (P:=af) w 34 3 34 5 i0 (.int .u8 0) .i64 .i64 Tryz.underlying34 Tryz.underlying3 hi hz0 n h0 (by rw[hz1];decide) aj AY;rw[hcp] at hrun;obtain⟨ZC,hZC⟩:=ae (fM (gI .u8 0).cells n++fM (gI .u8 0).cells (cp - n));have hzs:ZC.size=cp:=by rw[←hZC,show(gI IntKind.u8 0).cells= #[.int .u8 0] from rfl,Array.size_append,tT,tT];omega
 rw[hZC] at hrun;obtain⟨w1,aZ⟩:=ae (w.drew.alloc (.cells ZC 5));rw[aZ] at hrun;have hb1:Below w.heap.size w w1:=by rw[←aZ];exact ax (az (au _ _)) _
 have ho:w1.ownsRow w.heap.size 5 1 (.slice (some ⟨w.heap.size,0,none⟩) 0 cp) 0 []:=by
  refine⟨rfl,.inr ⟨w.heap.size,cp,ZC,rfl,aQ _,?_,cm _,hc2,by rw[hzs,Nat.mul_one],dR⟩⟩;rw[←aZ];exact aG.fresh w.drew _ _
 have hc3:(0:Int)≤(cp:Int):=aj;have HF:=aa (show adJ n w (.returned (.slice (some ⟨w.heap.size,0,none⟩) 0 cp)) w1 from⟨_,rfl,ho,⟨_,_,rfl,dR,hc1⟩,hb1⟩);have alg:=aa hrun;clear hb1 ho aZ hcp hc1 hc2 hZC hzs hi hz0 hz1 hz2 hrun;go_enter Tryz.func361,Tryz.ntmps361;go_wp2_with (refine Go.Lib.wpList_append_run _ rfl _ _ 34 3 rfl (.slice none 0 0) (.int .i64 n) rfl rfl _ _ alg.o ?_);go_ret;exact HF.o
def oD(L:List (List UInt8))(k:Nat): Nat:=((L.take k).flatten).length
theorem ye{L:List (List UInt8)}{k:Nat}(h:k<L.length): (L.take (k+1)).flatten=(L.take k).flatten++L[k]:=by rw[List.take_add_one,List.getElem?_eq_getElem h,P0,Option.toList_some,List.flatten_cons,List.flatten_nil,List.append_nil]
theorem aaB(L:List (List UInt8))(k:Nat): ((L.take k).flatten).length≤L.flatten.length:=by
 conv=>rhs;rw[←List.take_append_drop k L]
 rw[P0,dh];omega
theorem yx(L:List (List UInt8))(sb sc:Nat)(w:World)(ad:Nat→Addr)(cc:Nat→Nat)(hc: ∀ i (h:i<L.length),w.cell? ⟨sb,i,none⟩=some (.slice (some (ad i)) (L[i]).length (cc i)))
  (hB: ∀ i (h:i<L.length),Bs w (some (ad i)) L[i]) (ky:sb<w.heap.size) (h0:0<L.flatten.length) (hl:L.flatten.length≤67108864) (hlc:L.length≤1000) :
  Calls af 331 #[.slice (some ⟨sb,0,none⟩) L.length sc] w fun e w'=>∃ g c,e= .returned (.slice (some ⟨g,0,none⟩) L.flatten.length c)∧w.heap.size≤g∧L.flatten.length≤c∧jN w' 5 g L.flatten∧Below w.heap.size w w':=by
 have HC:=aa hc;have HB:=aa hB;have amk:(L.length:Int)≤1000:=aj;obtain⟨N,hN⟩:=ae L.flatten.length;rw[hN] at h0 hl ⊢;have HN:=aa hN;have hN0:(0:Int)≤(N:Int):=aj;clear hc hB hN;go_enter Tryz.func331,Tryz.ntmps331;go_wp2_with fail;go_loopw [3,11] (fun s i wr=>∃ k:Nat,k≤L.length∧i= .int .i64 k∧s= .int .i64 (oD L k:Nat)∧Below w.heap.size w wr) (fun _ i _=>(L.length - intOf i).toNat)
 case atStart=>exact⟨0,cm _,rfl,rfl,au _ _⟩
 case round=>
  obtain⟨k,hk,rfl,rfl,hb⟩:=hrel;have HWB:=aa hb;clear hb;by_cases hlt:k<L.length
  ·have BP:(k:Int)<(L.length:Int):=by omega
   have D6:(0:Int)≤(k:Int):=aj;have x0:wr.cell? ⟨sb,k,none⟩=some (.slice (some (ad k)) (L[k]).length (cc k)):=(HWB.o.cell (p:=⟨sb,k,none⟩) ky).trans (HC.o k hlt);obtain⟨a,ha⟩:=ae (oD L k);obtain⟨m,hm⟩:=ae ((L[k]).length);have hst:oD L (k+1)=a+m:=by rw[oD,ye hlt,dh,hm,←ha];rfl
   have hle:a+m≤67108864:=TR;have amj:(a:Int)+(m:Int)≤67108864:=aj;rw[ha];rw[hm] at x0;have hng: ¬((a:Int)+(m:Int))<0:=aj;have HST:=aa hst;clear ha hm hst hle;go_wp2_with fail;go_roundw
   case rel=>exact⟨k+1,hlt,by go_num,by rw[HST.o];push_cast;rfl,HWB.o⟩
   case measure=>simp[intOf];omega
  have Mt:k=L.length:=aj;subst Mt;rw[show oD L L.length=N from by rw[oD,Ha];exact HN.o];have BP: ¬((L.length:Nat):Int)<((L.length:Nat):Int):=aj;have HG:=aa (abm N wr h0 aj);go_wp2_with fail;refine HG.o.mono ?_;rintro e w2 ⟨v2,rfl,jo,⟨A2,c2,rfl,ia,hc2⟩,hb2⟩;have HO2:=aa jo;have afN:=aa hb2;have zB:=aa hc2;clear jo hb2 hc2 ia;have ya:Below w.heap.size w w2:=av HWB.o afN.o;obtain⟨base,hbase⟩:=ae wr.heap.size;rw[hbase] at HO2;have hbw:w.heap.size≤base:=by rw[←hbase];exact HWB.o.size
  have ahS:base≤w2.heap.size:=by rw[←hbase];exact afN.o.size
  have af0:=aa ya;have HBW:=aa hbw;have KW:=aa ahS;clear ya hbw ahS hbase HWB afN zB;obtain⟨n0,V7⟩:=ae L.length;go_wp2_with fail;go_loopw [6,27] (fun v i wr=>∃ k:Nat,k≤L.length∧i= .int .i64 k∧wr.ownsRow base 5 1 v (oD L k) (aP (L.take k).flatten)∧Below w.heap.size w wr∧base≤wr.heap.size) (fun _ i _=>(L.length - intOf i).toNat)
  case atStart=>exact⟨0,cm _,rfl,HO2.o,af0.o,KW.o⟩
  case round=>
   obtain⟨k,hk,rfl,ho,hb,hs⟩:=hrel;by_cases hlt:k<L.length
   ·have BP:(k:Int)<(n0:Int):=by omega
    have D6:(0:Int)≤(k:Int):=aj;have x0:=(hb.cell (p:=⟨sb,k,none⟩) ky).trans (HC.o k hlt);obtain⟨i0,hi,hz0,hz1,hz2⟩:=info_parts eY;have hst:oD L (k+1)=oD L k+(L[k]).length:=by rw[oD,ye hlt,dh];rfl
    have hle:oD L k+(L[k]).length≤67108864:=TR;have hBk:Bs wr (some (ad k)) L[k]:=(HB.o k hlt).ai hb;obtain⟨m,hm⟩:=ae ((L[k]).length);obtain⟨a,ha⟩:=ae (oD L k);obtain⟨cs,hcs⟩:=ae (L[k]);obtain⟨fl,lM⟩:=ae ((L.take k).flatten);have hf1:(L.take (k+1)).flatten=fl++cs:=by rw[ye hlt,lM,hcs]
    rw[hm,ha] at hst hle;rw[hm] at x0;rw[hcs] at hBk hm;rw[ha,lM] at ho;have HO:=aa ho;have HWB:=aa hb;have HS:=aa hs;have fC:=aa hBk;have HM:=aa hm;have HLE:=aa hle;have HST:=aa hst;have HF1:=aa hf1;have HI0:=aa hi;have HZ0:=aa hz0;have HZ1:=aa hz1;have Sk:=aa hz2;clear ho hb hs hBk hm ha hcs lM hle hst hf1 hi hz0 hz1 hz2;go_wp2_with (refine wpList_append_own _ rfl _ _ 34 rfl base 5 i0 (.int .u8 0) 1 1 Tryz.underlying34 HI0.o HZ0.o HZ1.o Sk.o rfl aN u6 a (aP fl) rfl HO.o (ad k) m (cc k) (aP cs) rfl (by rw[bu,HM.o,Nat.mul_one]) fC.o.read (bQ _) (by have:=HLE.o;unfold maxLen;omega) (by have:=HLE.o;omega) HS.o ?_;intro v5 w5 kz lZ V3;have uu:=aa kz;have oP:=aa lZ;clear kz lZ V3);go_roundw
    case rel=>exact⟨k+1,hlt,by go_num,by rw[HST.o,HF1.o,ed];exact uu.o,HWB.o.grown oP.o HWB.o.size (fun g hg=>aT HBW.o (pO HO.o g hg)),aT HS.o oP.o.size⟩
    case measure=>simp[intOf];omega
   have Mt:k=L.length:=aj;subst Mt;have BP: ¬((L.length:Nat):Int)<(n0:Int):=aj;rw[show oD L L.length=N from by rw[oD,Ha];exact HN.o,Ha] at ho;obtain⟨A,c,rfl⟩:=cy ho;obtain⟨g,cp,hv⟩:=xV ho (by intro e;injection e with e1 e2 _;omega);injection hv with ko _ hv3
   subst ko hv3;obtain⟨h1,h2,h3,_⟩:=mV ho HN.o;have HF:=aa (show ∃ g' c',jk (.slice (some ⟨g,0,none⟩) N c)= .returned (.slice (some ⟨g',0,none⟩) N c')∧w.heap.size≤g'∧N≤c'∧jN wr 5 g' L.flatten∧Below w.heap.size w wr from⟨g,c,rfl,aT HBW.o h3,h2,h1,hb⟩);clear ho h1 h2 h3 hb hs;go_wp2_with fail;go_ret;exact HF.o
end Oc
end
section
namespace En
open Oc (yx)
theorem bK.lh(d:bK)(at_:Int)(b:By): (d.write at_ b).2.dk.size=d.dk.size∧(d.write at_ b).2.dk.row.length≤d.dk.row.length+1∧(d.write at_ b).2.dk.df.length=d.dk.df.length:=by
 unfold bK.write;split
 ·simp only[bK.ug];unfold Dk.write;split
  ·exact⟨rfl,Al _,rfl⟩
  split
  ·exact⟨rfl,dR,rfl⟩
  exact⟨rfl,Al _,rfl⟩
 rw[bK.ug];exact⟨rfl,Al _,rfl⟩
variable{p:Nat}{S:Nat→Prop}
theorem dF.ok{d:bK}{w:World}(h:dF p d S w): d.dk.Ok:=by obtain⟨kp,SK,h1⟩:=h;obtain⟨q,h2⟩:=h1.Dt;exact h2.ok
structure WrI(S:Nat→Prop)(w1:World)(bb bx r p size:Nat)(g:Rg)(R:Int × bK)(ps:List Piece)(W:World): Prop where
 rg:fT W r p g size
 box:W.cell? ⟨bx,0,none⟩=some (.pointer (some ⟨r,0,none⟩))
 body: ∃ d rem A c,dF p d (Gr S w1 W) W∧d.dk.size=size∧aG W bb 34 #[.slice A rem.length c]∧Bs W A rem∧(∀ gs off,A=some ⟨gs,off,none⟩→gs<w1.heap.size∧¬S gs∧gs≠bb)∧rem.length≤c∧R=KZ g d ps rem∧rem.length=Qe ps∧d.dk.row.length+rem.length≤1000000
 pcs: ∀ x∈ps,x.f<x.t∧x.t≤size
 cO:aI (fun k=>S k∨k=bb) w1 W
def WrE(S:Nat→Prop)(w1:World)(bb p:Nat)(R:Int × bK)(er:Int)(W:World): Prop:=∃ d,R=(er,d)∧dF p d (Gr S w1 W) W∧aI (fun k=>S k∨k=bb) w1 W
structure WrO(S:Nat→Prop)(w1:World)(bb bx r size:Nat): Prop where
 mh:bx<w1.heap.size∧¬S bx∧bx≠bb
 vw:bb<w1.heap.size∧¬S bb
 hr:r<w1.heap.size∧¬S r∧r≠bb
 hS: ∀ k,S k→k<w1.heap.size
 hz:1≤size∧size≤4096
theorem SG{w1 W V:World}{bb bx r size:Nat} {g:Rg}{R:Int × bK}{x:Piece}{ps:List Piece}(hO:WrO S w1 bb bx r size)(h:WrI S w1 bb bx r p size g R (x::ps) W)
  {A2:Option Addr} {c2:Nat} {rem:By} {d3:bK} {er:Int} (hR:R=if er=0 then KZ g d3 ps rem else(er,d3)) (hD:dF p d3 (Gr S w1 V) V) (hT:aI (fun k=>S k∨k=bb) w1 V)
  (hWV: ∀ k,k<w1.heap.size→¬S k→k≠bb→V.heap[k]? =W.heap[k]?) (hv:aG V bb 34 #[.slice A2 rem.length c2]) (hB:Bs V A2 rem)
  (hA: ∀ gs off,A2=some ⟨gs,off,none⟩→gs<w1.heap.size∧¬S gs∧gs≠bb) (hc:rem.length≤c2) (Dh:rem.length=Qe ps) (hrow:d3.dk.row.length+rem.length≤1000000) (hsz:d3.dk.size=size) :
  (jk (.int .i64 er)= .returned (.int .i64 0)∧WrI S w1 bb bx r p size g R ps V)∨∃ WT:Int,WT≠0∧jk (.int .i64 er)= .returned (.int .i64 WT)∧WrE S w1 bb p R WT V:=by
 by_cases h0:er=0
 ·subst h0;rw[if_pos rfl] at hR;exact .inl ⟨rfl,⟨(hWV r hO.hr.1 hO.hr.2.1 hO.hr.2.2).trans h.rg.own,h.rg.size,h.rg.count⟩,(eO (a:=⟨bx,0,none⟩) (hWV bx hO.mh.1 hO.mh.2.1 hO.mh.2.2)).trans h.box,⟨d3,rem,A2,c2,hD,hsz,hv,hB,hA,hc,hR,Dh,hrow⟩,fun y hy=>h.pcs y (gv _ hy),hT⟩
 ·rw[if_neg h0] at hR;exact .inr ⟨er,h0,rfl,d3,hR,hD,hT⟩
theorem adX{w1 W:World}{bb bx r size:Nat} {g:Rg}{R:Int × bK}{x:Piece}{ps:List Piece}(hO:WrO S w1 bb bx r size)(h:WrI S w1 bb bx r p size g R (x::ps) W):
  Calls af 329 (#[.int .i64 ((g.from_+x.s:Nat):Int),.int .i64 x.f,.int .i64 x.t]++ #[.pointer (some ⟨bb,0,none⟩),.pointer (some ⟨bx,0,none⟩)]) W fun e W'=>(e= .returned (.int .i64 0)∧WrI S w1 bb bx r p size g R ps W')∨∃ er:Int,er≠0∧e= .returned (.int .i64 er)∧WrE S w1 bb p R er W':=by
 obtain⟨d,rem,A,c,hD,hsz,hv,hB,hA,Y2,hR,Dh,hrow⟩:=h.body;obtain⟨Y8,hts⟩:=h.pcs x (List.mem_cons_self ..);obtain⟨dl,Dp⟩:=ae (x.t - x.f);rw[Qe,Dp] at Dh;have hne:rem≠ []:=by intro e;rw[e] at Dh;simp at Dh;omega
 obtain⟨gs,off,rfl,sw,hcell⟩:=hB hne;have hAS:=hA gs off rfl;have hz:=h.cO.size;have x3:W.cell? ⟨bb,0,none⟩=some (.slice (some ⟨gs,off,none⟩) rem.length c):=hv.cell 0;have m3:W.frozen? ⟨bb,0,none⟩=false:=hv.mark 0;have x0:W.cell? ⟨r,0,none⟩=some (.pointer (some ⟨p,0,none⟩)):=h.rg.own.cell 0;have x4:W.cell? ⟨r,3,none⟩=some (.int .i64 size):=h.rg.own.cell 3;have x5:=h.box;obtain⟨a,ha⟩:=ae (g.from_+x.s:Nat);rw[ha];have hstep:R=if(EK g d x rem).1=0 then KZ g (EK g d x rem).2 ps (rem.drop dl)else EK g d x rem:=by rw[hR,KZ,Dp]
 have hdi:(x.t:Int) - (x.f:Int)=(dl:Int):=aj;have hd0:(0:Int)≤(dl:Int):=aj;have hd4:(dl:Int)≤4096:=by have:=hO.hz;omega
 have hdn:(dl:Int)≤(rem.length:Int):=aj;have hdc:(dl:Int)≤(c:Int):=aj;have hnc:(rem.length:Int)≤(c:Int):=aj;have hkp: ∀ u,aI (· =bb) W (W.setCell ⟨bb,0,none⟩ u):=fun u=>aI.at W bb 0 u
 have VX: ∀ u,(W.setCell ⟨bb,0,none⟩ u).cell? ⟨r,0,none⟩=some (.pointer (some ⟨p,0,none⟩)):=fun u=>((hkp u).cells h.rg.own.lt hO.hr.2.2 0).trans x0
 have hq4: ∀ u,(W.setCell ⟨bb,0,none⟩ u).cell? ⟨r,3,none⟩=some (.int .i64 size):=fun u=>((hkp u).cells h.rg.own.lt hO.hr.2.2 3).trans x4
 have hq5: ∀ u,(W.setCell ⟨bb,0,none⟩ u).cell? ⟨bx,0,none⟩=some (.pointer (some ⟨r,0,none⟩)):=fun u=>((hkp u).cells (aW hO.mh.1 hz) hO.mh.2.2 0).trans x5
 obtain⟨A2,ia⟩:=ae ((if c=dl then some (⟨gs,off,none⟩:Addr) else some ⟨gs,off+dl,none⟩));have aia: ∀ g' o',A2=some ⟨g',o',none⟩→g'=gs:=by
  intro g' o' e;rw[←ia] at e;split at e <;>(injection e with e;injection e with e;exact e.symm)
 have pc: ∀ V,V.heap[gs]? =W.heap[gs]?→W.heap.size≤V.heap.size→Bs V A2 (rem.drop dl):=by
  intro V hV hVz;have hVB:Bs V (some ⟨gs,off,none⟩) rem:=fun hn=>by
   obtain⟨g',o',e,hl,hc⟩:=hB hn;injection e with e;injection e with e1 e2;subst e1 e2
   exact⟨_,_,rfl,aW hl hVz,fun i u hu=>(eO (a:=⟨gs,off+i,none⟩) hV).trans (hc i u hu)⟩
  rw[←ia];split
  ·rename_i e;rw[PZ aj];exact Bs.nil _ _
  exact hVB.drop dl
 have H:=aa h;have HO:=aa hO;have HD:=aa hD;have mi:=aa hsz;have HV:=aa hv;have HB:=aa hB;have CZ:=aa hAS;have HT:=aa Dh;have nY:=aa hrow;have HST:=aa hstep;have Ng:=aa Y8;have HTS:=aa hts;have PB:=aa Dp;have iZ:=aa aia;have cu:=aa pc;have HA:=aa ha;have Zs:=aa sw;have HZ:=aa hz;have HKP:=aa hkp;have wR:c=dl∨¬c=dl:=Classical.em _;clear h hO hD hsz hv hB hA Y2 hR Dh hrow hstep Y8 hts Dp hcell hne aia pc ha sw hAS hz hkp;obtain⟨W1,hW1⟩:=ae (W.setCell ⟨bb,0,none⟩ (.slice A2 (rem.length - dl) (c - dl)));have sB:aI (· =bb) W W1:=by rw[←hW1];exact HKP.o _
 have V6: ∀ k,k<w1.heap.size→¬S k→¬Gr S w1 W k:=fun k hk hs hg=>by rcases hg with hg|hg;exact hs hg;omega
 have hSl: ∀ k,Gr S w1 W k→k<W.heap.size:=fun k hk=>by rcases hk with hk|hk;exact aW (HO.o.hS k hk) HZ.o;exact hk.2
 have hD1:dF p d (Gr S w1 W) W1:=(aD p d).cO HD.o sB fun k hk e=>by subst e;exact V6 _ HO.o.vw.1 HO.o.vw.2 hk
 have WE:Bs W1 A2 (rem.drop dl):=cu.o W1 (sB.block gs Zs.o CZ.o.2.2) sB.size;have ko:aG W1 bb 34 #[.slice A2 (rem.length - dl) (c - dl)]:=by rw[←hW1];have:=HV.o.put 0 (.slice A2 (rem.length - dl) (c - dl));simpa using this
 have ah3:aI (fun k=>S k∨k=bb) w1 W1:=H.o.cO.trans (sB.mono fun k _ e=>.inr e);have hdr:(rem.drop dl).length=rem.length - dl:=List.length_drop;have sN:=aa hW1;have jq:=aa sB;have oO:=aa V6;have pY:=aa hSl;have Ni:=aa hD1;have bz:=aa WE;have HV1:=aa ko;have aiK:=aa ah3;have Zt:=aa hdr;clear sB V6 hSl hD1 WE ko ah3 hW1 hdr;by_cases hlt:dl<size
 ·have BP:(dl:Int)<(size:Int):=by omega
  obtain⟨er,o7⟩:=ae ((d.read (a:Int)).1);obtain⟨b,hb⟩:=ae ((d.read (a:Int)).2.1);obtain⟨d',O1⟩:=ae ((d.read (a:Int)).2.2);have fE:d.read (a:Int)=(er,b,d'):=by rw[←o7,←hb,←O1]
  have Wn:d'.dk=d.dk:=by rw[←O1];exact bK.lK _ _
  have hbl:er=0→b.length=size:=fun e0=>by rw[←hb,←mi.o];exact bK.Oi (o7.trans e0) HD.o.ok
  have VQ:EK g d x rem=if er=0 then d'.write (a:Int) (b.take x.f++rem.take dl++b.drop x.t)else(er,d'):=by
   unfold EK;rw[PB.o,mi.o,if_pos hlt,HA.o,fE]
  have nh:=aa (Kf Ni.o (a:Int));rw[fE] at nh;have EG:=aa hbl;have RN:=aa Wn;have Co:=aa VQ;clear o7 hb O1 fE Wn hbl VQ;go_enter Tryz.func329,Tryz.ntmps329;go_wp2_with fail;rw[sN.o];have y0:W1.cell? ⟨r,0,none⟩=some (.pointer (some ⟨p,0,none⟩)):=by rw[←sN.o];exact VX _
  have y5:W1.cell? ⟨bx,0,none⟩=some (.pointer (some ⟨r,0,none⟩)):=by rw[←sN.o];exact hq5 _
  refine nh.o.mono ?_;rintro e W2 ⟨⟨Ar,cr,rfl,hblk,hcr⟩,MG,uh⟩;have z0:W2.cell? ⟨r,0,none⟩=some (.pointer (some ⟨p,0,none⟩)):=(eO (a:=⟨r,0,none⟩) (uh.block r (bD _ _ y0) (oO.o r HO.o.hr.1 HO.o.hr.2.1))).trans y0;have z5:W2.cell? ⟨bx,0,none⟩=some (.pointer (some ⟨r,0,none⟩)):=(eO (a:=⟨bx,0,none⟩) (uh.block bx (bD _ _ y5) (oO.o bx HO.o.mh.1 HO.o.mh.2.1))).trans y5;have CB:=aa hblk;have Zu:=aa (show b.length≤cr from hcr);have jG:=aa (show dF p d' (Gr S w1 W) W2 from MG);have gh:=aa uh;clear hblk hcr MG uh y0 y5 VX hq4 hq5 x0 x3 x4 x5 m3;have ah2:aI (fun k=>S k∨k=bb) w1 W2:=aiK.o.new (gh.o.mono fun k _ hk=>by
   rcases hk with hk|hk
   ·exact .inl (.inl hk)
   exact .inr hk.1)
  have hz2:W.heap.size≤W2.heap.size:=aT jq.o.size gh.o.size;have hG2: ∀ k,Gr S w1 W k→Gr S w1 W2 k:=fun k hk=>by rcases hk with hk|hk;exact .inl hk;exact .inr ⟨hk.1,aW hk.2 hz2⟩
  have F3: ∀ k,Gr S w1 W2 k→k<W2.heap.size:=fun k hk=>by rcases hk with hk|hk;exact aW (HO.o.hS k hk) (aT HZ.o hz2);exact hk.2
  have ahW: ∀ k,k<w1.heap.size→¬S k→k≠bb→W2.heap[k]? =W.heap[k]?:=fun k hk hs hne=>(gh.o.block k (aW (aW hk HZ.o) jq.o.size) (oO.o k hk hs)).trans (jq.o.block k (aW hk HZ.o) hne)
  have hV2:aG W2 bb 34 #[.slice A2 (rem.length - dl) (c - dl)]:=gh.o.arr HV1.o (oO.o bb HO.o.vw.1 HO.o.vw.2);have aiJ:=aa ah2;have Sk:=aa hz2;have yq:=aa hG2;have als:=aa F3;have afM:=aa ahW;have HV2:=aa hV2;clear ah2 hz2 hG2 F3 ahW hV2;by_cases h0:er=0
  ·subst h0;have hwr:EK g d x rem=d'.write (a:Int) (b.take x.f++rem.take dl++b.drop x.t):=by rw[Co.o,if_pos rfl]
   have hbl:=EG.o rfl;have aiF:=aa hwr;have af2:=aa hbl;have hne:b≠ []:=by intro e;rw[e] at hbl;have:=HO.o.hz;simp at hbl;omega
   obtain⟨gb,rfl,hgb,hBb⟩:=CB.o hne;have Y8:(x.f:Int)≤(b.length:Int):=by have:=Ng.o;have:=HTS.o;omega
   have OW:(x.t:Int)≤(b.length:Int):=by have:=HTS.o;omega
   have hf0:(0:Int)≤(x.f:Int):=aj;have ht0:(0:Int)≤(x.t:Int):=aj;have hfc:(x.f:Int)≤(cr:Int):=by have:=Zu.o;omega
   have htc:(x.t:Int)≤(cr:Int):=by have:=Zu.o;omega
   have Q6:(b.length:Int)≤(cr:Int):=by have:=Zu.o;omega
   obtain⟨A3,dD⟩:=ae ((if cr=x.t then(⟨gb,0,none⟩:Addr) else⟨gb,x.t,none⟩));have amQ:(if cr=x.t then some (⟨gb,0,none⟩:Addr)else some ⟨gb,x.t,none⟩)=some A3:=by rw[←dD];split <;>rfl
   have Sv:=aa (show W1.heap.size≤gb from hgb);have ie:=aa (show jN W2 5 gb b from hBb);have pB:=aa dD;clear hgb hBb dD hne hwr hbl Co EG CB;go_wp2_with fail;refine wp_region_held_drew (S:=(fun _=>True)) br oU (fun hHeld=>?_);refine Qd 0 1 2 3 4 5 ?_;refine ty 6 ?_;refine cG 7 fun K hK=>?_
   go_simp;obtain⟨W3,hW3⟩:=ae ((W2.alloc (.cells #[.slice (some ⟨gb,0,none⟩) x.f cr,.slice (some ⟨gs,off,none⟩) dl c,.slice (some A3) (b.length - x.t) (cr - x.t)] 34)).drew);obtain⟨sb,ky⟩:=ae W2.heap.size;have hb3:Below W2.heap.size W2 W3:=by rw[←hW3];exact az (ax (au _ _) _)
   have Wv:aG W3 sb 34 #[.slice (some ⟨gb,0,none⟩) x.f cr,.slice (some ⟨gs,off,none⟩) dl c,.slice (some A3) (b.length - x.t) (cr - x.t)]:=by rw[←hW3,←ky];exact aG.fresh W2 _ _
   rw[hW3,ky];have dV:=aa hb3;have abh:=aa Wv;have Pv:=aa ky;clear hW3 ky hb3 Wv;refine bW hK oU fun o9=>?_
   clear hK K;refine cG 8 fun K hK=>?_
   go_simp;have ahD:W3.heap[gs]? =W.heap[gs]?:=(dV.o.block gs (aW (aW Zs.o jq.o.size) gh.o.size)).trans (afM.o gs CZ.o.1 CZ.o.2.1 CZ.o.2.2);have ah6:Bs W3 (some ⟨gs,off,none⟩) rem:=fun hn=>by
    obtain⟨g',o',e,hl,hc⟩:=HB.o hn;injection e with e;injection e with e1 e2;subst e1 e2
    exact⟨_,_,rfl,aW hl (aT Sk.o dV.o.size),fun i u hu=>(eO (a:=⟨gs,off+i,none⟩) ahD).trans (hc i u hu)⟩
   have afd:Bs W3 (some ⟨gb,0,none⟩) b:=fun hn=>(ie.o.same (dV.o.block gb ie.o.lt)).bs hn
   have hl0:(b.take x.f).length=x.f:=EU;have oZ:(rem.take dl).length=dl:=EU;have hl2:(b.drop x.t).length=b.length - x.t:=List.length_drop;have ah5:Bs W3 (some A3) (b.drop x.t):=by
    rw[←pB.o];split
    ·rename_i e;rw[PZ aj];exact Bs.nil _ _
    have:=afd.drop x.t
    rwa [Nat.zero_add] at this
   have lM: [b.take x.f,rem.take dl,b.drop x.t].flatten=b.take x.f++rem.take dl++b.drop x.t:=dR;have hfn: [b.take x.f,rem.take dl,b.drop x.t].flatten.length=size:=by
    rw[lM,dh,dh,hl0,oZ,hl2];have:=af2.o;have:=PB.o;have:=Ng.o;omega
   have hCC:=yx [b.take x.f,rem.take dl,b.drop x.t] sb 3 W3 (fun i=>if i=0 then⟨gb,0,none⟩else if i=1 then⟨gs,off,none⟩else A3) (fun i=>if i=0 then cr else if i=1 then c else cr - x.t)
    (fun i hi=>by
     match i,hi with
     | 0,_=>exact(abh.o.cell 0).trans (by show _=some (ji (some ⟨gb,0,none⟩) (b.take x.f).length cr);rw[hl0];rfl)
     | 1,_=>exact(abh.o.cell 1).trans (by show _=some (ji (some ⟨gs,off,none⟩) (rem.take dl).length c);rw[oZ];rfl)
     | 2,_=>exact(abh.o.cell 2).trans (by show _=some (ji (some A3) (b.drop x.t).length (cr - x.t));rw[hl2];rfl))
    (fun i hi=>by
     match i,hi with
     | 0,_=>exact afd.take x.f
     | 1,_=>exact ah6.take dl
     | 2,_=>exact ah5)
    abh.o.lt (by rw[hfn];have:=HO.o.hz;omega) (by rw[hfn];have:=HO.o.hz;omega) (by show 3≤1000;decide)
   rw[hfn,lM] at hCC;have HFN:=aa (show(b.take x.f++rem.take dl++b.drop x.t).length=size by rw[←lM];exact hfn);refine hCC.mono ?_;clear hCC hfn lM ah5 hl0 oZ hl2 afd ah6 ahD;rintro e W4 ⟨g4,c4,rfl,hg4,KO,wS,hb4⟩;have ve:=aa hg4;have RQ:=aa KO;have gH:=aa wS;have alC:=aa hb4;clear hg4 KO wS hb4;go_wp2_with fail;refine bW hK oU fun qA=>?_
   clear hK K;refine ty 9 ?_;refine bO ?_;obtain⟨full,mP⟩:=ae (b.take x.f++rem.take dl++b.drop x.t);rw[mP] at HFN gH aiF;have Wu:Below W2.heap.size W2 W4:=av dV.o alC.o;have u0:W4.cell? ⟨r,0,none⟩=some (.pointer (some ⟨p,0,none⟩)):=(Wu.cell (p:=⟨r,0,none⟩) (bD _ _ z0)).trans z0;have u5:W4.cell? ⟨bx,0,none⟩=some (.pointer (some ⟨r,0,none⟩)):=(Wu.cell (p:=⟨bx,0,none⟩) (bD _ _ z5)).trans z5;have hPW:=Ey ((aD p d').ak jG.o Wu) (a:Int) full (some ⟨g4,0,none⟩) c4 (fun hn=>gH.o.bs hn) (cI _ _) (fun gq oq e hq=>by
    injection e with e;injection e with e _
    subst e;have h1:=ve.o;have h2:=dV.o.size;have h3:=Sk.o;have h4:=pY.o _ hq;omega) (by have:=nY.o;rw[RN.o];have:=HT.o;have:=PB.o;have:=Ng.o;omega)
   rw[HFN.o] at hPW;have Zm:=aa hPW;have Yw:=aa Wu;clear hPW mP Wu z0 z5;go_wp2_with fail;refine Zm.o.mono ?_;rintro e W5 ⟨rfl,hD5,oG⟩;have OU:W.heap.size≤W5.heap.size:=aT Sk.o (aT Yw.o.size oG.size);have F6: ∀ k,k<w1.heap.size→¬S k→W5.heap[k]? =W2.heap[k]?:=fun k hk hs=>(oG.block k (aW (aW hk HZ.o) (aT Sk.o Yw.o.size)) (oO.o k hk hs)).trans (Yw.o.block k (aW (aW hk HZ.o) Sk.o))
   have HF:=aa (SG HO.o H.o (V:=W5) (A2:=A2) (c2:=c - dl) (rem:=rem.drop dl) (d3:=(d'.write (a:Int) full).2) (er:=(d'.write (a:Int) full).1)
    (by rw[HST.o,aiF.o]) ((aD p _).mono hD5 (fun k hk=>by
     rcases hk with hk|hk
     ·rcases hk with hk|hk
      ·exact .inl hk
      exact .inr ⟨hk.1,aW hk.2 OU⟩
     ·exact .inr ⟨aT HZ.o (aT (aT Sk.o Yw.o.size) hk.1),hk.2⟩) (fun k hk=>by
     rcases hk with hk|hk
     ·exact aW (HO.o.hS k hk) (aT HZ.o OU)
     exact hk.2))
    ((aiJ.o.ak Yw.o).new (oG.mono fun k _ hk=>by
     rcases hk with hk|hk
     ·exact .inl (.inl hk)
     exact .inr hk.1))
    (fun k hk hs hne=>(F6 k hk hs).trans (afM.o k hk hs hne))
    (by rw[Zt.o];exact(F6 bb HO.o.vw.1 HO.o.vw.2).trans HV2.o)
    (cu.o W5 ((F6 gs CZ.o.1 CZ.o.2.1).trans (afM.o gs CZ.o.1 CZ.o.2.1 CZ.o.2.2)) OU)
    (fun g' o' e=>by rw[iZ.o g' o' e];exact CZ.o)
    (by rw[Zt.o];omega) (by rw[Zt.o];have:=HT.o;omega)
    (by have h1:=(bK.lh d' (a:Int) full).2.1;rw[RN.o] at h1;have h2:=nY.o;have h3:=HT.o;have h4:=PB.o;have h5:=Ng.o;rw[Zt.o];omega)
    (by rw[(bK.lh d' (a:Int) full).1,RN.o];exact mi.o))
   clear hD5 oG OU F6 Zm;go_wp2_with fail;go_ret;exact HF.o
  have HF:=aa (show(jk (.int .i64 er)= .returned (.int .i64 0)∧WrI S w1 bb bx r p size g R ps W2)∨∃ WT:Int,WT≠0∧jk (.int .i64 er)= .returned (.int .i64 WT)∧WrE S w1 bb p R WT W2 from .inr ⟨er,h0,rfl,d',by rw[HST.o,Co.o,if_neg h0,if_neg h0],(aD p d').mono jG.o yq.o als.o,aiJ.o⟩);have hq:(er==0)=false:=by simp[h0]
  clear HST Co EG h0;go_wp2_with fail;go_ret;exact HF.o
 ·have BP: ¬(dl:Int)<(size:Int):=by omega
  have VQ:EK g d x rem=d.write (a:Int) (rem.take dl):=by unfold EK;rw[PB.o,mi.o,if_neg hlt,HA.o]
  have oZ:(rem.take dl).length=dl:=EU;have ah7:Bs W1 (some ⟨gs,off,none⟩) rem:=fun hn=>by
   obtain⟨g',o',e,hl,hc⟩:=HB.o hn;injection e with e;injection e with e1 e2;subst e1 e2
   exact⟨_,_,rfl,aW hl jq.o.size,fun i u hu=>(eO (a:=⟨gs,off+i,none⟩) (jq.o.block gs hl CZ.o.2.2)).trans (hc i u hu)⟩
  have hPW:=Ey Ni.o (a:Int) (rem.take dl) (some ⟨gs,off,none⟩) c (ah7.take dl) (cI _ _) (fun gq oq e hq=>by
   injection e with e;injection e with e _
   subst e;exact oO.o _ CZ.o.1 CZ.o.2.1 hq) (by have:=nY.o;have:=HT.o;have:=PB.o;have:=Ng.o;omega)
  rw[oZ] at hPW;have Zm:=aa hPW;have Co:=aa VQ;clear hPW VQ oZ ah7;go_enter Tryz.func329,Tryz.ntmps329;go_wp2_with fail;rw[sN.o];refine Zm.o.mono ?_;rintro e W5 ⟨rfl,hD5,oG⟩;have OU:W.heap.size≤W5.heap.size:=aT jq.o.size oG.size;have F6: ∀ k,k<w1.heap.size→¬S k→W5.heap[k]? =W1.heap[k]?:=fun k hk hs=>oG.block k (aW (aW hk HZ.o) jq.o.size) (oO.o k hk hs)
  have HF:=aa (SG HO.o H.o (V:=W5) (A2:=A2) (c2:=c - dl) (rem:=rem.drop dl) (d3:=(d.write (a:Int) (rem.take dl)).2) (er:=(d.write (a:Int) (rem.take dl)).1)
   (by rw[HST.o,Co.o]) ((aD p _).mono hD5 (fun k hk=>by
    rcases hk with hk|hk
    ·rcases hk with hk|hk
     ·exact .inl hk
     exact .inr ⟨hk.1,aW hk.2 OU⟩
    ·exact .inr ⟨aT HZ.o (aT jq.o.size hk.1),hk.2⟩) (fun k hk=>by
    rcases hk with hk|hk
    ·exact aW (HO.o.hS k hk) (aT HZ.o OU)
    exact hk.2))
   (aiK.o.new (oG.mono fun k _ hk=>by
    rcases hk with hk|hk
    ·exact .inl (.inl hk)
    exact .inr hk.1))
   (fun k hk hs hne=>(F6 k hk hs).trans (jq.o.block k (aW hk HZ.o) hne))
   (by rw[Zt.o];exact(F6 bb HO.o.vw.1 HO.o.vw.2).trans HV1.o)
   (cu.o W5 ((F6 gs CZ.o.1 CZ.o.2.1).trans (jq.o.block gs Zs.o CZ.o.2.2)) OU)
   (fun g' o' e=>by rw[iZ.o g' o' e];exact CZ.o)
   (by rw[Zt.o];omega) (by rw[Zt.o];have:=HT.o;omega)
   (by have h1:=(bK.lh d (a:Int) (rem.take dl)).2.1;have h2:=nY.o;have h3:=HT.o;have h4:=PB.o;have h5:=Ng.o;rw[Zt.o];omega)
   (by rw[(bK.lh d (a:Int) (rem.take dl)).1];exact mi.o))
  clear hD5 oG OU F6 Zm;go_wp2_with fail;go_ret;exact HF.o
end En
end
section
namespace En
open Oc (yx)
def ade(S:Nat→Prop)(p:Nat)(R:Int × bK)(w:World)(e:Ending)(w':World): Prop:=e= .returned (.int .i64 R.1)∧dF p R.2 (Gr S w w') w'∧aI S w w'
theorem Ex{S:Nat→Prop}{w:World}{r p:Nat}{g:Rg}{d:bK}(h:fT w r p g d.dk.size)(hD:dF p d S w)(hr: ¬S r)(at_:Nat)(hat:at_≤268435456)(b:By)(A:Option Addr)(c:Nat)
  (hB:Bs w A b) (hA: ∀ gs off,A=some ⟨gs,off,none⟩→gs<w.heap.size∧¬S gs) (hc:b.length≤c) (hn:b.length≤268435456) (hrow:d.dk.row.length+b.length≤1000000) :
  Calls af 294 #[.pointer (some ⟨r,0,none⟩),.int .i64 at_,.slice A b.length c] w (ade S p (g.write d at_ b) w):=by
 have hS: ∀ k,S k→k<w.heap.size:=(aD p d).lt hD;obtain⟨n,hbn⟩:=ae b.length;obtain⟨bx,mh⟩:=ae w.heap.size;obtain⟨w0,hw0⟩:=ae (w.alloc (.cells #[.pointer (some ⟨r,0,none⟩)] 44));obtain⟨bb,vw⟩:=ae w0.heap.size;obtain⟨w1,aZ⟩:=ae (w0.alloc (.cells #[.slice A b.length c] 34));have hb0:=aL hw0;have zt:=aL aZ;have hb1:Below w.heap.size w w1:=av hb0 zt;have ha0:=aK hw0 mh;have ha1:aG w1 bx 44 #[.pointer (some ⟨r,0,none⟩)]:=ha0.ai zt;have ha2:=aK aZ vw;have ahR:bx+1=bb:=by rw[←vw,←hw0,←mh];simp only[World.alloc,Array.size_push]
 have akM:bx<bb:=by rw[←vw];exact ha0.lt
 have hD1:=(aD p d).ak hD hb1;have kX:=h.ai hb1;have hO:WrO S w1 bb bx r d.dk.size:=by
  have h1:=ha1.lt;have h2:=ha2.lt;have h3:=h.own.lt;have h4:=hb1.size;refine⟨⟨h1,fun hs=>?_,aj⟩,⟨h2,fun hs=>?_⟩,⟨aj,hr,aj⟩,fun k hk=>aW (hS k hk) h4,hD.ok.size⟩
  ·have:=hS _ hs;omega
  have:=hS _ hs;omega
 have x1:=ha1.cl 0;have x2:w1.cell? ⟨bb,0,none⟩=some (.slice A n c):=by rw[←hbn];exact ha2.cell 0
 have y1:w1.cell? ⟨r,0,none⟩=some (.pointer (some ⟨p,0,none⟩)):=kX.own.cell 0;have hI: ∀ W,Below w1.heap.size w1 W→WrI S w1 bb bx r p d.dk.size g (KZ g d (pieces d.dk.size n at_ n) b) (pieces d.dk.size n at_ n) W:=fun W hW=>by
  refine⟨kX.ai hW,(hW.cell (p:=⟨bx,0,none⟩) ha1.lt).trans x1,⟨d,b,A,c,(aD p d).AB ((aD p d).ak hD1 hW) hO.hS hW.size,rfl,ha2.ai hW,(hB.ai hb1).ai hW,fun gs off e=>?_,hc,rfl,?_,hrow⟩,pM _ hD.ok.size.1 _ _ _ (aQ _),aI.aU hW⟩
  ·have:=hA gs off e;exact⟨aW this.1 hb1.size,this.2,by have:=hb0.size;omega⟩
  rw[hbn,nI _ hD.ok.size.1 _ _ _ (aQ _)]
 have HO:=aa hO;have HI:=aa hI;have Ni:=aa hD1;have Py:=aa kX;have bz:=aa hb1;have ur:=aa hD.ok;have X6:=aa hw0;have sN:=aa aZ;have yr:=aa mh;have ie:=aa ahR;have HH:=aa h;have HD:=aa hD;rw[hbn] at hn sN ⊢;have V7:(0:Int)≤(n:Int):=aj;have hcc:(n:Int)≤(c:Int):=aj;have HBN:=aa hbn;clear hS hw0 aZ mh vw ahR hb0 zt hb1 ha0 ha1 ha2 akM hD1 kX hO hI hB hA hc hrow hr h hD hbn;cases nN:g.bad d.dk.size at_ n with
 | true=>
  have hres:g.write d at_ b=(2,d):=by unfold Rg.write;rw[HBN.o,if_pos nN]
  rw[hres];have Gw:=aa nN;clear nN hres;go_enter Tryz.func294,Tryz.ntmps294;go_wp2_with fail;rw[X6.o,sN.o,yr.o,ie.o];refine ag (nW r p w1 y1) ?_;go_wp2_with fail;refine wp_region_held_drew (S:=(fun w'=>w'.cell? ⟨bx,0,none⟩=some (.pointer (some ⟨r,0,none⟩))∧w'.cell? ⟨bb,0,none⟩=some (.slice A n c))) br (by exact⟨x1,x2⟩) (fun hHeld=>?_);refine Qd 0 1 2 3 4 5 ?_;refine cG 6 fun K hK=>?_
  go_simp;refine(wj (w:=w1.drew) (Py.o.ai (az (au _ _))) at_ n hat hn).mono ?_;rintro e w2 ⟨rfl,hb2⟩;rw[Gw.o];have q1:w2.cell? ⟨bx,0,none⟩=some (.pointer (some ⟨r,0,none⟩)):=(hb2.cell (p:=⟨bx,0,none⟩) (bD _ _ x1)).trans x1;have q2:w2.cell? ⟨bb,0,none⟩=some (.slice A n c):=(hb2.cell (p:=⟨bb,0,none⟩) (bD _ _ x2)).trans x2;have cu:=aa (show Below w1.heap.size w1 w2 from av (az (au _ _)) hb2);clear hb2;go_wp2_with fail;refine bW hK (by exact⟨q1,q2⟩) fun qB=>?_
  clear hK K;refine tX 7 8 ?_;refine bO ?_;have hb:=av bz.o cu.o;have HF:=aa (show ade S p (2,d) w (.returned (.int .i64 2)) w2 from⟨rfl,(aD p d).AB ((aD p d).ak HD.o hb) ((aD p d).lt HD.o) hb.size,aI.aU hb⟩);clear hb;go_wp2_with fail;go_ret;exact HF.o
 | false=>
  have hres:g.write d at_ b=KZ g d (pieces d.dk.size n at_ n) b:=by unfold Rg.write;rw[HBN.o,if_neg (by rw[nN];simp),Int.toNat_natCast]
  rw[hres];obtain⟨R,hR⟩:=ae (KZ g d (pieces d.dk.size n at_ n) b);rw[hR] at HI ⊢;have Gw:=aa nN;clear nN hres hR;go_enter Tryz.func294,Tryz.ntmps294;go_wp2_with fail;rw[X6.o,sN.o,yr.o,ie.o];refine ag (nW r p w1 y1) ?_;go_wp2_with fail;refine wp_region_held_drew (S:=(fun w'=>w'.cell? ⟨bx,0,none⟩=some (.pointer (some ⟨r,0,none⟩))∧w'.cell? ⟨bb,0,none⟩=some (.slice A n c))) br (by exact⟨x1,x2⟩) (fun hHeld=>?_);refine Qd 0 1 2 3 4 5 ?_;refine cG 6 fun K hK=>?_
  go_simp;refine(wj (w:=w1.drew) (Py.o.ai (az (au _ _))) at_ n hat hn).mono ?_;rintro e w2 ⟨rfl,hb2⟩;rw[Gw.o];have q1:w2.cell? ⟨bx,0,none⟩=some (.pointer (some ⟨r,0,none⟩)):=(hb2.cell (p:=⟨bx,0,none⟩) (bD _ _ x1)).trans x1;have q2:w2.cell? ⟨bb,0,none⟩=some (.slice A n c):=(hb2.cell (p:=⟨bb,0,none⟩) (bD _ _ x2)).trans x2;have cu:=aa (show Below w1.heap.size w1 w2 from av (az (au _ _)) hb2);clear hb2;go_wp2_with fail;refine bW hK (by exact⟨q1,q2⟩) fun qB=>?_
  clear hK K;refine tX 7 8 ?_;refine bO ?_;go_wp2_with fail;refine dI br ?_;refine bj.any (S:=(fun w'=>w'.cell? ⟨bx,0,none⟩=some (.pointer (some ⟨r,0,none⟩))∧w'.cell? ⟨bb,0,none⟩=some (.slice A n c))) (t:=7) _ _ _ _ ?_;have hHeld:=(show(fun w'=>w'.cell? ⟨bx,0,none⟩=some (.pointer (some ⟨r,0,none⟩))∧w'.cell? ⟨bb,0,none⟩=some (.slice A n c)) w2.drew from⟨q1,q2⟩);refine Bl [1,2] (i:=0) (oi:=?al0) (d:=(some 20)) (v:=?alW) ?ahB br br br br br br (fun _ _ _ h=>h) ?ahM ?agU ?agR hHeld ?_
  case ahB=>(simp only[nO];exact rfl)
  case ahM=>rfl
  case agU=>rfl
  case agR=>(intro w hSw;(try dsimp only at hSw);obtain⟨hSa,Za⟩:=hSw;go_simp;try with_reducible rfl)
  try simp only[aY]
  refine tp 1 ?_;refine tt 2 ?_;refine tt 3 ?_;refine Bl [5] (i:=4) (oi:=?alZ) (d:=(some 24)) (v:=?alV) ?ahA br br br br br br (fun _ _ _ h=>h) ?ahL ?agT ?agQ hHeld ?_
  case ahA=>(simp only[nO];exact rfl)
  case ahL=>rfl
  case agT=>rfl
  case agQ=>(intro w hSw;(try dsimp only at hSw);obtain⟨hSa,Za⟩:=hSw;go_simp;try with_reducible rfl)
  try simp only[aY]
  refine tt 5 ?_;refine tt 6 ?_;refine bj.last br ?_;refine kB 7 br br ?_;simp only[tI,List.drop_zero];go_wp2_with fail;refine(MK w2.drew #[.pointer (some ⟨bb,0,none⟩),.pointer (some ⟨bx,0,none⟩)] at_ n (WrI S w1 bb bx r p d.dk.size g R) (WrE S w1 bb p R) ur.o.size HH.o.Oy ?_ (fun ps W h=>h.rg) (fun x ps W h=>adX HO.o h) (HI.o w2.drew (az cu.o))).mono ?_
  ·have h1:=Gw.o;unfold Rg.bad at h1;have h2:=HH.o.eQ;simp only[Bool.or_eq_false_iff,decide_eq_false_iff_not] at h1;omega
  rintro e w3 hor;have lG: ∃ er:Int,e= .returned (.int .i64 er)∧∃ d3,R=(er,d3)∧dF p d3 (Gr S w1 w3) w3∧aI (fun k=>S k∨k=bb) w1 w3:=by
   rcases hor with⟨he,h3⟩|⟨er,_,he,d3,h3,h4,h5⟩
   ·obtain⟨d3,rem,A3,c3,O4,_,_,_,_,_,dN,_⟩:=h3.body;exact⟨0,he,d3,dN,O4,h3.cO⟩
   exact⟨er,he,d3,h3,h4,h5⟩
  obtain⟨er,rfl,d3,dN,O4,kf⟩:=lG;have gM:=aa dN;have EF:=aa O4;have jF:=aa kf;clear hor dN O4 kf;go_wp2_with fail;go_ret;rw[gM.o];have hzz:=bz.o.size;have hz3:=jF.o.size;refine⟨rfl,(aD p d3).mono EF.o (fun k hk=>?_) (fun k hk=>?_),(aI.aU bz.o).new (jF.o.mono fun k _ hk=>?_)⟩
  ·rcases hk with hk|hk
   ·exact .inl hk
   exact .inr ⟨aT hzz hk.1,hk.2⟩
  ·rcases hk with hk|hk
   ·exact aW ((aD p d).lt HD.o k hk) (aT hzz hz3)
   exact hk.2
  rcases hk with hk|rfl
  ·exact .inl hk
  exact .inr (by have h1:=yr.o;have h2:=ie.o;omega)
end En
end
section
namespace En
def lgC(l:Lg)(r:Nat)(v:Value): Array Value:=#[v,.int .i64 (l.cw.length:Nat),.int .u64 (l.dx:Nat),.int .u64 (l.last:Nat),.pointer (some ⟨r,0,none⟩),.int .u64 (l.bX:Nat)]
structure gD(S:Nat→Prop)(w:World)(q r p:Nat)(l:Lg)(g:Rg)(size:Nat)(v:Value): Prop where
 own:aG w q 88 (lgC l r v)
 rg:fT w r p g size
 row:w.ownsRow 0 5 1 v l.aF.length (aP l.aF)
 bA:S q∧S r∧∀ k,v.ownBlock=some k→S k∧k≠q∧k≠r
 lt: ∀ k,S k→k<w.heap.size
 ok:l.Ok
 fit:l.used≤g.bytes size
def uX(q r p:Nat)(l:Lg)(g:Rg)(size:Nat)(S:Nat→Prop)(w:World): Prop:=∃ v,gD S w q r p l g size v
theorem cE(q r p:Nat)(l:Lg)(g:Rg)(size:Nat): Loc (uX q r p l g size):=by
 refine⟨fun⟨_,h⟩=>h.lt,fun {S w w'} ⟨v,h⟩ hz hk=>⟨v,?_⟩,fun {S T w} ⟨v,h⟩ p9 hT=>⟨v,?_⟩⟩
 ·exact⟨(hk q h.bA.1).trans h.own,⟨(hk r h.bA.2.1).trans h.rg.own,h.rg.size,h.rg.count⟩,dY h.row fun k hb=>hk k (h.bA.2.2 k hb).1,h.bA,fun k hs=>aW (h.lt k hs) hz,h.ok,h.fit⟩
 exact⟨h.own,h.rg,h.row,⟨p9 _ h.bA.1,p9 _ h.bA.2.1,fun k hk=>⟨p9 _ (h.bA.2.2 k hk).1,(h.bA.2.2 k hk).2⟩⟩,hT,h.ok,h.fit⟩
variable{S:Nat→Prop}{w:World}{q r p size:Nat}{v:Value}
theorem gD.small{l:Lg}{g:Rg}(h:gD S w q r p l g size v): l.cw.length+l.aF.length≤268435456∧l.used=l.cw.length+l.aF.length:=by
 have h1:=l.uw h.ok.done;have h2:=h.fit;have h3:=h.rg.eQ;exact⟨aj,h1⟩
theorem iT(q r:Nat)(w:World)(h:w.cell? ⟨q,4,none⟩=some (.pointer (some ⟨r,0,none⟩))): Calls af 186 #[.pointer (some ⟨q,0,none⟩)] w fun e w'=>e= .returned (.bool true)∧w'=w:=by
 go_enter Tryz.func186,Tryz.ntmps186;go_wp2_with fail;go_ret;exact⟨rfl,rfl⟩
theorem Kg{l:Lg}{g:Rg}(h:gD S w q r p l g size v): Calls af 187 #[.pointer (some ⟨q,0,none⟩)] w fun e w'=>e= .returned (.int .i64 (l.used:Nat))∧Below w.heap.size w w':=by
 obtain⟨A,c,rfl⟩:=cy h.row;have x0:w.cell? ⟨q,0,none⟩=some (.slice A l.aF.length c):=h.own.cell 0;have x1:w.cell? ⟨q,1,none⟩=some (.int .i64 (l.cw.length:Nat)):=h.own.cell 1;obtain⟨h1,h2⟩:=h.small;rw[h2];obtain⟨a,ha⟩:=ae l.cw.length;obtain⟨b,hb⟩:=ae l.aF.length;rw[ha,hb] at h1 ⊢;rw[ha] at x1;rw[hb] at x0;have hab:(a:Int)+(b:Int)≤268435456:=aj;have hw:aO.wrap ((a:Int)+(b:Int))=((a+b:Nat):Int):=by rw[vh _ aj];push_cast;rfl
 clear h h1 h2 ha hb;go_enter Tryz.func187,Tryz.ntmps187;exact Vk
theorem wF{l:Lg}{g:Rg}(h:gD S w q r p l g size v): Calls af 96 #[.pointer (some ⟨q,0,none⟩)] w fun e w'=>e= .returned (.int .i64 (g.bytes size - l.used:Nat))∧Below w.heap.size w w':=by
 have x4:w.cell? ⟨q,4,none⟩=some (.pointer (some ⟨r,0,none⟩)):=h.own.cell 4;have L:=cE q r p l g size;have uZ:=aa fun(W:World) (hW:Below w.heap.size w W)=>nC (h.rg.ai hW)
 have Pq:=aa fun(W:World) (hW:Below w.heap.size w W)=>by
  obtain⟨v',h'⟩:=L.ak ⟨v,h⟩ hW;exact Kg h'
 have h1:=h.fit;have h2:=h.rg.eQ;obtain⟨a,ha⟩:=ae (g.bytes size);obtain⟨b,hb⟩:=ae l.used;rw[ha] at uZ h1 h2 ⊢;rw[hb] at Pq h1 ⊢;have hab:(a:Int) - (b:Int)=((a - b:Nat):Int):=aj;have ha4:(a:Int)≤268435456:=aj;have hwr:aO.wrap ((a - b:Nat):Int)=((a - b:Nat):Int):=vh _ aj;have H8:(b:Int)≤(a:Int):=aj;clear h ha hb h1 h2 L;go_enter Tryz.func96,Tryz.ntmps96;go_wp2_with fail;refine ag (iT q r w x4) ?_;go_wp2_with fail;refine ud (S:=(fun w'=>w'.cell? ⟨q,4,none⟩=some (.pointer (some ⟨r,0,none⟩)))) (by exact x4) fun hHeld=>?_
 refine Qd 0 1 2 3 5 6 ?_;refine ty 7 ?_;refine cG 4 fun K hK=>?_
 go_simp;refine(uZ.o _ (az (au _ _))).mono ?_;rintro e w2 ⟨rfl,hw2⟩;have BK:Below w.heap.size w w2:=av (az (au _ _)) hw2;have q4:w2.cell? ⟨q,4,none⟩=some (.pointer (some ⟨r,0,none⟩)):=(BK.cell (p:=⟨q,4,none⟩) (bD _ _ x4)).trans x4;have KR:=aa BK;clear hw2 BK;go_wp2_with fail;refine bW hK (by exact q4) fun mC=>?_
 clear hK K;refine cG 8 fun K hK=>?_
 go_simp;refine(Pq.o _ KR.o).mono ?_;rintro e w3 ⟨rfl,hw3⟩;have aeK:Below w.heap.size w w3:=av KR.o hw3;have r4:w3.cell? ⟨q,4,none⟩=some (.pointer (some ⟨r,0,none⟩)):=(aeK.cell (p:=⟨q,4,none⟩) (bD _ _ x4)).trans x4;have M5:=aa aeK;clear hw3 aeK;go_wp2_with fail;refine bW hK (by exact r4) fun qA=>?_
 clear hK K;refine tX 9 10 ?_;refine bO ?_;go_wp2_with fail;go_ret;exact⟨rfl,M5.o⟩
theorem XT{l:Lg}{g:Rg}(h:gD S w q r p l g size v): Calls af 80 #[.pointer (some ⟨q,0,none⟩)] w fun e w'=>e= .returned (.int .u64 (l.last:Nat))∧w'=w:=by
 have x4:w.cell? ⟨q,4,none⟩=some (.pointer (some ⟨r,0,none⟩)):=h.own.cell 4;have x5:w.cell? ⟨q,3,none⟩=some (.int .u64 (l.last:Nat)):=h.own.cell 3;clear h;go_enter Tryz.func80,Tryz.ntmps80;exact Vo
theorem Kj{l:Lg}{g:Rg}(h:gD S w q r p l g size v): Calls af 79 #[.pointer (some ⟨q,0,none⟩)] w fun e w'=>e= .returned (.int .u64 (l.dx:Nat))∧w'=w:=by
 have x4:w.cell? ⟨q,4,none⟩=some (.pointer (some ⟨r,0,none⟩)):=h.own.cell 4;have x5:w.cell? ⟨q,2,none⟩=some (.int .u64 (l.dx:Nat)):=h.own.cell 2;clear h;go_enter Tryz.func79,Tryz.ntmps79;exact Vo
theorem Ki{l:Lg}{g:Rg}(h:gD S w q r p l g size v): Calls af 81 #[.pointer (some ⟨q,0,none⟩)] w fun e w'=>e= .returned (.int .i64 (l.used:Nat))∧Below w.heap.size w w':=by
 have x4:w.cell? ⟨q,4,none⟩=some (.pointer (some ⟨r,0,none⟩)):=h.own.cell 4;have Pq:=aa (Kg h);clear h;go_enter Tryz.func81,Tryz.ntmps81;go_wp2_with fail;refine ag (iT q r w x4) ?_;go_wp2_with fail;refine Pq.o.mono ?_;exact I9
theorem Kh{l:Lg}{g:Rg}(h:gD S w q r p l g size v): Calls af 305 #[.pointer (some ⟨q,0,none⟩)] w fun e w'=>e= .returned (if l.last=18446744073709551615 then .tuple #[.int .u64 0,.bool false] else .tuple #[.int .u64 (l.last+1:Nat),.bool true])∧w'=w:=by
 have x3:w.cell? ⟨q,3,none⟩=some (.int .u64 (l.last:Nat)):=h.own.cell 3;have hl:=h.ok.last;obtain⟨a,ha⟩:=ae l.last;rw[ha] at x3 hl ⊢;clear h ha;by_cases h0:a=18446744073709551615
 ·subst h0;rw[if_pos rfl];go_enter Tryz.func305,Tryz.ntmps305;go_wp2_with fail;go_ret2;exact⟨rfl,rfl⟩
 rw[if_neg h0];have hq:((a:Int)==18446744073709551615)=false:=mM;have hw:IntKind.u64.wrap ((a:Int)+1)=((a+1:Nat):Int):=by rw[IntWalk.u64_in _ aj];push_cast;rfl
 have HL:=aa hl;clear h0;go_enter Tryz.func305,Tryz.ntmps305;go_wp2_with fail;go_ret2;exact⟨rfl,rfl⟩
end En
end
section
namespace En
variable{S:Nat→Prop}{w:World}{q r p size:Nat}{v:Value}
theorem XU{l:Lg}{g:Rg}(h:gD S w q r p l g size v)(n:Nat)(hn:n≤268435456): Calls af 304 #[.pointer (some ⟨q,0,none⟩),.int .i64 n] w fun e w'=>e= .returned (.bool (l.fits (g.bytes size) n))∧Below w.heap.size w w':=by
 have x4:w.cell? ⟨q,4,none⟩=some (.pointer (some ⟨r,0,none⟩)):=h.own.cell 4;have CX:=aa (Kh h);have M7:=aa (wF h);have zr:=h.fit;have hby:=h.rg.eQ;unfold Lg.fits;obtain⟨a,ha⟩:=ae l.last;obtain⟨B,hB⟩:=ae (g.bytes size);obtain⟨u,hu⟩:=ae l.used;rw[ha] at CX ⊢;rw[hB,hu] at M7 zr ⊢;rw[hB] at hby;clear h ha hB hu;have V7: ¬(n:Int)<0:=aj;by_cases Ib:n≤32
 ·have pq: ¬(32:Int)<(n:Int):=by omega
  have hn3:(n:Int)≤32:=aj;have HFS:=aa fun W=>CD n Ib W
  rw[show decide (n≤32)=true by simpa using Ib,Bool.true_and];by_cases h0:a=18446744073709551615
  ·subst h0;rw[show decide ((18446744073709551615:Nat)≠18446744073709551615)=false from dR,G'];rw[if_pos rfl] at CX;go_enter Tryz.func304,Tryz.ntmps304;go_wp2_with fail;refine ag (iT q r w x4) ?_;go_wp2_with fail;refine ag CX.o ?_;go_wp2_with fail;go_ret;exact⟨rfl,au _ _⟩
  rw[show decide (a≠18446744073709551615)=true by simpa using h0,Bool.true_and];rw[if_neg h0] at CX;obtain⟨m,hm⟩:=ae (B - u);have hdec:decide (22+n+u≤B)=decide ((22:Int)+(n:Int)≤(m:Int)):=by rw[decide_eq_decide];omega
  rw[hm] at M7;rw[hdec];have xZ:(m:Int)≤268435456:=aj;clear h0 hm hdec zr hby;go_enter Tryz.func304,Tryz.ntmps304;go_wp2_with fail;refine ag (iT q r w x4) ?_;go_wp2_with fail;refine ag CX.o ?_;go_wp2_with fail;refine ag (HFS.o w) ?_;go_wp2_with fail;refine M7.o.mono ?_;exact I9
 have pq:(32:Int)<(n:Int):=aj;rw[show decide (n≤32)=false by simpa using Ib,G',G'];go_enter Tryz.func304,Tryz.ntmps304;go_wp2_with fail;refine ag (iT q r w x4) ?_;go_wp2_with fail;go_ret;exact⟨rfl,au _ _⟩
def adb(q r:Nat)(l:Lg)(w:World)(e:Ending)(w':World): Prop:=(∃ u,e= .returned u)∧aG w' q 88 #[.slice none 0 0,.int .i64 (l.used:Nat),.int .u64 (l.last:Nat),.int .u64 (l.last:Nat),.pointer (some ⟨r,0,none⟩),.int .u64 (l.bX:Nat)]∧aI (· =q) w w'
theorem Cn{l:Lg}{g:Rg}(h:gD S w q r p l g size v): Calls af 296 #[.pointer (some ⟨q,0,none⟩)] w (adb q r l w):=by
 obtain⟨A,c,rfl⟩:=cy h.row;obtain⟨h1,h2⟩:=h.small;have ho:=h.own;unfold lgC at ho;unfold adb;rw[h2];obtain⟨a,ha⟩:=ae l.cw.length;obtain⟨b,hb⟩:=ae l.aF.length;obtain⟨la,hla⟩:=ae l.last;obtain⟨du,hdu⟩:=ae l.dx;obtain⟨ep,Mw⟩:=ae l.bX;rw[ha,hb] at h1 ⊢;rw[hla,Mw] at ho ⊢;rw[ha,hb,hdu] at ho;have x0:w.cell? ⟨q,0,none⟩=some (.slice A b c):=ho.cell 0;have x1:w.cell? ⟨q,1,none⟩=some (.int .i64 (a:Nat)):=ho.cell 1;have x3:w.cell? ⟨q,3,none⟩=some (.int .u64 (la:Nat)):=ho.cell 3;have x2:w.cell? ⟨q,2,none⟩=some (.int .u64 (du:Nat)):=ho.cell 2;have m0:=ho.mark 0;have m1:=ho.mark 1;have m2:=ho.mark 2;have hab:(a:Int)+(b:Int)≤268435456:=aj;have hw:aO.wrap ((a:Int)+(b:Int))=((a+b:Nat):Int):=by rw[vh _ aj];push_cast;rfl
 have HO:=aa ho;clear h h1 h2 ha hb hla hdu Mw ho;go_enter Tryz.func296,Tryz.ntmps296;go_wp2_with fail;refine dI br ?_;refine bj.any (S:=(fun w'=>w'.cell? ⟨q,0,none⟩=some (.slice A b c)∧w'.cell? ⟨q,1,none⟩=some (.int .i64 (a:Nat)))) (t:=12) _ _ _ _ ?_;have hHeld:=(show(fun w'=>w'.cell? ⟨q,0,none⟩=some (.slice A b c)∧w'.cell? ⟨q,1,none⟩=some (.int .i64 (a:Nat))) w.drew from⟨x0,x1⟩);refine tt 0 ?_;refine tt 1 ?_;refine tt 2 ?_;refine tt 3 ?_;refine tt 4 ?_;refine tt 5 ?_;refine tt 6 ?_;refine tt 7 ?_;refine tt 8 ?_;refine tt 9 ?_;refine tp 10 ?_;refine tp 11 ?_;refine bj.last br ?_;refine kB 12 br br ?_;simp only[tI,List.drop_zero];go_wp2_with fail;refine bodyPost_end (results_none Tryz.results296 _ _ _) rfl ⟨⟨_,rfl⟩,?_,?_⟩
 ·have:=((HO.o.put 1 (.int .i64 ((a:Int)+(b:Int)))).put 0 (.slice none 0 0)).put 2 (.int .u64 (la:Int));simp at this;exact this
 exact aI.ak (((aI.at w q 1 _).Cb 0 _).Cb 2 _) (az (au _ _))
theorem SH(g:Rg): ∀ (ps:List Piece) (d:bK) (b:By),(∀ x∈ps,x.f<x.t)→(KZ g d ps b).2.dk.size=d.dk.size∧(KZ g d ps b).2.dk.row.length≤d.dk.row.length+Qe ps
 | [],d,b,_=>⟨rfl,aQ _⟩
 | x::ps,d,b,h=>by
  have h1:(EK g d x b).2.dk.size=d.dk.size∧(EK g d x b).2.dk.row.length≤d.dk.row.length+1:=by
   unfold EK;split
   ·split
    ·have h2:=bK.lh (d.read (g.from_+x.s:Nat)).2.2 (g.from_+x.s:Nat) ((d.read (g.from_+x.s:Nat)).2.1.take x.f++b.take (x.t - x.f)++(d.read (g.from_+x.s:Nat)).2.1.drop x.t);rw[bK.lK] at h2;exact⟨h2.1,h2.2.1⟩
    rw[bK.lK];exact⟨rfl,Al _⟩
   have h2:=bK.lh d (g.from_+x.s:Nat) (b.take (x.t - x.f));exact⟨h2.1,h2.2.1⟩
  have hx:=h x (List.mem_cons_self ..);rw[KZ,Qe];split
  ·have h3:=SH g ps (EK g d x b).2 (b.drop (x.t - x.f)) (fun y hy=>h y (gv _ hy));exact⟨h3.1.trans h1.1,aj⟩
  exact⟨h1.1,aj⟩
theorem Rg.pC(g:Rg)(d:bK)(at_:Nat)(b:By)(hs:1≤d.dk.size): (g.write d at_ b).2.dk.size=d.dk.size∧(g.write d at_ b).2.dk.row.length≤d.dk.row.length+b.length:=by
 unfold Rg.write;split
 ·exact⟨rfl,Nat.le_add_right _ _⟩
 have h1:=SH g (pieces d.dk.size b.length (at_:Int).toNat b.length) d b (fun x hx=>(pM _ hs _ _ _ (aQ _) x hx).1);rw[nI _ hs _ _ _ (aQ _)] at h1;exact h1
def Lg.iH(l:Lg): Lg:={l with done:=l.eD.length}
theorem Lg.Q9(l:Lg): l.iH.cw.length=l.used∧l.iH.aF= []∧l.iH.dx=l.last∧l.iH.last=l.last∧l.iH.used=l.used∧l.iH.bX=l.bX:=by
 refine⟨?_,?_,rfl,rfl,rfl,rfl⟩
 ·simp[Lg.iH,Lg.cw,Lg.used]
 simp[Lg.iH,Lg.aF,jc]
def EH(SL SD:Nat→Prop)(q r p:Nat)(g:Rg)(size:Nat)(R:Int × Lg × bK)(w:World)(e:Ending)(w':World): Prop:=
 e= .returned (.int .i64 R.1)∧uX q r p R.2.1 g size SL w'∧dF p R.2.2 (Gr SD w w') w'∧aI (fun k=>SL k∨SD k) w w'
theorem gD.flush{w':World} {l:Lg}{g:Rg}(h:gD S w q r p l g size v)(ho:aG w' q 88 #[.slice none 0 0,.int .i64 (l.used:Nat),.int .u64 (l.last:Nat),.int .u64 (l.last:Nat),.pointer (some ⟨r,0,none⟩),.int .u64 (l.bX:Nat)])(hr:w'.heap[r]? =w.heap[r]?)(hz:w.heap.size≤w'.heap.size): uX q r p l.iH g size S w':=by
 obtain⟨f1,f2,f3,f4,f5,f6⟩:=l.Q9;refine⟨.slice none 0 0,?_,⟨hr.trans h.rg.own,h.rg.size,h.rg.count⟩,?_,⟨h.bA.1,h.bA.2.1,fun k hk=>Lh⟩,fun k hk=>aW (h.lt k hk) hz,⟨aQ _,h.ok.last,h.ok.bX,h.ok.short⟩,h.fit⟩
 ·unfold lgC;rw[f1,f3,f4,f6];exact ho
 rw[f2];exact td w' 0 1 _
theorem Ry{SL SD:Nat→Prop}{l:Lg}{g:Rg}{d:bK}(h:gD SL w q r p l g d.dk.size v)(hD:dF p d SD w)(Wo: ∀ k,SL k→¬SD k)(hrow:d.dk.row.length+l.aF.length≤1000000):
  Calls af 210 #[.pointer (some ⟨q,0,none⟩)] w (EH SL SD q r p g d.dk.size (l.flush g d) w):=by
 obtain⟨A,c,rfl⟩:=cy h.row;have x0:w.cell? ⟨q,0,none⟩=some (.slice A l.aF.length c):=h.own.cell 0;have x1:w.cell? ⟨q,1,none⟩=some (.int .i64 (l.cw.length:Nat)):=h.own.cell 1;have x2:w.cell? ⟨q,2,none⟩=some (.int .u64 (l.dx:Nat)):=h.own.cell 2;have x3:w.cell? ⟨q,3,none⟩=some (.int .u64 (l.last:Nat)):=h.own.cell 3;have x4:w.cell? ⟨q,4,none⟩=some (.pointer (some ⟨r,0,none⟩)):=h.own.cell 4;have H:=aa h;have HD:=aa hD;have RO:=aa Wo;have nY:=aa hrow;obtain⟨h1,h2⟩:=h.small;by_cases h0:l.done=l.eD.length
 ·have hq:((l.dx:Int)==(l.last:Int))=true:=by rw[beq_iff_eq];unfold Lg.dx Lg.last;omega
  have CQ:(l.dx==l.last)=true:=by rw[beq_iff_eq];unfold Lg.dx Lg.last;omega
  have lM:l.flush g d=(0,l,d):=by unfold Lg.flush;rw[if_pos h0]
  rw[lM];have HF:=aa fun(W:World) (hb:Below w.heap.size w W)=>(show EH SL SD q r p g d.dk.size (0,l,d) w (.returned (.int .i64 0)) W from⟨rfl,(cE q r p l g _).ak ⟨_,h⟩ hb,(aD p d).AB ((aD p d).ak hD hb) ((aD p d).lt hD) hb.size,aI.aU hb⟩)
  obtain⟨du,hdu⟩:=ae l.dx;obtain⟨la,hla⟩:=ae l.last;rw[hdu] at x2 hq CQ;rw[hla] at x3 hq CQ;clear h hD Wo hrow h1 h2 h0 lM hdu hla;go_enter Tryz.func210,Tryz.ntmps210;go_wp2_with fail;refine ag (iT q r w x4) ?_;go_wp2_with fail;go_quiet (fail);go_wp2_with fail;go_ret;exact HF.o _ (bJ (au _ _) _)
 ·have hq:((l.dx:Int)==(l.last:Int))=false:=by rw[beq_eq_false_iff_ne];unfold Lg.dx Lg.last;omega
  have CQ:(l.dx==l.last)=false:=by rw[beq_eq_false_iff_ne];unfold Lg.dx Lg.last;omega
  obtain⟨er,o7⟩:=ae ((g.write d (l.cw.length:Nat) l.aF).1);obtain⟨d1,Wp⟩:=ae ((g.write d (l.cw.length:Nat) l.aF).2);have hwr:g.write d (l.cw.length:Nat) l.aF=(er,d1):=by rw[←o7,←Wp]
  have lM:l.flush g d=if er=0 then(if d1.sync.1=0 then(0,l.iH,d1.sync.2)else(d1.sync.1,l,d1.sync.2))else(er,l,d1):=by unfold Lg.flush;rw[if_neg h0,hwr];rfl
  have aeW:=Rg.pC g d l.cw.length l.aF hD.ok.size.1;rw[Wp] at aeW;have hSD:=(aD p d).lt hD;have hWR: ∀ W,Below w.heap.size w W→Calls af 294 #[.pointer (some ⟨r,0,none⟩),.int .i64 (l.cw.length:Nat),.slice A l.aF.length c] W fun e W'=>e= .returned (.int .i64 er)∧dF p d1 (Gr SD w W') W'∧aI SD w W':=fun W hW=>by
   refine(Ex (h.rg.ai hW) ((aD p d).ak hD hW) (Wo r h.bA.2.1) l.cw.length aj l.aF A c ((Bs.own h.row).ai hW) (fun gs off e=>?_) ?_ aj hrow).mono ?_
   ·subst e;have h3:=h.bA.2.2 gs rfl;exact⟨aW (h.lt gs h3.1) hW.size,Wo gs h3.1⟩
   ·rcases h.row.2 with⟨_,e1⟩|⟨g',cap,cur,e0,_,_,e3,_⟩
    ·omega
    injection e0 with _ _ e7;omega
   rintro e W' ⟨he,h3,h4⟩;rw[hwr] at he h3;have h5:=hW.size;have h6:=h4.size;refine⟨he,(aD p d1).mono h3 (fun k hk=>?_) (fun k hk=>?_),(aI.aU hW).trans h4⟩
   ·rcases hk with hk|hk
    ·exact .inl hk
    exact .inr ⟨aT h5 hk.1,hk.2⟩
   rcases hk with hk|hk
   ·exact aW (hSD k hk) (aT h5 h6)
   exact hk.2
  obtain⟨R,hR⟩:=ae (l.flush g d);rw[hR] at lM ⊢;have Co:=aa hWR;have Gs:=aa lM;have aly:=aa aeW;have HSD:=aa hSD;obtain⟨du,hdu⟩:=ae l.dx;obtain⟨la,hla⟩:=ae l.last;obtain⟨wl,Hu⟩:=ae l.cw.length;obtain⟨n,hn⟩:=ae l.aF.length;rw[hdu] at x2 hq CQ;rw[hla] at x3 hq CQ;rw[Hu,hn] at Co;rw[Hu] at x1;rw[hn] at x0;have HNN:=aa hn;clear h hD Wo hrow h1 h2 h0 lM hdu hla Hu hn hwr o7 Wp aeW hSD hWR hR;go_enter Tryz.func210,Tryz.ntmps210;go_wp2_with fail;refine ag (iT q r w x4) ?_;go_wp2_with fail;go_quiet (fail);obtain⟨wz,hwz⟩:=ae (w.drewN nq);have BU:Below w.heap.size w wz:=by rw[←hwz];exact bJ (au _ _) _
  rw[hwz];have z0:wz.cell? ⟨q,0,none⟩=some (.slice A n c):=(BU.cell (p:=⟨q,0,none⟩) (bD _ _ x0)).trans x0;have z1:wz.cell? ⟨q,1,none⟩=some (.int .i64 (wl:Nat)):=(BU.cell (p:=⟨q,1,none⟩) (bD _ _ x1)).trans x1;have z4:wz.cell? ⟨q,4,none⟩=some (.pointer (some ⟨r,0,none⟩)):=(BU.cell (p:=⟨q,4,none⟩) (bD _ _ x4)).trans x4;have HBZ:=aa BU;clear BU hwz;go_wp2_with fail;refine wp_region_held_drew (S:=(fun w'=>w'.cell? ⟨q,0,none⟩=some (.slice A n c)∧w'.cell? ⟨q,1,none⟩=some (.int .i64 (wl:Nat))∧w'.cell? ⟨q,4,none⟩=some (.pointer (some ⟨r,0,none⟩)))) br (by exact⟨z0,z1,z4⟩) (fun hHeld=>?_);refine ov 0 1 2 3 4 5 6 7 ?_;refine Qd 8 9 10 11 12 13 ?_;refine cG 14 fun K hK=>?_
  go_simp;refine(Co.o _ (az HBZ.o)).mono ?_;rintro e w2 ⟨rfl,MG,jB⟩;have aae:=RO.o q H.o.bA.1;have q0:w2.cell? ⟨q,0,none⟩=some (.slice A n c):=(eO (a:=⟨q,0,none⟩) (jB.block q (H.o.lt q H.o.bA.1) aae)).trans x0;have q1:w2.cell? ⟨q,1,none⟩=some (.int .i64 (wl:Nat)):=(eO (a:=⟨q,1,none⟩) (jB.block q (H.o.lt q H.o.bA.1) aae)).trans x1;have q4:w2.cell? ⟨q,4,none⟩=some (.pointer (some ⟨r,0,none⟩)):=(eO (a:=⟨q,4,none⟩) (jB.block q (H.o.lt q H.o.bA.1) aae)).trans x4;have jG:=aa MG;have gh:=aa jB;clear MG jB aae;go_wp2_with fail;refine bW hK (by exact⟨q0,q1,q4⟩) fun lN=>?_
  clear hK K;refine ty 15 ?_;refine bO ?_;have hrg2:fT w2 r p g d.dk.size:=H.o.rg.cO gh.o (RO.o r H.o.bA.2.1);have y0:w2.cell? ⟨r,0,none⟩=some (.pointer (some ⟨p,0,none⟩)):=hrg2.own.cell 0;obtain⟨hy0,hy1,hy4⟩:=lN;by_cases h0:er=0
  ·subst h0;have Ym:=aa (show R=if d1.sync.1=0 then(0,l.iH,d1.sync.2)else(d1.sync.1,l,d1.sync.2)from by rw[Gs.o,if_pos rfl]);have ze:=aa (Kc hrg2 jG.o (by have:=aly.o.2;have:=nY.o;have:=HNN.o;omega));clear hrg2 Gs Co;obtain⟨es,hes⟩:=ae d1.sync.1;obtain⟨ds,Sd⟩:=ae d1.sync.2;rw[hes,Sd] at Ym ze;clear hes Sd;go_wp2_with fail;refine ze.o.mono ?_;rintro e w3 ⟨rfl,O4,kf⟩;have hz2:=gh.o.size;have hz3:=kf.size;have aaz:dF p ds (Gr SD w w3) w3:=(aD p ds).grow O4 hz2 hz3 HSD.o;have Dr:aI SD w w3:=gh.o.gr kf;have afa:uX q r p l g d.dk.size SL w3:=(cE q r p l g _).cO ⟨_,H.o⟩ Dr RO.o;have r4:w3.cell? ⟨q,4,none⟩=some (.pointer (some ⟨r,0,none⟩)):=(eO (a:=⟨q,4,none⟩) (Dr.block q (H.o.lt q H.o.bA.1) (RO.o q H.o.bA.1))).trans x4;by_cases h1:es=0
   ·subst h1;have HR0:=aa (show R=(0,l.iH,ds)from by rw[Ym.o,if_pos rfl]);obtain⟨v3,h3⟩:=afa;have Gm:=aa (Cn h3);have HL3:=aa h3;have EF:=aa aaz;have jF:=aa Dr;clear Ym O4 kf hz2 hz3 aaz Dr h3;go_wp2_with fail;refine Gm.o.mono ?_;rintro e w4 ⟨⟨u,rfl⟩,ho4,CM⟩;have hnq: ∀ k,Gr SD w w3 k→¬k=q:=fun k hk e=>by
     subst e;rcases hk with hk|hk
     ·exact RO.o _ H.o.bA.1 hk
     have:=H.o.lt _ H.o.bA.1;omega
    have HF:=aa (show EH SL SD q r p g d.dk.size R w (.returned (.int .i64 0)) w4 from by
     rw[HR0.o];refine⟨rfl,HL3.o.flush ho4 (CM.block r HL3.o.rg.own.lt fun e=>?_) CM.size,?_,?_⟩
     ·subst e;have a1:=HL3.o.own;have a2:=HL3.o.rg.own;unfold aG at a1 a2;rw[a1] at a2;injection a2 with a2
      injection a2 with _ a3
      revert a3;decide
     ·have h5:=(aD p ds).cO EF.o CM hnq;exact(aD p ds).mono h5 (fun k hk=>by rcases hk with hk|hk;exact .inl hk;exact .inr ⟨hk.1,aW hk.2 CM.size⟩) (fun k hk=>by rcases hk with hk|hk;exact aW (HSD.o k hk) (aT jF.o.size CM.size);exact hk.2)
     exact(jF.o.mono fun k _ hk=>.inr hk).trans (CM.mono fun k _ e=>.inl (by subst e;exact H.o.bA.1)))
    clear ho4 CM hnq;go_wp2_with fail;go_ret;exact HF.o
   have hqe:(es==0)=false:=by simp[h1]
   have HF:=aa (show EH SL SD q r p g d.dk.size R w (.returned (.int .i64 es)) w3 from by
    rw[Ym.o,if_neg h1];exact⟨rfl,afa,aaz,Dr.mono fun k _ hk=>.inr hk⟩)
   clear Ym h1 O4 kf hz2 hz3 aaz Dr afa;go_wp2_with fail;go_ret;exact HF.o
  have hqe:(er==0)=false:=by simp[h0]
  have HF:=aa (show EH SL SD q r p g d.dk.size R w (.returned (.int .i64 er)) w2 from by
   rw[Gs.o,if_neg h0];exact⟨rfl,(cE q r p l g _).cO ⟨_,H.o⟩ gh.o RO.o,jG.o,gh.o.mono fun k _ hk=>.inr hk⟩)
  clear Gs Co h0 hrg2;go_wp2_with fail;go_ret;exact HF.o
