import Derived.Test.YtemighjbfanenaaGreatDoorPk3
import Derived.Test.YtemighjbfanenaaGreatDoorPk4
set_option linter.all false
set_option maxRecDepth 100000
set_option maxHeartbeats 16000000
namespace Go.Proofs.YtemighjbfanenaaGreatDoor
open RowKit
open Go.Instr renaming index→mI
open Go.Proofs.Tryz renaming results63→YL,underlying41→cA,prog→af
open Go.Value renaming oneCell'→fw
open Nat renaming le_of_eq→pn
theorem Vd{p:Prop}(h:p:=by
 go_wp2_with (refine ah rfl 41 (.tmp 2) _ rfl xr 41 _ (cZ Rq.zero) uq.o rfl rfl rfl aH Li ?_;intro wz gz eC hsz;have kH:=aa gz;have iw:=aa eC;clear gz eC hsz);refine bodyPost_ret (results_cell_tmp YL _ im (aJ 41 kH.o _ cA rfl aH)) rfl ⟨by rw[HV.o];rfl,bn ie.o iw.o aiD.o⟩):p:=h
theorem Vb{p:Prop}(h:p:=by
 go_wp2_with fail;refine HF.o.mono ?_;rintro e wn ⟨⟨u,rfl⟩,h1,ht⟩;have zw:=aa (CX.o wn h1 ht);clear h1 ht c1 v0 v1 v2;go_wp2_with fail;go_roundw
 case rel=>exact⟨j+1,aj,by go_num,zw.o⟩
 case measure=>simp[intOf];omega):p:=h
theorem ab8{p:Prop}(h:p:=by
 go_wp2_with fail;go_roundw
 case rel=>exact⟨0+1,aj,by go_num,KU.o,Yx.o,av HBr.o ij.o⟩
 case measure=>simp[intOf]):p:=h
theorem ab7{p:Prop}(h:p:=by
 go_wp2_with fail;go_roundw
 case rel=>exact⟨1+1,aj,by go_num,KU.o,Yx.o,av HBr.o ij.o⟩
 case measure=>simp[intOf]):p:=h
theorem ab6{p:Prop}(h:p:=by
 go_wp2_with fail;go_roundw
 case rel=>exact⟨2+1,aj,by go_num,KU.o,Yx.o,av HBr.o ij.o⟩
 case measure=>simp[intOf]):p:=h
theorem eB{p:Prop}(h:p:=by simp[fw]):p:=h
theorem II{p:Prop}(h:p:=by rw[beq_eq_false_iff_ne];omega):p:=h
theorem Be{p:Prop}(h:p:=by have:=HPQ.o;have:=pg.o;omega):p:=h
theorem AP{p:Prop}(h:p:=by have:=HPQ.o;omega):p:=h
theorem Li{p:Prop}(h:p:=by simp[cZ,fw]):p:=h
section
namespace En
open Oc (le val Bs rh rE za jU oK tk wD gC zX rG qi lr)
def Oe(b:By): Rq × By × Int:=(⟨val (tk b 0 1).1,val (tk (tk b 0 1).2.1 (tk b 0 1).2.2 4).1,0,0,0⟩,(tk (tk b 0 1).2.1 (tk b 0 1).2.2 4).2.1,(tk (tk b 0 1).2.1 (tk b 0 1).2.2 4).2.2)
def iM(l:List Nat)(st:Rq × By × Int): Rq × By × Int:=l.foldl (fun s f=>Qv f s) st
def kr(b:By): Rq × By × Int:=iM (cz (Oe b).1.ay) (Oe b)
def Rq.zero: Rq:=⟨0,0,0,0,0⟩
def bL(b:By): Rq × Int:=if jr (Oe b).1.ay=true∧rG (kr b).2.1 (kr b).2.2=0∧0≤(kr b).1.bT then((kr b).1,0)else(Rq.zero,200)
def afD(b:By)(w:World)(e:Ending)(w':World): Prop:=e= .returned (.tuple #[.agg (cZ (bL b).1),.int .i64 (bL b).2])∧Below w.heap.size w w'
theorem aH: (af.info? 41).map (·.size)=some 5:=br
theorem IX(l:List Nat)(st:Rq × By × Int){j:Nat}(h:j<l.length): iM (l.take (j+1)) st=Qv l[j] (iM (l.take j) st):=by
 unfold iM;rw[List.take_add_one,List.getElem?_eq_getElem h,List.foldl_append];rfl
theorem O2(k:Int): ∀ f∈cz k,f=0∨f=1∨f=2:=by
 intro f hf;unfold cz at hf;repeat(split at hf;· simp at hf;omega)
 simp at hf
theorem B0(k:Int): (cz k).length≤2:=by
 unfold cz;repeat(split;· simp)
 simp
theorem yO(l:List Nat): ∀ st:Rq × By × Int,(iM l st).1.ay=st.1.ay:=by
 induction l with
 | nil=>intro st;rfl
 | cons f r ih=>
  intro st;have h3:iM (f::r) st=iM r (Qv f st):=by unfold iM;rw[List.foldl_cons]
  rw[h3,ih (Qv f st),Uy]
theorem Xw(b:By)(A:Option Addr)(c:Nat)(w:World)(hB:Bs w A b)(hA:rh A)(hl:b.length≤70368744177664): Calls af 63 #[.slice A b.length c] w (afD b w):=by
 obtain⟨xr,mO⟩:=ae w.heap.size;obtain⟨w1,aZ⟩:=ae (w.alloc (.cells #[.int .i64 0,.int .u32 0,.int .u32 0,.int .i64 0,.int .i64 0] 41));have wT:=aa (show aG w1 xr 41 (cZ Rq.zero)by rw[←aZ,←mO];exact aG.fresh w _ _);have hb1:=aL aZ;have bz:=aa hb1;have pg:=aa mO;have Cw:=aa (za b A c w1 (hB.ai hb1) hA hl);obtain⟨k,hk⟩:=ae (val (tk b 0 1).1:Nat);have hk2:k<256:=by rw[←hk];exact lr (qi b 0 1)
 have hkw:IntKind.i64.wrap (k:Int)=(k:Int):=Fk;obtain⟨b1,e1,aat⟩: ∃ b1 e1,(tk b 0 1).2=(b1,e1):=⟨_,_,rfl⟩;obtain⟨tg,Mm⟩:=ae (val (tk b1 e1 4).1:Nat);obtain⟨b2,e2,Mz⟩: ∃ b2 e2,(tk b1 e1 4).2=(b2,e2):=⟨_,_,rfl⟩;have VX:Oe b=(⟨k,tg,0,0,0⟩,b2,e2):=by unfold Oe;rw[aat,hk,Mm];show(_,(tk b1 e1 4).2.1,(tk b1 e1 4).2.2)=_;rw[Mz]
 have HQ0:=aa VX;have Zh:=aa (show val (tk b 0 1).1=k∧(tk b 0 1).2.1=b1∧(tk b 0 1).2.2=e1∧val (tk b1 e1 4).1=tg∧(tk b1 e1 4).2.1=b2∧(tk b1 e1 4).2.2=e2 from⟨hk,by rw[aat],by rw[aat],Mm,by rw[Mz],by rw[Mz]⟩);clear hB hA hl hb1 VX hk2 hk aat Mm Mz;go_enter Tryz.func63,Tryz.ntmps63;go_wp2_with fail;refine Cw.o.mono ?_;rintro e w2 ⟨p,qq,rfl,fE,hp,hq,hb2⟩;have kU:=wT.js hb2;have cu:=bz.dP hb2;have HPQ:=aa (show xr<p∧xr<qq by have:=wT.o.lt;omega);have HBY:=aa (wD p qq b 0 w2 fE);clear fE hp hq hb2 Cw wT;go_wp2_with fail;refine HBY.o.mono ?_;rintro e w3 ⟨rfl,fE,ht⟩;rw[Zh.o.2.1,Zh.o.2.2.1] at fE;rw[Zh.o.1];have HFO:=aa (gC p qq b1 e1 w3 fE);have gM:=aa (ht.arr kU.o AP);have jF:=aa ht;have dV:=aa (show Below w.heap.size w w3 from aI.fresh ht cu.o (fun j hj=>Be));clear fE ht HBY;go_wp2_with fail;refine HFO.o.mono ?_;rintro e w4 ⟨rfl,fE,ht⟩;rw[Zh.o.2.2.2.2.1,Zh.o.2.2.2.2.2] at fE;rw[Zh.o.2.2.2.1];have mj:=aa (ht.arr gM.o AP);have gH:=aa (show Below w.heap.size w w4 from aI.fresh ht dV.o (fun j hj=>Be));have M9:=aa fE;clear fE ht HFO jF;obtain⟨xq,iO⟩:=ae w4.heap.size;obtain⟨w5,iX⟩:=ae (w4.alloc (.cells #[.int .i64 0,.int .u32 0,.int .u32 0,.int .i64 0,.int .i64 0] 41));have ou:=aa (aK iX iO);have eA:=aa (aL iX);have vx:=aa iO;go_wp2_with (refine ah rfl 41 _ _ rfl xq 41 _ #[.int .i64 (k:Int),.int .u32 (tg:Int),.int .u32 0,.int .i64 0,.int .i64 0] ou.o rfl rfl rfl aH eB ?_;intro w6 yV kq VW;have ij:=aa (show Below w4.heap.size w4 w6 from bn eA.o kq (pn vx.o));have KT:=aa yV;have y0:=KT.o.cell 0;clear yV kq VW);refine(FE (k:Int) w6).mono ?_;rintro e w7 ⟨B,rfl,hG,sy⟩;have HG:=aa hG;have lI:=ij.dP sy;have zf:=aa (KT.o.ai sy);have ai3:=aa KT.o.lt;clear hG sy y0 KT;go_wp2_with fail;refine(yf w7).mono ?_;rintro e w8 ⟨rfl,mX⟩;have py:=lI.dP mX;have HQ8:=aa (zf.o.ai mX);have HG8:=aa (show cz k≠ []→∃ g,B=some ⟨g,0,none⟩∧w6.heap.size≤g∧aG w8 g 3 (j9 (cz k))from fun h=>by obtain⟨g,h1,h2,h3⟩:=HG.o h;exact⟨g,h1,h2,h3.ai mX⟩);clear mX zf HG;obtain⟨xf,Z9⟩:=ae w8.heap.size;obtain⟨w9,jH⟩:=ae (w8.alloc (.cells #[.nilFunc,.nilFunc,.nilFunc,.nilFunc,.nilFunc,.nilFunc,.nilFunc,.nilFunc,.nilFunc] 161));have pz:=aa (aK jH Z9);have zD:=aa (aL jH);have HXF:=aa Z9;go_wp2_with (refine ah rfl 161 _ _ rfl xf 161 _ gp pz.o rfl rfl rfl oH (by simp[gp,fw]) ?_;intro wa hAa KM hsa;have Nk:=aa (show Below w8.heap.size w8 wa from bn zD.o KM (pn HXF.o));have HFa:=aa hAa;clear hAa KM hsa);have HI:=aa (show Sh wa p qq xq (Oe b)from by
  rw[HQ0.o];have h1:=av py.o Nk.o;exact⟨M9.o.ai h1,(HQ8.o).ai Nk.o,by obtain⟨A',c',a1,_⟩:=M9.o.rest.ex;have:=a1.lt;have:=M9.o.own.lt;have:=vx.o;omega⟩)
 have HRa:=aa (mj.o.ai (av py.o Nk.o));have HGa:=aa (show cz k≠ []→∃ g,B=some ⟨g,0,none⟩∧w6.heap.size≤g∧aG wa g 3 (j9 (cz k))from fun h=>by obtain⟨g,h1,h2,h3⟩:=HG8.o h;exact⟨g,h1,h2,h3.ai Nk.o⟩);have HBw:=aa (av gH.o (av py.o Nk.o));have HN:=aa (show xr<qq∧qq<xq∧xr<xq∧xq<xf∧xq<w6.heap.size∧qq<xf∧w.heap.size≤xr from by
  obtain⟨A',c',a1,_⟩:=M9.o.rest.ex;have h1:=a1.lt;have h2:=HPQ.o;have h3:=vx.o;have h4:=HQ8.o.lt;have h5:=HXF.o;have h6:=ij.o.size;have h7:=pg.o;have h8:=ou.o.lt;have h9:=eA.o.size;have h10:=py.o.size;have h11:=ai3.o;omega)
 have aht:=B0 (k:Int);have HK:=aa (show(Oe b).1.ay=(k:Int)by rw[HQ0.o]);clear HQ8 HG8 pz zD HXF py Nk ou eA vx M9 Zh gH dV cu kU gM mj HPQ ai3;go_loopw [28] (fun i wr=>∃ j:Nat,j≤(cz k).length∧i= .int .i64 j∧Sh wr p qq xq (iM ((cz k).take j) (Oe b))∧aG wr xf 161 gp∧(cz k≠ []→∃ g,B=some ⟨g,0,none⟩∧w6.heap.size≤g∧aG wr g 3 (j9 (cz k)))∧aG wr xr 41 (cZ Rq.zero)∧Below w.heap.size w wr) (fun i _=>((cz k).length - intOf i).toNat)
 case atStart=>exact⟨0,Nat.zero_le _,rfl,HI.o,HFa.o,HGa.o,HRa.o,HBw.o⟩
 case round=>
  obtain⟨j,hj,rfl,hi,hf,hg,hr,hb⟩:=hrel;by_cases h2:j<(cz k).length
  ·obtain⟨g,hB',eC,KM⟩:=hg (fun h0=>by rw[h0] at h2;simp at h2);subst hB';have Q8:(j:Int)<(cz k).length:=aj;obtain⟨f,Y'⟩:=ae ((cz k)[j]);have c1:wr.cell? ⟨g,j,none⟩=some (.int .i64 (f:Int)):=by rw[KM.cell,←Y'];simp[j9,h2]
   have hfm:=O2 k f (by rw[←Y'];exact List.getElem_mem h2);have HST:=aa (IX (cz k) (Oe b) h2);rw[Y'] at HST;have Su:=aa hi;have Nh:=aa hf;have HGG:=aa KM;have uq:=aa hr;have ie:=aa hb;have Yk:=aa eC;clear hi hf hg KM hr hb eC;have CX:=aa (show ∀ W',Sh W' p qq xq (Qv f (iM ((cz k).take j) (Oe b)))→aI (fun k=>k=qq∨k=xq) wr W'→Sh W' p qq xq (iM ((cz k).take (j+1)) (Oe b))∧aG W' xf 161 gp∧(cz k≠ []→∃ g',some (⟨g,0,none⟩:Addr)=some ⟨g',0,none⟩∧w6.heap.size≤g'∧aG W' g' 3 (j9 (cz k)))∧aG W' xr 41 (cZ Rq.zero)∧Below w.heap.size w W' from fun W' h1 h2=>by
    have hn:=HN.o;have hz:=Yk.o;exact⟨by rw[HST.o];exact h1,h2.arr Nh.o aj,fun _=>⟨g,rfl,hz,h2.arr HGG.o aj⟩,h2.arr uq.o aj,aI.fresh h2 ie.o (fun j hj=>aj)⟩)
   have v0:wr.cell? ⟨xf,1,none⟩=some (.func (.func 135) #[] #[]):=Nh.o.cell 1;have v1:wr.cell? ⟨xf,4,none⟩=some (.func (.func 140) #[] #[]):=Nh.o.cell 4;have v2:wr.cell? ⟨xf,7,none⟩=some (.func (.func 145) #[] #[]):=Nh.o.cell 7;rcases hfm with rfl|rfl|rfl
   ·have HF:=aa (WS p qq xq _ wr Su.o);exact Vb
   ·have HF:=aa (WR p qq xq _ wr Su.o);exact Vb
   have HF:=aa (WQ p qq xq _ wr Su.o);exact Vb
  obtain rfl:j=(cz k).length:=aj;rw[List.take_length] at hi;have hi':Sh wr p qq xq (kr b):=by unfold kr;rw[HK.o];exact hi
  have hkq:(kr b).1.ay=(k:Int):=by unfold kr;rw[yO];exact HK.o
  obtain⟨st,hst⟩:=ae (kr b);have HGT:=aa (show bL b=if jr (k:Int)=true∧rG st.2.1 st.2.2=0∧0≤st.1.bT then(st.1,0)else(Rq.zero,200)by unfold bL;rw[HK.o,hst]);rw[hst] at hi';have Su:=aa hi';have uq:=aa hr;have ie:=aa hb;clear hi hi' hf hg hr hb hst hkq;obtain⟨kd,Hy⟩:=ae (jr (k:Int));have aiD:=aa (show w.heap.size≤xr from HN.o.2.2.2.2.2.2);cases kd
  ·have HV:=aa (show bL b=(Rq.zero,200)by rw[HGT.o,Hy];simp);exact Vd
  have HEN:=aa (zX p qq st.2.1 st.2.2 wr Su.o.rd);go_wp2_with fail;refine ag HEN.o ?_;by_cases hee:rG st.2.1 st.2.2=0
  ·have t4:wr.cell? ⟨xq,4,none⟩=some (.int .i64 st.1.bT):=Su.o.rq.cell 4;have HQR:=aa Su.o.rq;by_cases htt:0≤st.1.bT
   ·have HV:=aa (show bL b=(st.1,0)by rw[HGT.o,if_pos ⟨Hy,hee,htt⟩]);have h9: ¬st.1.bT<0:=aj;go_wp2_with (first|(refine aC rfl 41 (.tmp 5) rfl xq 41 _ HQR.o rfl _ cA rfl aH ?_)|(refine ah rfl 41 (.tmp 2) _ rfl xr 41 _ (cZ st.1) uq.o rfl rfl rfl aH Li ?_;intro wz gz eC hsz;have kH:=aa gz;have iw:=aa eC;clear gz eC hsz));refine bodyPost_ret (results_cell_tmp YL _ im (aJ 41 kH.o _ cA rfl aH)) rfl ⟨by rw[HV.o];rfl,bn ie.o iw.o aiD.o⟩
   have HV:=aa (show bL b=(Rq.zero,200)by rw[HGT.o,if_neg (fun h=>htt h.2.2)]);have h9:st.1.bT<0:=aj;exact Vd
  have HV:=aa (show bL b=(Rq.zero,200)by rw[HGT.o,if_neg (fun h=>hee h.2.1)]);have amx:(rG st.2.1 st.2.2==0)=false:=beq_eq_false_iff_ne.2 hee;exact Vd
end En
end
section
namespace En
def Nts(w:World)(A:Option Addr)(l:List Nat): Prop:=l≠ []→∃ g off,A=some ⟨g,off,none⟩∧g<w.heap.size∧∀ i (h:i<l.length),w.cell? ⟨g,off+i,none⟩=some (.int .i64 (l[i]:Int))
theorem Nts.ai{w w':World}{A:Option Addr}{l:List Nat}(h:Nts w A l)(hb:Below w.heap.size w w'): Nts w' A l:=fun hne=>by
 obtain⟨g,off,h1,h2,h3⟩:=h hne;exact⟨g,off,h1,Nat.lt_of_lt_of_le h2 hb.size,fun i hi=>(hb.cell (p:=⟨g,off+i,none⟩) h2).trans (h3 i hi)⟩
theorem Rz(A:Option Addr)(c x:Nat)(l:List Nat)(w:World)(h:Nts w A l)(hx:x∈l)(hl:l.length≤1000): Calls af 235 #[.slice A l.length c,.int .i64 (x:Int)] w fun e w'=>(∃ i:Nat,e= .returned (.int .i64 i))∧w'=w:=by
 obtain⟨g,off,rfl,_,hc⟩:=h (fun h0=>by rw[h0] at hx;cases hx);have HC:=aa hc;have HX:=aa hx;clear h hc hx;go_enter Tryz.func235,Tryz.ntmps235;go_wp2_with fail;go_loopw [8] (fun i wr=>∃ j:Nat,j≤l.length∧i= .int .i64 j∧(∀ q,q<j→l.getD q 0≠x)∧wr=w) (fun i _=>(l.length - intOf i).toNat)
 case atStart=>exact⟨0,Nat.zero_le _,rfl,fun q hq=>aj,rfl⟩
 case round=>
  obtain⟨j,hj,rfl,hn,rfl⟩:=hrel;by_cases h2:j<l.length
  ·have Q8:(j:Int)<l.length:=by omega
   have c1:wr.cell? ⟨g,off+j,none⟩=some (.int .i64 (l[j]:Int)):=HC.o j h2;obtain⟨y,hy⟩:=ae (l[j]);rw[hy] at c1;have HN:=aa hn;have HY:=aa (show l.getD j 0=y by rw[←hy];simp[h2]);clear hn hy;by_cases R6:x=y
   ·have hb:((x:Int)==(y:Int))=true:=by rw[R6];simp
    clear R6;go_wp2_with fail;go_ret;exact⟨⟨j,rfl⟩,rfl⟩
   have hb:((x:Int)==(y:Int))=false:=II;have HXY:=aa R6;clear R6;go_wp2_with fail;go_roundw
   case rel=>
    refine⟨j+1,aj,by go_num,fun q hq=>?_,xG⟩;rcases Nat.lt_or_ge q j with h|h
    ·exact HN.o q h
    have h5:q=j:=aj;rw[h5,HY.o];exact fun e=>HXY.o e.symm
   case measure=>simp[intOf];omega
  exfalso;obtain⟨q,hq,he⟩:=List.getElem_of_mem HX.o;exact hn q aj (by simp[hq,he])
theorem qN(A:Option Addr)(c x:Nat)(l:List Nat)(w:World)(h:Nts w A l)(hx:x∈l)(hl:l.length≤1000): Calls af 132 #[.slice A l.length c,.int .i64 (x:Int)] w fun e w'=>e= .returned (.bool true)∧w'=w:=by
 have HI:=aa (Rz A c x l w h hx hl);clear h hx;go_enter Tryz.func132,Tryz.ntmps132;go_wp2_with fail;refine HI.o.mono ?_;rintro e wq ⟨⟨i,rfl⟩,vY⟩;rw[vY];clear vY wq;have h0:decide ((0:Int)≤(i:Int))=true:=zU;go_wp2_with fail;go_ret;exact⟨rfl,rfl⟩
theorem Zz(q:Rq)(w:World): Calls af 137 #[.agg (cZ q)] w fun e w'=>e= .returned (.bool (q.id==0))∧Below w.heap.size w w':=by
 obtain⟨xq,iO⟩:=ae w.heap.size;obtain⟨w1,aZ⟩:=ae (w.alloc (.cells (cZ q) 41));have hA:=aK aZ iO;have c2:w1.cell? ⟨xq,2,none⟩=some (.int .u32 q.id):=hA.cell 2;have HB:=aa (aL aZ);clear hA;go_enter Tryz.func137,Tryz.ntmps137;go_wp2_with fail;go_ret;exact⟨rfl,HB.o⟩
theorem P'(q:Rq)(w:World): Calls af 142 #[.agg (cZ q)] w fun e w'=>e= .returned (.bool (q.aw==0))∧Below w.heap.size w w':=by
 obtain⟨xq,iO⟩:=ae w.heap.size;obtain⟨w1,aZ⟩:=ae (w.alloc (.cells (cZ q) 41));have hA:=aK aZ iO;have c2:w1.cell? ⟨xq,3,none⟩=some (.int .i64 q.aw):=hA.cell 3;have HB:=aa (aL aZ);clear hA;go_enter Tryz.func142,Tryz.ntmps142;go_wp2_with fail;go_ret;exact⟨rfl,HB.o⟩
theorem SB(q:Rq)(w:World): Calls af 147 #[.agg (cZ q)] w fun e w'=>e= .returned (.bool (q.bT==0))∧Below w.heap.size w w':=by
 obtain⟨xq,iO⟩:=ae w.heap.size;obtain⟨w1,aZ⟩:=ae (w.alloc (.cells (cZ q) 41));have hA:=aK aZ iO;have c2:w1.cell? ⟨xq,4,none⟩=some (.int .i64 q.bT):=hA.cell 4;have HB:=aa (aL aZ);clear hA;go_enter Tryz.func147,Tryz.ntmps147;go_wp2_with fail;go_ret;exact⟨rfl,HB.o⟩
structure zv(q:Rq): Prop where
 ay:jr q.ay=true
 aw:0≤q.aw∧q.aw≤65535
 bT:0≤q.bT
 idf:q.id=0∨0∈cz q.ay
 IV:q.aw=0∨1∈cz q.ay
 SY:q.bT=0∨2∈cz q.ay
theorem uQ: (af.info? 160).map (·.size)=some 3:=br
theorem aeH(W:World): (mI 161 (.agg gp) (.int .i64 0)).run af W= .ok (.agg #[.func (.func 134) #[] #[],.func (.func 135) #[] #[],.func (.func 137) #[] #[]]) W:=br
theorem aeG(W:World): (mI 161 (.agg gp) (.int .i64 1)).run af W= .ok (.agg #[.func (.func 138) #[] #[],.func (.func 140) #[] #[],.func (.func 142) #[] #[]]) W:=br
theorem aeF(W:World): (mI 161 (.agg gp) (.int .i64 2)).run af W= .ok (.agg #[.func (.func 143) #[] #[],.func (.func 145) #[] #[],.func (.func 147) #[] #[]]) W:=br
theorem jT(q:Rq)(w:World)(h:zv q): Calls af 57 #[.agg (cZ q)] w fun e w'=>e= .returned (.int .i64 0)∧Below w.heap.size w w':=by
 obtain⟨xq,iO⟩:=ae w.heap.size;obtain⟨w1,aZ⟩:=ae (w.alloc (.cells (cZ q) 41));have dz:=aa (aK aZ iO);have bz:=aa (aL aZ);have c0:w1.cell? ⟨xq,0,none⟩=some (.int .i64 q.ay):=dz.o.cell 0;have HQ:=aa h;clear h;go_enter Tryz.func57,Tryz.ntmps57;go_wp2_with fail;refine(FE q.ay w1).mono ?_;rintro e w2 ⟨A,rfl,hG,hb2⟩;have Hy:=HQ.o.ay;have Sq:=aa (show Nts w2 A (cz q.ay)from fun hne=>by
  obtain⟨g,h1,_,h3⟩:=hG hne;refine⟨g,0,h1,h3.lt,fun i hi=>?_⟩;rw[Nat.zero_add,h3.cell i];simp[j9,hi])
 have iZ:=dz.js hb2;have cu:=bz.dP hb2;clear hG hb2 c0;have c3:w2.cell? ⟨xq,3,none⟩=some (.int .i64 q.aw):=iZ.o.cell 3;have c4:w2.cell? ⟨xq,4,none⟩=some (.int .i64 q.bT):=iZ.o.cell 4;have s1:decide (q.aw<0)=false:=decide_eq_false (by have:=HQ.o.aw;omega);have s2:decide ((65535:Int)<q.aw)=false:=decide_eq_false (by have:=HQ.o.aw;omega);have s3:decide (q.bT<0)=false:=decide_eq_false (by have:=HQ.o.bT;omega);go_wp2_with fail;refine(yf w2).mono ?_;rintro e w3 ⟨rfl,hb3⟩;have HN3:=aa (Sq.o.ai hb3);have pB:=iZ.js hb3;have dV:=cu.dP hb3;have HLN:=aa (B0 q.ay);clear hb3 c3 c4 s1 s2 s3 Sq iZ;go_wp2_with fail;go_loopw [31] (fun i wr=>∃ j:Nat,j≤3∧i= .int .i64 j∧Nts wr A (cz q.ay)∧aG wr xq 41 (cZ q)∧Below w.heap.size w wr) (fun i _=>(3 - intOf i).toNat)
 case atStart=>exact⟨0,aj,rfl,HN3.o,pB.o,dV.o⟩
 case round=>
  obtain⟨j,hj,rfl,hn,ha,hb⟩:=hrel;have HNr:=aa hn;have Zx:=aa ha;have HBr:=aa hb;clear hn ha hb;obtain⟨xb,zm⟩:=ae wr.heap.size;obtain⟨w4,hw4⟩:=ae (wr.alloc (.cells #[.nilFunc,.nilFunc,.nilFunc] 160));have pA:=aa (aK hw4 zm);have gH:=aa (aL hw4);have qK:=aa zm;rcases(show j=0∨j=1∨j=2∨j=3 from aj)with rfl|rfl|rfl|rfl
  ·have ix:=aeH wr;go_wp2_with (first|(refine ah rfl 160 _ _ rfl xb 160 _ #[.func (.func 134) #[] #[],.func (.func 135) #[] #[],.func (.func 137) #[] #[]] pA.o rfl rfl rfl uQ eB ?_;intro w5 fX ft hs5;have eA:=aa (show Below wr.heap.size wr w5 from bn gH.o ft (pn qK.o));have c5:w5.cell? ⟨xb,2,none⟩=some (.func (.func 137) #[] #[]):=fX.cell 2;have HAq:=aa (Zx.o.ai eA.o);clear fX ft hs5)|(refine aC rfl 41 (.tmp 1) rfl xq 41 _ HAq.o rfl _ cA rfl aH ?_));refine(Zz q w5).mono ?_;rintro e w6 ⟨rfl,mY⟩;have ij:=eA.dP mY;have Yx:=aa (Zx.o.ai ij.o);have KU:=aa (HNr.o.ai ij.o);clear mY c5 ix;by_cases hz:q.id=0
   ·have hz1:(q.id==0)=true:=by rw[hz];rfl
    clear hz;exact ab8
   have hz1:(q.id==0)=false:=beq_eq_false_iff_ne.2 hz;have hm:0∈cz q.ay:=HQ.o.idf.resolve_left hz;have HCY:=aa (qN A (cz q.ay).length 0 (cz q.ay) w6 KU.o hm (by have:=HLN.o;omega));clear hz hm;go_wp2_with fail;refine ag HCY.o ?_;exact ab8
  ·have ix:=aeG wr;go_wp2_with (first|(refine ah rfl 160 _ _ rfl xb 160 _ #[.func (.func 138) #[] #[],.func (.func 140) #[] #[],.func (.func 142) #[] #[]] pA.o rfl rfl rfl uQ eB ?_;intro w5 fX ft hs5;have eA:=aa (show Below wr.heap.size wr w5 from bn gH.o ft (pn qK.o));have c5:w5.cell? ⟨xb,2,none⟩=some (.func (.func 142) #[] #[]):=fX.cell 2;have HAq:=aa (Zx.o.ai eA.o);clear fX ft hs5)|(refine aC rfl 41 (.tmp 1) rfl xq 41 _ HAq.o rfl _ cA rfl aH ?_));refine(P' q w5).mono ?_;rintro e w6 ⟨rfl,mY⟩;have ij:=eA.dP mY;have Yx:=aa (Zx.o.ai ij.o);have KU:=aa (HNr.o.ai ij.o);clear mY c5 ix;by_cases hz:q.aw=0
   ·have hz1:(q.aw==0)=true:=by rw[hz];rfl
    clear hz;exact ab7
   have hz1:(q.aw==0)=false:=beq_eq_false_iff_ne.2 hz;have hm:1∈cz q.ay:=HQ.o.IV.resolve_left hz;have HCY:=aa (qN A (cz q.ay).length 1 (cz q.ay) w6 KU.o hm (by have:=HLN.o;omega));clear hz hm;go_wp2_with fail;refine ag HCY.o ?_;exact ab7
  ·have ix:=aeF wr;go_wp2_with (first|(refine ah rfl 160 _ _ rfl xb 160 _ #[.func (.func 143) #[] #[],.func (.func 145) #[] #[],.func (.func 147) #[] #[]] pA.o rfl rfl rfl uQ eB ?_;intro w5 fX ft hs5;have eA:=aa (show Below wr.heap.size wr w5 from bn gH.o ft (pn qK.o));have c5:w5.cell? ⟨xb,2,none⟩=some (.func (.func 147) #[] #[]):=fX.cell 2;have HAq:=aa (Zx.o.ai eA.o);clear fX ft hs5)|(refine aC rfl 41 (.tmp 1) rfl xq 41 _ HAq.o rfl _ cA rfl aH ?_));refine(SB q w5).mono ?_;rintro e w6 ⟨rfl,mY⟩;have ij:=eA.dP mY;have Yx:=aa (Zx.o.ai ij.o);have KU:=aa (HNr.o.ai ij.o);clear mY c5 ix;by_cases hz:q.bT=0
   ·have hz1:(q.bT==0)=true:=by rw[hz];rfl
    clear hz;exact ab6
   have hz1:(q.bT==0)=false:=beq_eq_false_iff_ne.2 hz;have hm:2∈cz q.ay:=HQ.o.SY.resolve_left hz;have HCY:=aa (qN A (cz q.ay).length 2 (cz q.ay) w6 KU.o hm (by have:=HLN.o;omega));clear hz hm;go_wp2_with fail;refine ag HCY.o ?_;exact ab6
  go_wp2_with fail;go_ret;exact⟨rfl,HBr.o⟩
