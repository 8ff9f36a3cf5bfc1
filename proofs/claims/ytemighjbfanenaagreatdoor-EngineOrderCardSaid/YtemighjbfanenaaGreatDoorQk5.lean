import Derived.Test.YtemighjbfanenaaGreatDoorQk3
import Derived.Test.YtemighjbfanenaaGreatDoorQk4
set_option linter.all false
set_option maxRecDepth 100000
set_option maxHeartbeats 16000000
namespace Go.Proofs.YtemighjbfanenaaGreatDoor
open RowKit
open Go.Instr renaming index→mN
open Go.Proofs.Tryz renaming results63→YF,prog→af,underlying41→cD
open Go.Value renaming oneCell'→fY
open Nat renaming le_of_eq→po
theorem U4{p:Prop}(h:p:=by
 go_wp2_with (refine aj rfl 41 (.tmp 2) _ rfl xr 41 _ (cS Rq.zero) uj.o rfl rfl rfl aH KZ ?_;intro wz gK eM hsz;have kY:=aa gK;have iF:=aa eM;clear gK eM hsz);refine bodyPost_ret (results_cell_tmp YF _ iI (aL 41 kY.o _ cD rfl aH)) rfl ⟨by rw[HV.o];rfl,br kS.o iF.o aiz.o⟩):p:=h
theorem U2{p:Prop}(h:p:=by
 go_wp2_with fail;refine HF.o.mono ?_;rintro e wn ⟨⟨u,rfl⟩,h1,ht⟩;have ze:=aa (F7.o wn h1 ht);clear h1 ht c1 v0 v1 v2;go_wp2_with fail;go_roundw
 case rel=>exact⟨j+1,ai,by go_num,ze.o⟩
 case measure=>simp[intOf];omega):p:=h
theorem ab0{p:Prop}(h:p:=by
 go_wp2_with fail;go_roundw
 case rel=>exact⟨0+1,ai,by go_num,KB.o,Yq.o,av HBr.o iL.o⟩
 case measure=>simp[intOf]):p:=h
theorem abZ{p:Prop}(h:p:=by
 go_wp2_with fail;go_roundw
 case rel=>exact⟨1+1,ai,by go_num,KB.o,Yq.o,av HBr.o iL.o⟩
 case measure=>simp[intOf]):p:=h
theorem abY{p:Prop}(h:p:=by
 go_wp2_with fail;go_roundw
 case rel=>exact⟨2+1,ai,by go_num,KB.o,Yq.o,av HBr.o iL.o⟩
 case measure=>simp[intOf]):p:=h
theorem et{p:Prop}(h:p:=by simp[fY]):p:=h
theorem Ii{p:Prop}(h:p:=by rw[beq_eq_false_iff_ne];omega):p:=h
theorem AH{p:Prop}(h:p:=by have:=HPQ.o;have:=pd.o;omega):p:=h
theorem Ap{p:Prop}(h:p:=by have:=HPQ.o;omega):p:=h
theorem KZ{p:Prop}(h:p:=by simp[cS,fY]):p:=h
section
namespace En
open Oc (le val Bs qV ru yM jV oM tk vX gD zD rE qc lz)
def NV(b:By): Rq × By × Int:=(⟨val (tk b 0 1).1,val (tk (tk b 0 1).2.1 (tk b 0 1).2.2 4).1,0,0,0⟩,(tk (tk b 0 1).2.1 (tk b 0 1).2.2 4).2.1,(tk (tk b 0 1).2.1 (tk b 0 1).2.2 4).2.2)
def iP(l:List Nat)(st:Rq × By × Int): Rq × By × Int:=l.foldl (fun s f=>Qj f s) st
def kv(b:By): Rq × By × Int:=iP (cC (NV b).1.ax) (NV b)
def Rq.zero: Rq:=⟨0,0,0,0,0⟩
def bK(b:By): Rq × Int:=if jt (NV b).1.ax=true∧rE (kv b).2.1 (kv b).2.2=0∧0≤(kv b).1.bV then((kv b).1,0)else(Rq.zero,200)
def afu(b:By)(w:World)(e:Ending)(w':World): Prop:=e= .returned (.tuple #[.agg (cS (bK b).1),.int .i64 (bK b).2])∧Below w.heap.size w w'
theorem aH: (af.info? 41).map (·.size)=some 5:=bh
theorem Iw(l:List Nat)(st:Rq × By × Int){j:Nat}(h:j<l.length): iP (l.take (j+1)) st=Qj l[j] (iP (l.take j) st):=by
 unfold iP;rw[List.take_add_one,List.getElem?_eq_getElem h,List.foldl_append];rfl
theorem OM(k:Int): ∀ f∈cC k,f=0∨f=1∨f=2:=by
 intro f hf;unfold cC at hf;repeat(split at hf;· simp at hf;omega)
 simp at hf
theorem Bx(k:Int): (cC k).length≤2:=by
 unfold cC;repeat(split;· simp)
 simp
theorem yA(l:List Nat): ∀ st:Rq × By × Int,(iP l st).1.ax=st.1.ax:=by
 induction l with
 | nil=>intro st;rfl
 | cons f r ih=>
  intro st;have h3:iP (f::r) st=iP r (Qj f st):=by unfold iP;rw[List.foldl_cons]
  rw[h3,ih (Qj f st),Ul]
theorem Xo(b:By)(A:Option Addr)(c:Nat)(w:World)(hB:Bs w A b)(hA:qV A)(hl:b.length≤70368744177664): Calls af 63 #[.slice A b.length c] w (afu b w):=by
 obtain⟨xr,nZ⟩:=ae w.heap.size;obtain⟨w1,a8⟩:=ae (w.alloc (.cells #[.int .i64 0,.int .u32 0,.int .u32 0,.int .i64 0,.int .i64 0] 41));have wI:=aa (show aG w1 xr 41 (cS Rq.zero)by rw[←a8,←nZ];exact aG.fresh w _ _);have hb1:=aK a8;have bA:=aa hb1;have pd:=aa nZ;have Cc:=aa (yM b A c w1 (hB.ah hb1) hA hl);obtain⟨k,hk⟩:=ae (val (tk b 0 1).1:Nat);have hk2:k<256:=by rw[←hk];exact lz (qc b 0 1)
 have hkw:IntKind.i64.wrap (k:Int)=(k:Int):=E4;obtain⟨b1,e1,aam⟩: ∃ b1 e1,(tk b 0 1).2=(b1,e1):=⟨_,_,rfl⟩;obtain⟨tg,L5⟩:=ae (val (tk b1 e1 4).1:Nat);obtain⟨b2,e2,Mh⟩: ∃ b2 e2,(tk b1 e1 4).2=(b2,e2):=⟨_,_,rfl⟩;have VP:NV b=(⟨k,tg,0,0,0⟩,b2,e2):=by unfold NV;rw[aam,hk,L5];show(_,(tk b1 e1 4).2.1,(tk b1 e1 4).2.2)=_;rw[Mh]
 have HQ0:=aa VP;have Zc:=aa (show val (tk b 0 1).1=k∧(tk b 0 1).2.1=b1∧(tk b 0 1).2.2=e1∧val (tk b1 e1 4).1=tg∧(tk b1 e1 4).2.1=b2∧(tk b1 e1 4).2.2=e2 from⟨hk,by rw[aam],by rw[aam],L5,by rw[Mh],by rw[Mh]⟩);clear hB hA hl hb1 VP hk2 hk aam L5 Mh;go_enter Tryz.func63,Tryz.ntmps63;go_wp2_with fail;refine Cc.o.mono ?_;rintro e w2 ⟨p,qq,rfl,fE,hp,hq,hb2⟩;have oc:=wI.jC hb2;have cu:=bA.dQ hb2;have HPQ:=aa (show xr<p∧xr<qq by have:=wI.o.lt;omega);have HBY:=aa (vX p qq b 0 w2 fE);clear fE hp hq hb2 Cc wI;go_wp2_with fail;refine HBY.o.mono ?_;rintro e w3 ⟨rfl,fE,ht⟩;rw[Zc.o.2.1,Zc.o.2.2.1] at fE;rw[Zc.o.1];have HFO:=aa (gD p qq b1 e1 w3 fE);have iu:=aa (ht.arr oc.o Ap);have iJ:=aa ht;have dV:=aa (show Below w.heap.size w w3 from aI.fresh ht cu.o (fun j hj=>AH));clear fE ht HBY;go_wp2_with fail;refine HFO.o.mono ?_;rintro e w4 ⟨rfl,fE,ht⟩;rw[Zc.o.2.2.2.2.1,Zc.o.2.2.2.2.2] at fE;rw[Zc.o.2.2.2.1];have nV:=aa (ht.arr iu.o Ap);have gj:=aa (show Below w.heap.size w w4 from aI.fresh ht dV.o (fun j hj=>AH));have MS:=aa fE;clear fE ht HFO iJ;obtain⟨xq,il⟩:=ae w4.heap.size;obtain⟨w5,jD⟩:=ae (w4.alloc (.cells #[.int .i64 0,.int .u32 0,.int .u32 0,.int .i64 0,.int .i64 0] 41));have pj:=aa (aJ jD il);have eu:=aa (aK jD);have tj:=aa il;go_wp2_with (refine aj rfl 41 _ _ rfl xq 41 _ #[.int .i64 (k:Int),.int .u32 (tg:Int),.int .u32 0,.int .i64 0,.int .i64 0] pj.o rfl rfl rfl aH et ?_;intro w6 yG kr VO;have iL:=aa (show Below w4.heap.size w4 w6 from br eu.o kr (po tj.o));have KA:=aa yG;have y0:=KA.o.cell 0;clear yG kr VO);refine(Fi (k:Int) w6).mono ?_;rintro e w7 ⟨B,rfl,hG,su⟩;have HG:=aa hG;have nc:=iL.dQ su;have yP:=aa (KA.o.ah su);have ai0:=aa KA.o.lt;clear hG su y0 KA;go_wp2_with fail;refine(xT w7).mono ?_;rintro e w8 ⟨rfl,mY⟩;have ou:=nc.dQ mY;have HQ8:=aa (yP.o.ah mY);have HG8:=aa (show cC k≠ []→∃ g,B=some ⟨g,0,none⟩∧w6.heap.size≤g∧aG w8 g 3 (ke (cC k))from fun h=>by obtain⟨g,h1,h2,h3⟩:=HG.o h;exact⟨g,h1,h2,h3.ah mY⟩);clear mY yP HG;obtain⟨xf,ZZ⟩:=ae w8.heap.size;obtain⟨w9,jI⟩:=ae (w8.alloc (.cells #[.nilFunc,.nilFunc,.nilFunc,.nilFunc,.nilFunc,.nilFunc,.nilFunc,.nilFunc,.nilFunc] 161));have pA:=aa (aJ jI ZZ);have CF:=aa (aK jI);have HXF:=aa ZZ;go_wp2_with (refine aj rfl 161 _ _ rfl xf 161 _ gv pA.o rfl rfl rfl oI (by simp[gv,fY]) ?_;intro wa hAa Kq hsa;have Sg:=aa (show Below w8.heap.size w8 wa from br CF.o Kq (po HXF.o));have HFa:=aa hAa;clear hAa Kq hsa);have HI:=aa (show R3 wa p qq xq (NV b)from by
  rw[HQ0.o];have h1:=av ou.o Sg.o;exact⟨MS.o.ah h1,(HQ8.o).ah Sg.o,by obtain⟨A',c',a1,_⟩:=MS.o.rest.ex;have:=a1.lt;have:=MS.o.own.lt;have:=tj.o;omega⟩)
 have HRa:=aa (nV.o.ah (av ou.o Sg.o));have HGa:=aa (show cC k≠ []→∃ g,B=some ⟨g,0,none⟩∧w6.heap.size≤g∧aG wa g 3 (ke (cC k))from fun h=>by obtain⟨g,h1,h2,h3⟩:=HG8.o h;exact⟨g,h1,h2,h3.ah Sg.o⟩);have HBw:=aa (av gj.o (av ou.o Sg.o));have HN:=aa (show xr<qq∧qq<xq∧xr<xq∧xq<xf∧xq<w6.heap.size∧qq<xf∧w.heap.size≤xr from by
  obtain⟨A',c',a1,_⟩:=MS.o.rest.ex;have h1:=a1.lt;have h2:=HPQ.o;have h3:=tj.o;have h4:=HQ8.o.lt;have h5:=HXF.o;have h6:=iL.o.size;have h7:=pd.o;have h8:=pj.o.lt;have h9:=eu.o.size;have h10:=ou.o.size;have h11:=ai0.o;omega)
 have ahm:=Bx (k:Int);have HK:=aa (show(NV b).1.ax=(k:Int)by rw[HQ0.o]);clear HQ8 HG8 pA CF HXF ou Sg pj eu tj MS Zc gj dV cu oc iu nV HPQ ai0;go_loopw [28] (fun i wr=>∃ j:Nat,j≤(cC k).length∧i= .int .i64 j∧R3 wr p qq xq (iP ((cC k).take j) (NV b))∧aG wr xf 161 gv∧(cC k≠ []→∃ g,B=some ⟨g,0,none⟩∧w6.heap.size≤g∧aG wr g 3 (ke (cC k)))∧aG wr xr 41 (cS Rq.zero)∧Below w.heap.size w wr) (fun i _=>((cC k).length - intOf i).toNat)
 case atStart=>exact⟨0,Nat.zero_le _,rfl,HI.o,HFa.o,HGa.o,HRa.o,HBw.o⟩
 case round=>
  obtain⟨j,hj,rfl,hi,hf,hg,hr,hb⟩:=hrel;by_cases h2:j<(cC k).length
  ·obtain⟨g,hB',eM,Kq⟩:=hg (fun h0=>by rw[h0] at h2;simp at h2);subst hB';have Y9:(j:Int)<(cC k).length:=ai;obtain⟨f,Y4⟩:=ae ((cC k)[j]);have c1:wr.cell? ⟨g,j,none⟩=some (.int .i64 (f:Int)):=by rw[Kq.cell,←Y4];simp[ke,h2]
   have hfm:=OM k f (by rw[←Y4];exact List.getElem_mem h2);have HST:=aa (Iw (cC k) (NV b) h2);rw[Y4] at HST;have Sa:=aa hi;have MZ:=aa hf;have HGG:=aa Kq;have uj:=aa hr;have kS:=aa hb;have Yc:=aa eM;clear hi hf hg Kq hr hb eM;have F7:=aa (show ∀ W',R3 W' p qq xq (Qj f (iP ((cC k).take j) (NV b)))→aI (fun k=>k=qq∨k=xq) wr W'→R3 W' p qq xq (iP ((cC k).take (j+1)) (NV b))∧aG W' xf 161 gv∧(cC k≠ []→∃ g',some (⟨g,0,none⟩:Addr)=some ⟨g',0,none⟩∧w6.heap.size≤g'∧aG W' g' 3 (ke (cC k)))∧aG W' xr 41 (cS Rq.zero)∧Below w.heap.size w W' from fun W' h1 h2=>by
    have hn:=HN.o;have hz:=Yc.o;exact⟨by rw[HST.o];exact h1,h2.arr MZ.o ai,fun _=>⟨g,rfl,hz,h2.arr HGG.o ai⟩,h2.arr uj.o ai,aI.fresh h2 kS.o (fun j hj=>ai)⟩)
   have v0:wr.cell? ⟨xf,1,none⟩=some (.func (.func 135) #[] #[]):=MZ.o.cell 1;have v1:wr.cell? ⟨xf,4,none⟩=some (.func (.func 140) #[] #[]):=MZ.o.cell 4;have v2:wr.cell? ⟨xf,7,none⟩=some (.func (.func 145) #[] #[]):=MZ.o.cell 7;rcases hfm with rfl|rfl|rfl
   ·have HF:=aa (WJ p qq xq _ wr Sa.o);exact U2
   ·have HF:=aa (WI p qq xq _ wr Sa.o);exact U2
   have HF:=aa (WH p qq xq _ wr Sa.o);exact U2
  obtain rfl:j=(cC k).length:=ai;rw[List.take_length] at hi;have hi':R3 wr p qq xq (kv b):=by unfold kv;rw[HK.o];exact hi
  have hkq:(kv b).1.ax=(k:Int):=by unfold kv;rw[yA];exact HK.o
  obtain⟨st,hst⟩:=ae (kv b);have HGT:=aa (show bK b=if jt (k:Int)=true∧rE st.2.1 st.2.2=0∧0≤st.1.bV then(st.1,0)else(Rq.zero,200)by unfold bK;rw[HK.o,hst]);rw[hst] at hi';have Sa:=aa hi';have uj:=aa hr;have kS:=aa hb;clear hi hi' hf hg hr hb hst hkq;obtain⟨kd,DM⟩:=ae (jt (k:Int));have aiz:=aa (show w.heap.size≤xr from HN.o.2.2.2.2.2.2);cases kd
  ·have HV:=aa (show bK b=(Rq.zero,200)by rw[HGT.o,DM];simp);exact U4
  have HEN:=aa (zD p qq st.2.1 st.2.2 wr Sa.o.rd);go_wp2_with fail;refine ag HEN.o ?_;by_cases hee:rE st.2.1 st.2.2=0
  ·have t4:wr.cell? ⟨xq,4,none⟩=some (.int .i64 st.1.bV):=Sa.o.rq.cell 4;have HQR:=aa Sa.o.rq;by_cases htt:0≤st.1.bV
   ·have HV:=aa (show bK b=(st.1,0)by rw[HGT.o,if_pos ⟨DM,hee,htt⟩]);have h9: ¬st.1.bV<0:=ai;go_wp2_with (first|(refine aC rfl 41 (.tmp 5) rfl xq 41 _ HQR.o rfl _ cD rfl aH ?_)|(refine aj rfl 41 (.tmp 2) _ rfl xr 41 _ (cS st.1) uj.o rfl rfl rfl aH KZ ?_;intro wz gK eM hsz;have kY:=aa gK;have iF:=aa eM;clear gK eM hsz));refine bodyPost_ret (results_cell_tmp YF _ iI (aL 41 kY.o _ cD rfl aH)) rfl ⟨by rw[HV.o];rfl,br kS.o iF.o aiz.o⟩
   have HV:=aa (show bK b=(Rq.zero,200)by rw[HGT.o,if_neg (fun h=>htt h.2.2)]);have h9:st.1.bV<0:=ai;exact U4
  have HV:=aa (show bK b=(Rq.zero,200)by rw[HGT.o,if_neg (fun h=>hee h.2.1)]);have amr:(rE st.2.1 st.2.2==0)=false:=beq_eq_false_iff_ne.2 hee;exact U4
end En
end
section
namespace En
def Nts(w:World)(A:Option Addr)(l:List Nat): Prop:=l≠ []→∃ g off,A=some ⟨g,off,none⟩∧g<w.heap.size∧∀ i (h:i<l.length),w.cell? ⟨g,off+i,none⟩=some (.int .i64 (l[i]:Int))
theorem Nts.ah{w w':World}{A:Option Addr}{l:List Nat}(h:Nts w A l)(hb:Below w.heap.size w w'): Nts w' A l:=fun hne=>by
 obtain⟨g,off,h1,h2,h3⟩:=h hne;exact⟨g,off,h1,Nat.lt_of_lt_of_le h2 hb.size,fun i hi=>(hb.cell (p:=⟨g,off+i,none⟩) h2).trans (h3 i hi)⟩
theorem Rh(A:Option Addr)(c x:Nat)(l:List Nat)(w:World)(h:Nts w A l)(hx:x∈l)(hl:l.length≤1000): Calls af 235 #[.slice A l.length c,.int .i64 (x:Int)] w fun e w'=>(∃ i:Nat,e= .returned (.int .i64 i))∧w'=w:=by
 obtain⟨g,off,rfl,_,hc⟩:=h (fun h0=>by rw[h0] at hx;cases hx);have HC:=aa hc;have HX:=aa hx;clear h hc hx;go_enter Tryz.func235,Tryz.ntmps235;go_wp2_with fail;go_loopw [8] (fun i wr=>∃ j:Nat,j≤l.length∧i= .int .i64 j∧(∀ q,q<j→l.getD q 0≠x)∧wr=w) (fun i _=>(l.length - intOf i).toNat)
 case atStart=>exact⟨0,Nat.zero_le _,rfl,fun q hq=>ai,rfl⟩
 case round=>
  obtain⟨j,hj,rfl,hn,rfl⟩:=hrel;by_cases h2:j<l.length
  ·have Y9:(j:Int)<l.length:=by omega
   have c1:wr.cell? ⟨g,off+j,none⟩=some (.int .i64 (l[j]:Int)):=HC.o j h2;obtain⟨y,hy⟩:=ae (l[j]);rw[hy] at c1;have HN:=aa hn;have HY:=aa (show l.getD j 0=y by rw[←hy];simp[h2]);clear hn hy;by_cases RR:x=y
   ·have hb:((x:Int)==(y:Int))=true:=by rw[RR];simp
    clear RR;go_wp2_with fail;go_ret;exact⟨⟨j,rfl⟩,rfl⟩
   have hb:((x:Int)==(y:Int))=false:=Ii;have HXY:=aa RR;clear RR;go_wp2_with fail;go_roundw
   case rel=>
    refine⟨j+1,ai,by go_num,fun q hq=>?_,xm⟩;rcases Nat.lt_or_ge q j with h|h
    ·exact HN.o q h
    have h5:q=j:=ai;rw[h5,HY.o];exact fun e=>HXY.o e.symm
   case measure=>simp[intOf];omega
  exfalso;obtain⟨q,hq,he⟩:=List.getElem_of_mem HX.o;exact hn q ai (by simp[hq,he])
theorem qI(A:Option Addr)(c x:Nat)(l:List Nat)(w:World)(h:Nts w A l)(hx:x∈l)(hl:l.length≤1000): Calls af 132 #[.slice A l.length c,.int .i64 (x:Int)] w fun e w'=>e= .returned (.bool true)∧w'=w:=by
 have HI:=aa (Rh A c x l w h hx hl);clear h hx;go_enter Tryz.func132,Tryz.ntmps132;go_wp2_with fail;refine HI.o.mono ?_;rintro e wq ⟨⟨i,rfl⟩,vO⟩;rw[vO];clear vO wq;have h0:decide ((0:Int)≤(i:Int))=true:=zA;go_wp2_with fail;go_ret;exact⟨rfl,rfl⟩
theorem Zq(q:Rq)(w:World): Calls af 137 #[.agg (cS q)] w fun e w'=>e= .returned (.bool (q.id==0))∧Below w.heap.size w w':=by
 obtain⟨xq,il⟩:=ae w.heap.size;obtain⟨w1,a8⟩:=ae (w.alloc (.cells (cS q) 41));have hA:=aJ a8 il;have c2:w1.cell? ⟨xq,2,none⟩=some (.int .u32 q.id):=hA.cell 2;have HB:=aa (aK a8);clear hA;go_enter Tryz.func137,Tryz.ntmps137;go_wp2_with fail;go_ret;exact⟨rfl,HB.o⟩
theorem PY(q:Rq)(w:World): Calls af 142 #[.agg (cS q)] w fun e w'=>e= .returned (.bool (q.aw==0))∧Below w.heap.size w w':=by
 obtain⟨xq,il⟩:=ae w.heap.size;obtain⟨w1,a8⟩:=ae (w.alloc (.cells (cS q) 41));have hA:=aJ a8 il;have c2:w1.cell? ⟨xq,3,none⟩=some (.int .i64 q.aw):=hA.cell 3;have HB:=aa (aK a8);clear hA;go_enter Tryz.func142,Tryz.ntmps142;go_wp2_with fail;go_ret;exact⟨rfl,HB.o⟩
theorem Sk(q:Rq)(w:World): Calls af 147 #[.agg (cS q)] w fun e w'=>e= .returned (.bool (q.bV==0))∧Below w.heap.size w w':=by
 obtain⟨xq,il⟩:=ae w.heap.size;obtain⟨w1,a8⟩:=ae (w.alloc (.cells (cS q) 41));have hA:=aJ a8 il;have c2:w1.cell? ⟨xq,4,none⟩=some (.int .i64 q.bV):=hA.cell 4;have HB:=aa (aK a8);clear hA;go_enter Tryz.func147,Tryz.ntmps147;go_wp2_with fail;go_ret;exact⟨rfl,HB.o⟩
structure zb(q:Rq): Prop where
 ax:jt q.ax=true
 aw:0≤q.aw∧q.aw≤65535
 bV:0≤q.bV
 idf:q.id=0∨0∈cC q.ax
 Iu:q.aw=0∨1∈cC q.ax
 SI:q.bV=0∨2∈cC q.ax
theorem uM: (af.info? 160).map (·.size)=some 3:=bh
theorem aew(W:World): (mN 161 (.agg gv) (.int .i64 0)).run af W= .ok (.agg #[.func (.func 134) #[] #[],.func (.func 135) #[] #[],.func (.func 137) #[] #[]]) W:=bh
theorem aev(W:World): (mN 161 (.agg gv) (.int .i64 1)).run af W= .ok (.agg #[.func (.func 138) #[] #[],.func (.func 140) #[] #[],.func (.func 142) #[] #[]]) W:=bh
theorem aeu(W:World): (mN 161 (.agg gv) (.int .i64 2)).run af W= .ok (.agg #[.func (.func 143) #[] #[],.func (.func 145) #[] #[],.func (.func 147) #[] #[]]) W:=bh
theorem jU(q:Rq)(w:World)(h:zb q): Calls af 57 #[.agg (cS q)] w fun e w'=>e= .returned (.int .i64 0)∧Below w.heap.size w w':=by
 obtain⟨xq,il⟩:=ae w.heap.size;obtain⟨w1,a8⟩:=ae (w.alloc (.cells (cS q) 41));have dF:=aa (aJ a8 il);have bA:=aa (aK a8);have c0:w1.cell? ⟨xq,0,none⟩=some (.int .i64 q.ax):=dF.o.cell 0;have HQ:=aa h;clear h;go_enter Tryz.func57,Tryz.ntmps57;go_wp2_with fail;refine(Fi q.ax w1).mono ?_;rintro e w2 ⟨A,rfl,hG,hb2⟩;have DM:=HQ.o.ax;have Pj:=aa (show Nts w2 A (cC q.ax)from fun hne=>by
  obtain⟨g,h1,_,h3⟩:=hG hne;refine⟨g,0,h1,h3.lt,fun i hi=>?_⟩;rw[Nat.zero_add,h3.cell i];simp[ke,hi])
 have jB:=dF.jC hb2;have cu:=bA.dQ hb2;clear hG hb2 c0;have c3:w2.cell? ⟨xq,3,none⟩=some (.int .i64 q.aw):=jB.o.cell 3;have c4:w2.cell? ⟨xq,4,none⟩=some (.int .i64 q.bV):=jB.o.cell 4;have s1:decide (q.aw<0)=false:=decide_eq_false (by have:=HQ.o.aw;omega);have s2:decide ((65535:Int)<q.aw)=false:=decide_eq_false (by have:=HQ.o.aw;omega);have s3:decide (q.bV<0)=false:=decide_eq_false (by have:=HQ.o.bV;omega);go_wp2_with fail;refine(xT w2).mono ?_;rintro e w3 ⟨rfl,hb3⟩;have HN3:=aa (Pj.o.ah hb3);have pC:=jB.jC hb3;have dV:=cu.dQ hb3;have HLN:=aa (Bx q.ax);clear hb3 c3 c4 s1 s2 s3 Pj jB;go_wp2_with fail;go_loopw [31] (fun i wr=>∃ j:Nat,j≤3∧i= .int .i64 j∧Nts wr A (cC q.ax)∧aG wr xq 41 (cS q)∧Below w.heap.size w wr) (fun i _=>(3 - intOf i).toNat)
 case atStart=>exact⟨0,ai,rfl,HN3.o,pC.o,dV.o⟩
 case round=>
  obtain⟨j,hj,rfl,hn,ha,hb⟩:=hrel;have HNr:=aa hn;have Zn:=aa ha;have HBr:=aa hb;clear hn ha hb;obtain⟨xb,yX⟩:=ae wr.heap.size;obtain⟨w4,hw4⟩:=ae (wr.alloc (.cells #[.nilFunc,.nilFunc,.nilFunc] 160));have pB:=aa (aJ hw4 yX);have gj:=aa (aK hw4);have qF:=aa yX;rcases(show j=0∨j=1∨j=2∨j=3 from ai)with rfl|rfl|rfl|rfl
  ·have ix:=aew wr;go_wp2_with (first|(refine aj rfl 160 _ _ rfl xb 160 _ #[.func (.func 134) #[] #[],.func (.func 135) #[] #[],.func (.func 137) #[] #[]] pB.o rfl rfl rfl uM et ?_;intro w5 gB fF hs5;have eu:=aa (show Below wr.heap.size wr w5 from br gj.o fF (po qF.o));have c5:w5.cell? ⟨xb,2,none⟩=some (.func (.func 137) #[] #[]):=gB.cell 2;have HAq:=aa (Zn.o.ah eu.o);clear gB fF hs5)|(refine aC rfl 41 (.tmp 1) rfl xq 41 _ HAq.o rfl _ cD rfl aH ?_));refine(Zq q w5).mono ?_;rintro e w6 ⟨rfl,mZ⟩;have iL:=eu.dQ mZ;have Yq:=aa (Zn.o.ah iL.o);have KB:=aa (HNr.o.ah iL.o);clear mZ c5 ix;by_cases hz:q.id=0
   ·have hz1:(q.id==0)=true:=by rw[hz];rfl
    clear hz;exact ab0
   have hz1:(q.id==0)=false:=beq_eq_false_iff_ne.2 hz;have hm:0∈cC q.ax:=HQ.o.idf.resolve_left hz;have HCY:=aa (qI A (cC q.ax).length 0 (cC q.ax) w6 KB.o hm (by have:=HLN.o;omega));clear hz hm;go_wp2_with fail;refine ag HCY.o ?_;exact ab0
  ·have ix:=aev wr;go_wp2_with (first|(refine aj rfl 160 _ _ rfl xb 160 _ #[.func (.func 138) #[] #[],.func (.func 140) #[] #[],.func (.func 142) #[] #[]] pB.o rfl rfl rfl uM et ?_;intro w5 gB fF hs5;have eu:=aa (show Below wr.heap.size wr w5 from br gj.o fF (po qF.o));have c5:w5.cell? ⟨xb,2,none⟩=some (.func (.func 142) #[] #[]):=gB.cell 2;have HAq:=aa (Zn.o.ah eu.o);clear gB fF hs5)|(refine aC rfl 41 (.tmp 1) rfl xq 41 _ HAq.o rfl _ cD rfl aH ?_));refine(PY q w5).mono ?_;rintro e w6 ⟨rfl,mZ⟩;have iL:=eu.dQ mZ;have Yq:=aa (Zn.o.ah iL.o);have KB:=aa (HNr.o.ah iL.o);clear mZ c5 ix;by_cases hz:q.aw=0
   ·have hz1:(q.aw==0)=true:=by rw[hz];rfl
    clear hz;exact abZ
   have hz1:(q.aw==0)=false:=beq_eq_false_iff_ne.2 hz;have hm:1∈cC q.ax:=HQ.o.Iu.resolve_left hz;have HCY:=aa (qI A (cC q.ax).length 1 (cC q.ax) w6 KB.o hm (by have:=HLN.o;omega));clear hz hm;go_wp2_with fail;refine ag HCY.o ?_;exact abZ
  ·have ix:=aeu wr;go_wp2_with (first|(refine aj rfl 160 _ _ rfl xb 160 _ #[.func (.func 143) #[] #[],.func (.func 145) #[] #[],.func (.func 147) #[] #[]] pB.o rfl rfl rfl uM et ?_;intro w5 gB fF hs5;have eu:=aa (show Below wr.heap.size wr w5 from br gj.o fF (po qF.o));have c5:w5.cell? ⟨xb,2,none⟩=some (.func (.func 147) #[] #[]):=gB.cell 2;have HAq:=aa (Zn.o.ah eu.o);clear gB fF hs5)|(refine aC rfl 41 (.tmp 1) rfl xq 41 _ HAq.o rfl _ cD rfl aH ?_));refine(Sk q w5).mono ?_;rintro e w6 ⟨rfl,mZ⟩;have iL:=eu.dQ mZ;have Yq:=aa (Zn.o.ah iL.o);have KB:=aa (HNr.o.ah iL.o);clear mZ c5 ix;by_cases hz:q.bV=0
   ·have hz1:(q.bV==0)=true:=by rw[hz];rfl
    clear hz;exact abY
   have hz1:(q.bV==0)=false:=beq_eq_false_iff_ne.2 hz;have hm:2∈cC q.ax:=HQ.o.SI.resolve_left hz;have HCY:=aa (qI A (cC q.ax).length 2 (cC q.ax) w6 KB.o hm (by have:=HLN.o;omega));clear hz hm;go_wp2_with fail;refine ag HCY.o ?_;exact abY
  go_wp2_with fail;go_ret;exact⟨rfl,HBr.o⟩
