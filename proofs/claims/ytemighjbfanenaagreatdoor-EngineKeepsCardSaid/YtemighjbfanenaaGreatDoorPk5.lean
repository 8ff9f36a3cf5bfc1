import Derived.Test.YtemighjbfanenaaGreatDoorPk3
import Derived.Test.YtemighjbfanenaaGreatDoorPk4
import Derived.Test.YtemighjbfanenaaGreatDoorPk24
set_option linter.all false
set_option maxRecDepth 100000
set_option maxHeartbeats 16000000
namespace Go.Proofs.YtemighjbfanenaaGreatDoor
open RowKit
open Oc (Bs sI EH Kr PS jQ lH rf sx le rU tk p5 dX val ly)
open Go.Value renaming oneCell'→eA
open Tryz renaming prog→af,results63→ZV,underlying41→cq
theorem V6{p:Prop}(h:p:=by
 go_wp2_with (refine aj rfl 41 (.tmp 2) _ rfl xr 41 _ (dc Rq.zero) CQ.o rfl rfl rfl aF LF ?_;intro wz il eT hsz;have lI:=aa il;have iP:=aa eT;clear il eT hsz);refine bodyPost_ret (results_cell_tmp ZV _ iN (aI 41 lI.o _ cq rfl aF)) rfl ⟨by rw[HV.o];rfl,br jl.o iP.o ajT.o⟩):p:=h
theorem V4{p:Prop}(h:p:=by
 go_wp2_with fail;refine HF.o.mono ?_;rintro e wn ⟨⟨u,rfl⟩,h1,ht⟩;have Cf:=aa (GF.o wn h1 ht);clear h1 ht c1 v0 v1 v2;go_wp2_with fail;go_roundw
 case rel=>exact⟨j+1,ag,by go_num,Cf.o⟩
 case measure=>simp[intOf];omega):p:=h
theorem ie{p:Prop}(h:p:=by simp[eA]):p:=h
theorem Fi{p:Prop}(h:p:=by rw[h0] at h2;simp at h2):p:=h
theorem LF{p:Prop}(h:p:=by simp[dc,eA]):p:=h
section
namespace En
def OV(b:By): Rq × By × Int:=(⟨val (tk b 0 1).1,val (tk (tk b 0 1).2.1 (tk b 0 1).2.2 4).1,0,0,0⟩,(tk (tk b 0 1).2.1 (tk b 0 1).2.2 4).2.1,(tk (tk b 0 1).2.1 (tk b 0 1).2.2 4).2.2)
def iQ(l:List Nat)(st:Rq × By × Int): Rq × By × Int:=l.foldl (fun s f=>Q9 f s) st
def kD(b:By): Rq × By × Int:=iQ (cw (OV b).1.ax) (OV b)
def Rq.zero: Rq:=⟨0,0,0,0,0⟩
def bI(b:By): Rq × Int:=if jz (OV b).1.ax=true∧sx (kD b).2.1 (kD b).2.2=0∧0≤(kD b).1.bS then((kD b).1,0)else(Rq.zero,200)
def agJ(b:By)(w:World)(e:Ending)(w':World): Prop:=e= .returned (.tuple #[.agg (dc (bI b).1),.int .i64 (bI b).2])∧Below w.heap.size w w'
theorem aF: (af.info? 41).map (·.size)=some 5:=aW
theorem I4(l:List Nat)(st:Rq × By × Int){j:Nat}(h:j<l.length): iQ (l.take (j+1)) st=Q9 l[j] (iQ (l.take j) st):=by
 unfold iQ;rw[List.take_add_one,List.getElem?_eq_getElem h,List.foldl_append];rfl
theorem PE(k:Int): ∀ f∈cw k,f=0∨f=1∨f=2:=by
 intro f hf;unfold cw at hf;repeat(split at hf;· simp at hf;omega)
 simp at hf
theorem BK(k:Int): (cw k).length≤2:=by
 unfold cw;repeat(split;· simp)
 simp
theorem yB(l:List Nat): ∀ st:Rq × By × Int,(iQ l st).1.ax=st.1.ax:=by
 induction l with
 | nil=>intro st;rfl
 | cons f r ih=>
  intro st;have h3:iQ (f::r) st=iQ r (Q9 f st):=by unfold iQ;rw[List.foldl_cons]
  rw[h3,ih (Q9 f st),Vp]
theorem YA(b:By)(A:Option Addr)(c:Nat)(w:World)(hB:Bs w A b)(hA:rU A)(hl:b.length≤70368744177664): Calls af 63 #[.slice A b.length c] w (agJ b w):=by
 obtain⟨xr,oc⟩:=ae w.heap.size;obtain⟨w1,aX⟩:=ae (w.alloc (.cells #[.int .i64 0,.int .u32 0,.int .u32 0,.int .i64 0,.int .i64 0] 41));have EK:=aa (show aD w1 xr 41 (dc Rq.zero)by rw[←aX,←oc];exact aD.fresh w _ _);have hb1:=aJ aX;have bu:=aa hb1;have pS:=aa oc;have GD:=aa (EH b A c w1 (hB.keep hb1) hA hl);obtain⟨k,hk⟩:=ae (val (tk b 0 1).1:Nat);have hk2:k<256:=by rw[←hk];exact ly (p5 b 0 1)
 have hkw:IntKind.i64.wrap (k:Int)=(k:Int):=L6;obtain⟨b1,e1,aa7⟩: ∃ b1 e1,(tk b 0 1).2=(b1,e1):=⟨_,_,rfl⟩;obtain⟨tg,S7⟩:=ae (val (tk b1 e1 4).1:Nat);obtain⟨b2,e2,M8⟩: ∃ b2 e2,(tk b1 e1 4).2=(b2,e2):=⟨_,_,rfl⟩;have W6:OV b=(⟨k,tg,0,0,0⟩,b2,e2):=by unfold OV;rw[aa7,hk,S7];show(_,(tk b1 e1 4).2.1,(tk b1 e1 4).2.2)=_;rw[M8]
 have HQ0:=aa W6;have HTK:=aa (show val (tk b 0 1).1=k∧(tk b 0 1).2.1=b1∧(tk b 0 1).2.2=e1∧val (tk b1 e1 4).1=tg∧(tk b1 e1 4).2.1=b2∧(tk b1 e1 4).2.2=e2 from⟨hk,by rw[aa7],by rw[aa7],S7,by rw[M8],by rw[M8]⟩);clear hB hA hl hb1 W6 hk2 hk aa7 S7 M8;go_enter Tryz.func63,Tryz.ntmps63;go_wp2_with fail;refine GD.o.mono ?_;rintro e w2 ⟨p,qq,rfl,kX,hp,hq,hb2⟩;have pU:=EK.jS hb2;have cx:=bu.eo hb2;have HPQ:=aa (show xr<p∧xr<qq by have:=EK.o.lt;omega);have HBY:=aa (Kr p qq b 0 w2 kX);clear kX hp hq hb2 GD EK;go_wp2_with fail;refine HBY.o.mono ?_;rintro e w3 ⟨rfl,kX,ht⟩;rw[HTK.o.2.1,HTK.o.2.2.1] at kX;rw[HTK.o.1];have HFO:=aa (jQ p qq b1 e1 w3 kX);have iO:=aa (ht.arr pU.o (by have:=HPQ.o;omega));have jR:=aa ht;have ek:=aa (show Below w.heap.size w w3 from aG.fresh ht cx.o (fun j hj=>by have:=HPQ.o;have:=pS.o;omega));clear kX ht HBY;go_wp2_with fail;refine HFO.o.mono ?_;rintro e w4 ⟨rfl,kX,ht⟩;rw[HTK.o.2.2.2.2.1,HTK.o.2.2.2.2.2] at kX;rw[HTK.o.2.2.2.1];have oI:=aa (ht.arr iO.o (by have:=HPQ.o;omega));have gI:=aa (show Below w.heap.size w w4 from aG.fresh ht ek.o (fun j hj=>by have:=HPQ.o;have:=pS.o;omega));have NQ:=aa kX;clear kX ht HFO jR;obtain⟨xq,jw⟩:=ae w4.heap.size;obtain⟨w5,jK⟩:=ae (w4.alloc (.cells #[.int .i64 0,.int .u32 0,.int .u32 0,.int .i64 0,.int .i64 0] 41));have o6:=aa (aH jK jw);have eQ:=aa (aJ jK);have yM:=aa jw;go_wp2_with (refine aj rfl 41 _ _ rfl xq 41 _ #[.int .i64 (k:Int),.int .u32 (tg:Int),.int .u32 0,.int .i64 0,.int .i64 0] o6.o rfl rfl rfl aF ie ?_;intro w6 vt jG WZ;have jy:=aa (show Below w4.heap.size w4 w6 from br eQ.o jG (Nat.le_of_eq yM.o));have Lb:=aa vt;have y0:=Lb.o.cell 0;clear vt jG WZ);refine(FQ (k:Int) w6).mono ?_;rintro e w7 ⟨B,rfl,hG,pc⟩;have HG:=aa hG;have pj:=jy.eo pc;have Dv:=aa (Lb.o.keep pc);have akl:=aa Lb.o.lt;clear hG pc y0 Lb;go_wp2_with fail;refine(xS w7).mono ?_;rintro e w8 ⟨rfl,mC⟩;have ru:=pj.eo mC;have HQ8:=aa (Dv.o.keep mC);have Zq:=aa (show cw k≠ []→∃ g,B=some ⟨g,0,none⟩∧w6.heap.size≤g∧aD w8 g 3 (ks (cw k))from fun h=>by obtain⟨g,h1,h2,h3⟩:=HG.o h;exact⟨g,h1,h2,h3.keep mC⟩);clear mC Dv HG;obtain⟨xf,hxf⟩:=ae w8.heap.size;obtain⟨w9,jT⟩:=ae (w8.alloc (.cells #[.nilFunc,.nilFunc,.nilFunc,.nilFunc,.nilFunc,.nilFunc,.nilFunc,.nilFunc,.nilFunc] 161));have pn:=aa (aH jT hxf);have CT:=aa (aJ jT);have HXF:=aa hxf;go_wp2_with (refine aj rfl 161 _ _ rfl xf 161 _ gv pn.o rfl rfl rfl oA (by simp[gv,eA]) ?_;intro wa hAa Dn hsa;have Tv:=aa (show Below w8.heap.size w8 wa from br CT.o Dn (Nat.le_of_eq HXF.o));have HFa:=aa hAa;clear hAa Dn hsa);have HI:=aa (show Tk wa p qq xq (OV b)from by
  rw[HQ0.o];have h1:=ar ru.o Tv.o;exact⟨NQ.o.keep h1,(HQ8.o).keep Tv.o,by obtain⟨A',c',a1,_⟩:=NQ.o.rest.ex;have:=a1.lt;have:=NQ.o.own.lt;have:=yM.o;omega⟩)
 have HRa:=aa (oI.o.keep (ar ru.o Tv.o));have HGa:=aa (show cw k≠ []→∃ g,B=some ⟨g,0,none⟩∧w6.heap.size≤g∧aD wa g 3 (ks (cw k))from fun h=>by obtain⟨g,h1,h2,h3⟩:=Zq.o h;exact⟨g,h1,h2,h3.keep Tv.o⟩);have HBw:=aa (ar gI.o (ar ru.o Tv.o));have HN:=aa (show xr<qq∧qq<xq∧xr<xq∧xq<xf∧xq<w6.heap.size∧qq<xf∧w.heap.size≤xr from by
  obtain⟨A',c',a1,_⟩:=NQ.o.rest.ex;have h1:=a1.lt;have h2:=HPQ.o;have h3:=yM.o;have h4:=HQ8.o.lt;have h5:=HXF.o;have h6:=jy.o.size;have h7:=pS.o;have h8:=o6.o.lt;have h9:=eQ.o.size;have h10:=ru.o.size;have h11:=akl.o;omega)
 have aiH:=BK (k:Int);have HK:=aa (show(OV b).1.ax=(k:Int)by rw[HQ0.o]);clear HQ8 Zq pn CT HXF ru Tv o6 eQ yM NQ HTK gI ek cx pU iO oI HPQ akl;go_loopw [28] (fun i wr=>∃ j:Nat,j≤(cw k).length∧i= .int .i64 j∧Tk wr p qq xq (iQ ((cw k).take j) (OV b))∧aD wr xf 161 gv∧(cw k≠ []→∃ g,B=some ⟨g,0,none⟩∧w6.heap.size≤g∧aD wr g 3 (ks (cw k)))∧aD wr xr 41 (dc Rq.zero)∧Below w.heap.size w wr) (fun i _=>((cw k).length - intOf i).toNat)
 case atStart=>exact⟨0,Nat.zero_le _,rfl,HI.o,HFa.o,HGa.o,HRa.o,HBw.o⟩
 case round=>
  obtain⟨j,hj,rfl,hi,hf,hg,hr,hb⟩:=hrel;by_cases h2:j<(cw k).length
  ·obtain⟨g,hB',eT,Dn⟩:=hg (fun h0=>Fi);subst hB';have h2':(j:Int)<(cw k).length:=ag;obtain⟨f,hfe⟩:=ae ((cw k)[j]);have c1:wr.cell? ⟨g,j,none⟩=some (.int .i64 (f:Int)):=by rw[Dn.cell,←hfe];simp[ks,h2]
   have hfm:=PE k f (by rw[←hfe];exact List.getElem_mem h2);have HST:=aa (I4 (cw k) (OV b) h2);rw[hfe] at HST;have Tq:=aa hi;have HFF:=aa hf;have HGG:=aa Dn;have CQ:=aa hr;have jl:=aa hb;have Zp:=aa eT;clear hi hf hg Dn hr hb eT;have GF:=aa (show ∀ W',Tk W' p qq xq (Q9 f (iQ ((cw k).take j) (OV b)))→aG (fun k=>k=qq∨k=xq) wr W'→Tk W' p qq xq (iQ ((cw k).take (j+1)) (OV b))∧aD W' xf 161 gv∧(cw k≠ []→∃ g',some (⟨g,0,none⟩:Addr)=some ⟨g',0,none⟩∧w6.heap.size≤g'∧aD W' g' 3 (ks (cw k)))∧aD W' xr 41 (dc Rq.zero)∧Below w.heap.size w W' from fun W' h1 h2=>by
    have hn:=HN.o;have hz:=Zp.o;exact⟨by rw[HST.o];exact h1,h2.arr HFF.o ag,fun _=>⟨g,rfl,hz,h2.arr HGG.o ag⟩,h2.arr CQ.o ag,aG.fresh h2 jl.o (fun j hj=>ag)⟩)
   have v0:wr.cell? ⟨xf,1,none⟩=some (.func (.func 135) #[] #[]):=HFF.o.cell 1;have v1:wr.cell? ⟨xf,4,none⟩=some (.func (.func 140) #[] #[]):=HFF.o.cell 4;have v2:wr.cell? ⟨xf,7,none⟩=some (.func (.func 145) #[] #[]):=HFF.o.cell 7;rcases hfm with rfl|rfl|rfl
   ·have HF:=aa (X0 p qq xq _ wr Tq.o);exact V4
   ·have HF:=aa (XZ p qq xq _ wr Tq.o);exact V4
   have HF:=aa (XY p qq xq _ wr Tq.o);exact V4
  obtain rfl:j=(cw k).length:=ag;rw[List.take_length] at hi;have hi':Tk wr p qq xq (kD b):=by unfold kD;rw[HK.o];exact hi
  have hkq:(kD b).1.ax=(k:Int):=by unfold kD;rw[yB];exact HK.o
  obtain⟨st,hst⟩:=ae (kD b);have HGT:=aa (show bI b=if jz (k:Int)=true∧sx st.2.1 st.2.2=0∧0≤st.1.bS then(st.1,0)else(Rq.zero,200)by unfold bI;rw[HK.o,hst]);rw[hst] at hi';have Tq:=aa hi';have CQ:=aa hr;have jl:=aa hb;clear hi hi' hf hg hr hb hst hkq;obtain⟨kd,Ic⟩:=ae (jz (k:Int));have ajT:=aa (show w.heap.size≤xr from HN.o.2.2.2.2.2.2);cases kd
  ·have HV:=aa (show bI b=(Rq.zero,200)by rw[HGT.o,Ic];simp);exact V6
  have HEN:=aa (PS p qq st.2.1 st.2.2 wr Tq.o.rd);go_wp2_with fail;refine ah HEN.o ?_;by_cases hee:sx st.2.1 st.2.2=0
  ·have t4:wr.cell? ⟨xq,4,none⟩=some (.int .i64 st.1.bS):=Tq.o.rq.cell 4;have HQR:=aa Tq.o.rq;by_cases htt:0≤st.1.bS
   ·have HV:=aa (show bI b=(st.1,0)by rw[HGT.o,if_pos ⟨Ic,hee,htt⟩]);have h9: ¬st.1.bS<0:=ag;go_wp2_with (first|(refine aB rfl 41 (.tmp 5) rfl xq 41 _ HQR.o rfl _ cq rfl aF ?_)|(refine aj rfl 41 (.tmp 2) _ rfl xr 41 _ (dc st.1) CQ.o rfl rfl rfl aF LF ?_;intro wz il eT hsz;have lI:=aa il;have iP:=aa eT;clear il eT hsz));refine bodyPost_ret (results_cell_tmp ZV _ iN (aI 41 lI.o _ cq rfl aF)) rfl ⟨by rw[HV.o];rfl,br jl.o iP.o ajT.o⟩
   have HV:=aa (show bI b=(Rq.zero,200)by rw[HGT.o,if_neg (fun h=>htt h.2.2)]);have h9:st.1.bS<0:=ag;exact V6
  have HV:=aa (show bI b=(Rq.zero,200)by rw[HGT.o,if_neg (fun h=>hee h.2.1)]);have aok:(sx st.2.1 st.2.2==0)=false:=beq_eq_false_iff_ne.2 hee;exact V6
end En
end
section
namespace Fl
theorem gz: (af.info? 34).map (fun i=>(i.zero,i.size,i.bytes))=some (some (.slice none 0 0),1,24):=aW
def mkI(x y:Int): Int:=wrap64 (wrap64 (1000003*wrap64 (x+7))+y)
theorem aaG(x y:Int)(w:World): Calls af 248 #[.int .i64 x,.int .i64 y] w fun e w'=>e= .returned (.int .i64 (mkI x y))∧w'=w:=by
 go_enter Tryz.func248,Tryz.ntmps248;go_wp2_with fail;go_ret;exact⟨rfl,rfl⟩
def mkB(x y:Int): Int:=IntKind.u64.wrap (IntKind.u64.wrap (mkI x y)*11400714819323198485) / 72057594037927936 % 256
theorem Sf(x y:Int)(w:World): Calls af 250 #[.int .i64 x,.int .i64 y] w fun e w'=>e= .returned (.int .u8 (mkB x y))∧Below w.heap.size w w':=by
 go_enter Tryz.func250,Tryz.ntmps250;go_wp2_with fail;refine(aaG x y w).mono ?_;rintro e w1 ⟨rfl,hw⟩;rw[hw];obtain⟨z,hz⟩:=ae (mkI x y);rw[hz];have HZ:=aa hz;clear hw w1 hz;go_wp2_with fail;go_ret;exact⟨by rw[←HZ.o];rfl,Below.refl _ _⟩
def mkV(q i:Nat): Int:=mkB q i
theorem wj(q i:Nat)(w:World): Calls af 250 #[.int .i64 q,.int .i64 i] w fun e w'=>e= .returned (.int .u8 (mkV q i))∧Below w.heap.size w w':=Sf q i w
theorem EI(q i:Nat)(x y:Int)(hx:x=(q:Int))(hy:y=(i:Int))(w:World):
  Calls af 250 #[.int .i64 x,.int .i64 y] w fun e w'=>e= .returned (.int .u8 (mkV q i))∧Below w.heap.size w w':=by
 subst hx hy;exact wj q i w
def uu(_:World)(q i:Nat)(u:Value): Prop:=u= .int .u8 (mkV q i)
theorem Nl: zk 5 34 uu:=⟨fun h=>by rw[h];rfl,fun h _=>h,fun h _ _ _=>h⟩
theorem ksB(w w':World): Ks uu w w':=fun _ _ _ h=>h
theorem mk_one(x:Int): ∀ u∈ [Value.int .u8 x],u.oneCell'=true:=by
 intro u hu;rw[List.mem_singleton.1 hu];rfl
