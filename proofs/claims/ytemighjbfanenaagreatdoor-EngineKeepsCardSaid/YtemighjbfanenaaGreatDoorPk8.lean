import Derived.Test.YtemighjbfanenaaGreatDoorPk1
import Derived.Test.YtemighjbfanenaaGreatDoorChecked
import Derived.StillTailTactics
set_option linter.all false
set_option maxRecDepth 100000
set_option maxHeartbeats 16000000
namespace Go.Proofs.YtemighjbfanenaaGreatDoor
open RowKit
open And renaming intro→dy
open Go.WalkArith renaming wf_i64→lJ
open Nat renaming lt_of_lt_of_le→aP
open RowKit.Below renaming refl→aq
open Tryz renaming prog→af,results313→ZU,underlying3→fC
theorem ahN{p:Prop}(h:p:=by
 by_cases hr:r<2
 ·by_cases hl:2*a2+1+r<l
  ·have hc1:(2*(a2:Int)+1+(r:Int))≤2*(a2:Int)+2:=by omega
   have hc2:(2*(a2:Int)+1+(r:Int))<(l:Int):=ag;obtain⟨kn,M0⟩:=ae (2*a2+1+r:Nat);have hki:2*(a2:Int)+1+(r:Int)=(kn:Int):=ag;rw[hki] at hc1 hc2 ⊢;have K0:kn<l:=ag;have Eh:(0:Int)≤(kn:Int):=ag;have hk6:(kn:Int)≤65536:=ag;have HKN:=aa M0;have HKI:=aa hki;clear M0 hki hl;cases hah:iU f2 kn q
   case true=>
    have hst:pk f2 l a2 (r+1)=kn:=by
     have:=afh (f:=f2) (l:=l) (at_:=a2) (r:=r) (by rw[HKN.o];exact K0) Un;rw[this,HKN.o]
    have HST:=aa hst;clear hst;go_wp2_with fail;refine(wb S p l kn q next f2 _ HI.o K0 hql).mono ?_;rw[hah];rintro e w2 ⟨rfl,hb2⟩;have ze:=aa (eM hb2 HI.o);have gV:=aa (HT.o.ai hb2);clear hb2;go_wp2_with fail;go_roundw
    case rel=>exact⟨r+1,ag,by rw[HST.o],U1,ze.o,gV.o⟩
    case measure=>simp[intOf];omega
   case false=>
    have hst:pk f2 l a2 (r+1)=q:=by
     have:=ahG (f:=f2) (l:=l) (at_:=a2) (r:=r) Un;rw[this,HQ.o]
    have HST:=aa hst;clear hst;go_wp2_with fail;refine(wb S p l kn q next f2 _ HI.o K0 hql).mono ?_;rw[hah];rintro e w2 ⟨rfl,hb2⟩;have ze:=aa (eM hb2 HI.o);have gV:=aa (HT.o.ai hb2);clear hb2;go_wp2_with fail;go_roundw
    case rel=>exact⟨r+1,ag,by rw[HST.o],U1,ze.o,gV.o⟩
    case measure=>simp[intOf];omega
  have hc1:(2*(a2:Int)+1+(r:Int))≤2*(a2:Int)+2:=ag;have hc2: ¬(2*(a2:Int)+1+(r:Int))<(l:Int):=ag;have vT:pick f2 l a2=q:=by
   have:=O6 (f:=f2) (l:=l) (at_:=a2) (r:=r) ag (2 - r);rw[show r+(2 - r)=2 from ag,HQ.o] at this;exact this
  have HPK:=aa vT;clear vT;have W6:(0:Int)≤(q:Int):=ag;by_cases Gd:q=a2
  ·subst Gd;have HDN:=aa (HD.o.symm.trans (xT HPK.o));go_wp2_with fail;refine bodyPost_ret (results_none ZU _ _ _) rfl ⟨⟨_,rfl⟩,?_,HT.o⟩;rw[HDN.o];exact HI.o
  have hne:((q:Int)==(a2:Int))=false:=fH;have hlt:a2<q:=acw;obtain⟨j,hj⟩: ∃ j,k2=j+1:=⟨k2 - 1,ag⟩;have HDN:=aa (show down l j (cP f2 a2 q) q=gm f l a0 from by
   have h1:=HD.o;rw[hj,xU Ue,HPK.o] at h1;exact h1)
  have HJ:=aa (show l - q≤j from ag);have HQE:=aa Gd;clear Gd hj;go_wp2_with fail;refine(zo S p l a2 q next f2 _ HI.o ha2 hql).mono ?_;rintro e w3 ⟨⟨v3,rfl⟩,fw,kv⟩;have gH:=aa fw;have jR:=aa (HT.o.trans kv);clear fw kv;go_wp2_with fail;go_roundw
  case rel=>exact⟨j,q,cP f2 a2 q,hql,HJ.o,TX,gH.o,jR.o,HDN.o⟩
  case measure=>simp[intOf];omega
 have hc1: ¬(2*(a2:Int)+1+(r:Int))≤2*(a2:Int)+2:=ag;have vT:pick f2 l a2=q:=by
  have e2:r=2:=ag;have:=HQ.o;rw[e2] at this;exact this
 have HPK:=aa vT;clear vT;have W6:(0:Int)≤(q:Int):=ag;by_cases Gd:q=a2
 ·subst Gd;have HDN:=aa (HD.o.symm.trans (xT HPK.o));go_wp2_with fail;refine bodyPost_ret (results_none ZU _ _ _) rfl ⟨⟨_,rfl⟩,?_,HT.o⟩;rw[HDN.o];exact HI.o
 have hne:((q:Int)==(a2:Int))=false:=fH;have hlt:a2<q:=acw;obtain⟨j,hj⟩: ∃ j,k2=j+1:=⟨k2 - 1,ag⟩;have HDN:=aa (show down l j (cP f2 a2 q) q=gm f l a0 from by
  have h1:=HD.o;rw[hj,xU Ue,HPK.o] at h1;exact h1)
 have HJ:=aa (show l - q≤j from ag);have HQE:=aa Gd;clear Gd hj;go_wp2_with fail;refine(zo S p l a2 q next f2 _ HI.o ha2 hql).mono ?_;rintro e w3 ⟨⟨v3,rfl⟩,fw,kv⟩;have gH:=aa fw;have jR:=aa (HT.o.trans kv);clear fw kv;go_wp2_with fail;go_roundw
 case rel=>exact⟨j,q,cP f2 a2 q,hql,HJ.o,TX,gH.o,jR.o,HDN.o⟩
 case measure=>simp[intOf];omega):p:=h
theorem ahL{p:Prop}(h:p:=by
 have GL:=aa GL;simp only[CL];simp only[hq1];clear Bw bh gK hq1 CL;have HW:=aa qC;clear qC Gl;obtain⟨k0,k1,k2,k3,k4,k5,k6,_⟩:=GL.o _ (aq _ _);cases h1:rY ⟨a1,a2,a3⟩ ⟨b1,b2,b3⟩
 case true=>
  go_still_tail 8,aW;change wpList _ _ _ _ _ w2.drew;obtain⟨w3,hw3⟩:=ae w2.drew;have hb3:Below w2.heap.size w2 w3:=TY;rw[hw3];clear hw3;go_wp2_with fail;refine(HL1.o true h1 _).mono ?_;rintro e w4 ⟨rfl,hb4⟩;have M7:=ar hb3 hb4;obtain⟨k0,k1,k2,k3,k4,k5,k6,_⟩:=GL.o _ M7;go_wp2_with fail;go_ret;exact⟨Aq,ar cx.o (M7)⟩
 case false=>
  cases h2:rY ⟨b1,b2,b3⟩ ⟨a1,a2,a3⟩
  case true=>
   go_still_tail 8,aW;change wpList _ _ _ _ _ w2.drew;obtain⟨w3,hw3⟩:=ae w2.drew;have hb3:Below w2.heap.size w2 w3:=TY;rw[hw3];clear hw3;go_wp2_with fail;refine(HL1.o false h1 _).mono ?_;rintro e w4 ⟨rfl,hb4⟩;have M7:=ar hb3 hb4;obtain⟨k0,k1,k2,k3,k4,k5,k6,_⟩:=GL.o _ M7;go_wp2_with fail;refine sY (S:=(fun w'=>w'.cell? ⟨p,0,none⟩=some (.func (.func 94) #[] #[])∧w'.cell? ⟨q7,0,none⟩=some (.int .i64 a1)∧w'.cell? ⟨q7,1,none⟩=some (.int .u32 a2)∧w'.cell? ⟨q7,2,none⟩=some (.int .i64 a3)∧w'.cell? ⟨q8,0,none⟩=some (.int .i64 b1)∧w'.cell? ⟨q8,1,none⟩=some (.int .u32 b2)∧w'.cell? ⟨q8,2,none⟩=some (.int .i64 b3)∧Below w2.heap.size w2 w')) UH fun hHeld=>?_
   refine nZ 0 1 2 3 4 5 6 7 ?_;refine cD 8 fun K hK=>?_
   go_simp;refine(HL2.o true h2 _).mono ?_;rintro e w6 ⟨rfl,kB⟩;have aa5:=ar hHeld.2.2.2.2.2.2.2 kB;go_wp2_with fail;refine bW hK UR fun nJ=>?_
   clear hK K;refine nZ 9 10 11 12 13 14 15 16 ?_;refine ty 17 ?_;refine bF ?_;go_wp2_with fail;go_ret;exact⟨by rw[h1,h2];rfl,ar cx.o (aa5)⟩
  case false=>
   go_still_tail 8,aW;change wpList _ _ _ _ _ w2.drew;obtain⟨w3,hw3⟩:=ae w2.drew;have hb3:Below w2.heap.size w2 w3:=TY;rw[hw3];clear hw3;go_wp2_with fail;refine(HL1.o false h1 _).mono ?_;rintro e w4 ⟨rfl,hb4⟩;have M7:=ar hb3 hb4;obtain⟨k0,k1,k2,k3,k4,k5,k6,_⟩:=GL.o _ M7;go_wp2_with fail;refine sY (S:=(fun w'=>w'.cell? ⟨p,0,none⟩=some (.func (.func 94) #[] #[])∧w'.cell? ⟨q7,0,none⟩=some (.int .i64 a1)∧w'.cell? ⟨q7,1,none⟩=some (.int .u32 a2)∧w'.cell? ⟨q7,2,none⟩=some (.int .i64 a3)∧w'.cell? ⟨q8,0,none⟩=some (.int .i64 b1)∧w'.cell? ⟨q8,1,none⟩=some (.int .u32 b2)∧w'.cell? ⟨q8,2,none⟩=some (.int .i64 b3)∧Below w2.heap.size w2 w')) UH fun hHeld=>?_
   refine nZ 0 1 2 3 4 5 6 7 ?_;refine cD 8 fun K hK=>?_
   go_simp;refine(HL2.o false h2 _).mono ?_;rintro e w6 ⟨rfl,kB⟩;have aa5:=ar hHeld.2.2.2.2.2.2.2 kB;go_wp2_with fail;refine bW hK UR fun nJ=>?_
   clear hK K;refine nZ 9 10 11 12 13 14 15 16 ?_;refine ty 17 ?_;refine bF ?_;go_wp2_with fail;go_ret;exact⟨by rw[h1,h2];rfl,ar cx.o (aa5)⟩):p:=h
theorem IW{p:Prop}(h:p:=by first|exact qC _ (aw (aw (ay (aq _ _)) _) _)|exact qC _ (aw (ay (aq _ _)) _)):p:=h
theorem aaf{p:Prop}(h:p:=by unfold maxLen;omega):p:=h
theorem TY{p:Prop}(h:p:=by rw[←hw3];exact ay (aq _ _)):p:=h
theorem acw{p:Prop}(h:p:=by rcases HQA.o with h1|h1;exact absurd h1 Gd;exact h1):p:=h
theorem TX{p:Prop}(h:p:=by first|rfl|go_num):p:=h
theorem U1{p:Prop}(h:p:=by have:=HKI.o;first|(congr 1;omega)|go_num):p:=h
theorem UR{p:Prop}(h:p:=by first|exact GL.o _ aa5|assumption):p:=h
theorem UH{p:Prop}(h:p:=by exact GL.o _ (ay M7)):p:=h
theorem LV{p:Prop}(h:p:=by injection e with e;subst e;exact sm):p:=h
theorem Un{p:Prop}(h:p:=by rw[HKN.o,HQ.o];exact hah):p:=h
theorem Ue{p:Prop}(h:p:=by rw[HPK.o];exact Gd):p:=h
theorem Aq{p:Prop}(h:p:=by rw[h1];rfl):p:=h
section
section
namespace Hp
def qT: Value:=.func (.func 94) #[] #[]
def gA(f:Nat→eO)(i:Nat): List Value:=[.int .i64 (f i).aR,.int .u32 (f i).id,.int .i64 (f i).aZ]
theorem fP(f:Nat→eO)(i:Nat): (gA f i).length=3:=rfl
theorem PX(a b c d:Int)(w:World): Calls af 94 #[.agg #[.int .i64 a,.int .u32 b],.agg #[.int .i64 c,.int .u32 d]] w fun e w'=>e= .returned (.bool (decide (a<c)||(a==c && decide (b<d))))∧Below w.heap.size w w':=by
 have hb:Below w.heap.size w ((w.alloc (.cells #[.int .i64 a,.int .u32 b] 211)).alloc (.cells #[.int .i64 c,.int .u32 d] 211)):=aw (aw (aq _ _) _) _;have HB:=aa hb;clear hb;by_cases h1:a<c
 ·have q1:decide (a<c)=true:=decide_eq_true h1;go_enter Tryz.func94,Tryz.ntmps94;go_wp2_with fail;go_ret;exact⟨by simp[h1],HB.o⟩
 have q1:decide (a<c)=false:=decide_eq_false h1;by_cases h2:a=c
 ·have q2:(a==c)=true:=by simpa using h2
  by_cases h3:b<d
  ·have q3:decide (b<d)=true:=decide_eq_true h3;have H:=aa (dy h1 (dy h2 h3));clear h1 h2 h3;go_enter Tryz.func94,Tryz.ntmps94;go_wp2_with fail;go_ret;exact⟨by simp[H.o.2.1,H.o.2.2],HB.o⟩
  have q3:decide (b<d)=false:=decide_eq_false h3;have H:=aa (dy h1 (dy h2 h3));clear h1 h2 h3;go_enter Tryz.func94,Tryz.ntmps94;go_wp2_with fail;go_ret;exact⟨by simp[q1,q2,q3],HB.o⟩
 have q2:(a==c)=false:=by simpa using h2
 have H:=aa (dy h1 h2);clear h1 h2;go_enter Tryz.func94,Tryz.ntmps94;go_wp2_with fail;go_ret;exact⟨by simp[q1,q2],HB.o⟩
end Hp
end
section
namespace Hp
theorem R6(p g cap l i k:Nat)(a1 a2 a3 b1 b2 b3:Int)(w:World)(x0:w.cell? ⟨p,0,none⟩=some qT)(x1:w.cell? ⟨p,1,none⟩=some (.slice (some ⟨g,0,none⟩) l cap))
  (y1:w.cell? ⟨g,i*3,none⟩=some (.int .i64 a1)) (y2:w.cell? ⟨g,i*3+1,none⟩=some (.int .u32 a2)) (y3:w.cell? ⟨g,i*3+2,none⟩=some (.int .i64 a3))
  (z1:w.cell? ⟨g,k*3,none⟩=some (.int .i64 b1)) (z2:w.cell? ⟨g,k*3+1,none⟩=some (.int .u32 b2)) (z3:w.cell? ⟨g,k*3+2,none⟩=some (.int .i64 b3)) (hi:i<l) (hk:k<l) (hl:l≤70000) (sk:cap≤maxLen) (hpl:p<w.heap.size) (oT:g<w.heap.size) :
  Calls af 355 #[.pointer (some ⟨p,0,none⟩),.int .i64 i,.int .i64 k] w fun e w'=>e= .returned (.bool (rY ⟨a1,a2,a3⟩ ⟨b1,b2,b3⟩||(!rY ⟨b1,b2,b3⟩ ⟨a1,a2,a3⟩ && decide (a3<b3))))∧Below w.heap.size w w':=by
 have qC: ∀ w',Below w.heap.size w w'→(w'.cell? ⟨p,1,none⟩=some (.slice (some ⟨g,0,none⟩) l cap)∧w'.cell? ⟨g,i*3,none⟩=some (.int .i64 a1)∧w'.cell? ⟨g,i*3+1,none⟩=some (.int .u32 a2)∧w'.cell? ⟨g,i*3+2,none⟩=some (.int .i64 a3)∧w'.cell? ⟨g,k*3,none⟩=some (.int .i64 b1)∧w'.cell? ⟨g,k*3+1,none⟩=some (.int .u32 b2)∧w'.cell? ⟨g,k*3+2,none⟩=some (.int .i64 b3)∧Below w.heap.size w w'):=fun w' hb=>
  ⟨(hb.cell (p:=⟨p,1,none⟩) hpl).trans x1,(hb.cell (p:=⟨g,i*3,none⟩) oT).trans y1,(hb.cell (p:=⟨g,i*3+1,none⟩) oT).trans y2,(hb.cell (p:=⟨g,i*3+2,none⟩) oT).trans y3,(hb.cell (p:=⟨g,k*3,none⟩) oT).trans z1,(hb.cell (p:=⟨g,k*3+1,none⟩) oT).trans z2,(hb.cell (p:=⟨g,k*3+2,none⟩) oT).trans z3,hb⟩
 have kC:(i:Int)<(l:Int):=ag;have vV:(k:Int)<(l:Int):=ag;have yZ:(0:Int)≤(i:Int):=ag;have Eh:(0:Int)≤(k:Int):=ag;have HL1: ∀ v,rY ⟨a1,a2,a3⟩ ⟨b1,b2,b3⟩=v→∀ W,Calls af 94 #[.agg #[.int .i64 a1,.int .u32 a2],.agg #[.int .i64 b1,.int .u32 b2]] W fun e w'=>e= .returned (.bool v)∧Below W.heap.size W w':=fun v hv W=>hv▸PX a1 a2 b1 b2 W
 have HL2: ∀ v,rY ⟨b1,b2,b3⟩ ⟨a1,a2,a3⟩=v→∀ W,Calls af 94 #[.agg #[.int .i64 b1,.int .u32 b2],.agg #[.int .i64 a1,.int .u32 a2]] W fun e w'=>e= .returned (.bool v)∧Below W.heap.size W w':=fun v hv W=>hv▸PX b1 b2 a1 a2 W
 have HL1:=aa HL1;have HL2:=aa HL2;have HX0:=aa x0;clear x0 y1 y2 y3 z1 z2 z3 x1 hi hk;rw[show qT= .func (.func 94) #[] #[] from rfl] at HX0;go_enter Tryz.func355,Tryz.ntmps355;go_wp2_with fail;refine sY (S:=(fun w'=>w'.cell? ⟨p,1,none⟩=some (.slice (some ⟨g,0,none⟩) l cap)∧w'.cell? ⟨g,i*3,none⟩=some (.int .i64 a1)∧w'.cell? ⟨g,i*3+1,none⟩=some (.int .u32 a2)∧w'.cell? ⟨g,i*3+2,none⟩=some (.int .i64 a3)∧w'.cell? ⟨g,k*3,none⟩=some (.int .i64 b1)∧w'.cell? ⟨g,k*3+1,none⟩=some (.int .u32 b2)∧w'.cell? ⟨g,k*3+2,none⟩=some (.int .i64 b3)∧Below w.heap.size w w')) (by exact qC _ (ay (aq _ _))) fun hHeld=>?_
 refine nZ 0 1 2 3 4 5 6 7 ?_;refine OC 8 9 10 11 12 13 ?_;refine qc 14 15 (fun K hK=>?_) fun K hK=>?_
 ·go_simp;go_wp2_with fail;refine bW hK IW fun lN=>?_
  clear hK K;refine cD 15 fun K hK=>?_
  go_simp;go_wp2_with fail;refine bW hK IW fun Gm=>?_
  clear hK K;refine cD 16 fun K hK=>?_
  go_simp;go_wp2_with fail;refine bW hK IW fun abc=>?_
  clear hK K;refine cD 17 fun K hK=>?_
  go_simp;go_wp2_with fail;refine bW hK IW fun Gl=>?_
  clear hK K;refine bF ?_;go_wp2_with fail;have bh:aD (((w.alloc (.cells #[.int .i64 a1,.int .u32 a2,.int .i64 a3] 355)).alloc (.cells #[.int .i64 b1,.int .u32 b2,.int .i64 b3] 355)).drew) w.heap.size 355 #[.int .i64 a1,.int .u32 a2,.int .i64 a3]:=(aD.alloc (aD.fresh w _ _) _).drew;have gK:aD (((w.alloc (.cells #[.int .i64 a1,.int .u32 a2,.int .i64 a3] 355)).alloc (.cells #[.int .i64 b1,.int .u32 b2,.int .i64 b3] 355)).drew) (w.heap.size+1) 355 #[.int .i64 b1,.int .u32 b2,.int .i64 b3]:=(aD.new dA).drew;have nL:Below w.heap.size w (((w.alloc (.cells #[.int .i64 a1,.int .u32 a2,.int .i64 a3] 355)).alloc (.cells #[.int .i64 b1,.int .u32 b2,.int .i64 b3] 355)).drew):=ay (aw (aw (aq _ _) _) _);obtain⟨w2,hw2⟩:=ae (((w.alloc (.cells #[.int .i64 a1,.int .u32 a2,.int .i64 a3] 355)).alloc (.cells #[.int .i64 b1,.int .u32 b2,.int .i64 b3] 355)).drew);rw[hw2] at bh gK nL ⊢;clear hw2;obtain⟨q7,hq1⟩:=ae w.heap.size;obtain⟨q8,CL⟩:=ae (w.heap.size+1);have cx:=aa nL;clear nL;rw[hq1] at bh;rw[CL] at gK;have Bw:=cx.o.cell (p:=⟨p,0,none⟩) hpl;have GL: ∀ w',Below w2.heap.size w2 w'→(w'.cell? ⟨p,0,none⟩=some (.func (.func 94) #[] #[])∧w'.cell? ⟨q7,0,none⟩=some (.int .i64 a1)∧w'.cell? ⟨q7,1,none⟩=some (.int .u32 a2)∧w'.cell? ⟨q7,2,none⟩=some (.int .i64 a3)∧w'.cell? ⟨q8,0,none⟩=some (.int .i64 b1)∧w'.cell? ⟨q8,1,none⟩=some (.int .u32 b2)∧w'.cell? ⟨q8,2,none⟩=some (.int .i64 b3)∧Below w2.heap.size w2 w'):=fun w' hb=>
   ⟨(hb.cell (p:=⟨p,0,none⟩) (aP hpl cx.o.size)).trans (Bw.trans HX0.o),(bh.keep hb).cell 0,(bh.keep hb).cell 1,(bh.keep hb).cell 2,(gK.keep hb).cell 0,(gK.keep hb).cell 1,(gK.keep hb).cell 2,hb⟩
  exact ahL
 ·go_simp;go_wp2_with fail;refine bW hK IW fun Gm=>?_
  clear hK K;refine cD 14 fun K hK=>?_
  go_simp;go_wp2_with fail;refine bW hK IW fun lN=>?_
  clear hK K;refine cD 16 fun K hK=>?_
  go_simp;go_wp2_with fail;refine bW hK IW fun abc=>?_
  clear hK K;refine cD 17 fun K hK=>?_
  go_simp;go_wp2_with fail;refine bW hK IW fun Gl=>?_
  clear hK K;refine bF ?_;go_wp2_with fail;have bh:aD (((w.alloc (.cells #[.int .i64 b1,.int .u32 b2,.int .i64 b3] 355)).alloc (.cells #[.int .i64 a1,.int .u32 a2,.int .i64 a3] 355)).drew) w.heap.size 355 #[.int .i64 b1,.int .u32 b2,.int .i64 b3]:=(aD.alloc (aD.fresh w _ _) _).drew;have gK:aD (((w.alloc (.cells #[.int .i64 b1,.int .u32 b2,.int .i64 b3] 355)).alloc (.cells #[.int .i64 a1,.int .u32 a2,.int .i64 a3] 355)).drew) (w.heap.size+1) 355 #[.int .i64 a1,.int .u32 a2,.int .i64 a3]:=(aD.new dA).drew;have nL:Below w.heap.size w (((w.alloc (.cells #[.int .i64 b1,.int .u32 b2,.int .i64 b3] 355)).alloc (.cells #[.int .i64 a1,.int .u32 a2,.int .i64 a3] 355)).drew):=ay (aw (aw (aq _ _) _) _);obtain⟨w2,hw2⟩:=ae (((w.alloc (.cells #[.int .i64 b1,.int .u32 b2,.int .i64 b3] 355)).alloc (.cells #[.int .i64 a1,.int .u32 a2,.int .i64 a3] 355)).drew);rw[hw2] at bh gK nL ⊢;clear hw2;obtain⟨q8,hq1⟩:=ae w.heap.size;obtain⟨q7,CL⟩:=ae (w.heap.size+1);have cx:=aa nL;clear nL;rw[hq1] at bh;rw[CL] at gK;have Bw:=cx.o.cell (p:=⟨p,0,none⟩) hpl;have GL: ∀ w',Below w2.heap.size w2 w'→(w'.cell? ⟨p,0,none⟩=some (.func (.func 94) #[] #[])∧w'.cell? ⟨q7,0,none⟩=some (.int .i64 a1)∧w'.cell? ⟨q7,1,none⟩=some (.int .u32 a2)∧w'.cell? ⟨q7,2,none⟩=some (.int .i64 a3)∧w'.cell? ⟨q8,0,none⟩=some (.int .i64 b1)∧w'.cell? ⟨q8,1,none⟩=some (.int .u32 b2)∧w'.cell? ⟨q8,2,none⟩=some (.int .i64 b3)∧Below w2.heap.size w2 w'):=fun w' hb=>
   ⟨(hb.cell (p:=⟨p,0,none⟩) (aP hpl cx.o.size)).trans (Bw.trans HX0.o),(gK.keep hb).cell 0,(gK.keep hb).cell 1,(gK.keep hb).cell 2,(bh.keep hb).cell 0,(bh.keep hb).cell 1,(bh.keep hb).cell 2,hb⟩
  exact ahL
end Hp
end
end
section
section
namespace Hp
theorem Ry: (af.info? 355).map (fun i=>(i.zero,i.size,i.bytes))=some (some (.agg #[.int .i64 0,.int .u32 0,.int .i64 0]),3,24):=aW
theorem ir: (af.info? 355).map (·.size)=some 3:=aW
theorem Jl(w:World): (zeroValue 3).run af w= .ok (.int .i64 0) w:=aW
theorem Jk(f:Nat→eO)(i:Nat): ∀ u∈gA f i,u.oneCell'=true:=by
 intro u hu;simp only[gA,List.mem_cons,List.not_mem_nil,or_false] at hu;rcases hu with rfl|rfl|rfl <;>rfl
variable{S:Nat→Prop}{w:World}{e t:TypeId}{sz n g cap b i:Nat}{c:Nat→List Value}{φ:Int→Option Int}
theorem FT{p:Nat} {cs:Array Value}(h:aO S w e sz (.slice (some ⟨g,0,none⟩) n cap) n c)(ha:aD w p t cs)(ht:t≠e): p≠g:=by
 rintro rfl;rcases h.own.2 with⟨hv,_⟩|⟨g',cap',cur,hv,_,hh,_⟩
 ·cases hv
 injection hv with e1
 injection e1 with e1
 injection e1 with e1
 exact Wf
theorem dn{P:Program}{k:TypeId} {q:IntKind}{p:Nat} {cs:Array Value}(h:dt P k e q w b n φ)(ha:aD w p t cs): p≠b:=by
 rintro rfl;obtain⟨D,⟨es,ak,hb,_⟩,_⟩:=h;rw[aD] at ha;rw[ha] at hb;injection hb with hb
 cases hb
theorem Bl{P:Program}{k:TypeId} {q:IntKind}{m:Nat} (h:dt P k e q w b n φ)(hr:aO S w t sz (.slice (some ⟨g,0,none⟩) m cap) m c): g≠b:=by
 rintro rfl;obtain⟨D,⟨es,ak,hb,_⟩,_⟩:=h;rcases hr.own.2 with⟨hv,_⟩|⟨g',cap',cur,hv,_,hh,_⟩
 ·cases hv
 injection hv with e1
 injection e1 with e1
 injection e1 with e1
 subst e1;rw[hh] at hb;injection hb with hb
 cases hb
theorem _root_.Go.Proofs.YtemighjbfanenaaGreatDoor.aO.pH{w':World} (h:aO S w e sz (.slice (some ⟨g,0,none⟩) n cap) n c)(hg:w.grownBy w' (some b))(hb:g≠b): aO S w' e sz (.slice (some ⟨g,0,none⟩) n cap) n c:=
 ⟨dY h.own fun q hq=>hg.block q (dP h.own hq).1 (fun e=>by
  have e1:g=q:=by simpa[Value.ownBlock] using hq
  injection e with e;exact hb (e1.trans e)),h.block⟩
structure bP(S:Nat→Prop)(w:World)(p l:Nat)(next:Int)(f:Nat→eO): Prop where
 dQ: ∃ iv mb φ,aD w p 319 #[qT,iv,.map (some mb),.int .i64 next]∧aO S w 355 3 iv l (gA f)∧dt af 3 3 .i64 w mb l φ∧kj f l φ∧S p∧S mb
 bound:l≤65536∧0≤next∧next≤1099511627776∧∀ i,i<l→0≤(f i).aZ∧(f i).aZ<next
theorem MD(f:Nat→eO)(i k:Nat): cO (cO (gA f) i (gA f k)) k (gA f i)=gA (cP f i k):=by
 funext j;unfold cO;by_cases h1:j=k
 ·subst h1;rw[if_pos rfl];by_cases h2:j=i
  ·subst h2;simp[gA,cP]
  simp[gA,cP,h2]
 rw[if_neg h1];by_cases h2:j=i
 ·subst h2;simp[gA,cP]
 simp[gA,cP,h1,h2]
theorem kj.inj{f:Nat→eO}{l:Nat}(h:kj f l φ){j:Nat} (hi:i<l)(hj:j<l)(e:(f i).aZ=(f j).aZ): i=j:=by
 have h1:=h.1 i hi;have h2:=h.1 j hj;rw[e,h2] at h1;injection h1 with h1
 omega
theorem mS(f:Nat→eO)(i k:Nat): cP f i k i=f k∧cP f i k k=f i:=by
 constructor
 ·simp[cP]
 by_cases h:k=i
 ·subst h;simp[cP]
 simp[cP,h]
theorem xu(f:Nat→eO){k j:Nat} (h1:j≠i)(h2:j≠k): cP f i k j=f j:=by simp[cP,h1,h2]
theorem kj.swap{f:Nat→eO}{l:Nat}(h:kj f l φ){k:Nat} (hi:i<l)(hk:k<l): kj (cP f i k) l (tK (tK φ (f k).aZ (some (i:Int))) (f i).aZ (some (k:Int))):=by
 refine⟨fun j hj=>?_,fun x y hx=>?_⟩
 ·by_cases h1:j=k
  ·subst h1;rw[(mS f i j).2,fy]
  by_cases h2:j=i
  ·subst h2;rw[(mS f j k).1,cQ _ _ (fun e=>h1 (h.inj hj hk e.symm)),fy]
  rw[xu f h2 h1,cQ _ _ (fun e=>h2 (h.inj hj hi e)),cQ _ _ (fun e=>h1 (h.inj hj hk e))];exact h.1 j hj
 by_cases h1:x=(f i).aZ
 ·subst h1;rw[fy] at hx;injection hx with hx
  exact⟨k,hk,hx.symm,by rw[(mS f i k).2]⟩
 rw[cQ _ _ h1] at hx;by_cases h2:x=(f k).aZ
 ·subst h2;rw[fy] at hx;injection hx with hx
  exact⟨i,hi,hx.symm,by rw[(mS f i k).1]⟩
 rw[cQ _ _ h2] at hx;obtain⟨j,hj,e1,e2⟩:=h.2 x y hx;refine⟨j,hj,e1,?_⟩;rw[xu f (fun e=>h1 (by rw[←e2,e])) (fun e=>h2 (by rw[←e2,e]))];exact e2
theorem zo(S:Nat→Prop)(p l i k:Nat)(next:Int)(f:Nat→eO)(w:World)(h:bP S w p l next f)(hi:i<l)(hk:k<l):
  Calls af 315 #[.pointer (some ⟨p,0,none⟩),.int .i64 i,.int .i64 k] w fun e w'=>(∃ v,e= .returned v)∧bP S w' p l next (cP f i k)∧aG S w w':=by
 obtain⟨iv,mb,φ,hp,hr,hm,hpl,sp,sm⟩:=h.dQ;obtain⟨g,cap,rfl,sg,sk,uj,oT⟩:=hr.form ag;have zy:=FT hr hp aM;have KY:=dn hm hp;have Td:=Bl hm hr;have x1:w.cell? ⟨p,1,none⟩=some (.slice (some ⟨g,0,none⟩) l cap):=hp.cell 1;have ri:=hr.range (fP f) hi;have rk:=hr.range (fP f) hk;have y0:w.cell? ⟨g,i*3,none⟩=some (.int .i64 (f i).aR):=ri 0 _ rfl;have y1:w.cell? ⟨g,i*3+1,none⟩=some (.int .u32 (f i).id):=ri 1 _ rfl;have y2:w.cell? ⟨g,i*3+2,none⟩=some (.int .i64 (f i).aZ):=ri 2 _ rfl;have z0:w.cell? ⟨g,k*3,none⟩=some (.int .i64 (f k).aR):=rk 0 _ rfl;have z1:w.cell? ⟨g,k*3+1,none⟩=some (.int .u32 (f k).id):=rk 1 _ rfl;have z2:w.cell? ⟨g,k*3+2,none⟩=some (.int .i64 (f k).aZ):=rk 2 _ rfl;have kC:(i:Int)<(l:Int):=ag;have vV:(k:Int)<(l:Int):=ag;have yZ:(0:Int)≤(i:Int):=ag;have Eh:(0:Int)≤(k:Int):=ag;have MZ:l≤65536:=h.bound.1;have hr':aO S w.drew 355 3 (.slice (some ⟨g,0,none⟩) l cap) l (gA f):=hr.same fun _ _ _=>rfl
 have HR:=aa hr';clear hr';have HP:=aa hp;have HM:=aa hm;have NR:=aa hpl;have HH:=aa h;clear h hp hr hm hpl ri rk;go_enter Tryz.func315,Tryz.ntmps315;go_wp2_with fail;refine dN aW ?_;refine bc.any (S:=(fun w'=>w'.cell? ⟨p,1,none⟩=some (.slice (some ⟨g,0,none⟩) l cap)∧w'.cell? ⟨g,i*3,none⟩=some (.int .i64 (f i).aR)∧w'.cell? ⟨g,i*3+1,none⟩=some (.int .u32 (f i).id)∧w'.cell? ⟨g,i*3+2,none⟩=some (.int .i64 (f i).aZ)∧w'.cell? ⟨g,k*3,none⟩=some (.int .i64 (f k).aR)∧w'.cell? ⟨g,k*3+1,none⟩=some (.int .u32 (f k).id)∧w'.cell? ⟨g,k*3+2,none⟩=some (.int .i64 (f k).aZ))) (t:=25) _ _ _ _ ?_;have hHeld:=(show(fun w'=>w'.cell? ⟨p,1,none⟩=some (.slice (some ⟨g,0,none⟩) l cap)∧w'.cell? ⟨g,i*3,none⟩=some (.int .i64 (f i).aR)∧w'.cell? ⟨g,i*3+1,none⟩=some (.int .u32 (f i).id)∧w'.cell? ⟨g,i*3+2,none⟩=some (.int .i64 (f i).aZ)∧w'.cell? ⟨g,k*3,none⟩=some (.int .i64 (f k).aR)∧w'.cell? ⟨g,k*3+1,none⟩=some (.int .u32 (f k).id)∧w'.cell? ⟨g,k*3+2,none⟩=some (.int .i64 (f k).aZ)) w.drew from⟨x1,y0,y1,y2,z0,z1,z2⟩);refine tt 0 ?_;refine tt 1 ?_;refine tt 2 ?_;refine tt 3 ?_;refine tt 4 ?_;refine tp 5 ?_;refine tp 6 ?_;refine tp 7 ?_;refine tt 8 ?_;refine tp 9 ?_;refine tt 10 ?_;refine tt 11 ?_;refine tt 12 ?_;refine tt 13 ?_;refine tt 14 ?_;refine tt 15 ?_;refine tt 16 ?_;refine tp 17 ?_;refine tp 18 ?_;refine tp 19 ?_;refine tt 20 ?_;refine tp 21 ?_;refine tp 22 ?_;refine tt 23 ?_;refine tt 24 ?_;refine bc.last aW ?_;refine kI 25 aW aW ?_;simp only[List.drop_succ_cons,List.drop_zero];go_wp2_with (first|(refine cU rfl 355 _ _ rfl HR.o (fP f) i hi rfl (gA f k) rfl rfl (Jk f k) ir ?_;intro w3 hr3 hg3 hs3;have iO:=aa hr3;have zI:=aa hg3;clear hr3 hg3)|(refine cU rfl 355 _ _ rfl iO.o (fun j=>by unfold cO;split <;>rfl) k hk rfl (gA f i) rfl rfl (Jk f i) ir ?_;intro w4 hr4 hg4 tL;have oI:=aa hr4;have uZ:=aa hg4;clear hr4 hg4));have aiu:w4.heap[p]? =w.heap[p]?:=(uZ.o.block p (by have:=zI.o.size;exact aP (show p<w.drew.heap.size from HP.o.lt) this) (by simpa using zy)).trans (zI.o.block p HP.o.lt (by simpa using zy));have aiE:w4.heap[mb]? =w.heap[mb]?:=(uZ.o.block mb (by have:=zI.o.size;exact aP (show mb<w.drew.heap.size from HM.o.lt) this) (by simpa using fun e=>Td e.symm)).trans (zI.o.block mb HM.o.lt (by simpa using fun e=>Td e.symm));have uh:aD w4 p 319 #[qT,.slice (some ⟨g,0,none⟩) l cap,.map (some mb),.int .i64 next]:=aiu.trans HP.o;have xM:=HM.o.same aiE;have hr4:=oI.o;rw[MD] at hr4;have jU:aG S w w4:=((aG.refl S w).grown (show w.grownBy w3 (some g)from⟨zI.o.os,zI.o.tape,zI.o.output,zI.o.size,zI.o.block⟩) (fun q e=>.inl (by injection e with e;subst e;exact sg))).grown uZ.o (fun q e=>.inl (by injection e with e;subst e;exact sg));clear x1 y0 y1 y2 z0 z1 z2 HR HP HM iO oI zI uZ hs3 tL aiu aiE w3;have x1:=uh.cl 1;have x2:=uh.cl 2;have y2:w4.cell? ⟨g,i*3+2,none⟩=some (.int .i64 (f k).aZ):=by
  have:=hr4.range (fP _) hi 2 _ rfl
  rwa [(mS f i k).1] at this
 have z2:w4.cell? ⟨g,k*3+2,none⟩=some (.int .i64 (f i).aZ):=by
  have:=hr4.range (fP _) hk 2 _ rfl
  rwa [(mS f i k).2] at this
 have oI:=aa hr4;have NT:=aa uh;have nU:=aa jU;have Xk:dt af 3 3 .i64 w4.drew mb l φ:=xM;have Sz:=aa Xk;obtain⟨Th,aot⟩:=HH.o.bound.2.2.2 i hi;obtain⟨cK,aos⟩:=HH.o.bound.2.2.2 k hk;have Ef:=HH.o.bound.2.2.1;clear hr4 uh jU xM Xk;go_still_tail 13,aW;change wpList _ _ _ _ _ w4.drew;go_wp2_with (at_mapUpdate;refine gl rfl _ _ _ 316 rfl 3 3 .i64 fC fC Tryz.underlying316 mb l φ rfl Sz.o aaf _ _ rfl rfl (lJ ag) (lJ ag) ?_;intro w5 rD cJ;have CS:=aa rD;have jk:=aa cJ;clear rD cJ);have rD:=CS.o;rw[NR.o.1 k hk] at rD;have lY:w4.grownBy w5 (some mb):=⟨jk.o.os,jk.o.tape,jk.o.output,jk.o.size,jk.o.block⟩;have Ia:aD w5 p 319 #[qT,.slice (some ⟨g,0,none⟩) l cap,.map (some mb),.int .i64 next]:=(lY.block p NT.o.lt (by simpa using KY)).trans NT.o;have sf:aO S w5 355 3 (.slice (some ⟨g,0,none⟩) l cap) l (gA (cP f i k)):=oI.o.pH lY Td;have oz:=nU.o.grown lY (fun q e=>.inl LV);clear x1 x2 y2 z2 Sz CS jk NT oI nU;have x1:=Ia.cl 1;have x2:=Ia.cl 2;have z2:w5.cell? ⟨g,k*3+2,none⟩=some (.int .i64 (f i).aZ):=by
  have:=sf.range (fP _) hk 2 _ rfl
  rwa [(mS f i k).2] at this
 have aiG:dt af 3 3 .i64 w5.drew mb l (tK φ (f k).aZ (some (i:Int))):=rD;have CS:=aa aiG;have rF:=aa sf;have Dx:=aa Ia;have pg:=aa oz;have wy:=aa lY;clear rD aiG sf Ia oz lY;go_still_tail 13,aW;change wpList _ _ _ _ _ w5.drew;go_wp2_with (at_mapUpdate;refine gl rfl _ _ _ 316 rfl 3 3 .i64 fC fC Tryz.underlying316 mb l _ rfl CS.o aaf _ _ rfl rfl (lJ ag) (lJ ag) ?_;intro w6 CM jG;have HM6:=aa CM;have GI:=aa jG;clear CM jG);have CM:=HM6.o;have hφ:tK φ (f k).aZ (some (i:Int)) (f i).aZ=some (if i=k then(i:Int)else(i:Int)):=by
  by_cases e:(f i).aZ=(f k).aZ
  ·rw[e,fy];simp
  rw[cQ _ _ e,NR.o.1 i hi];simp
 rw[hφ] at CM;have afM:w5.grownBy w6 (some mb):=⟨GI.o.os,GI.o.tape,GI.o.output,GI.o.size,GI.o.block⟩;have zz:aD w6 p 319 #[qT,.slice (some ⟨g,0,none⟩) l cap,.map (some mb),.int .i64 next]:=(afM.block p Dx.o.lt (by simpa using KY)).trans Dx.o;have CK:=rF.o.pH afM Td;have pQ:=pg.o.grown afM (fun q e=>.inl LV);refine bodyPost_end (results_none Tryz.results315 _ _ _) rfl ⟨⟨_,rfl⟩,⟨⟨_,mb,_,zz,CK,CM,NR.o.swap hi hk,sp,sm⟩,HH.o.bound.1,HH.o.bound.2.1,HH.o.bound.2.2.1,fun j hj=>?_⟩,pQ⟩;by_cases h1:j=k
 ·subst h1;rw[(mS f i j).2];exact HH.o.bound.2.2.2 i hi
 ·by_cases h2:j=i
  ·subst h2;rw[(mS f j k).1];exact HH.o.bound.2.2.2 k hk
  rw[xu f h2 h1];exact HH.o.bound.2.2.2 j hj
end Hp
end
section
namespace Hp
theorem eM{S:Nat→Prop}{w w':World}(hb:Below w.heap.size w w'){p l:Nat}{next:Int}{f:Nat→eO}(h:bP S w p l next f): bP S w' p l next f:=by
 obtain⟨iv,mb,φ,hp,hr,hm,hpl,sp,sm⟩:=h.dQ;exact⟨⟨iv,mb,φ,hp.keep hb,hr.keep hb,hm.same (hb.block mb hm.lt),hpl,sp,sm⟩,h.bound⟩
theorem wb(S:Nat→Prop)(p l i k:Nat)(next:Int)(f:Nat→eO)(w:World)(h:bP S w p l next f)(hi:i<l)(hk:k<l):
  Calls af 355 #[.pointer (some ⟨p,0,none⟩),.int .i64 i,.int .i64 k] w fun e w'=>e= .returned (.bool (iU f i k))∧Below w.heap.size w w':=by
 obtain⟨iv,mb,φ,hp,hr,hm,hpl,sp,sm⟩:=h.dQ;obtain⟨g,cap,rfl,sg,sk,uj,oT⟩:=hr.form ag;have ri:=hr.range (fP f) hi;have rk:=hr.range (fP f) hk;exact R6 p g cap l i k _ _ _ _ _ _ w (hp.cell 0) (hp.cell 1) (ri 0 _ rfl) (ri 1 _ rfl) (ri 2 _ rfl) (rk 0 _ rfl) (rk 1 _ rfl) (rk 2 _ rfl) hi hk (by have:=h.bound.1;omega) uj hp.lt oT
theorem DZ(S:Nat→Prop)(p l a0:Nat)(next:Int)(f:Nat→eO)(w:World)(h:bP S w p l next f)(ha:a0<l):
  Calls af 313 #[.pointer (some ⟨p,0,none⟩),.int .i64 a0] w fun e w'=>(∃ v,e= .returned v)∧bP S w' p l next (gm f l a0)∧aG S w w':=by
 have HH:=aa h;have MZ:l≤65536:=h.bound.1;clear h;go_enter Tryz.func313,Tryz.ntmps313;go_wp2_with fail;go_loopw [1] (fun at_ wr=>∃ (k a:Nat) (f':Nat→eO),a≤k∧a<l∧at_= .int .i64 a∧bP S wr p l next f'∧aG S w wr∧up k f' a=up a0 f a0) (fun at_ _=>(intOf at_).toNat)
 case atStart=>exact⟨a0,a0,f,Nat.le_refl _,ha,rfl,HH.o,aG.refl S w,rfl⟩
 case round=>
  obtain⟨k,a,f',hka,RT,rfl,hI,ht,hup⟩:=hrel;have HI:=aa hI;have HT:=aa ht;have HU:=aa hup;clear hI ht hup HH;have ha0:(0:Int)≤(a:Int):=ag;have aox:(a:Int)≤65536:=ag;rcases Nat.eq_zero_or_pos a with h0|h0
  ·have hst:up k f' a=(f',a):=E3 (.inl h0);have P2:=aa (HU.o.symm.trans hst);have hq: ¬(0:Int)<(a:Int):=ag;clear HU hst h0;go_wp2_with fail;go_loopw [1,4,5] (fun B1 le kk wr2=>∃ (k2 a2:Nat) (f2:Nat→eO),a2<l∧l - a2≤k2∧B1= .int .i64 a2∧bP S wr2 p l next f2∧aG S w wr2∧down l k2 f2 a2=gm f l a0) (fun B1 _ _ _=>(l - intOf B1).toNat)
   case atStart=>exact⟨l,a,f',RT,ag,rfl,HI.o,HT.o,by rw[gm,P2.o]⟩
   case round=>
    rename World=>wo
    obtain⟨k2,a2,f2,ha2,hk2,rfl,hI,ht,hdn⟩:=hrel;clear HI HT P2;have HI:=aa hI;have HT:=aa ht;have HD:=aa hdn;clear hI ht hdn;have amw:(0:Int)≤(a2:Int):=ag;have amv:(a2:Int)≤65536:=ag;go_wp2_with fail;go_loopw [4,5] (fun le kk wr3=>∃ r:Nat,r≤2∧le= .int .i64 (pk f2 l a2 r:Nat)∧kk= .int .i64 (2*(a2:Int)+1+(r:Int))∧bP S wr3 p l next f2∧aG S w wr3) (fun _ kk _=>(2*(a2:Int)+3 - intOf kk).toNat)
    case atStart=>exact⟨0,ag,rfl,by go_num,HI.o,HT.o⟩
    case round=>
     rename World=>wi
     obtain⟨r,hr2,rfl,rfl,hI,ht⟩:=hrel;clear HI HT;have HI:=aa hI;have HT:=aa ht;clear hI ht;obtain⟨q,hq⟩:=ae (pk f2 l a2 r);have hql:q<l:=by rw[←hq];exact O7 ha2 r
     have Gd:=Vx (f:=f2) (l:=l) (at_:=a2) r;rw[hq] at Gd ⊢;have HQ:=aa hq;have HQA:=aa Gd;clear hq Gd;obtain⟨iv,mb,φ,hpA,hrA,hmA,afF,spA,smA⟩:=HI.o.dQ;obtain⟨g,cap,rfl,sg,sk,uj,oT⟩:=hrA.form ag;have x1:wi.cell? ⟨p,1,none⟩=some (.slice (some ⟨g,0,none⟩) l cap):=hpA.cell 1;clear hpA hrA hmA afF spA smA oT sg sk uj;exact ahN
  have hq:(0:Int)<(a:Int):=ag;obtain⟨b,hb⟩:=ae ((a - 1) / 2);have Ih:b<a:=ag;have Th:((a:Int) - 1) / 2=(b:Int):=ag;have hbl:b<l:=ag;have hb0:(0:Int)≤(b:Int):=ag;have hb1:(b:Int)≤65536:=ag;cases hah:iU f' a b
  case true=>
   have hstep: ∀ j,k=j+1→up k f' a=up j (cP f' a b) b:=fun j e=>by
    subst e;have:=OB (k:=j) (f:=f') h0 (by rw[hb];exact hah)
    rwa [hb] at this
   have Eh: ∃ j,k=j+1:=⟨k - 1,ag⟩;obtain⟨j,hj⟩:=Eh;have P2:=aa ((hstep j hj).symm.trans HU.o);have hbj:b≤j:=ag;have HK:=aa hbj;clear HU hstep hka hj hbj h0;have HB:=aa hb;clear hb;go_wp2_with fail;refine(wb S p l a b next f' _ HI.o RT hbl).mono ?_;rw[hah];rintro e w2 ⟨rfl,hb2⟩;have qY:=eM hb2 HI.o;have jL:=HT.o.ai hb2;have ze:=aa qY;have gV:=aa jL;clear qY jL hb2;go_wp2_with fail;refine(zo S p l a b next f' _ ze.o RT hbl).mono ?_;rintro e w3 ⟨⟨v3,rfl⟩,fw,kv⟩;have gH:=aa fw;have jR:=aa (gV.o.trans kv);clear fw kv;go_wp2_with fail;go_roundw
   case rel=>exact⟨j,b,cP f' a b,HK.o,hbl,TX,gH.o,jR.o,P2.o⟩
   case measure=>simp[intOf];omega
  case false=>
   have hst:up k f' a=(f',a):=E3 (.inr (by rw[hb];exact hah));have P2:=aa (HU.o.symm.trans hst);clear HU hst h0;have HB:=aa hb;clear hb;go_wp2_with fail;refine(wb S p l a b next f' _ HI.o RT hbl).mono ?_;rw[hah];rintro e w2 ⟨rfl,hb2⟩;have qY:=eM hb2 HI.o;have jL:=HT.o.ai hb2;clear HI HT;have HI:=aa qY;have HT:=aa jL;clear qY jL hb2 hq Th hb0 hb1 Ih hbl HB hah;go_wp2_with fail;go_loopw [1,4,5] (fun B1 le kk wr2=>∃ (k2 a2:Nat) (f2:Nat→eO),a2<l∧l - a2≤k2∧B1= .int .i64 a2∧bP S wr2 p l next f2∧aG S w wr2∧down l k2 f2 a2=gm f l a0) (fun B1 _ _ _=>(l - intOf B1).toNat)
   case atStart=>exact⟨l,a,f',RT,ag,rfl,HI.o,HT.o,by rw[gm,P2.o]⟩
   case round=>
    rename World=>wo
    obtain⟨k2,a2,f2,ha2,hk2,rfl,hI,ht,hdn⟩:=hrel;clear HI HT P2;have HI:=aa hI;have HT:=aa ht;have HD:=aa hdn;clear hI ht hdn;have amw:(0:Int)≤(a2:Int):=ag;have amv:(a2:Int)≤65536:=ag;go_wp2_with fail;go_loopw [4,5] (fun le kk wr3=>∃ r:Nat,r≤2∧le= .int .i64 (pk f2 l a2 r:Nat)∧kk= .int .i64 (2*(a2:Int)+1+(r:Int))∧bP S wr3 p l next f2∧aG S w wr3) (fun _ kk _=>(2*(a2:Int)+3 - intOf kk).toNat)
    case atStart=>exact⟨0,ag,rfl,by go_num,HI.o,HT.o⟩
    case round=>
     rename World=>wi
     obtain⟨r,hr2,rfl,rfl,hI,ht⟩:=hrel;clear HI HT;have HI:=aa hI;have HT:=aa ht;clear hI ht;obtain⟨q,hq⟩:=ae (pk f2 l a2 r);have hql:q<l:=by rw[←hq];exact O7 ha2 r
     have Gd:=Vx (f:=f2) (l:=l) (at_:=a2) r;rw[hq] at Gd ⊢;have HQ:=aa hq;have HQA:=aa Gd;clear hq Gd;obtain⟨iv,mb,φ,hpA,hrA,hmA,afF,spA,smA⟩:=HI.o.dQ;obtain⟨g,cap,rfl,sg,sk,uj,oT⟩:=hrA.form ag;have x1:wi.cell? ⟨p,1,none⟩=some (.slice (some ⟨g,0,none⟩) l cap):=hpA.cell 1;clear hpA hrA hmA afF spA smA oT sg sk uj;exact ahN
