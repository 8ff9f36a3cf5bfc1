import Derived.Test.YtemighjbfanenaaGreatDoorPk1
import Derived.Test.YtemighjbfanenaaGreatDoorChecked
import Derived.StillTailTactics
set_option linter.all false
set_option maxRecDepth 100000
set_option maxHeartbeats 16000000
namespace Go.Proofs.YtemighjbfanenaaGreatDoor
open RowKit
open And renaming intro→dy
open Go.Proofs.Tryz renaming results313→YK,underlying3→fu,prog→af
open Go.WalkArith renaming wf_i64→lJ
open Nat renaming lt_of_lt_of_le→aW
open RowKit.Below renaming refl→au
theorem agK{p:Prop}(h:p:=by
 by_cases hr:r<2
 ·by_cases hl:2*a2+1+r<l
  ·have hc1:(2*(a2:Int)+1+(r:Int))≤2*(a2:Int)+2:=by omega
   have hc2:(2*(a2:Int)+1+(r:Int))<(l:Int):=aj;obtain⟨kn,Ms⟩:=ae (2*a2+1+r:Nat);have hki:2*(a2:Int)+1+(r:Int)=(kn:Int):=aj;rw[hki] at hc1 hc2 ⊢;have Hx:kn<l:=aj;have D6:(0:Int)≤(kn:Int):=aj;have hk6:(kn:Int)≤65536:=aj;have HKN:=aa Ms;have HKI:=aa hki;clear Ms hki hl;cases hah:iR f2 kn q
   case true=>
    have hst:pk f2 l a2 (r+1)=kn:=by
     have:=aew (f:=f2) (l:=l) (at_:=a2) (r:=r) (by rw[HKN.o];exact Hx) Tn;rw[this,HKN.o]
    have HST:=aa hst;clear hst;go_wp2_with fail;refine(wC S p l kn q next f2 _ HI.o Hx hql).mono ?_;rw[hah];rintro e w2 ⟨rfl,hb2⟩;have zA:=aa (eH hb2 HI.o);have gh:=aa (HT.o.ak hb2);clear hb2;go_wp2_with fail;go_roundw
    case rel=>exact⟨r+1,aj,by rw[HST.o],T6,zA.o,gh.o⟩
    case measure=>simp[intOf];omega
   case false=>
    have hst:pk f2 l a2 (r+1)=q:=by
     have:=agE (f:=f2) (l:=l) (at_:=a2) (r:=r) Tn;rw[this,HQ.o]
    have HST:=aa hst;clear hst;go_wp2_with fail;refine(wC S p l kn q next f2 _ HI.o Hx hql).mono ?_;rw[hah];rintro e w2 ⟨rfl,hb2⟩;have zA:=aa (eH hb2 HI.o);have gh:=aa (HT.o.ak hb2);clear hb2;go_wp2_with fail;go_roundw
    case rel=>exact⟨r+1,aj,by rw[HST.o],T6,zA.o,gh.o⟩
    case measure=>simp[intOf];omega
  have hc1:(2*(a2:Int)+1+(r:Int))≤2*(a2:Int)+2:=aj;have hc2: ¬(2*(a2:Int)+1+(r:Int))<(l:Int):=aj;have wh:pick f2 l a2=q:=by
   have:=Ot (f:=f2) (l:=l) (at_:=a2) (r:=r) aj (2 - r);rw[show r+(2 - r)=2 from aj,HQ.o] at this;exact this
  have HPK:=aa wh;clear wh;have VX:(0:Int)≤(q:Int):=aj;by_cases Jw:q=a2
  ·subst Jw;have HDN:=aa (HD.o.symm.trans (yg HPK.o));go_wp2_with fail;refine bodyPost_ret (results_none YK _ _ _) rfl ⟨⟨_,rfl⟩,?_,HT.o⟩;rw[HDN.o];exact HI.o
  have hne:((q:Int)==(a2:Int))=false:=fV;have hlt:a2<q:=abI;obtain⟨j,hj⟩: ∃ j,k2=j+1:=⟨k2 - 1,aj⟩;have HDN:=aa (show down l j (cN f2 a2 q) q=gl f l a0 from by
   have h1:=HD.o;rw[hj,yh Te,HPK.o] at h1;exact h1)
  have HJ:=aa (show l - q≤j from aj);have HQE:=aa Jw;clear Jw hj;go_wp2_with fail;refine(zI S p l a2 q next f2 _ HI.o ha2 hql).mono ?_;rintro e w3 ⟨⟨v3,rfl⟩,fj,kf⟩;have gG:=aa fj;have jF:=aa (HT.o.trans kf);clear fj kf;go_wp2_with fail;go_roundw
  case rel=>exact⟨j,q,cN f2 a2 q,hql,HJ.o,S2,gG.o,jF.o,HDN.o⟩
  case measure=>simp[intOf];omega
 have hc1: ¬(2*(a2:Int)+1+(r:Int))≤2*(a2:Int)+2:=aj;have wh:pick f2 l a2=q:=by
  have e2:r=2:=aj;have:=HQ.o;rw[e2] at this;exact this
 have HPK:=aa wh;clear wh;have VX:(0:Int)≤(q:Int):=aj;by_cases Jw:q=a2
 ·subst Jw;have HDN:=aa (HD.o.symm.trans (yg HPK.o));go_wp2_with fail;refine bodyPost_ret (results_none YK _ _ _) rfl ⟨⟨_,rfl⟩,?_,HT.o⟩;rw[HDN.o];exact HI.o
 have hne:((q:Int)==(a2:Int))=false:=fV;have hlt:a2<q:=abI;obtain⟨j,hj⟩: ∃ j,k2=j+1:=⟨k2 - 1,aj⟩;have HDN:=aa (show down l j (cN f2 a2 q) q=gl f l a0 from by
  have h1:=HD.o;rw[hj,yh Te,HPK.o] at h1;exact h1)
 have HJ:=aa (show l - q≤j from aj);have HQE:=aa Jw;clear Jw hj;go_wp2_with fail;refine(zI S p l a2 q next f2 _ HI.o ha2 hql).mono ?_;rintro e w3 ⟨⟨v3,rfl⟩,fj,kf⟩;have gG:=aa fj;have jF:=aa (HT.o.trans kf);clear fj kf;go_wp2_with fail;go_roundw
 case rel=>exact⟨j,q,cN f2 a2 q,hql,HJ.o,S2,gG.o,jF.o,HDN.o⟩
 case measure=>simp[intOf];omega):p:=h
theorem agI{p:Prop}(h:p:=by
 have Gv:=aa Gv;simp only[CQ];simp only[hq1];clear BM bt ia hq1 CQ;have HW:=aa tB;clear tB Gb;obtain⟨k0,k1,k2,k3,k4,k5,k6,_⟩:=Gv.o _ (au _ _);cases h1:r8 ⟨a1,a2,a3⟩ ⟨b1,b2,b3⟩
 case true=>
  go_still_tail 8,br;change wpList _ _ _ _ _ w2.drew;obtain⟨w3,hw3⟩:=ae w2.drew;have hb3:Below w2.heap.size w2 w3:=S3;rw[hw3];clear hw3;go_wp2_with fail;refine(Yj.o true h1 _).mono ?_;rintro e w4 ⟨rfl,hb4⟩;have My:=av hb3 hb4;obtain⟨k0,k1,k2,k3,k4,k5,k6,_⟩:=Gv.o _ My;go_wp2_with fail;go_ret;exact⟨AJ,av cu.o (My)⟩
 case false=>
  cases h2:r8 ⟨b1,b2,b3⟩ ⟨a1,a2,a3⟩
  case true=>
   go_still_tail 8,br;change wpList _ _ _ _ _ w2.drew;obtain⟨w3,hw3⟩:=ae w2.drew;have hb3:Below w2.heap.size w2 w3:=S3;rw[hw3];clear hw3;go_wp2_with fail;refine(Yj.o false h1 _).mono ?_;rintro e w4 ⟨rfl,hb4⟩;have My:=av hb3 hb4;obtain⟨k0,k1,k2,k3,k4,k5,k6,_⟩:=Gv.o _ My;go_wp2_with fail;refine ud (S:=(fun w'=>w'.cell? ⟨p,0,none⟩=some (.func (.func 94) #[] #[])∧w'.cell? ⟨q7,0,none⟩=some (.int .i64 a1)∧w'.cell? ⟨q7,1,none⟩=some (.int .u32 a2)∧w'.cell? ⟨q7,2,none⟩=some (.int .i64 a3)∧w'.cell? ⟨q8,0,none⟩=some (.int .i64 b1)∧w'.cell? ⟨q8,1,none⟩=some (.int .u32 b2)∧w'.cell? ⟨q8,2,none⟩=some (.int .i64 b3)∧Below w2.heap.size w2 w')) TJ fun hHeld=>?_
   refine ov 0 1 2 3 4 5 6 7 ?_;refine cG 8 fun K hK=>?_
   go_simp;refine(Ss.o true h2 _).mono ?_;rintro e w6 ⟨rfl,mY⟩;have aar:=av hHeld.2.2.2.2.2.2.2 mY;go_wp2_with fail;refine bW hK TV fun qA=>?_
   clear hK K;refine ov 9 10 11 12 13 14 15 16 ?_;refine ty 17 ?_;refine bO ?_;go_wp2_with fail;go_ret;exact⟨by rw[h1,h2];rfl,av cu.o (aar)⟩
  case false=>
   go_still_tail 8,br;change wpList _ _ _ _ _ w2.drew;obtain⟨w3,hw3⟩:=ae w2.drew;have hb3:Below w2.heap.size w2 w3:=S3;rw[hw3];clear hw3;go_wp2_with fail;refine(Yj.o false h1 _).mono ?_;rintro e w4 ⟨rfl,hb4⟩;have My:=av hb3 hb4;obtain⟨k0,k1,k2,k3,k4,k5,k6,_⟩:=Gv.o _ My;go_wp2_with fail;refine ud (S:=(fun w'=>w'.cell? ⟨p,0,none⟩=some (.func (.func 94) #[] #[])∧w'.cell? ⟨q7,0,none⟩=some (.int .i64 a1)∧w'.cell? ⟨q7,1,none⟩=some (.int .u32 a2)∧w'.cell? ⟨q7,2,none⟩=some (.int .i64 a3)∧w'.cell? ⟨q8,0,none⟩=some (.int .i64 b1)∧w'.cell? ⟨q8,1,none⟩=some (.int .u32 b2)∧w'.cell? ⟨q8,2,none⟩=some (.int .i64 b3)∧Below w2.heap.size w2 w')) TJ fun hHeld=>?_
   refine ov 0 1 2 3 4 5 6 7 ?_;refine cG 8 fun K hK=>?_
   go_simp;refine(Ss.o false h2 _).mono ?_;rintro e w6 ⟨rfl,mY⟩;have aar:=av hHeld.2.2.2.2.2.2.2 mY;go_wp2_with fail;refine bW hK TV fun qA=>?_
   clear hK K;refine ov 9 10 11 12 13 14 15 16 ?_;refine ty 17 ?_;refine bO ?_;go_wp2_with fail;go_ret;exact⟨by rw[h1,h2];rfl,av cu.o (aar)⟩):p:=h
theorem IJ{p:Prop}(h:p:=by first|exact tB _ (ax (ax (az (au _ _)) _) _)|exact tB _ (ax (az (au _ _)) _)):p:=h
theorem ZF{p:Prop}(h:p:=by unfold maxLen;omega):p:=h
theorem S3{p:Prop}(h:p:=by rw[←hw3];exact az (au _ _)):p:=h
theorem abI{p:Prop}(h:p:=by rcases HQA.o with h1|h1;exact absurd h1 Jw;exact h1):p:=h
theorem S2{p:Prop}(h:p:=by first|rfl|go_num):p:=h
theorem T6{p:Prop}(h:p:=by have:=HKI.o;first|(congr 1;omega)|go_num):p:=h
theorem TV{p:Prop}(h:p:=by first|exact Gv.o _ aar|assumption):p:=h
theorem TJ{p:Prop}(h:p:=by exact Gv.o _ (az My)):p:=h
theorem LA{p:Prop}(h:p:=by injection e with e;subst e;exact sm):p:=h
theorem Tn{p:Prop}(h:p:=by rw[HKN.o,HQ.o];exact hah):p:=h
theorem Te{p:Prop}(h:p:=by rw[HPK.o];exact Jw):p:=h
theorem AJ{p:Prop}(h:p:=by rw[h1];rfl):p:=h
section
section
namespace Hp
def rp: Value:=.func (.func 94) #[] #[]
def gw(f:Nat→eJ)(i:Nat): List Value:=[.int .i64 (f i).aS,.int .u32 (f i).id,.int .i64 (f i).bc]
theorem fN(f:Nat→eJ)(i:Nat): (gw f i).length=3:=rfl
theorem Pk(a b c d:Int)(w:World): Calls af 94 #[.agg #[.int .i64 a,.int .u32 b],.agg #[.int .i64 c,.int .u32 d]] w fun e w'=>e= .returned (.bool (decide (a<c)||(a==c && decide (b<d))))∧Below w.heap.size w w':=by
 have hb:Below w.heap.size w ((w.alloc (.cells #[.int .i64 a,.int .u32 b] 211)).alloc (.cells #[.int .i64 c,.int .u32 d] 211)):=ax (ax (au _ _) _) _;have HB:=aa hb;clear hb;by_cases h1:a<c
 ·have q1:decide (a<c)=true:=decide_eq_true h1;go_enter Tryz.func94,Tryz.ntmps94;go_wp2_with fail;go_ret;exact⟨by simp[h1],HB.o⟩
 have q1:decide (a<c)=false:=decide_eq_false h1;by_cases h2:a=c
 ·have q2:(a==c)=true:=by simpa using h2
  by_cases h3:b<d
  ·have q3:decide (b<d)=true:=decide_eq_true h3;have H:=aa (dy h1 (dy h2 h3));clear h1 h2 h3;go_enter Tryz.func94,Tryz.ntmps94;go_wp2_with fail;go_ret;exact⟨by simp[H.o.2.1,H.o.2.2],HB.o⟩
  have q3:decide (b<d)=false:=decide_eq_false h3;have H:=aa (dy h1 (dy h2 h3));clear h1 h2 h3;go_enter Tryz.func94,Tryz.ntmps94;go_wp2_with fail;go_ret;exact⟨by simp[q1,q2,q3],HB.o⟩
 have q2:(a==c)=false:=by simpa using h2
 have H:=aa (dy h1 h2);clear h1 h2;go_enter Tryz.func94,Tryz.ntmps94;go_wp2_with fail;go_ret;exact⟨by simp[q1,q2],HB.o⟩
end Hp
end
section
namespace Hp
theorem Rk(p g cap l i k:Nat)(a1 a2 a3 b1 b2 b3:Int)(w:World)(x0:w.cell? ⟨p,0,none⟩=some rp)(x1:w.cell? ⟨p,1,none⟩=some (.slice (some ⟨g,0,none⟩) l cap))
  (y1:w.cell? ⟨g,i*3,none⟩=some (.int .i64 a1)) (y2:w.cell? ⟨g,i*3+1,none⟩=some (.int .u32 a2)) (y3:w.cell? ⟨g,i*3+2,none⟩=some (.int .i64 a3))
  (z1:w.cell? ⟨g,k*3,none⟩=some (.int .i64 b1)) (z2:w.cell? ⟨g,k*3+1,none⟩=some (.int .u32 b2)) (z3:w.cell? ⟨g,k*3+2,none⟩=some (.int .i64 b3)) (hi:i<l) (hk:k<l) (hl:l≤70000) (sx:cap≤maxLen) (hpl:p<w.heap.size) (sw:g<w.heap.size) :
  Calls af 355 #[.pointer (some ⟨p,0,none⟩),.int .i64 i,.int .i64 k] w fun e w'=>e= .returned (.bool (r8 ⟨a1,a2,a3⟩ ⟨b1,b2,b3⟩||(!r8 ⟨b1,b2,b3⟩ ⟨a1,a2,a3⟩ && decide (a3<b3))))∧Below w.heap.size w w':=by
 have tB: ∀ w',Below w.heap.size w w'→(w'.cell? ⟨p,1,none⟩=some (.slice (some ⟨g,0,none⟩) l cap)∧w'.cell? ⟨g,i*3,none⟩=some (.int .i64 a1)∧w'.cell? ⟨g,i*3+1,none⟩=some (.int .u32 a2)∧w'.cell? ⟨g,i*3+2,none⟩=some (.int .i64 a3)∧w'.cell? ⟨g,k*3,none⟩=some (.int .i64 b1)∧w'.cell? ⟨g,k*3+1,none⟩=some (.int .u32 b2)∧w'.cell? ⟨g,k*3+2,none⟩=some (.int .i64 b3)∧Below w.heap.size w w'):=fun w' hb=>
  ⟨(hb.cell (p:=⟨p,1,none⟩) hpl).trans x1,(hb.cell (p:=⟨g,i*3,none⟩) sw).trans y1,(hb.cell (p:=⟨g,i*3+1,none⟩) sw).trans y2,(hb.cell (p:=⟨g,i*3+2,none⟩) sw).trans y3,(hb.cell (p:=⟨g,k*3,none⟩) sw).trans z1,(hb.cell (p:=⟨g,k*3+1,none⟩) sw).trans z2,(hb.cell (p:=⟨g,k*3+2,none⟩) sw).trans z3,hb⟩
 have Mv:(i:Int)<(l:Int):=aj;have yU:(k:Int)<(l:Int):=aj;have CT:(0:Int)≤(i:Int):=aj;have D6:(0:Int)≤(k:Int):=aj;have Yj: ∀ v,r8 ⟨a1,a2,a3⟩ ⟨b1,b2,b3⟩=v→∀ W,Calls af 94 #[.agg #[.int .i64 a1,.int .u32 a2],.agg #[.int .i64 b1,.int .u32 b2]] W fun e w'=>e= .returned (.bool v)∧Below W.heap.size W w':=fun v hv W=>hv▸Pk a1 a2 b1 b2 W
 have Ss: ∀ v,r8 ⟨b1,b2,b3⟩ ⟨a1,a2,a3⟩=v→∀ W,Calls af 94 #[.agg #[.int .i64 b1,.int .u32 b2],.agg #[.int .i64 a1,.int .u32 a2]] W fun e w'=>e= .returned (.bool v)∧Below W.heap.size W w':=fun v hv W=>hv▸Pk b1 b2 a1 a2 W
 have Yj:=aa Yj;have Ss:=aa Ss;have HX0:=aa x0;clear x0 y1 y2 y3 z1 z2 z3 x1 hi hk;rw[show rp= .func (.func 94) #[] #[] from rfl] at HX0;go_enter Tryz.func355,Tryz.ntmps355;go_wp2_with fail;refine ud (S:=(fun w'=>w'.cell? ⟨p,1,none⟩=some (.slice (some ⟨g,0,none⟩) l cap)∧w'.cell? ⟨g,i*3,none⟩=some (.int .i64 a1)∧w'.cell? ⟨g,i*3+1,none⟩=some (.int .u32 a2)∧w'.cell? ⟨g,i*3+2,none⟩=some (.int .i64 a3)∧w'.cell? ⟨g,k*3,none⟩=some (.int .i64 b1)∧w'.cell? ⟨g,k*3+1,none⟩=some (.int .u32 b2)∧w'.cell? ⟨g,k*3+2,none⟩=some (.int .i64 b3)∧Below w.heap.size w w')) (by exact tB _ (az (au _ _))) fun hHeld=>?_
 refine ov 0 1 2 3 4 5 6 7 ?_;refine Qd 8 9 10 11 12 13 ?_;refine qp 14 15 (fun K hK=>?_) fun K hK=>?_
 ·go_simp;go_wp2_with fail;refine bW hK IJ fun lN=>?_
  clear hK K;refine cG 15 fun K hK=>?_
  go_simp;go_wp2_with fail;refine bW hK IJ fun Gc=>?_
  clear hK K;refine cG 16 fun K hK=>?_
  go_simp;go_wp2_with fail;refine bW hK IJ fun aaw=>?_
  clear hK K;refine cG 17 fun K hK=>?_
  go_simp;go_wp2_with fail;refine bW hK IJ fun Gb=>?_
  clear hK K;refine bO ?_;go_wp2_with fail;have bt:aG (((w.alloc (.cells #[.int .i64 a1,.int .u32 a2,.int .i64 a3] 355)).alloc (.cells #[.int .i64 b1,.int .u32 b2,.int .i64 b3] 355)).drew) w.heap.size 355 #[.int .i64 a1,.int .u32 a2,.int .i64 a3]:=(aG.alloc (aG.fresh w _ _) _).drew;have ia:aG (((w.alloc (.cells #[.int .i64 a1,.int .u32 a2,.int .i64 a3] 355)).alloc (.cells #[.int .i64 b1,.int .u32 b2,.int .i64 b3] 355)).drew) (w.heap.size+1) 355 #[.int .i64 b1,.int .u32 b2,.int .i64 b3]:=(aG.new dR).drew;have pc:Below w.heap.size w (((w.alloc (.cells #[.int .i64 a1,.int .u32 a2,.int .i64 a3] 355)).alloc (.cells #[.int .i64 b1,.int .u32 b2,.int .i64 b3] 355)).drew):=az (ax (ax (au _ _) _) _);obtain⟨w2,hw2⟩:=ae (((w.alloc (.cells #[.int .i64 a1,.int .u32 a2,.int .i64 a3] 355)).alloc (.cells #[.int .i64 b1,.int .u32 b2,.int .i64 b3] 355)).drew);rw[hw2] at bt ia pc ⊢;clear hw2;obtain⟨q7,hq1⟩:=ae w.heap.size;obtain⟨q8,CQ⟩:=ae (w.heap.size+1);have cu:=aa pc;clear pc;rw[hq1] at bt;rw[CQ] at ia;have BM:=cu.o.cell (p:=⟨p,0,none⟩) hpl;have Gv: ∀ w',Below w2.heap.size w2 w'→(w'.cell? ⟨p,0,none⟩=some (.func (.func 94) #[] #[])∧w'.cell? ⟨q7,0,none⟩=some (.int .i64 a1)∧w'.cell? ⟨q7,1,none⟩=some (.int .u32 a2)∧w'.cell? ⟨q7,2,none⟩=some (.int .i64 a3)∧w'.cell? ⟨q8,0,none⟩=some (.int .i64 b1)∧w'.cell? ⟨q8,1,none⟩=some (.int .u32 b2)∧w'.cell? ⟨q8,2,none⟩=some (.int .i64 b3)∧Below w2.heap.size w2 w'):=fun w' hb=>
   ⟨(hb.cell (p:=⟨p,0,none⟩) (aW hpl cu.o.size)).trans (BM.trans HX0.o),(bt.ai hb).cell 0,(bt.ai hb).cell 1,(bt.ai hb).cell 2,(ia.ai hb).cell 0,(ia.ai hb).cell 1,(ia.ai hb).cell 2,hb⟩
  exact agI
 ·go_simp;go_wp2_with fail;refine bW hK IJ fun Gc=>?_
  clear hK K;refine cG 14 fun K hK=>?_
  go_simp;go_wp2_with fail;refine bW hK IJ fun lN=>?_
  clear hK K;refine cG 16 fun K hK=>?_
  go_simp;go_wp2_with fail;refine bW hK IJ fun aaw=>?_
  clear hK K;refine cG 17 fun K hK=>?_
  go_simp;go_wp2_with fail;refine bW hK IJ fun Gb=>?_
  clear hK K;refine bO ?_;go_wp2_with fail;have bt:aG (((w.alloc (.cells #[.int .i64 b1,.int .u32 b2,.int .i64 b3] 355)).alloc (.cells #[.int .i64 a1,.int .u32 a2,.int .i64 a3] 355)).drew) w.heap.size 355 #[.int .i64 b1,.int .u32 b2,.int .i64 b3]:=(aG.alloc (aG.fresh w _ _) _).drew;have ia:aG (((w.alloc (.cells #[.int .i64 b1,.int .u32 b2,.int .i64 b3] 355)).alloc (.cells #[.int .i64 a1,.int .u32 a2,.int .i64 a3] 355)).drew) (w.heap.size+1) 355 #[.int .i64 a1,.int .u32 a2,.int .i64 a3]:=(aG.new dR).drew;have pc:Below w.heap.size w (((w.alloc (.cells #[.int .i64 b1,.int .u32 b2,.int .i64 b3] 355)).alloc (.cells #[.int .i64 a1,.int .u32 a2,.int .i64 a3] 355)).drew):=az (ax (ax (au _ _) _) _);obtain⟨w2,hw2⟩:=ae (((w.alloc (.cells #[.int .i64 b1,.int .u32 b2,.int .i64 b3] 355)).alloc (.cells #[.int .i64 a1,.int .u32 a2,.int .i64 a3] 355)).drew);rw[hw2] at bt ia pc ⊢;clear hw2;obtain⟨q8,hq1⟩:=ae w.heap.size;obtain⟨q7,CQ⟩:=ae (w.heap.size+1);have cu:=aa pc;clear pc;rw[hq1] at bt;rw[CQ] at ia;have BM:=cu.o.cell (p:=⟨p,0,none⟩) hpl;have Gv: ∀ w',Below w2.heap.size w2 w'→(w'.cell? ⟨p,0,none⟩=some (.func (.func 94) #[] #[])∧w'.cell? ⟨q7,0,none⟩=some (.int .i64 a1)∧w'.cell? ⟨q7,1,none⟩=some (.int .u32 a2)∧w'.cell? ⟨q7,2,none⟩=some (.int .i64 a3)∧w'.cell? ⟨q8,0,none⟩=some (.int .i64 b1)∧w'.cell? ⟨q8,1,none⟩=some (.int .u32 b2)∧w'.cell? ⟨q8,2,none⟩=some (.int .i64 b3)∧Below w2.heap.size w2 w'):=fun w' hb=>
   ⟨(hb.cell (p:=⟨p,0,none⟩) (aW hpl cu.o.size)).trans (BM.trans HX0.o),(ia.ai hb).cell 0,(ia.ai hb).cell 1,(ia.ai hb).cell 2,(bt.ai hb).cell 0,(bt.ai hb).cell 1,(bt.ai hb).cell 2,hb⟩
  exact agI
end Hp
end
end
section
section
namespace Hp
theorem QN: (af.info? 355).map (fun i=>(i.zero,i.size,i.bytes))=some (some (.agg #[.int .i64 0,.int .u32 0,.int .i64 0]),3,24):=br
theorem iq: (af.info? 355).map (·.size)=some 3:=br
theorem Jg(w:World): (zeroValue 3).run af w= .ok (.int .i64 0) w:=br
theorem Jf(f:Nat→eJ)(i:Nat): ∀ u∈gw f i,u.oneCell'=true:=by
 intro u hu;simp only[gw,List.mem_cons,List.not_mem_nil,or_false] at hu;rcases hu with rfl|rfl|rfl <;>rfl
variable{S:Nat→Prop}{w:World}{e t:TypeId}{sz n g cap b i:Nat}{c:Nat→List Value}{φ:Int→Option Int}
theorem FI{p:Nat} {cs:Array Value}(h:aM S w e sz (.slice (some ⟨g,0,none⟩) n cap) n c)(ha:aG w p t cs)(ht:t≠e): p≠g:=by
 rintro rfl;rcases h.own.2 with⟨hv,_⟩|⟨g',cap',cur,hv,_,hh,_⟩
 ·cases hv
 injection hv with e1
 injection e1 with e1
 injection e1 with e1
 exact Vj
theorem dm{P:Program}{k:TypeId} {q:IntKind}{p:Nat} {cs:Array Value}(h:dp P k e q w b n φ)(ha:aG w p t cs): p≠b:=by
 rintro rfl;obtain⟨D,⟨es,aq,hb,_⟩,_⟩:=h;rw[aG] at ha;rw[ha] at hb;injection hb with hb
 cases hb
theorem BD{P:Program}{k:TypeId} {q:IntKind}{m:Nat} (h:dp P k e q w b n φ)(hr:aM S w t sz (.slice (some ⟨g,0,none⟩) m cap) m c): g≠b:=by
 rintro rfl;obtain⟨D,⟨es,aq,hb,_⟩,_⟩:=h;rcases hr.own.2 with⟨hv,_⟩|⟨g',cap',cur,hv,_,hh,_⟩
 ·cases hv
 injection hv with e1
 injection e1 with e1
 injection e1 with e1
 subst e1;rw[hh] at hb;injection hb with hb
 cases hb
theorem _root_.Go.Proofs.YtemighjbfanenaaGreatDoor.aM.pN{w':World} (h:aM S w e sz (.slice (some ⟨g,0,none⟩) n cap) n c)(hg:w.grownBy w' (some b))(hb:g≠b): aM S w' e sz (.slice (some ⟨g,0,none⟩) n cap) n c:=
 ⟨dY h.own fun q hq=>hg.block q (dM h.own hq).1 (fun e=>by
  have e1:g=q:=by simpa[Value.ownBlock] using hq
  injection e with e;exact hb (e1.trans e)),h.block⟩
structure bR(S:Nat→Prop)(w:World)(p l:Nat)(next:Int)(f:Nat→eJ): Prop where
 cQ: ∃ iv mb φ,aG w p 319 #[rp,iv,.map (some mb),.int .i64 next]∧aM S w 355 3 iv l (gw f)∧dp af 3 3 .i64 w mb l φ∧jV f l φ∧S p∧S mb
 bound:l≤65536∧0≤next∧next≤1099511627776∧∀ i,i<l→0≤(f i).bc∧(f i).bc<next
theorem Mi(f:Nat→eJ)(i k:Nat): cH (cH (gw f) i (gw f k)) k (gw f i)=gw (cN f i k):=by
 funext j;unfold cH;by_cases h1:j=k
 ·subst h1;rw[if_pos rfl];by_cases h2:j=i
  ·subst h2;simp[gw,cN]
  simp[gw,cN,h2]
 rw[if_neg h1];by_cases h2:j=i
 ·subst h2;simp[gw,cN]
 simp[gw,cN,h1,h2]
theorem jV.inj{f:Nat→eJ}{l:Nat}(h:jV f l φ){j:Nat} (hi:i<l)(hj:j<l)(e:(f i).bc=(f j).bc): i=j:=by
 have h1:=h.1 i hi;have h2:=h.1 j hj;rw[e,h2] at h1;injection h1 with h1
 omega
theorem mU(f:Nat→eJ)(i k:Nat): cN f i k i=f k∧cN f i k k=f i:=by
 constructor
 ·simp[cN]
 by_cases h:k=i
 ·subst h;simp[cN]
 simp[cN,h]
theorem xK(f:Nat→eJ){k j:Nat} (h1:j≠i)(h2:j≠k): cN f i k j=f j:=by simp[cN,h1,h2]
theorem jV.swap{f:Nat→eJ}{l:Nat}(h:jV f l φ){k:Nat} (hi:i<l)(hk:k<l): jV (cN f i k) l (tN (tN φ (f k).bc (some (i:Int))) (f i).bc (some (k:Int))):=by
 refine⟨fun j hj=>?_,fun x y hx=>?_⟩
 ·by_cases h1:j=k
  ·subst h1;rw[(mU f i j).2,fo]
  by_cases h2:j=i
  ·subst h2;rw[(mU f j k).1,cP _ _ (fun e=>h1 (h.inj hj hk e.symm)),fo]
  rw[xK f h2 h1,cP _ _ (fun e=>h2 (h.inj hj hi e)),cP _ _ (fun e=>h1 (h.inj hj hk e))];exact h.1 j hj
 by_cases h1:x=(f i).bc
 ·subst h1;rw[fo] at hx;injection hx with hx
  exact⟨k,hk,hx.symm,by rw[(mU f i k).2]⟩
 rw[cP _ _ h1] at hx;by_cases h2:x=(f k).bc
 ·subst h2;rw[fo] at hx;injection hx with hx
  exact⟨i,hi,hx.symm,by rw[(mU f i k).1]⟩
 rw[cP _ _ h2] at hx;obtain⟨j,hj,e1,e2⟩:=h.2 x y hx;refine⟨j,hj,e1,?_⟩;rw[xK f (fun e=>h1 (by rw[←e2,e])) (fun e=>h2 (by rw[←e2,e]))];exact e2
theorem zI(S:Nat→Prop)(p l i k:Nat)(next:Int)(f:Nat→eJ)(w:World)(h:bR S w p l next f)(hi:i<l)(hk:k<l):
  Calls af 315 #[.pointer (some ⟨p,0,none⟩),.int .i64 i,.int .i64 k] w fun e w'=>(∃ v,e= .returned v)∧bR S w' p l next (cN f i k)∧aI S w w':=by
 obtain⟨iv,mb,φ,hp,hr,hm,hpl,sp,sm⟩:=h.cQ;obtain⟨g,cap,rfl,sg,sx,uj,sw⟩:=hr.form aj;have zQ:=FI hr hp aN;have KG:=dm hm hp;have Sa:=BD hm hr;have x1:w.cell? ⟨p,1,none⟩=some (.slice (some ⟨g,0,none⟩) l cap):=hp.cell 1;have ri:=hr.range (fN f) hi;have rk:=hr.range (fN f) hk;have y0:w.cell? ⟨g,i*3,none⟩=some (.int .i64 (f i).aS):=ri 0 _ rfl;have y1:w.cell? ⟨g,i*3+1,none⟩=some (.int .u32 (f i).id):=ri 1 _ rfl;have y2:w.cell? ⟨g,i*3+2,none⟩=some (.int .i64 (f i).bc):=ri 2 _ rfl;have z0:w.cell? ⟨g,k*3,none⟩=some (.int .i64 (f k).aS):=rk 0 _ rfl;have z1:w.cell? ⟨g,k*3+1,none⟩=some (.int .u32 (f k).id):=rk 1 _ rfl;have z2:w.cell? ⟨g,k*3+2,none⟩=some (.int .i64 (f k).bc):=rk 2 _ rfl;have Mv:(i:Int)<(l:Int):=aj;have yU:(k:Int)<(l:Int):=aj;have CT:(0:Int)≤(i:Int):=aj;have D6:(0:Int)≤(k:Int):=aj;have R8:l≤65536:=h.bound.1;have hr':aM S w.drew 355 3 (.slice (some ⟨g,0,none⟩) l cap) l (gw f):=hr.same fun _ _ _=>rfl
 have HR:=aa hr';clear hr';have HP:=aa hp;have HM:=aa hm;have Na:=aa hpl;have HH:=aa h;clear h hp hr hm hpl ri rk;go_enter Tryz.func315,Tryz.ntmps315;go_wp2_with fail;refine dI br ?_;refine bj.any (S:=(fun w'=>w'.cell? ⟨p,1,none⟩=some (.slice (some ⟨g,0,none⟩) l cap)∧w'.cell? ⟨g,i*3,none⟩=some (.int .i64 (f i).aS)∧w'.cell? ⟨g,i*3+1,none⟩=some (.int .u32 (f i).id)∧w'.cell? ⟨g,i*3+2,none⟩=some (.int .i64 (f i).bc)∧w'.cell? ⟨g,k*3,none⟩=some (.int .i64 (f k).aS)∧w'.cell? ⟨g,k*3+1,none⟩=some (.int .u32 (f k).id)∧w'.cell? ⟨g,k*3+2,none⟩=some (.int .i64 (f k).bc))) (t:=25) _ _ _ _ ?_;have hHeld:=(show(fun w'=>w'.cell? ⟨p,1,none⟩=some (.slice (some ⟨g,0,none⟩) l cap)∧w'.cell? ⟨g,i*3,none⟩=some (.int .i64 (f i).aS)∧w'.cell? ⟨g,i*3+1,none⟩=some (.int .u32 (f i).id)∧w'.cell? ⟨g,i*3+2,none⟩=some (.int .i64 (f i).bc)∧w'.cell? ⟨g,k*3,none⟩=some (.int .i64 (f k).aS)∧w'.cell? ⟨g,k*3+1,none⟩=some (.int .u32 (f k).id)∧w'.cell? ⟨g,k*3+2,none⟩=some (.int .i64 (f k).bc)) w.drew from⟨x1,y0,y1,y2,z0,z1,z2⟩);refine tt 0 ?_;refine tt 1 ?_;refine tt 2 ?_;refine tt 3 ?_;refine tt 4 ?_;refine tp 5 ?_;refine tp 6 ?_;refine tp 7 ?_;refine tt 8 ?_;refine tp 9 ?_;refine tt 10 ?_;refine tt 11 ?_;refine tt 12 ?_;refine tt 13 ?_;refine tt 14 ?_;refine tt 15 ?_;refine tt 16 ?_;refine tp 17 ?_;refine tp 18 ?_;refine tp 19 ?_;refine tt 20 ?_;refine tp 21 ?_;refine tp 22 ?_;refine tt 23 ?_;refine tt 24 ?_;refine bj.last br ?_;refine kB 25 br br ?_;simp only[List.drop_succ_cons,List.drop_zero];go_wp2_with (first|(refine cU rfl 355 _ _ rfl HR.o (fN f) i hi rfl (gw f k) rfl rfl (Jf f k) iq ?_;intro w3 hr3 hg3 hs3;have gM:=aa hr3;have Aa:=aa hg3;clear hr3 hg3)|(refine cU rfl 355 _ _ rfl gM.o (fun j=>by unfold cH;split <;>rfl) k hk rfl (gw f i) rfl rfl (Jf f i) iq ?_;intro w4 hr4 hg4 sr;have mj:=aa hr4;have ve:=aa hg4;clear hr4 hg4));have ahg:w4.heap[p]? =w.heap[p]?:=(ve.o.block p (by have:=Aa.o.size;exact aW (show p<w.drew.heap.size from HP.o.lt) this) (by simpa using zQ)).trans (Aa.o.block p HP.o.lt (by simpa using zQ));have ahq:w4.heap[mb]? =w.heap[mb]?:=(ve.o.block mb (by have:=Aa.o.size;exact aW (show mb<w.drew.heap.size from HM.o.lt) this) (by simpa using fun e=>Sa e.symm)).trans (Aa.o.block mb HM.o.lt (by simpa using fun e=>Sa e.symm));have ui:aG w4 p 319 #[rp,.slice (some ⟨g,0,none⟩) l cap,.map (some mb),.int .i64 next]:=ahg.trans HP.o;have xZ:=HM.o.same ahq;have hr4:=mj.o;rw[Mi] at hr4;have jJ:aI S w w4:=((aI.refl S w).grown (show w.grownBy w3 (some g)from⟨Aa.o.os,Aa.o.tape,Aa.o.output,Aa.o.size,Aa.o.block⟩) (fun q e=>.inl (by injection e with e;subst e;exact sg))).grown ve.o (fun q e=>.inl (by injection e with e;subst e;exact sg));clear x1 y0 y1 y2 z0 z1 z2 HR HP HM gM mj Aa ve hs3 sr ahg ahq w3;have x1:=ui.cl 1;have x2:=ui.cl 2;have y2:w4.cell? ⟨g,i*3+2,none⟩=some (.int .i64 (f k).bc):=by
  have:=hr4.range (fN _) hi 2 _ rfl
  rwa [(mU f i k).1] at this
 have z2:w4.cell? ⟨g,k*3+2,none⟩=some (.int .i64 (f i).bc):=by
  have:=hr4.range (fN _) hk 2 _ rfl
  rwa [(mU f i k).2] at this
 have mj:=aa hr4;have Nc:=aa ui;have nX:=aa jJ;have V9:dp af 3 3 .i64 w4.drew mb l φ:=xZ;have Zr:=aa V9;obtain⟨hbi,amF⟩:=HH.o.bound.2.2.2 i hi;obtain⟨cL,amE⟩:=HH.o.bound.2.2.2 k hk;have D5:=HH.o.bound.2.2.1;clear hr4 ui jJ xZ V9;go_still_tail 13,br;change wpList _ _ _ _ _ w4.drew;go_wp2_with (at_mapUpdate;refine gj rfl _ _ _ 316 rfl 3 3 .i64 fu fu Tryz.underlying316 mb l φ rfl Zr.o ZF _ _ rfl rfl (lJ aj) (lJ aj) ?_;intro w5 rK ft;have Gq:=aa rK;have oP:=aa ft;clear rK ft);have rK:=Gq.o;rw[Na.o.1 k hk] at rK;have lZ:w4.grownBy w5 (some mb):=⟨oP.o.os,oP.o.tape,oP.o.output,oP.o.size,oP.o.block⟩;have Hv:aG w5 p 319 #[rp,.slice (some ⟨g,0,none⟩) l cap,.map (some mb),.int .i64 next]:=(lZ.block p Nc.o.lt (by simpa using KG)).trans Nc.o;have su:aM S w5 355 3 (.slice (some ⟨g,0,none⟩) l cap) l (gw (cN f i k)):=mj.o.pN lZ Sa;have oG:=nX.o.grown lZ (fun q e=>.inl LA);clear x1 x2 y2 z2 Zr Gq oP Nc mj nX;have x1:=Hv.cl 1;have x2:=Hv.cl 2;have z2:w5.cell? ⟨g,k*3+2,none⟩=some (.int .i64 (f i).bc):=by
  have:=su.range (fN _) hk 2 _ rfl
  rwa [(mU f i k).2] at this
 have ahs:dp af 3 3 .i64 w5.drew mb l (tN φ (f k).bc (some (i:Int))):=rK;have Gq:=aa ahs;have qL:=aa su;have Dx:=aa Hv;have px:=aa oG;have wH:=aa lZ;clear rK ahs su Hv oG lZ;go_still_tail 13,br;change wpList _ _ _ _ _ w5.drew;go_wp2_with (at_mapUpdate;refine gj rfl _ _ _ 316 rfl 3 3 .i64 fu fu Tryz.underlying316 mb l _ rfl Gq.o ZF _ _ rfl rfl (lJ aj) (lJ aj) ?_;intro w6 CS kq;have HM6:=aa CS;have Kr:=aa kq;clear CS kq);have CS:=HM6.o;have hφ:tN φ (f k).bc (some (i:Int)) (f i).bc=some (if i=k then(i:Int)else(i:Int)):=by
  by_cases e:(f i).bc=(f k).bc
  ·rw[e,fo];simp
  rw[cP _ _ e,Na.o.1 i hi];simp
 rw[hφ] at CS;have aeU:w5.grownBy w6 (some mb):=⟨Kr.o.os,Kr.o.tape,Kr.o.output,Kr.o.size,Kr.o.block⟩;have zR:aG w6 p 319 #[rp,.slice (some ⟨g,0,none⟩) l cap,.map (some mb),.int .i64 next]:=(aeU.block p Dx.o.lt (by simpa using KG)).trans Dx.o;have CP:=qL.o.pN aeU Sa;have pV:=px.o.grown aeU (fun q e=>.inl LA);refine bodyPost_end (results_none Tryz.results315 _ _ _) rfl ⟨⟨_,rfl⟩,⟨⟨_,mb,_,zR,CP,CS,Na.o.swap hi hk,sp,sm⟩,HH.o.bound.1,HH.o.bound.2.1,HH.o.bound.2.2.1,fun j hj=>?_⟩,pV⟩;by_cases h1:j=k
 ·subst h1;rw[(mU f i j).2];exact HH.o.bound.2.2.2 i hi
 ·by_cases h2:j=i
  ·subst h2;rw[(mU f j k).1];exact HH.o.bound.2.2.2 k hk
  rw[xK f h2 h1];exact HH.o.bound.2.2.2 j hj
end Hp
end
section
namespace Hp
theorem eH{S:Nat→Prop}{w w':World}(hb:Below w.heap.size w w'){p l:Nat}{next:Int}{f:Nat→eJ}(h:bR S w p l next f): bR S w' p l next f:=by
 obtain⟨iv,mb,φ,hp,hr,hm,hpl,sp,sm⟩:=h.cQ;exact⟨⟨iv,mb,φ,hp.ai hb,hr.ai hb,hm.same (hb.block mb hm.lt),hpl,sp,sm⟩,h.bound⟩
theorem wC(S:Nat→Prop)(p l i k:Nat)(next:Int)(f:Nat→eJ)(w:World)(h:bR S w p l next f)(hi:i<l)(hk:k<l):
  Calls af 355 #[.pointer (some ⟨p,0,none⟩),.int .i64 i,.int .i64 k] w fun e w'=>e= .returned (.bool (iR f i k))∧Below w.heap.size w w':=by
 obtain⟨iv,mb,φ,hp,hr,hm,hpl,sp,sm⟩:=h.cQ;obtain⟨g,cap,rfl,sg,sx,uj,sw⟩:=hr.form aj;have ri:=hr.range (fN f) hi;have rk:=hr.range (fN f) hk;exact Rk p g cap l i k _ _ _ _ _ _ w (hp.cell 0) (hp.cell 1) (ri 0 _ rfl) (ri 1 _ rfl) (ri 2 _ rfl) (rk 0 _ rfl) (rk 1 _ rfl) (rk 2 _ rfl) hi hk (by have:=h.bound.1;omega) uj hp.lt sw
theorem DM(S:Nat→Prop)(p l a0:Nat)(next:Int)(f:Nat→eJ)(w:World)(h:bR S w p l next f)(ha:a0<l):
  Calls af 313 #[.pointer (some ⟨p,0,none⟩),.int .i64 a0] w fun e w'=>(∃ v,e= .returned v)∧bR S w' p l next (gl f l a0)∧aI S w w':=by
 have HH:=aa h;have R8:l≤65536:=h.bound.1;clear h;go_enter Tryz.func313,Tryz.ntmps313;go_wp2_with fail;go_loopw [1] (fun at_ wr=>∃ (k a:Nat) (f':Nat→eJ),a≤k∧a<l∧at_= .int .i64 a∧bR S wr p l next f'∧aI S w wr∧up k f' a=up a0 f a0) (fun at_ _=>(intOf at_).toNat)
 case atStart=>exact⟨a0,a0,f,Nat.le_refl _,ha,rfl,HH.o,aI.refl S w,rfl⟩
 case round=>
  obtain⟨k,a,f',hka,Q7,rfl,hI,ht,hup⟩:=hrel;have HI:=aa hI;have HT:=aa ht;have HU:=aa hup;clear hI ht hup HH;have ha0:(0:Int)≤(a:Int):=aj;have amK:(a:Int)≤65536:=aj;rcases Nat.eq_zero_or_pos a with h0|h0
  ·have hst:up k f' a=(f',a):=EO (.inl h0);have Pq:=aa (HU.o.symm.trans hst);have hq: ¬(0:Int)<(a:Int):=aj;clear HU hst h0;go_wp2_with fail;go_loopw [1,4,5] (fun Cb le kk wr2=>∃ (k2 a2:Nat) (f2:Nat→eJ),a2<l∧l - a2≤k2∧Cb= .int .i64 a2∧bR S wr2 p l next f2∧aI S w wr2∧down l k2 f2 a2=gl f l a0) (fun Cb _ _ _=>(l - intOf Cb).toNat)
   case atStart=>exact⟨l,a,f',Q7,aj,rfl,HI.o,HT.o,by rw[gl,Pq.o]⟩
   case round=>
    rename World=>wo
    obtain⟨k2,a2,f2,ha2,hk2,rfl,hI,ht,hdn⟩:=hrel;clear HI HT Pq;have HI:=aa hI;have HT:=aa ht;have HD:=aa hdn;clear hI ht hdn;have akP:(0:Int)≤(a2:Int):=aj;have akO:(a2:Int)≤65536:=aj;go_wp2_with fail;go_loopw [4,5] (fun le kk wr3=>∃ r:Nat,r≤2∧le= .int .i64 (pk f2 l a2 r:Nat)∧kk= .int .i64 (2*(a2:Int)+1+(r:Int))∧bR S wr3 p l next f2∧aI S w wr3) (fun _ kk _=>(2*(a2:Int)+3 - intOf kk).toNat)
    case atStart=>exact⟨0,aj,rfl,by go_num,HI.o,HT.o⟩
    case round=>
     rename World=>wi
     obtain⟨r,hr2,rfl,rfl,hI,ht⟩:=hrel;clear HI HT;have HI:=aa hI;have HT:=aa ht;clear hI ht;obtain⟨q,hq⟩:=ae (pk f2 l a2 r);have hql:q<l:=by rw[←hq];exact Ou ha2 r
     have Jw:=UG (f:=f2) (l:=l) (at_:=a2) r;rw[hq] at Jw ⊢;have HQ:=aa hq;have HQA:=aa Jw;clear hq Jw;obtain⟨iv,mb,φ,hpA,hrA,hmA,aeP,spA,smA⟩:=HI.o.cQ;obtain⟨g,cap,rfl,sg,sx,uj,sw⟩:=hrA.form aj;have x1:wi.cell? ⟨p,1,none⟩=some (.slice (some ⟨g,0,none⟩) l cap):=hpA.cell 1;clear hpA hrA hmA aeP spA smA sw sg sx uj;exact agK
  have hq:(0:Int)<(a:Int):=aj;obtain⟨b,hb⟩:=ae ((a - 1) / 2);have H8:b<a:=aj;have hbi:((a:Int) - 1) / 2=(b:Int):=aj;have hbl:b<l:=aj;have hb0:(0:Int)≤(b:Int):=aj;have hb1:(b:Int)≤65536:=aj;cases hah:iR f' a b
  case true=>
   have hstep: ∀ j,k=j+1→up k f' a=up j (cN f' a b) b:=fun j e=>by
    subst e;have:=NS (k:=j) (f:=f') h0 (by rw[hb];exact hah)
    rwa [hb] at this
   have D6: ∃ j,k=j+1:=⟨k - 1,aj⟩;obtain⟨j,hj⟩:=D6;have Pq:=aa ((hstep j hj).symm.trans HU.o);have hbj:b≤j:=aj;have HK:=aa hbj;clear HU hstep hka hj hbj h0;have HB:=aa hb;clear hb;go_wp2_with fail;refine(wC S p l a b next f' _ HI.o Q7 hbl).mono ?_;rw[hah];rintro e w2 ⟨rfl,hb2⟩;have rC:=eH hb2 HI.o;have jB:=HT.o.ak hb2;have zA:=aa rC;have gh:=aa jB;clear rC jB hb2;go_wp2_with fail;refine(zI S p l a b next f' _ zA.o Q7 hbl).mono ?_;rintro e w3 ⟨⟨v3,rfl⟩,fj,kf⟩;have gG:=aa fj;have jF:=aa (gh.o.trans kf);clear fj kf;go_wp2_with fail;go_roundw
   case rel=>exact⟨j,b,cN f' a b,HK.o,hbl,S2,gG.o,jF.o,Pq.o⟩
   case measure=>simp[intOf];omega
  case false=>
   have hst:up k f' a=(f',a):=EO (.inr (by rw[hb];exact hah));have Pq:=aa (HU.o.symm.trans hst);clear HU hst h0;have HB:=aa hb;clear hb;go_wp2_with fail;refine(wC S p l a b next f' _ HI.o Q7 hbl).mono ?_;rw[hah];rintro e w2 ⟨rfl,hb2⟩;have rC:=eH hb2 HI.o;have jB:=HT.o.ak hb2;clear HI HT;have HI:=aa rC;have HT:=aa jB;clear rC jB hb2 hq hbi hb0 hb1 H8 hbl HB hah;go_wp2_with fail;go_loopw [1,4,5] (fun Cb le kk wr2=>∃ (k2 a2:Nat) (f2:Nat→eJ),a2<l∧l - a2≤k2∧Cb= .int .i64 a2∧bR S wr2 p l next f2∧aI S w wr2∧down l k2 f2 a2=gl f l a0) (fun Cb _ _ _=>(l - intOf Cb).toNat)
   case atStart=>exact⟨l,a,f',Q7,aj,rfl,HI.o,HT.o,by rw[gl,Pq.o]⟩
   case round=>
    rename World=>wo
    obtain⟨k2,a2,f2,ha2,hk2,rfl,hI,ht,hdn⟩:=hrel;clear HI HT Pq;have HI:=aa hI;have HT:=aa ht;have HD:=aa hdn;clear hI ht hdn;have akP:(0:Int)≤(a2:Int):=aj;have akO:(a2:Int)≤65536:=aj;go_wp2_with fail;go_loopw [4,5] (fun le kk wr3=>∃ r:Nat,r≤2∧le= .int .i64 (pk f2 l a2 r:Nat)∧kk= .int .i64 (2*(a2:Int)+1+(r:Int))∧bR S wr3 p l next f2∧aI S w wr3) (fun _ kk _=>(2*(a2:Int)+3 - intOf kk).toNat)
    case atStart=>exact⟨0,aj,rfl,by go_num,HI.o,HT.o⟩
    case round=>
     rename World=>wi
     obtain⟨r,hr2,rfl,rfl,hI,ht⟩:=hrel;clear HI HT;have HI:=aa hI;have HT:=aa ht;clear hI ht;obtain⟨q,hq⟩:=ae (pk f2 l a2 r);have hql:q<l:=by rw[←hq];exact Ou ha2 r
     have Jw:=UG (f:=f2) (l:=l) (at_:=a2) r;rw[hq] at Jw ⊢;have HQ:=aa hq;have HQA:=aa Jw;clear hq Jw;obtain⟨iv,mb,φ,hpA,hrA,hmA,aeP,spA,smA⟩:=HI.o.cQ;obtain⟨g,cap,rfl,sg,sx,uj,sw⟩:=hrA.form aj;have x1:wi.cell? ⟨p,1,none⟩=some (.slice (some ⟨g,0,none⟩) l cap):=hpA.cell 1;clear hpA hrA hmA aeP spA smA sw sg sx uj;exact agK
