import Derived.Test.YtemighjbfanenaaGreatDoorQk1
import Derived.Test.YtemighjbfanenaaGreatDoorChecked
import Derived.StillTailTactics
set_option linter.all false
set_option maxRecDepth 100000
set_option maxHeartbeats 16000000
namespace Go.Proofs.YtemighjbfanenaaGreatDoor
open RowKit
open And renaming intro→dz
open Go.Proofs.Tryz renaming results313→YD,prog→af,underlying3→fx
open Go.WalkArith renaming wf_i64→lM
open Nat renaming lt_of_lt_of_le→aU
open RowKit.Below renaming refl→ar
theorem agA{p:Prop}(h:p:=by
 by_cases hr:r<2
 ·by_cases hl:2*a2+1+r<l
  ·have hc1:(2*(a2:Int)+1+(r:Int))≤2*(a2:Int)+2:=by omega
   have hc2:(2*(a2:Int)+1+(r:Int))<(l:Int):=ai;obtain⟨kn,Ma⟩:=ae (2*a2+1+r:Nat);have hki:2*(a2:Int)+1+(r:Int)=(kn:Int):=ai;rw[hki] at hc1 hc2 ⊢;have OG:kn<l:=ai;have DN:(0:Int)≤(kn:Int):=ai;have hk6:(kn:Int)≤65536:=ai;have HKN:=aa Ma;have HKI:=aa hki;clear Ma hki hl;cases hah:iT f2 kn q
   case true=>
    have hst:pk f2 l a2 (r+1)=kn:=by
     have:=ael (f:=f2) (l:=l) (at_:=a2) (r:=r) (by rw[HKN.o];exact OG) Td;rw[this,HKN.o]
    have HST:=aa hst;clear hst;go_wp2_with fail;refine(vW S p l kn q next f2 _ HI.o OG hql).mono ?_;rw[hah];rintro e w2 ⟨rfl,hb2⟩;have zg:=aa (eG hb2 HI.o);have gI:=aa (HT.o.ak hb2);clear hb2;go_wp2_with fail;go_roundw
    case rel=>exact⟨r+1,ai,by rw[HST.o],TS,zg.o,gI.o⟩
    case measure=>simp[intOf];omega
   case false=>
    have hst:pk f2 l a2 (r+1)=q:=by
     have:=agv (f:=f2) (l:=l) (at_:=a2) (r:=r) Td;rw[this,HQ.o]
    have HST:=aa hst;clear hst;go_wp2_with fail;refine(vW S p l kn q next f2 _ HI.o OG hql).mono ?_;rw[hah];rintro e w2 ⟨rfl,hb2⟩;have zg:=aa (eG hb2 HI.o);have gI:=aa (HT.o.ak hb2);clear hb2;go_wp2_with fail;go_roundw
    case rel=>exact⟨r+1,ai,by rw[HST.o],TS,zg.o,gI.o⟩
    case measure=>simp[intOf];omega
  have hc1:(2*(a2:Int)+1+(r:Int))≤2*(a2:Int)+2:=ai;have hc2: ¬(2*(a2:Int)+1+(r:Int))<(l:Int):=ai;have vQ:pick f2 l a2=q:=by
   have:=N8 (f:=f2) (l:=l) (at_:=a2) (r:=r) ai (2 - r);rw[show r+(2 - r)=2 from ai,HQ.o] at this;exact this
  have HPK:=aa vQ;clear vQ;have VP:(0:Int)≤(q:Int):=ai;by_cases I':q=a2
  ·subst I';have HDN:=aa (HD.o.symm.trans (xU HPK.o));go_wp2_with fail;refine bodyPost_ret (results_none YD _ _ _) rfl ⟨⟨_,rfl⟩,?_,HT.o⟩;rw[HDN.o];exact HI.o
  have hne:((q:Int)==(a2:Int))=false:=fZ;have hlt:a2<q:=abC;obtain⟨j,hj⟩: ∃ j,k2=j+1:=⟨k2 - 1,ai⟩;have HDN:=aa (show down l j (cQ f2 a2 q) q=gp f l a0 from by
   have h1:=HD.o;rw[hj,xV S4,HPK.o] at h1;exact h1)
  have HJ:=aa (show l - q≤j from ai);have HQE:=aa I';clear I' hj;go_wp2_with fail;refine(zl S p l a2 q next f2 _ HI.o ha2 hql).mono ?_;rintro e w3 ⟨⟨v3,rfl⟩,fo,ki⟩;have gH:=aa fo;have iJ:=aa (HT.o.trans ki);clear fo ki;go_wp2_with fail;go_roundw
  case rel=>exact⟨j,q,cQ f2 a2 q,hql,HJ.o,SM,gH.o,iJ.o,HDN.o⟩
  case measure=>simp[intOf];omega
 have hc1: ¬(2*(a2:Int)+1+(r:Int))≤2*(a2:Int)+2:=ai;have vQ:pick f2 l a2=q:=by
  have e2:r=2:=ai;have:=HQ.o;rw[e2] at this;exact this
 have HPK:=aa vQ;clear vQ;have VP:(0:Int)≤(q:Int):=ai;by_cases I':q=a2
 ·subst I';have HDN:=aa (HD.o.symm.trans (xU HPK.o));go_wp2_with fail;refine bodyPost_ret (results_none YD _ _ _) rfl ⟨⟨_,rfl⟩,?_,HT.o⟩;rw[HDN.o];exact HI.o
 have hne:((q:Int)==(a2:Int))=false:=fZ;have hlt:a2<q:=abC;obtain⟨j,hj⟩: ∃ j,k2=j+1:=⟨k2 - 1,ai⟩;have HDN:=aa (show down l j (cQ f2 a2 q) q=gp f l a0 from by
  have h1:=HD.o;rw[hj,xV S4,HPK.o] at h1;exact h1)
 have HJ:=aa (show l - q≤j from ai);have HQE:=aa I';clear I' hj;go_wp2_with fail;refine(zl S p l a2 q next f2 _ HI.o ha2 hql).mono ?_;rintro e w3 ⟨⟨v3,rfl⟩,fo,ki⟩;have gH:=aa fo;have iJ:=aa (HT.o.trans ki);clear fo ki;go_wp2_with fail;go_roundw
 case rel=>exact⟨j,q,cQ f2 a2 q,hql,HJ.o,SM,gH.o,iJ.o,HDN.o⟩
 case measure=>simp[intOf];omega):p:=h
theorem agy{p:Prop}(h:p:=by
 have Gd:=aa Gd;simp only[Cz];simp only[hq1];clear Bl bp gZ hq1 Cz;have HW:=aa tu;clear tu FR;obtain⟨k0,k1,k2,k3,k4,k5,k6,_⟩:=Gd.o _ (ar _ _);cases h1:rZ ⟨a1,a2,a3⟩ ⟨b1,b2,b3⟩
 case true=>
  go_still_tail 8,bh;change wpList _ _ _ _ _ w2.drew;obtain⟨w3,hw3⟩:=ae w2.drew;have hb3:Below w2.heap.size w2 w3:=SN;rw[hw3];clear hw3;go_wp2_with fail;refine(Yb.o true h1 _).mono ?_;rintro e w4 ⟨rfl,hb4⟩;have Mg:=av hb3 hb4;obtain⟨k0,k1,k2,k3,k4,k5,k6,_⟩:=Gd.o _ Mg;go_wp2_with fail;go_ret;exact⟨Aj,av cu.o (Mg)⟩
 case false=>
  cases h2:rZ ⟨b1,b2,b3⟩ ⟨a1,a2,a3⟩
  case true=>
   go_still_tail 8,bh;change wpList _ _ _ _ _ w2.drew;obtain⟨w3,hw3⟩:=ae w2.drew;have hb3:Below w2.heap.size w2 w3:=SN;rw[hw3];clear hw3;go_wp2_with fail;refine(Yb.o false h1 _).mono ?_;rintro e w4 ⟨rfl,hb4⟩;have Mg:=av hb3 hb4;obtain⟨k0,k1,k2,k3,k4,k5,k6,_⟩:=Gd.o _ Mg;go_wp2_with fail;refine tW (S:=(fun w'=>w'.cell? ⟨p,0,none⟩=some (.func (.func 94) #[] #[])∧w'.cell? ⟨q7,0,none⟩=some (.int .i64 a1)∧w'.cell? ⟨q7,1,none⟩=some (.int .u32 a2)∧w'.cell? ⟨q7,2,none⟩=some (.int .i64 a3)∧w'.cell? ⟨q8,0,none⟩=some (.int .i64 b1)∧w'.cell? ⟨q8,1,none⟩=some (.int .u32 b2)∧w'.cell? ⟨q8,2,none⟩=some (.int .i64 b3)∧Below w2.heap.size w2 w')) Tz fun hHeld=>?_
   refine ov 0 1 2 3 4 5 6 7 ?_;refine cJ 8 fun K hK=>?_
   go_simp;refine(R9.o true h2 _).mono ?_;rintro e w6 ⟨rfl,mZ⟩;have aak:=av hHeld.2.2.2.2.2.2.2 mZ;go_wp2_with fail;refine bW hK TJ fun qu=>?_
   clear hK K;refine ov 9 10 11 12 13 14 15 16 ?_;refine ty 17 ?_;refine bM ?_;go_wp2_with fail;go_ret;exact⟨by rw[h1,h2];rfl,av cu.o (aak)⟩
  case false=>
   go_still_tail 8,bh;change wpList _ _ _ _ _ w2.drew;obtain⟨w3,hw3⟩:=ae w2.drew;have hb3:Below w2.heap.size w2 w3:=SN;rw[hw3];clear hw3;go_wp2_with fail;refine(Yb.o false h1 _).mono ?_;rintro e w4 ⟨rfl,hb4⟩;have Mg:=av hb3 hb4;obtain⟨k0,k1,k2,k3,k4,k5,k6,_⟩:=Gd.o _ Mg;go_wp2_with fail;refine tW (S:=(fun w'=>w'.cell? ⟨p,0,none⟩=some (.func (.func 94) #[] #[])∧w'.cell? ⟨q7,0,none⟩=some (.int .i64 a1)∧w'.cell? ⟨q7,1,none⟩=some (.int .u32 a2)∧w'.cell? ⟨q7,2,none⟩=some (.int .i64 a3)∧w'.cell? ⟨q8,0,none⟩=some (.int .i64 b1)∧w'.cell? ⟨q8,1,none⟩=some (.int .u32 b2)∧w'.cell? ⟨q8,2,none⟩=some (.int .i64 b3)∧Below w2.heap.size w2 w')) Tz fun hHeld=>?_
   refine ov 0 1 2 3 4 5 6 7 ?_;refine cJ 8 fun K hK=>?_
   go_simp;refine(R9.o false h2 _).mono ?_;rintro e w6 ⟨rfl,mZ⟩;have aak:=av hHeld.2.2.2.2.2.2.2 mZ;go_wp2_with fail;refine bW hK TJ fun qu=>?_
   clear hK K;refine ov 9 10 11 12 13 14 15 16 ?_;refine ty 17 ?_;refine bM ?_;go_wp2_with fail;go_ret;exact⟨by rw[h1,h2];rfl,av cu.o (aak)⟩):p:=h
theorem Ij{p:Prop}(h:p:=by first|exact tu _ (ay (ay (az (ar _ _)) _) _)|exact tu _ (ay (az (ar _ _)) _)):p:=h
theorem Zv{p:Prop}(h:p:=by unfold maxLen;omega):p:=h
theorem SN{p:Prop}(h:p:=by rw[←hw3];exact az (ar _ _)):p:=h
theorem abC{p:Prop}(h:p:=by rcases HQA.o with h1|h1;exact absurd h1 I';exact h1):p:=h
theorem SM{p:Prop}(h:p:=by first|rfl|go_num):p:=h
theorem TS{p:Prop}(h:p:=by have:=HKI.o;first|(congr 1;omega)|go_num):p:=h
theorem TJ{p:Prop}(h:p:=by first|exact Gd.o _ aak|assumption):p:=h
theorem Tz{p:Prop}(h:p:=by exact Gd.o _ (az Mg)):p:=h
theorem Lh{p:Prop}(h:p:=by injection e with e;subst e;exact sm):p:=h
theorem Td{p:Prop}(h:p:=by rw[HKN.o,HQ.o];exact hah):p:=h
theorem S4{p:Prop}(h:p:=by rw[HPK.o];exact I'):p:=h
theorem Aj{p:Prop}(h:p:=by rw[h1];rfl):p:=h
section
section
namespace Hp
def qX: Value:=.func (.func 94) #[] #[]
def gA(f:Nat→eI)(i:Nat): List Value:=[.int .i64 (f i).aR,.int .u32 (f i).id,.int .i64 (f i).bf]
theorem fO(f:Nat→eI)(i:Nat): (gA f i).length=3:=rfl
theorem O6(a b c d:Int)(w:World): Calls af 94 #[.agg #[.int .i64 a,.int .u32 b],.agg #[.int .i64 c,.int .u32 d]] w fun e w'=>e= .returned (.bool (decide (a<c)||(a==c && decide (b<d))))∧Below w.heap.size w w':=by
 have hb:Below w.heap.size w ((w.alloc (.cells #[.int .i64 a,.int .u32 b] 211)).alloc (.cells #[.int .i64 c,.int .u32 d] 211)):=ay (ay (ar _ _) _) _;have HB:=aa hb;clear hb;by_cases h1:a<c
 ·have q1:decide (a<c)=true:=decide_eq_true h1;go_enter Tryz.func94,Tryz.ntmps94;go_wp2_with fail;go_ret;exact⟨by simp[h1],HB.o⟩
 have q1:decide (a<c)=false:=decide_eq_false h1;by_cases h2:a=c
 ·have q2:(a==c)=true:=by simpa using h2
  by_cases h3:b<d
  ·have q3:decide (b<d)=true:=decide_eq_true h3;have H:=aa (dz h1 (dz h2 h3));clear h1 h2 h3;go_enter Tryz.func94,Tryz.ntmps94;go_wp2_with fail;go_ret;exact⟨by simp[H.o.2.1,H.o.2.2],HB.o⟩
  have q3:decide (b<d)=false:=decide_eq_false h3;have H:=aa (dz h1 (dz h2 h3));clear h1 h2 h3;go_enter Tryz.func94,Tryz.ntmps94;go_wp2_with fail;go_ret;exact⟨by simp[q1,q2,q3],HB.o⟩
 have q2:(a==c)=false:=by simpa using h2
 have H:=aa (dz h1 h2);clear h1 h2;go_enter Tryz.func94,Tryz.ntmps94;go_wp2_with fail;go_ret;exact⟨by simp[q1,q2],HB.o⟩
end Hp
end
section
namespace Hp
theorem QZ(p g cap l i k:Nat)(a1 a2 a3 b1 b2 b3:Int)(w:World)(x0:w.cell? ⟨p,0,none⟩=some qX)(x1:w.cell? ⟨p,1,none⟩=some (.slice (some ⟨g,0,none⟩) l cap))
  (y1:w.cell? ⟨g,i*3,none⟩=some (.int .i64 a1)) (y2:w.cell? ⟨g,i*3+1,none⟩=some (.int .u32 a2)) (y3:w.cell? ⟨g,i*3+2,none⟩=some (.int .i64 a3))
  (z1:w.cell? ⟨g,k*3,none⟩=some (.int .i64 b1)) (z2:w.cell? ⟨g,k*3+1,none⟩=some (.int .u32 b2)) (z3:w.cell? ⟨g,k*3+2,none⟩=some (.int .i64 b3)) (hi:i<l) (hk:k<l) (hl:l≤70000) (sr:cap≤maxLen) (hpl:p<w.heap.size) (pU:g<w.heap.size) :
  Calls af 355 #[.pointer (some ⟨p,0,none⟩),.int .i64 i,.int .i64 k] w fun e w'=>e= .returned (.bool (rZ ⟨a1,a2,a3⟩ ⟨b1,b2,b3⟩||(!rZ ⟨b1,b2,b3⟩ ⟨a1,a2,a3⟩ && decide (a3<b3))))∧Below w.heap.size w w':=by
 have tu: ∀ w',Below w.heap.size w w'→(w'.cell? ⟨p,1,none⟩=some (.slice (some ⟨g,0,none⟩) l cap)∧w'.cell? ⟨g,i*3,none⟩=some (.int .i64 a1)∧w'.cell? ⟨g,i*3+1,none⟩=some (.int .u32 a2)∧w'.cell? ⟨g,i*3+2,none⟩=some (.int .i64 a3)∧w'.cell? ⟨g,k*3,none⟩=some (.int .i64 b1)∧w'.cell? ⟨g,k*3+1,none⟩=some (.int .u32 b2)∧w'.cell? ⟨g,k*3+2,none⟩=some (.int .i64 b3)∧Below w.heap.size w w'):=fun w' hb=>
  ⟨(hb.cell (p:=⟨p,1,none⟩) hpl).trans x1,(hb.cell (p:=⟨g,i*3,none⟩) pU).trans y1,(hb.cell (p:=⟨g,i*3+1,none⟩) pU).trans y2,(hb.cell (p:=⟨g,i*3+2,none⟩) pU).trans y3,(hb.cell (p:=⟨g,k*3,none⟩) pU).trans z1,(hb.cell (p:=⟨g,k*3+1,none⟩) pU).trans z2,(hb.cell (p:=⟨g,k*3+2,none⟩) pU).trans z3,hb⟩
 have Md:(i:Int)<(l:Int):=ai;have yF:(k:Int)<(l:Int):=ai;have CB:(0:Int)≤(i:Int):=ai;have DN:(0:Int)≤(k:Int):=ai;have Yb: ∀ v,rZ ⟨a1,a2,a3⟩ ⟨b1,b2,b3⟩=v→∀ W,Calls af 94 #[.agg #[.int .i64 a1,.int .u32 a2],.agg #[.int .i64 b1,.int .u32 b2]] W fun e w'=>e= .returned (.bool v)∧Below W.heap.size W w':=fun v hv W=>hv▸O6 a1 a2 b1 b2 W
 have R9: ∀ v,rZ ⟨b1,b2,b3⟩ ⟨a1,a2,a3⟩=v→∀ W,Calls af 94 #[.agg #[.int .i64 b1,.int .u32 b2],.agg #[.int .i64 a1,.int .u32 a2]] W fun e w'=>e= .returned (.bool v)∧Below W.heap.size W w':=fun v hv W=>hv▸O6 b1 b2 a1 a2 W
 have Yb:=aa Yb;have R9:=aa R9;have HX0:=aa x0;clear x0 y1 y2 y3 z1 z2 z3 x1 hi hk;rw[show qX= .func (.func 94) #[] #[] from rfl] at HX0;go_enter Tryz.func355,Tryz.ntmps355;go_wp2_with fail;refine tW (S:=(fun w'=>w'.cell? ⟨p,1,none⟩=some (.slice (some ⟨g,0,none⟩) l cap)∧w'.cell? ⟨g,i*3,none⟩=some (.int .i64 a1)∧w'.cell? ⟨g,i*3+1,none⟩=some (.int .u32 a2)∧w'.cell? ⟨g,i*3+2,none⟩=some (.int .i64 a3)∧w'.cell? ⟨g,k*3,none⟩=some (.int .i64 b1)∧w'.cell? ⟨g,k*3+1,none⟩=some (.int .u32 b2)∧w'.cell? ⟨g,k*3+2,none⟩=some (.int .i64 b3)∧Below w.heap.size w w')) (by exact tu _ (az (ar _ _))) fun hHeld=>?_
 refine ov 0 1 2 3 4 5 6 7 ?_;refine P2 8 9 10 11 12 13 ?_;refine qh 14 15 (fun K hK=>?_) fun K hK=>?_
 ·go_simp;go_wp2_with fail;refine bW hK Ij fun lT=>?_
  clear hK K;refine cJ 15 fun K hK=>?_
  go_simp;go_wp2_with fail;refine bW hK Ij fun FT=>?_
  clear hK K;refine cJ 16 fun K hK=>?_
  go_simp;go_wp2_with fail;refine bW hK Ij fun aap=>?_
  clear hK K;refine cJ 17 fun K hK=>?_
  go_simp;go_wp2_with fail;refine bW hK Ij fun FR=>?_
  clear hK K;refine bM ?_;go_wp2_with fail;have bp:aG (((w.alloc (.cells #[.int .i64 a1,.int .u32 a2,.int .i64 a3] 355)).alloc (.cells #[.int .i64 b1,.int .u32 b2,.int .i64 b3] 355)).drew) w.heap.size 355 #[.int .i64 a1,.int .u32 a2,.int .i64 a3]:=(aG.alloc (aG.fresh w _ _) _).drew;have gZ:aG (((w.alloc (.cells #[.int .i64 a1,.int .u32 a2,.int .i64 a3] 355)).alloc (.cells #[.int .i64 b1,.int .u32 b2,.int .i64 b3] 355)).drew) (w.heap.size+1) 355 #[.int .i64 b1,.int .u32 b2,.int .i64 b3]:=(aG.new dM).drew;have o9:Below w.heap.size w (((w.alloc (.cells #[.int .i64 a1,.int .u32 a2,.int .i64 a3] 355)).alloc (.cells #[.int .i64 b1,.int .u32 b2,.int .i64 b3] 355)).drew):=az (ay (ay (ar _ _) _) _);obtain⟨w2,hw2⟩:=ae (((w.alloc (.cells #[.int .i64 a1,.int .u32 a2,.int .i64 a3] 355)).alloc (.cells #[.int .i64 b1,.int .u32 b2,.int .i64 b3] 355)).drew);rw[hw2] at bp gZ o9 ⊢;clear hw2;obtain⟨q7,hq1⟩:=ae w.heap.size;obtain⟨q8,Cz⟩:=ae (w.heap.size+1);have cu:=aa o9;clear o9;rw[hq1] at bp;rw[Cz] at gZ;have Bl:=cu.o.cell (p:=⟨p,0,none⟩) hpl;have Gd: ∀ w',Below w2.heap.size w2 w'→(w'.cell? ⟨p,0,none⟩=some (.func (.func 94) #[] #[])∧w'.cell? ⟨q7,0,none⟩=some (.int .i64 a1)∧w'.cell? ⟨q7,1,none⟩=some (.int .u32 a2)∧w'.cell? ⟨q7,2,none⟩=some (.int .i64 a3)∧w'.cell? ⟨q8,0,none⟩=some (.int .i64 b1)∧w'.cell? ⟨q8,1,none⟩=some (.int .u32 b2)∧w'.cell? ⟨q8,2,none⟩=some (.int .i64 b3)∧Below w2.heap.size w2 w'):=fun w' hb=>
   ⟨(hb.cell (p:=⟨p,0,none⟩) (aU hpl cu.o.size)).trans (Bl.trans HX0.o),(bp.ah hb).cell 0,(bp.ah hb).cell 1,(bp.ah hb).cell 2,(gZ.ah hb).cell 0,(gZ.ah hb).cell 1,(gZ.ah hb).cell 2,hb⟩
  exact agy
 ·go_simp;go_wp2_with fail;refine bW hK Ij fun FT=>?_
  clear hK K;refine cJ 14 fun K hK=>?_
  go_simp;go_wp2_with fail;refine bW hK Ij fun lT=>?_
  clear hK K;refine cJ 16 fun K hK=>?_
  go_simp;go_wp2_with fail;refine bW hK Ij fun aap=>?_
  clear hK K;refine cJ 17 fun K hK=>?_
  go_simp;go_wp2_with fail;refine bW hK Ij fun FR=>?_
  clear hK K;refine bM ?_;go_wp2_with fail;have bp:aG (((w.alloc (.cells #[.int .i64 b1,.int .u32 b2,.int .i64 b3] 355)).alloc (.cells #[.int .i64 a1,.int .u32 a2,.int .i64 a3] 355)).drew) w.heap.size 355 #[.int .i64 b1,.int .u32 b2,.int .i64 b3]:=(aG.alloc (aG.fresh w _ _) _).drew;have gZ:aG (((w.alloc (.cells #[.int .i64 b1,.int .u32 b2,.int .i64 b3] 355)).alloc (.cells #[.int .i64 a1,.int .u32 a2,.int .i64 a3] 355)).drew) (w.heap.size+1) 355 #[.int .i64 a1,.int .u32 a2,.int .i64 a3]:=(aG.new dM).drew;have o9:Below w.heap.size w (((w.alloc (.cells #[.int .i64 b1,.int .u32 b2,.int .i64 b3] 355)).alloc (.cells #[.int .i64 a1,.int .u32 a2,.int .i64 a3] 355)).drew):=az (ay (ay (ar _ _) _) _);obtain⟨w2,hw2⟩:=ae (((w.alloc (.cells #[.int .i64 b1,.int .u32 b2,.int .i64 b3] 355)).alloc (.cells #[.int .i64 a1,.int .u32 a2,.int .i64 a3] 355)).drew);rw[hw2] at bp gZ o9 ⊢;clear hw2;obtain⟨q8,hq1⟩:=ae w.heap.size;obtain⟨q7,Cz⟩:=ae (w.heap.size+1);have cu:=aa o9;clear o9;rw[hq1] at bp;rw[Cz] at gZ;have Bl:=cu.o.cell (p:=⟨p,0,none⟩) hpl;have Gd: ∀ w',Below w2.heap.size w2 w'→(w'.cell? ⟨p,0,none⟩=some (.func (.func 94) #[] #[])∧w'.cell? ⟨q7,0,none⟩=some (.int .i64 a1)∧w'.cell? ⟨q7,1,none⟩=some (.int .u32 a2)∧w'.cell? ⟨q7,2,none⟩=some (.int .i64 a3)∧w'.cell? ⟨q8,0,none⟩=some (.int .i64 b1)∧w'.cell? ⟨q8,1,none⟩=some (.int .u32 b2)∧w'.cell? ⟨q8,2,none⟩=some (.int .i64 b3)∧Below w2.heap.size w2 w'):=fun w' hb=>
   ⟨(hb.cell (p:=⟨p,0,none⟩) (aU hpl cu.o.size)).trans (Bl.trans HX0.o),(gZ.ah hb).cell 0,(gZ.ah hb).cell 1,(gZ.ah hb).cell 2,(bp.ah hb).cell 0,(bp.ah hb).cell 1,(bp.ah hb).cell 2,hb⟩
  exact agy
end Hp
end
end
section
section
namespace Hp
theorem QB: (af.info? 355).map (fun i=>(i.zero,i.size,i.bytes))=some (some (.agg #[.int .i64 0,.int .u32 0,.int .i64 0]),3,24):=bh
theorem ic: (af.info? 355).map (·.size)=some 3:=bh
theorem IV(w:World): (zeroValue 3).run af w= .ok (.int .i64 0) w:=bh
theorem IU(f:Nat→eI)(i:Nat): ∀ u∈gA f i,u.oneCell'=true:=by
 intro u hu;simp only[gA,List.mem_cons,List.not_mem_nil,or_false] at hu;rcases hu with rfl|rfl|rfl <;>rfl
variable{S:Nat→Prop}{w:World}{e t:TypeId}{sz n g cap b i:Nat}{c:Nat→List Value}{φ:Int→Option Int}
theorem Fo{p:Nat} {cs:Array Value}(h:aP S w e sz (.slice (some ⟨g,0,none⟩) n cap) n c)(ha:aG w p t cs)(ht:t≠e): p≠g:=by
 rintro rfl;rcases h.own.2 with⟨hv,_⟩|⟨g',cap',cur,hv,_,hh,_⟩
 ·cases hv
 injection hv with e1
 injection e1 with e1
 injection e1 with e1
 exact U'
theorem dp{P:Program}{k:TypeId} {q:IntKind}{p:Nat} {cs:Array Value}(h:dt P k e q w b n φ)(ha:aG w p t cs): p≠b:=by
 rintro rfl;obtain⟨D,⟨es,aq,hb,_⟩,_⟩:=h;rw[aG] at ha;rw[ha] at hb;injection hb with hb
 cases hb
theorem Bc{P:Program}{k:TypeId} {q:IntKind}{m:Nat} (h:dt P k e q w b n φ)(hr:aP S w t sz (.slice (some ⟨g,0,none⟩) m cap) m c): g≠b:=by
 rintro rfl;obtain⟨D,⟨es,aq,hb,_⟩,_⟩:=h;rcases hr.own.2 with⟨hv,_⟩|⟨g',cap',cur,hv,_,hh,_⟩
 ·cases hv
 injection hv with e1
 injection e1 with e1
 injection e1 with e1
 subst e1;rw[hh] at hb;injection hb with hb
 cases hb
theorem _root_.Go.Proofs.YtemighjbfanenaaGreatDoor.aP.pN{w':World} (h:aP S w e sz (.slice (some ⟨g,0,none⟩) n cap) n c)(hg:w.grownBy w' (some b))(hb:g≠b): aP S w' e sz (.slice (some ⟨g,0,none⟩) n cap) n c:=
 ⟨eB h.own fun q hq=>hg.block q (eP h.own hq).1 (fun e=>by
  have e1:g=q:=by simpa[Value.ownBlock] using hq
  injection e with e;exact hb (e1.trans e)),h.block⟩
structure bP(S:Nat→Prop)(w:World)(p l:Nat)(next:Int)(f:Nat→eI): Prop where
 cw: ∃ iv mb φ,aG w p 319 #[qX,iv,.map (some mb),.int .i64 next]∧aP S w 355 3 iv l (gA f)∧dt af 3 3 .i64 w mb l φ∧jW f l φ∧S p∧S mb
 bound:l≤65536∧0≤next∧next≤1099511627776∧∀ i,i<l→0≤(f i).bf∧(f i).bf<next
theorem LV(f:Nat→eI)(i k:Nat): cK (cK (gA f) i (gA f k)) k (gA f i)=gA (cQ f i k):=by
 funext j;unfold cK;by_cases h1:j=k
 ·subst h1;rw[if_pos rfl];by_cases h2:j=i
  ·subst h2;simp[gA,cQ]
  simp[gA,cQ,h2]
 rw[if_neg h1];by_cases h2:j=i
 ·subst h2;simp[gA,cQ]
 simp[gA,cQ,h1,h2]
theorem jW.inj{f:Nat→eI}{l:Nat}(h:jW f l φ){j:Nat} (hi:i<l)(hj:j<l)(e:(f i).bf=(f j).bf): i=j:=by
 have h1:=h.1 i hi;have h2:=h.1 j hj;rw[e,h2] at h1;injection h1 with h1
 omega
theorem mV(f:Nat→eI)(i k:Nat): cQ f i k i=f k∧cQ f i k k=f i:=by
 constructor
 ·simp[cQ]
 by_cases h:k=i
 ·subst h;simp[cQ]
 simp[cQ,h]
theorem xA(f:Nat→eI){k j:Nat} (h1:j≠i)(h2:j≠k): cQ f i k j=f j:=by simp[cQ,h1,h2]
theorem jW.swap{f:Nat→eI}{l:Nat}(h:jW f l φ){k:Nat} (hi:i<l)(hk:k<l): jW (cQ f i k) l (tK (tK φ (f k).bf (some (i:Int))) (f i).bf (some (k:Int))):=by
 refine⟨fun j hj=>?_,fun x y hx=>?_⟩
 ·by_cases h1:j=k
  ·subst h1;rw[(mV f i j).2,ft]
  by_cases h2:j=i
  ·subst h2;rw[(mV f j k).1,cT _ _ (fun e=>h1 (h.inj hj hk e.symm)),ft]
  rw[xA f h2 h1,cT _ _ (fun e=>h2 (h.inj hj hi e)),cT _ _ (fun e=>h1 (h.inj hj hk e))];exact h.1 j hj
 by_cases h1:x=(f i).bf
 ·subst h1;rw[ft] at hx;injection hx with hx
  exact⟨k,hk,hx.symm,by rw[(mV f i k).2]⟩
 rw[cT _ _ h1] at hx;by_cases h2:x=(f k).bf
 ·subst h2;rw[ft] at hx;injection hx with hx
  exact⟨i,hi,hx.symm,by rw[(mV f i k).1]⟩
 rw[cT _ _ h2] at hx;obtain⟨j,hj,e1,e2⟩:=h.2 x y hx;refine⟨j,hj,e1,?_⟩;rw[xA f (fun e=>h1 (by rw[←e2,e])) (fun e=>h2 (by rw[←e2,e]))];exact e2
theorem zl(S:Nat→Prop)(p l i k:Nat)(next:Int)(f:Nat→eI)(w:World)(h:bP S w p l next f)(hi:i<l)(hk:k<l):
  Calls af 315 #[.pointer (some ⟨p,0,none⟩),.int .i64 i,.int .i64 k] w fun e w'=>(∃ v,e= .returned v)∧bP S w' p l next (cQ f i k)∧aI S w w':=by
 obtain⟨iv,mb,φ,hp,hr,hm,hpl,sp,sm⟩:=h.cw;obtain⟨g,cap,rfl,sg,sr,uf,pU⟩:=hr.form ai;have zv:=Fo hr hp aM;have Kk:=dp hm hp;have OJ:=Bc hm hr;have x1:w.cell? ⟨p,1,none⟩=some (.slice (some ⟨g,0,none⟩) l cap):=hp.cell 1;have ri:=hr.range (fO f) hi;have rk:=hr.range (fO f) hk;have y0:w.cell? ⟨g,i*3,none⟩=some (.int .i64 (f i).aR):=ri 0 _ rfl;have y1:w.cell? ⟨g,i*3+1,none⟩=some (.int .u32 (f i).id):=ri 1 _ rfl;have y2:w.cell? ⟨g,i*3+2,none⟩=some (.int .i64 (f i).bf):=ri 2 _ rfl;have z0:w.cell? ⟨g,k*3,none⟩=some (.int .i64 (f k).aR):=rk 0 _ rfl;have z1:w.cell? ⟨g,k*3+1,none⟩=some (.int .u32 (f k).id):=rk 1 _ rfl;have z2:w.cell? ⟨g,k*3+2,none⟩=some (.int .i64 (f k).bf):=rk 2 _ rfl;have Md:(i:Int)<(l:Int):=ai;have yF:(k:Int)<(l:Int):=ai;have CB:(0:Int)≤(i:Int):=ai;have DN:(0:Int)≤(k:Int):=ai;have RT:l≤65536:=h.bound.1;have hr':aP S w.drew 355 3 (.slice (some ⟨g,0,none⟩) l cap) l (gA f):=hr.same fun _ _ _=>rfl
 have HR:=aa hr';clear hr';have HP:=aa hp;have HM:=aa hm;have MT:=aa hpl;have HH:=aa h;clear h hp hr hm hpl ri rk;go_enter Tryz.func315,Tryz.ntmps315;go_wp2_with fail;refine dL bh ?_;refine bm.any (S:=(fun w'=>w'.cell? ⟨p,1,none⟩=some (.slice (some ⟨g,0,none⟩) l cap)∧w'.cell? ⟨g,i*3,none⟩=some (.int .i64 (f i).aR)∧w'.cell? ⟨g,i*3+1,none⟩=some (.int .u32 (f i).id)∧w'.cell? ⟨g,i*3+2,none⟩=some (.int .i64 (f i).bf)∧w'.cell? ⟨g,k*3,none⟩=some (.int .i64 (f k).aR)∧w'.cell? ⟨g,k*3+1,none⟩=some (.int .u32 (f k).id)∧w'.cell? ⟨g,k*3+2,none⟩=some (.int .i64 (f k).bf))) (t:=25) _ _ _ _ ?_;have hHeld:=(show(fun w'=>w'.cell? ⟨p,1,none⟩=some (.slice (some ⟨g,0,none⟩) l cap)∧w'.cell? ⟨g,i*3,none⟩=some (.int .i64 (f i).aR)∧w'.cell? ⟨g,i*3+1,none⟩=some (.int .u32 (f i).id)∧w'.cell? ⟨g,i*3+2,none⟩=some (.int .i64 (f i).bf)∧w'.cell? ⟨g,k*3,none⟩=some (.int .i64 (f k).aR)∧w'.cell? ⟨g,k*3+1,none⟩=some (.int .u32 (f k).id)∧w'.cell? ⟨g,k*3+2,none⟩=some (.int .i64 (f k).bf)) w.drew from⟨x1,y0,y1,y2,z0,z1,z2⟩);refine tt 0 ?_;refine tt 1 ?_;refine tt 2 ?_;refine tt 3 ?_;refine tt 4 ?_;refine tp 5 ?_;refine tp 6 ?_;refine tp 7 ?_;refine tt 8 ?_;refine tp 9 ?_;refine tt 10 ?_;refine tt 11 ?_;refine tt 12 ?_;refine tt 13 ?_;refine tt 14 ?_;refine tt 15 ?_;refine tt 16 ?_;refine tp 17 ?_;refine tp 18 ?_;refine tp 19 ?_;refine tt 20 ?_;refine tp 21 ?_;refine tp 22 ?_;refine tt 23 ?_;refine tt 24 ?_;refine bm.last bh ?_;refine kD 25 bh bh ?_;simp only[List.drop_succ_cons,List.drop_zero];go_wp2_with (first|(refine cX rfl 355 _ _ rfl HR.o (fO f) i hi rfl (gA f k) rfl rfl (IU f k) ic ?_;intro w3 hr3 hg3 hs3;have iu:=aa hr3;have zF:=aa hg3;clear hr3 hg3)|(refine cX rfl 355 _ _ rfl iu.o (fun j=>by unfold cK;split <;>rfl) k hk rfl (gA f i) rfl rfl (IU f i) ic ?_;intro w4 hr4 hg4 tL;have nV:=aa hr4;have uV:=aa hg4;clear hr4 hg4));have ag9:w4.heap[p]? =w.heap[p]?:=(uV.o.block p (by have:=zF.o.size;exact aU (show p<w.drew.heap.size from HP.o.lt) this) (by simpa using zv)).trans (zF.o.block p HP.o.lt (by simpa using zv));have ahj:w4.heap[mb]? =w.heap[mb]?:=(uV.o.block mb (by have:=zF.o.size;exact aU (show mb<w.drew.heap.size from HM.o.lt) this) (by simpa using fun e=>OJ e.symm)).trans (zF.o.block mb HM.o.lt (by simpa using fun e=>OJ e.symm));have ue:aG w4 p 319 #[qX,.slice (some ⟨g,0,none⟩) l cap,.map (some mb),.int .i64 next]:=ag9.trans HP.o;have xO:=HM.o.same ahj;have hr4:=nV.o;rw[LV] at hr4;have jK:aI S w w4:=((aI.refl S w).grown (show w.grownBy w3 (some g)from⟨zF.o.os,zF.o.tape,zF.o.output,zF.o.size,zF.o.block⟩) (fun q e=>.inl (by injection e with e;subst e;exact sg))).grown uV.o (fun q e=>.inl (by injection e with e;subst e;exact sg));clear x1 y0 y1 y2 z0 z1 z2 HR HP HM iu nV zF uV hs3 tL ag9 ahj w3;have x1:=ue.cl 1;have x2:=ue.cl 2;have y2:w4.cell? ⟨g,i*3+2,none⟩=some (.int .i64 (f k).bf):=by
  have:=hr4.range (fO _) hi 2 _ rfl
  rwa [(mV f i k).1] at this
 have z2:w4.cell? ⟨g,k*3+2,none⟩=some (.int .i64 (f i).bf):=by
  have:=hr4.range (fO _) hk 2 _ rfl
  rwa [(mV f i k).2] at this
 have nV:=aa hr4;have MV:=aa ue;have nU:=aa jK;have V0:dt af 3 3 .i64 w4.drew mb l φ:=xO;have Zk:=aa V0;obtain⟨hbi,amz⟩:=HH.o.bound.2.2.2 i hi;obtain⟨cL,amy⟩:=HH.o.bound.2.2.2 k hk;have DL:=HH.o.bound.2.2.1;clear hr4 ue jK xO V0;go_still_tail 13,bh;change wpList _ _ _ _ _ w4.drew;go_wp2_with (at_mapUpdate;refine gm rfl _ _ _ 316 rfl 3 3 .i64 fx fx Tryz.underlying316 mb l φ rfl Zk.o Zv _ _ rfl rfl (lM ai) (lM ai) ?_;intro w5 rJ fF;have F9:=aa rJ;have p3:=aa fF;clear rJ fF);have rJ:=F9.o;rw[MT.o.1 k hk] at rJ;have mg:w4.grownBy w5 (some mb):=⟨p3.o.os,p3.o.tape,p3.o.output,p3.o.size,p3.o.block⟩;have G':aG w5 p 319 #[qX,.slice (some ⟨g,0,none⟩) l cap,.map (some mb),.int .i64 next]:=(mg.block p MV.o.lt (by simpa using Kk)).trans MV.o;have sk:aP S w5 355 3 (.slice (some ⟨g,0,none⟩) l cap) l (gA (cQ f i k)):=nV.o.pN mg OJ;have oH:=nU.o.grown mg (fun q e=>.inl Lh);clear x1 x2 y2 z2 Zk F9 p3 MV nV nU;have x1:=G'.cl 1;have x2:=G'.cl 2;have z2:w5.cell? ⟨g,k*3+2,none⟩=some (.int .i64 (f i).bf):=by
  have:=sk.range (fO _) hk 2 _ rfl
  rwa [(mV f i k).2] at this
 have ahl:dt af 3 3 .i64 w5.drew mb l (tK φ (f k).bf (some (i:Int))):=rJ;have F9:=aa ahl;have qG:=aa sk;have De:=aa G';have pz:=aa oH;have wk:=aa mg;clear rJ ahl sk G' oH mg;go_still_tail 13,bh;change wpList _ _ _ _ _ w5.drew;go_wp2_with (at_mapUpdate;refine gm rfl _ _ _ 316 rfl 3 3 .i64 fx fx Tryz.underlying316 mb l _ rfl F9.o Zv _ _ rfl rfl (lM ai) (lM ai) ?_;intro w6 CA kr;have HM6:=aa CA;have J9:=aa kr;clear CA kr);have CA:=HM6.o;have hφ:tK φ (f k).bf (some (i:Int)) (f i).bf=some (if i=k then(i:Int)else(i:Int)):=by
  by_cases e:(f i).bf=(f k).bf
  ·rw[e,ft];simp
  rw[cT _ _ e,MT.o.1 i hi];simp
 rw[hφ] at CA;have aeK:w5.grownBy w6 (some mb):=⟨J9.o.os,J9.o.tape,J9.o.output,J9.o.size,J9.o.block⟩;have zw:aG w6 p 319 #[qX,.slice (some ⟨g,0,none⟩) l cap,.map (some mb),.int .i64 next]:=(aeK.block p De.o.lt (by simpa using Kk)).trans De.o;have Cy:=qG.o.pN aeK OJ;have pW:=pz.o.grown aeK (fun q e=>.inl Lh);refine bodyPost_end (results_none Tryz.results315 _ _ _) rfl ⟨⟨_,rfl⟩,⟨⟨_,mb,_,zw,Cy,CA,MT.o.swap hi hk,sp,sm⟩,HH.o.bound.1,HH.o.bound.2.1,HH.o.bound.2.2.1,fun j hj=>?_⟩,pW⟩;by_cases h1:j=k
 ·subst h1;rw[(mV f i j).2];exact HH.o.bound.2.2.2 i hi
 ·by_cases h2:j=i
  ·subst h2;rw[(mV f j k).1];exact HH.o.bound.2.2.2 k hk
  rw[xA f h2 h1];exact HH.o.bound.2.2.2 j hj
end Hp
end
section
namespace Hp
theorem eG{S:Nat→Prop}{w w':World}(hb:Below w.heap.size w w'){p l:Nat}{next:Int}{f:Nat→eI}(h:bP S w p l next f): bP S w' p l next f:=by
 obtain⟨iv,mb,φ,hp,hr,hm,hpl,sp,sm⟩:=h.cw;exact⟨⟨iv,mb,φ,hp.ah hb,hr.ah hb,hm.same (hb.block mb hm.lt),hpl,sp,sm⟩,h.bound⟩
theorem vW(S:Nat→Prop)(p l i k:Nat)(next:Int)(f:Nat→eI)(w:World)(h:bP S w p l next f)(hi:i<l)(hk:k<l):
  Calls af 355 #[.pointer (some ⟨p,0,none⟩),.int .i64 i,.int .i64 k] w fun e w'=>e= .returned (.bool (iT f i k))∧Below w.heap.size w w':=by
 obtain⟨iv,mb,φ,hp,hr,hm,hpl,sp,sm⟩:=h.cw;obtain⟨g,cap,rfl,sg,sr,uf,pU⟩:=hr.form ai;have ri:=hr.range (fO f) hi;have rk:=hr.range (fO f) hk;exact QZ p g cap l i k _ _ _ _ _ _ w (hp.cell 0) (hp.cell 1) (ri 0 _ rfl) (ri 1 _ rfl) (ri 2 _ rfl) (rk 0 _ rfl) (rk 1 _ rfl) (rk 2 _ rfl) hi hk (by have:=h.bound.1;omega) uf hp.lt pU
theorem Dx(S:Nat→Prop)(p l a0:Nat)(next:Int)(f:Nat→eI)(w:World)(h:bP S w p l next f)(ha:a0<l):
  Calls af 313 #[.pointer (some ⟨p,0,none⟩),.int .i64 a0] w fun e w'=>(∃ v,e= .returned v)∧bP S w' p l next (gp f l a0)∧aI S w w':=by
 have HH:=aa h;have RT:l≤65536:=h.bound.1;clear h;go_enter Tryz.func313,Tryz.ntmps313;go_wp2_with fail;go_loopw [1] (fun at_ wr=>∃ (k a:Nat) (f':Nat→eI),a≤k∧a<l∧at_= .int .i64 a∧bP S wr p l next f'∧aI S w wr∧up k f' a=up a0 f a0) (fun at_ _=>(intOf at_).toNat)
 case atStart=>exact⟨a0,a0,f,Nat.le_refl _,ha,rfl,HH.o,aI.refl S w,rfl⟩
 case round=>
  obtain⟨k,a,f',hka,QQ,rfl,hI,ht,hup⟩:=hrel;have HI:=aa hI;have HT:=aa ht;have HU:=aa hup;clear hI ht hup HH;have ha0:(0:Int)≤(a:Int):=ai;have amD:(a:Int)≤65536:=ai;rcases Nat.eq_zero_or_pos a with h0|h0
  ·have hst:up k f' a=(f',a):=Ex (.inl h0);have Pa:=aa (HU.o.symm.trans hst);have hq: ¬(0:Int)<(a:Int):=ai;clear HU hst h0;go_wp2_with fail;go_loopw [1,4,5] (fun BQ le kk wr2=>∃ (k2 a2:Nat) (f2:Nat→eI),a2<l∧l - a2≤k2∧BQ= .int .i64 a2∧bP S wr2 p l next f2∧aI S w wr2∧down l k2 f2 a2=gp f l a0) (fun BQ _ _ _=>(l - intOf BQ).toNat)
   case atStart=>exact⟨l,a,f',QQ,ai,rfl,HI.o,HT.o,by rw[gp,Pa.o]⟩
   case round=>
    rename World=>wo
    obtain⟨k2,a2,f2,ha2,hk2,rfl,hI,ht,hdn⟩:=hrel;clear HI HT Pa;have HI:=aa hI;have HT:=aa ht;have HD:=aa hdn;clear hI ht hdn;have akM:(0:Int)≤(a2:Int):=ai;have akL:(a2:Int)≤65536:=ai;go_wp2_with fail;go_loopw [4,5] (fun le kk wr3=>∃ r:Nat,r≤2∧le= .int .i64 (pk f2 l a2 r:Nat)∧kk= .int .i64 (2*(a2:Int)+1+(r:Int))∧bP S wr3 p l next f2∧aI S w wr3) (fun _ kk _=>(2*(a2:Int)+3 - intOf kk).toNat)
    case atStart=>exact⟨0,ai,rfl,by go_num,HI.o,HT.o⟩
    case round=>
     rename World=>wi
     obtain⟨r,hr2,rfl,rfl,hI,ht⟩:=hrel;clear HI HT;have HI:=aa hI;have HT:=aa ht;clear hI ht;obtain⟨q,hq⟩:=ae (pk f2 l a2 r);have hql:q<l:=by rw[←hq];exact N9 ha2 r
     have I':=Ut (f:=f2) (l:=l) (at_:=a2) r;rw[hq] at I' ⊢;have HQ:=aa hq;have HQA:=aa I';clear hq I';obtain⟨iv,mb,φ,hpA,hrA,hmA,aeE,spA,smA⟩:=HI.o.cw;obtain⟨g,cap,rfl,sg,sr,uf,pU⟩:=hrA.form ai;have x1:wi.cell? ⟨p,1,none⟩=some (.slice (some ⟨g,0,none⟩) l cap):=hpA.cell 1;clear hpA hrA hmA aeE spA smA pU sg sr uf;exact agA
  have hq:(0:Int)<(a:Int):=ai;obtain⟨b,hb⟩:=ae ((a - 1) / 2);have He:b<a:=ai;have hbi:((a:Int) - 1) / 2=(b:Int):=ai;have hbl:b<l:=ai;have hb0:(0:Int)≤(b:Int):=ai;have hb1:(b:Int)≤65536:=ai;cases hah:iT f' a b
  case true=>
   have hstep: ∀ j,k=j+1→up k f' a=up j (cQ f' a b) b:=fun j e=>by
    subst e;have:=NA (k:=j) (f:=f') h0 (by rw[hb];exact hah)
    rwa [hb] at this
   have DN: ∃ j,k=j+1:=⟨k - 1,ai⟩;obtain⟨j,hj⟩:=DN;have Pa:=aa ((hstep j hj).symm.trans HU.o);have hbj:b≤j:=ai;have HK:=aa hbj;clear HU hstep hka hj hbj h0;have HB:=aa hb;clear hb;go_wp2_with fail;refine(vW S p l a b next f' _ HI.o QQ hbl).mono ?_;rw[hah];rintro e w2 ⟨rfl,hb2⟩;have rj:=eG hb2 HI.o;have jE:=HT.o.ak hb2;have zg:=aa rj;have gI:=aa jE;clear rj jE hb2;go_wp2_with fail;refine(zl S p l a b next f' _ zg.o QQ hbl).mono ?_;rintro e w3 ⟨⟨v3,rfl⟩,fo,ki⟩;have gH:=aa fo;have iJ:=aa (gI.o.trans ki);clear fo ki;go_wp2_with fail;go_roundw
   case rel=>exact⟨j,b,cQ f' a b,HK.o,hbl,SM,gH.o,iJ.o,Pa.o⟩
   case measure=>simp[intOf];omega
  case false=>
   have hst:up k f' a=(f',a):=Ex (.inr (by rw[hb];exact hah));have Pa:=aa (HU.o.symm.trans hst);clear HU hst h0;have HB:=aa hb;clear hb;go_wp2_with fail;refine(vW S p l a b next f' _ HI.o QQ hbl).mono ?_;rw[hah];rintro e w2 ⟨rfl,hb2⟩;have rj:=eG hb2 HI.o;have jE:=HT.o.ak hb2;clear HI HT;have HI:=aa rj;have HT:=aa jE;clear rj jE hb2 hq hbi hb0 hb1 He hbl HB hah;go_wp2_with fail;go_loopw [1,4,5] (fun BQ le kk wr2=>∃ (k2 a2:Nat) (f2:Nat→eI),a2<l∧l - a2≤k2∧BQ= .int .i64 a2∧bP S wr2 p l next f2∧aI S w wr2∧down l k2 f2 a2=gp f l a0) (fun BQ _ _ _=>(l - intOf BQ).toNat)
   case atStart=>exact⟨l,a,f',QQ,ai,rfl,HI.o,HT.o,by rw[gp,Pa.o]⟩
   case round=>
    rename World=>wo
    obtain⟨k2,a2,f2,ha2,hk2,rfl,hI,ht,hdn⟩:=hrel;clear HI HT Pa;have HI:=aa hI;have HT:=aa ht;have HD:=aa hdn;clear hI ht hdn;have akM:(0:Int)≤(a2:Int):=ai;have akL:(a2:Int)≤65536:=ai;go_wp2_with fail;go_loopw [4,5] (fun le kk wr3=>∃ r:Nat,r≤2∧le= .int .i64 (pk f2 l a2 r:Nat)∧kk= .int .i64 (2*(a2:Int)+1+(r:Int))∧bP S wr3 p l next f2∧aI S w wr3) (fun _ kk _=>(2*(a2:Int)+3 - intOf kk).toNat)
    case atStart=>exact⟨0,ai,rfl,by go_num,HI.o,HT.o⟩
    case round=>
     rename World=>wi
     obtain⟨r,hr2,rfl,rfl,hI,ht⟩:=hrel;clear HI HT;have HI:=aa hI;have HT:=aa ht;clear hI ht;obtain⟨q,hq⟩:=ae (pk f2 l a2 r);have hql:q<l:=by rw[←hq];exact N9 ha2 r
     have I':=Ut (f:=f2) (l:=l) (at_:=a2) r;rw[hq] at I' ⊢;have HQ:=aa hq;have HQA:=aa I';clear hq I';obtain⟨iv,mb,φ,hpA,hrA,hmA,aeE,spA,smA⟩:=HI.o.cw;obtain⟨g,cap,rfl,sg,sr,uf,pU⟩:=hrA.form ai;have x1:wi.cell? ⟨p,1,none⟩=some (.slice (some ⟨g,0,none⟩) l cap):=hpA.cell 1;clear hpA hrA hmA aeE spA smA pU sg sr uf;exact agA
