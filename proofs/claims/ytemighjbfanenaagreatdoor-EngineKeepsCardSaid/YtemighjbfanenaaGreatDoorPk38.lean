import Derived.Test.YtemighjbfanenaaGreatDoorPk22
import Derived.Test.YtemighjbfanenaaGreatDoorPk27
set_option linter.all false
set_option maxRecDepth 100000
set_option maxHeartbeats 16000000
namespace Go.Proofs.YtemighjbfanenaaGreatDoor
open List renaming getElem?_toArray→GZ,getElem?_cons_zero→Ow,getElem?_cons_succ→ZY
open RowKit
open En (dJ Rec Rp Rq ki za bp bB bN dV cM fF aV aF pW bE dg dc)
open Bk (cA uX bD fT dF)
open Go.IntKind renaming i64→aT
open Go.Value renaming oneCell'→eA
open Int renaming reduceEq→ke
open List renaming getD_eq_getElem?_getD→bQ,getElem?_eq_getElem→cI
open Nat renaming le_of_eq→fX
open RowKit.Below renaming refl→aq
open Tryz renaming prog→af,results303→Qq,underlying58→mZ,underlying41→cq,results302→zL,underlying108→eW
theorem Ph{p:Prop}(h:p:=by
 refine bodyPost_ret (kq zL _ iN (aI 58 P8.o _ mZ rfl bC)) rfl ?_;exact⟨fb,Fx,Lh.o,aeM,Qb.o⟩):p:=h
theorem V1{p:Prop}(h:p:=by
 refine bodyPost_ret (dx Qq _ iN (aI 108 pn.o _ eW rfl aV)) rfl ?_;exact⟨by rw[HEQ.o];rfl,br Tu.o rp.o pS.o.1⟩):p:=h
theorem acM{p:Prop}(h:p:=by
 rw[eR] at hi ⊢;rw[eE] at hj ⊢;have hi':i<2:=hi;rcases(show i=0∨i=1 from ag)with rfl|rfl
 ·exact r7
 exact r6):p:=h
theorem TZ{p:Prop}(h:p:=by simp[fF,eA]):p:=h
theorem acs{p:Prop}(h:p:=by rw[←hw2,←aX,←jw];exact(aD.fresh w _ _).alloc _):p:=h
theorem xm{p:Prop}(h:p:=by injection e with e;exact HNF.o e):p:=h
theorem U2{p:Prop}(h:p:=by rcases hk with hk|hk|hk;exact .inl hk;exact .inr (by omega);exact .inr (by omega)):p:=h
theorem UW{p:Prop}(h:p:=by rw[←hw3,←hw2,←aX];exact aw (aw (aw (aq _ _) _) _) _):p:=h
theorem Fx{p:Prop}(h:p:=by rw[HRU.o,vw.o];rfl):p:=h
theorem UK{p:Prop}(h:p:=by rw[←hw3,←hw2,←aX,←jw];exact((aD.fresh w _ _).alloc _).alloc _):p:=h
theorem Fq{p:Prop}(h:p:=by rw[←Na];exact iO.o.alloc _):p:=h
theorem Fk{p:Prop}(h:p:=by rw[←vr];exact ek.o.size):p:=h
theorem Uq{p:Prop}(h:p:=by rcases h with h|h;exact .inl h;exact .inr (.inl h)):p:=h
theorem Up{p:Prop}(h:p:=by injection e with e;exact .inl (.inr (.inr e.symm))):p:=h
theorem aeM{p:Prop}(h:p:=by rw[HRU.o];exact P'.o):p:=h
theorem wV{p:Prop}(h:p:=by exact pS.o.2.1):p:=h
theorem Fb{p:Prop}(h:p:=by have:=iO.o.lt;omega):p:=h
section
namespace En
theorem bC: (af.info? 58).map (·.size)=some 5:=aW
theorem Km(q:Rq)(r:Rec)(w:World): Calls af 303 #[.agg (dc q),.agg (fF r)] w fun e w'=>e=.returned (.agg (pW (bN q r)))∧Below w.heap.size w w':=by
 obtain⟨xq,jw⟩:=ae w.heap.size;obtain⟨w1,aX⟩:=ae (w.alloc (.cells (dc q) 41));obtain⟨xc,hxc⟩:=ae w1.heap.size;obtain⟨w2,hw2⟩:=ae (w1.alloc (.cells (fF r) 58));obtain⟨xr,oc⟩:=ae w2.heap.size;obtain⟨w3,hw3⟩:=ae (w2.alloc (.cells #[.int .u32 0,.int .i64 0,.int .i64 0,.int .u32 0,.int .i64 0,.int .i64 0,.int .i64 0] 108));obtain⟨xo,hxo⟩:=ae w3.heap.size;obtain⟨w4,hw4⟩:=ae (w3.alloc (.cells #[.int .u32 0,.int .i64 0,.int .i64 0,.int .u32 0,.int .i64 0,.int .i64 0,.int .i64 0] 108));have hQ3:aD w3 xq 41 (dc q):=UK;have SM:=aa (show aD w3 xc 58 (fF r)by rw[←hw3,←hw2,←hxc];exact(aD.fresh w1 _ _).alloc _);have iO:=aa (aH hw3 oc);have HO4:=aa (aH hw4 hxo);have ek:=aa (show Below w.heap.size w w3 from UW);have gI:=aa (aJ hw4);have HXO:=aa hxo;have anj:=aa (show xc<xo from by have:=SM.o.lt;have:=HXO.o;omega);have pS:=aa (show w.heap.size≤xr∧w.heap.size≤xo∧xr≠xo from by have h1:=iO.o.lt;have h2:=HXO.o;have h3:w.heap.size≤xr:=(by rw[←oc,←hw2,←aX];simp;omega);omega);have c1:w3.cell? ⟨xq,1,none⟩=some (.int .u32 q.tag):=hQ3.cell 1;have c0:w3.cell? ⟨xq,0,none⟩=some (.int .i64 q.ax):=hQ3.cell 0;have jE:=aa hQ3;clear hQ3;go_enter Tryz.func303,Tryz.ntmps303;go_upto_region 2 with(refine aj rfl 108 _ _ rfl xo 108 _ #[.int .u32 q.tag,.int .i64 q.ax,.int .i64 0,.int .u32 0,.int .i64 0,.int .i64 0,.int .i64 0] HO4.o rfl rfl rfl aV ie ?_;intro w5 hO5 cJ hs5;have eQ:=aa (show Below w3.heap.size w3 w5 from br gI.o cJ (fX HXO.o));have rj:=aa hO5;clear hO5 cJ hs5)
 have rF:=iO.jS eQ.o;have KJ:=SM.jS eQ.o;have Zh:=jE.jS eQ.o;have jl:=aa (ar ek.o eQ.o);clear c0 c1 iO SM jE ek gI HO4 HXO hxo hw4 eQ;have d0:w5.cell? ⟨xq,0,none⟩=some (.int .i64 q.ax):=Zh.o.cell 0;by_cases hk:q.ax=1
 ·have t0:(q.ax==1)=true:=beq_iff_eq.2 ag;have e1:w5.cell? ⟨xc,1,none⟩=some (.int .u32 r.id):=KJ.o.cell 1;have e3:w5.cell? ⟨xc,3,none⟩=some (.int .i64 r.aR):=KJ.o.cell 3;have HEQ:=aa (show bN q r=⟨q.tag,q.ax,0,r.id,0,r.aR,0⟩from by unfold bN;rw[if_pos hk]);have NU:=aa (show aD ((w5.setCell ⟨xo,3,none⟩ (.int .u32 r.id)).setCell ⟨xo,5,none⟩ (.int .i64 r.aR)) xo 108 #[.int .u32 q.tag,.int .i64 q.ax,.int .i64 0,.int .u32 r.id,.int .i64 0,.int .i64 r.aR,.int .i64 0] from((rj.o).put 3 _).put 5 _);have Cl:=aa (show aD ((w5.setCell ⟨xo,3,none⟩ (.int .u32 r.id)).setCell ⟨xo,5,none⟩ (.int .i64 r.aR)) xr 108 _ from((rF.o).other (p:=⟨xo,3,none⟩) pS.o.2.2 _).other (p:=⟨xo,5,none⟩) pS.o.2.2 _);have Cp:=aa (show Below w.heap.size w ((w5.setCell ⟨xo,3,none⟩ (.int .u32 r.id)).setCell ⟨xo,5,none⟩ (.int .i64 r.aR)).drew from ay (((jl.o).setCell wV _).setCell wV _));have am5:=aa (show aD ((w5.setCell ⟨xo,5,none⟩ (.int .i64 r.aR)).setCell ⟨xo,3,none⟩ (.int .u32 r.id)) xo 108 #[.int .u32 q.tag,.int .i64 q.ax,.int .i64 0,.int .u32 r.id,.int .i64 0,.int .i64 r.aR,.int .i64 0] from((rj.o).put 5 _).put 3 _);have Ze:=aa (show aD ((w5.setCell ⟨xo,5,none⟩ (.int .i64 r.aR)).setCell ⟨xo,3,none⟩ (.int .u32 r.id)) xr 108 _ from((rF.o).other (p:=⟨xo,5,none⟩) pS.o.2.2 _).other (p:=⟨xo,3,none⟩) pS.o.2.2 _);have akG:=aa (show Below w.heap.size w ((w5.setCell ⟨xo,5,none⟩ (.int .i64 r.aR)).setCell ⟨xo,3,none⟩ (.int .u32 r.id)).drew from ay (((jl.o).setCell wV _).setCell wV _));have m3:=rj.o.mark 3;have m4:=rj.o.mark 4;have m5:=rj.o.mark 5;have o3:w5.cell? ⟨xo,3,none⟩=some (.int .u32 0):=rj.o.cell 3;have o4:w5.cell? ⟨xo,4,none⟩=some (.int .i64 0):=rj.o.cell 4;have o5:w5.cell? ⟨xo,5,none⟩=some (.int .i64 0):=rj.o.cell 5;have HXC:=aa (show xc≠xo from by have:=anj.o;omega);have f3:(w5.setCell ⟨xo,3,none⟩ (.int .u32 r.id)).cell? ⟨xc,3,none⟩=some (.int .i64 r.aR):=(KJ.o.other (p:=⟨xo,3,none⟩) HXC.o _).cell 3;have f1:(w5.setCell ⟨xo,5,none⟩ (.int .i64 r.aR)).cell? ⟨xc,1,none⟩=some (.int .u32 r.id):=(KJ.o.other (p:=⟨xo,5,none⟩) HXC.o _).cell 1;clear hk;go_upto_region 4 with fail
  go_region;all_goals(go_wp2_with (first|(refine aB rfl 108 (.tmp 5) rfl xo 108 _ NU.o rfl _ eW rfl aV ?_)|(refine aj rfl 108 (.tmp 4) _ rfl xr 108 _ #[.int .u32 q.tag,.int .i64 q.ax,.int .i64 0,.int .u32 r.id,.int .i64 0,.int .i64 r.aR,.int .i64 0] Cl.o rfl rfl rfl aV ie ?_;intro w9 dE dL gL;have pn:=aa dE;have rp:=aa dL;have Tu:=aa Cp.o;clear dE dL gL)|(refine aB rfl 108 (.tmp 5) rfl xo 108 _ am5.o rfl _ eW rfl aV ?_)|(refine aj rfl 108 (.tmp 4) _ rfl xr 108 _ #[.int .u32 q.tag,.int .i64 q.ax,.int .i64 0,.int .u32 r.id,.int .i64 0,.int .i64 r.aR,.int .i64 0] Ze.o rfl rfl rfl aV ie ?_;intro w9 dE dL gL;have pn:=aa dE;have rp:=aa dL;have Tu:=aa akG.o;clear dE dL gL)))
  all_goals(refine bodyPost_ret (dx Qq _ iN (aI 108 pn.o _ eW rfl aV)) rfl ?_;exact⟨by rw[HEQ.o];rfl,br Tu.o rp.o pS.o.1⟩)
 have vV:=hk;clear hk;by_cases hk:q.ax=4
 ·have t0:(q.ax==1)=false:=beq_eq_false_iff_ne.2 ag;have t1:(q.ax==4)=true:=beq_iff_eq.2 ag;have e2:w5.cell? ⟨xc,2,none⟩=some (.int .i64 r.av):=KJ.o.cell 2;have HEQ:=aa (show bN q r=⟨q.tag,q.ax,0,0,r.av,0,0⟩from by unfold bN;rw[if_neg ag,if_pos hk]);have NU:=aa (show aD (w5.setCell ⟨xo,4,none⟩ (.int .i64 r.av)) xo 108 #[.int .u32 q.tag,.int .i64 q.ax,.int .i64 0,.int .u32 0,.int .i64 r.av,.int .i64 0,.int .i64 0] from(rj.o).put 4 _);have Cl:=aa (show aD (w5.setCell ⟨xo,4,none⟩ (.int .i64 r.av)) xr 108 _ from(rF.o).other (p:=⟨xo,4,none⟩) pS.o.2.2 _);have Cp:=aa (show Below w.heap.size w (w5.setCell ⟨xo,4,none⟩ (.int .i64 r.av))from(jl.o).setCell wV _);have m3:=rj.o.mark 3;have m4:=rj.o.mark 4;have m5:=rj.o.mark 5;have o3:w5.cell? ⟨xo,3,none⟩=some (.int .u32 0):=rj.o.cell 3;have o4:w5.cell? ⟨xo,4,none⟩=some (.int .i64 0):=rj.o.cell 4;have o5:w5.cell? ⟨xo,5,none⟩=some (.int .i64 0):=rj.o.cell 5;clear hk;go_wp2_with (first|(refine aB rfl 108 (.tmp 5) rfl xo 108 _ NU.o rfl _ eW rfl aV ?_)|(refine aj rfl 108 (.tmp 4) _ rfl xr 108 _ #[.int .u32 q.tag,.int .i64 q.ax,.int .i64 0,.int .u32 0,.int .i64 r.av,.int .i64 0,.int .i64 0] Cl.o rfl rfl rfl aV ie ?_;intro w9 dE dL gL;have pn:=aa dE;have rp:=aa dL;have Tu:=aa Cp.o;clear dE dL gL));exact V1
 have hk4:=hk;clear hk;by_cases hk:q.ax=7
 ·have t0:(q.ax==1)=false:=beq_eq_false_iff_ne.2 ag;have t1:(q.ax==4)=false:=cf;have t2:(q.ax==7)=true:=beq_iff_eq.2 ag;have e4:w5.cell? ⟨xc,4,none⟩=some (.int .i64 r.ak):=KJ.o.cell 4;have HEQ:=aa (show bN q r=⟨q.tag,q.ax,0,0,0,r.ak,0⟩from by unfold bN;rw[if_neg ag,if_neg ag,if_pos hk]);have NU:=aa (show aD (w5.setCell ⟨xo,5,none⟩ (.int .i64 r.ak)) xo 108 #[.int .u32 q.tag,.int .i64 q.ax,.int .i64 0,.int .u32 0,.int .i64 0,.int .i64 r.ak,.int .i64 0] from(rj.o).put 5 _);have Cl:=aa (show aD (w5.setCell ⟨xo,5,none⟩ (.int .i64 r.ak)) xr 108 _ from(rF.o).other (p:=⟨xo,5,none⟩) pS.o.2.2 _);have Cp:=aa (show Below w.heap.size w (w5.setCell ⟨xo,5,none⟩ (.int .i64 r.ak))from(jl.o).setCell wV _);have m3:=rj.o.mark 3;have m4:=rj.o.mark 4;have m5:=rj.o.mark 5;have o3:w5.cell? ⟨xo,3,none⟩=some (.int .u32 0):=rj.o.cell 3;have o4:w5.cell? ⟨xo,4,none⟩=some (.int .i64 0):=rj.o.cell 4;have o5:w5.cell? ⟨xo,5,none⟩=some (.int .i64 0):=rj.o.cell 5;clear hk;go_wp2_with (first|(refine aB rfl 108 (.tmp 5) rfl xo 108 _ NU.o rfl _ eW rfl aV ?_)|(refine aj rfl 108 (.tmp 4) _ rfl xr 108 _ #[.int .u32 q.tag,.int .i64 q.ax,.int .i64 0,.int .u32 0,.int .i64 0,.int .i64 r.ak,.int .i64 0] Cl.o rfl rfl rfl aV ie ?_;intro w9 dE dL gL;have pn:=aa dE;have rp:=aa dL;have Tu:=aa Cp.o;clear dE dL gL));exact V1
 have hk9:=hk;have t0:(q.ax==1)=false:=cf;have t1:(q.ax==4)=false:=cf;have t2:(q.ax==7)=false:=cf;have HEQ:=aa (show bN q r=⟨q.tag,q.ax,0,0,0,0,0⟩from by unfold bN;rw[if_neg ag,if_neg ag,if_neg ag]);have NU:=aa rj.o;have Cl:=aa rF.o;have Cp:=aa jl.o;clear hk hk9;go_wp2_with (first|(refine aB rfl 108 (.tmp 5) rfl xo 108 _ NU.o rfl _ eW rfl aV ?_)|(refine aj rfl 108 (.tmp 4) _ rfl xr 108 _ #[.int .u32 q.tag,.int .i64 q.ax,.int .i64 0,.int .u32 0,.int .i64 0,.int .i64 0,.int .i64 0] Cl.o rfl rfl rfl aV ie ?_;intro w9 dE dL gL;have pn:=aa dE;have rp:=aa dL;have Tu:=aa Cp.o;clear dE dL gL));exact V1
end En
end
section
namespace Bk
open En (bC)
def aju(f:Nat): Value:=.func (.func f) #[] #[]
def dT(b:dJ)(q:Rq): Rec:=
 if q.ax=1 then⟨1,b.next,q.av,aT.wrap (b.ak+q.bS),0⟩else if q.ax=2 then⟨2,q.id,0,0,0⟩else if q.ax=3 then⟨3,q.id,0,0,0⟩
 else if q.ax=4 then⟨4,q.id,q.av,0,0⟩else⟨5,0,0,0,aT.wrap (b.ak+q.bS)⟩
def cj(k:Int): List Nat:=
 if k=1 then [339,340,341,342,343,344]
 else if k=2 then [345,344] else if k=3 then [345,344]
 else if k=4 then [345,339,342,344]
 else [340,341,344]
def akZ(b:dJ)(q:Rq)(w:World)(e:Ending)(w':World): Prop:=
 ∃g,e=.returned (.tuple #[.agg (fF (dT b q)),.slice (some ⟨g,0,none⟩) (cj q.ax).length (cj q.ax).length,.bool true])∧w.heap.size≤g∧aD w' g 440 ((cj q.ax).map aju).toArray∧Below w.heap.size w w'
theorem xV(S:Nat→Prop)(w:World)(b:Nat)(bk:dJ)(q:Rq)(h:fQ S w b bk)(hc:En.bE q.ax=true): Calls af 302 #[.pointer (some ⟨b,0,none⟩),.agg (dc q)] w (akZ bk q w):=by
 have pX:q.ax=1∨q.ax=2∨q.ax=3∨q.ax=4∨q.ax=7:=by
  unfold En.bE at hc;simp only[Bool.or_eq_true,Bool.and_eq_true,decide_eq_true_eq] at hc;omega
 obtain⟨xq,jw⟩:=ae w.heap.size;obtain⟨w1,aX⟩:=ae (w.alloc (.cells (dc q) 41));obtain⟨xr,oc⟩:=ae w1.heap.size;obtain⟨w2,hw2⟩:=ae (w1.alloc (.cells #[.int .i64 0,.int .u32 0,.int .i64 0,.int .i64 0,.int .i64 0] 58));have rC:=aa (show aD w2 xq 41 (dc q) from acs);have pU:=aa (aH hw2 oc);have cx:=aa (show Below w.heap.size w w2 from IQ);have pS:=aa (show w.heap.size≤xr∧xr≠xq from by have h3:xr=xq+1:=(by rw[←oc,←aX,←jw];simp);omega);obtain⟨pp,hpp⟩:=h;have HC:=aa (show ∀W,Below w.heap.size w W→cA S W b bk.n bk.au bk.az bk.next bk.ak bk.L.length pp from fun W hW=>(hpp.ai hW).bg);obtain⟨at9,ai8⟩:=ae (aT.wrap (bk.ak+q.bS));clear hpp;go_enter Tryz.func302,Tryz.ntmps302;go_wp2_with fail;have ic:=aa (show ∀W,Below w2.heap.size w2 W→(W.cell? ⟨xq,4,none⟩=some (.int .i64 q.bS)∧Below w2.heap.size w2 W)from fun W hW=>⟨(rC.o.keep hW).cell 4,hW⟩);refine sY (S:=(fun W=>W.cell? ⟨xq,4,none⟩=some (.int .i64 q.bS)∧Below w2.heap.size w2 W)) tY fun hHeld=>?_
 have oZ:=aa (show Below w2.heap.size w2 w2.drew from ay (aq _ _));refine cS 0 (some 8) hHeld ?_;refine uw 2 3 ?_;refine cD 1 fun K hK=>?_
 go_simp;refine ah (sO (HC.o _ (ar cx.o oZ.o))) ?_;go_wp2_with fail;refine bW hK jJ fun uM=>?_
 clear hK K;refine uw 4 5 ?_;refine bF ?_;obtain⟨w3,hw3⟩:=ae w2.drew;have ek:=aa (show Below w.heap.size w w3 by rw[←hw3];exact ar cx.o oZ.o);have jE:=aa (show aD w3 xq 41 (dc q)by rw[←hw3];exact rC.o.keep oZ.o);have iO:=aa (show aD w3 xr 58 #[.int .i64 0,.int .u32 0,.int .i64 0,.int .i64 0,.int .i64 0] by rw[←hw3];exact pU.o.keep oZ.o);rw[hw3];clear oZ hHeld uM ic cx rC pU hw3 hw2 aX oc jw;have d0:w3.cell? ⟨xq,0,none⟩=some (.int .i64 q.ax):=jE.o.cell 0;rcases pX with hk|hk|hk|hk|hk
 ·have t1:(q.ax==1)=true:=beq_iff_eq.2 ag;have vw:=aa (show dT bk q=⟨1,bk.next,q.av,at9,0⟩from by unfold dT;rw[if_pos hk];rw[ai8]);have HRU:=aa (show cj q.ax= [339,340,341,342,343,344] from by unfold cj;rw[if_pos hk]);clear hk;go_upto_region 4 with fail
  refine wp_region_held_drew (S:=(fun W=>W.cell? ⟨xq,3,none⟩=some (.int .i64 q.av))) aW (by exact(jE.o.keep (ay (aq _ _))).cell 3) (fun hHeld=>?_);obtain⟨wd,hwd⟩:=ae w3.drew;have Cq:=aa (show Below w.heap.size w wd by rw[←hwd];exact ay ek.o);have kM:=aa (show aD wd xq 41 (dc q)by rw[←hwd];exact jE.o.keep (ay (aq _ _)));have wu:=aa (show aD wd xr 58 _ by rw[←hwd];exact iO.o.keep (ay (aq _ _)));rw[hwd] at hHeld ⊢;clear hwd d0 ek jE iO;refine cS 0 (some 17) hHeld ?_;refine cS 2 (some 19) hHeld ?_;refine uw 4 3 ?_;refine qc 1 6 (fun K hK=>?_) fun K hK=>?_
  ·go_simp;refine ah (wh (HC.o _ Cq.o)) ?_;go_wp2_with fail;refine bW hK (by exact kM.o.cell 3) fun hH1=>?_
   clear hK K;refine ty 5 ?_;refine qc 6 7 (fun K hK=>?_) fun K hK=>?_
   ·obtain⟨a2,ha2⟩:=ae (wd.alloc (.cells #[.func (.func 339) #[] #[],.func (.func 340) #[] #[],.func (.func 341) #[] #[],.func (.func 342) #[] #[],.func (.func 343) #[] #[],.func (.func 344) #[] #[]] 440));obtain⟨fb,vr⟩:=ae wd.heap.size;have aeu:=aa (show Below w.heap.size w a2 by rw[←ha2];exact aw Cq.o _);have akc:=aa (show aD a2 xr 58 _ by rw[←ha2];exact wu.o.alloc _);have aem:=aa (show aD a2 xq 41 (dc q)by rw[←ha2];exact kM.o.alloc _);have akw:=aa (show aD a2 fb 440 #[.func (.func 339) #[] #[],.func (.func 340) #[] #[],.func (.func 341) #[] #[],.func (.func 342) #[] #[],.func (.func 343) #[] #[],.func (.func 344) #[] #[]] by rw[←ha2,←vr];exact aD.fresh wd _ _);have Lh:=aa (show w.heap.size≤fb by rw[←vr];exact Cq.o.size);have HNF:=aa (show xr≠fb by have:=wu.o.lt;omega);go_simp;go_wp2_with fail;try rw[ha2]
    try rw[vr]
    clear ha2 vr;refine bW hK (by exact aem.o.cell 3) fun hH2=>?_
    clear hK K;refine cD 7 fun K hK=>?_
    refine cT 58 _ _ rfl xr 58 _ #[.int .i64 1,.int .u32 bk.next,.int .i64 q.av,.int .i64 (at9),.int .i64 0] akc.o rfl rfl rfl bC ie ?_;intro s3 dE dL gL;have aj9:=aa dE;have akI:=aa (aeu.o.grown dL aeu.o.size (fun k e=>rH));have akj:=aa (aem.o.bo dL (fun e=>rH));have akt:=aa (akw.o.bo dL (fun e=>xm));clear dE dL gL;refine bW hK (by exact akj.o.cell 3) fun hH3=>?_
    clear hK K;refine uw 8 9 ?_;refine bF ?_;go_wp2_with fail;refine bodyPost_ret (kq zL _ iN (aI 58 aj9.o _ mZ rfl bC)) rfl ?_;exact⟨fb,Fx,Lh.o,by rw[HRU.o];exact akt.o,akI.o⟩
   refine cT 58 _ _ rfl xr 58 _ #[.int .i64 1,.int .u32 bk.next,.int .i64 q.av,.int .i64 (at9),.int .i64 0] wu.o rfl rfl rfl bC ie ?_;intro s4 dE dL gL;have aei:=aa dE;have aet:=aa (Cq.o.grown dL Cq.o.size (fun k e=>rH));have ael:=aa (kM.o.bo dL (fun e=>rH));clear dE dL gL;refine bW hK (by exact ael.o.cell 3) fun hH4=>?_
   clear hK K;refine cD 6 fun K hK=>?_
   obtain⟨a5,CO⟩:=ae (s4.alloc (.cells #[.func (.func 339) #[] #[],.func (.func 340) #[] #[],.func (.func 341) #[] #[],.func (.func 342) #[] #[],.func (.func 343) #[] #[],.func (.func 344) #[] #[]] 440));obtain⟨fb,vr⟩:=ae s4.heap.size;have akJ:=aa (eH aet.o CO);have akb:=aa (show aD a5 xr 58 _ by rw[←CO];exact aei.o.alloc _);have akk:=aa (show aD a5 xq 41 (dc q)by rw[←CO];exact ael.o.alloc _);have akv:=aa (aH CO vr);have Lh:=aa (show w.heap.size≤fb by rw[←vr];exact aet.o.size);have HNF:=aa (show xr≠fb by have:=aei.o.lt;omega);go_simp;go_wp2_with fail;try rw[CO]
   try rw[vr]
   clear CO vr;refine bW hK (by exact akk.o.cell 3) fun hH5=>?_
   clear hK K;refine uw 8 9 ?_;refine bF ?_;go_wp2_with fail;refine bodyPost_ret (kq zL _ iN (aI 58 akb.o _ mZ rfl bC)) rfl ?_;exact⟨fb,Fx,Lh.o,by rw[HRU.o];exact akv.o,akJ.o⟩
  obtain⟨a6,Nb⟩:=ae (wd.alloc (.cells #[.func (.func 339) #[] #[],.func (.func 340) #[] #[],.func (.func 341) #[] #[],.func (.func 342) #[] #[],.func (.func 343) #[] #[],.func (.func 344) #[] #[]] 440));obtain⟨fb,vr⟩:=ae wd.heap.size;have Zz:=aa (eH Cq.o Nb);have aka:=aa (show aD a6 xr 58 _ by rw[←Nb];exact wu.o.alloc _);have Zg:=aa (show aD a6 xq 41 (dc q)by rw[←Nb];exact kM.o.alloc _);have aku:=aa (aH Nb vr);have Lh:=aa (show w.heap.size≤fb by rw[←vr];exact Cq.o.size);have HNF:=aa (show xr≠fb by have:=wu.o.lt;omega);go_simp;go_wp2_with fail;try rw[Nb]
  try rw[vr]
  clear Nb vr;refine bW hK (by exact Zg.o.cell 3) fun hH6=>?_
  clear hK K;refine cD 1 fun K hK=>?_
  go_simp;refine ah (wh (HC.o _ Zz.o)) ?_;go_wp2_with fail;refine bW hK (by exact Zg.o.cell 3) fun hH7=>?_
  clear hK K;refine ty 5 ?_;refine cD 7 fun K hK=>?_
  refine cT 58 _ _ rfl xr 58 _ #[.int .i64 1,.int .u32 bk.next,.int .i64 q.av,.int .i64 (at9),.int .i64 0] aka.o rfl rfl rfl bC ie ?_;intro s8 dE dL gL;have aj8:=aa dE;have akH:=aa (Zz.o.grown dL Zz.o.size (fun k e=>rH));have aki:=aa (Zg.o.bo dL (fun e=>rH));have aks:=aa (aku.o.bo dL (fun e=>xm));clear dE dL gL;refine bW hK (by exact aki.o.cell 3) fun hH8=>?_
  clear hK K;refine uw 8 9 ?_;refine bF ?_;go_wp2_with fail;refine bodyPost_ret (kq zL _ iN (aI 58 aj8.o _ mZ rfl bC)) rfl ?_;exact⟨fb,Fx,Lh.o,by rw[HRU.o];exact aks.o,akH.o⟩
 ·have t1:(q.ax==1)=false:=beq_eq_false_iff_ne.2 ag;have t2:(q.ax==2)=true:=beq_iff_eq.2 ag;have vw:=aa (show dT bk q=⟨2,q.id,0,0,0⟩from by unfold dT;rw[if_neg ag,if_pos hk]);have HRU:=aa (show cj q.ax= [345,344] from by unfold cj;rw[if_neg ag,if_pos hk]);clear hk;have d2:w3.cell? ⟨xq,2,none⟩=some (.int .u32 q.id):=jE.o.cell 2;obtain⟨a9,Na⟩:=ae (w3.alloc (.cells #[.func (.func 345) #[] #[],.func (.func 344) #[] #[]] 440));obtain⟨fb,vr⟩:=ae w3.heap.size;have sL:=aa (eH ek.o Na);have Cm:=aa (show aD a9 xr 58 _ from Fq);have Co:=aa (aH Na vr);have Lh:=aa (show w.heap.size≤fb from Fk);have HNF:=aa (show xr≠fb from Fb);go_wp2_with (refine aj rfl 58 _ _ rfl xr 58 _ #[.int .i64 2,.int .u32 q.id,.int .i64 0,.int .i64 0,.int .i64 0] Cm.o rfl rfl rfl bC ie ?_;intro s9 dE dL gL;have P8:=aa dE;have Qb:=aa (sL.o.grown dL sL.o.size (fun k e=>rH));have P':=aa (Co.o.bo dL (fun e=>xm));clear dE dL gL);exact Ph
 ·have t1:(q.ax==1)=false:=beq_eq_false_iff_ne.2 ag;have t2:(q.ax==2)=false:=cf;have t3:(q.ax==3)=true:=beq_iff_eq.2 ag;have vw:=aa (show dT bk q=⟨3,q.id,0,0,0⟩from by unfold dT;rw[if_neg ag,if_neg ag,if_pos hk]);have HRU:=aa (show cj q.ax= [345,344] from by unfold cj;rw[if_neg ag,if_neg ag,if_pos hk]);clear hk;have d2:w3.cell? ⟨xq,2,none⟩=some (.int .u32 q.id):=jE.o.cell 2;obtain⟨a9,Na⟩:=ae (w3.alloc (.cells #[.func (.func 345) #[] #[],.func (.func 344) #[] #[]] 440));obtain⟨fb,vr⟩:=ae w3.heap.size;have sL:=aa (eH ek.o Na);have Cm:=aa (show aD a9 xr 58 _ from Fq);have Co:=aa (aH Na vr);have Lh:=aa (show w.heap.size≤fb from Fk);have HNF:=aa (show xr≠fb from Fb);go_wp2_with (refine aj rfl 58 _ _ rfl xr 58 _ #[.int .i64 3,.int .u32 q.id,.int .i64 0,.int .i64 0,.int .i64 0] Cm.o rfl rfl rfl bC ie ?_;intro s9 dE dL gL;have P8:=aa dE;have Qb:=aa (sL.o.grown dL sL.o.size (fun k e=>rH));have P':=aa (Co.o.bo dL (fun e=>xm));clear dE dL gL);exact Ph
 ·have t1:(q.ax==1)=false:=beq_eq_false_iff_ne.2 ag;have t2:(q.ax==2)=false:=cf;have t3:(q.ax==3)=false:=cf;have t4:(q.ax==4)=true:=beq_iff_eq.2 ag;have vw:=aa (show dT bk q=⟨4,q.id,q.av,0,0⟩from by unfold dT;rw[if_neg ag,if_neg ag,if_neg ag,if_pos hk]);have HRU:=aa (show cj q.ax= [345,339,342,344] from by unfold cj;rw[if_neg ag,if_neg ag,if_neg ag,if_pos hk]);clear hk;have d2:w3.cell? ⟨xq,2,none⟩=some (.int .u32 q.id):=jE.o.cell 2;have d3:w3.cell? ⟨xq,3,none⟩=some (.int .i64 q.av):=jE.o.cell 3;obtain⟨a9,Na⟩:=ae (w3.alloc (.cells #[.func (.func 345) #[] #[],.func (.func 339) #[] #[],.func (.func 342) #[] #[],.func (.func 344) #[] #[]] 440));obtain⟨fb,vr⟩:=ae w3.heap.size;have sL:=aa (eH ek.o Na);have Cm:=aa (show aD a9 xr 58 _ from Fq);have Co:=aa (aH Na vr);have Lh:=aa (show w.heap.size≤fb from Fk);have HNF:=aa (show xr≠fb from Fb);go_wp2_with (refine aj rfl 58 _ _ rfl xr 58 _ #[.int .i64 4,.int .u32 q.id,.int .i64 q.av,.int .i64 0,.int .i64 0] Cm.o rfl rfl rfl bC ie ?_;intro s9 dE dL gL;have P8:=aa dE;have Qb:=aa (sL.o.grown dL sL.o.size (fun k e=>rH));have P':=aa (Co.o.bo dL (fun e=>xm));clear dE dL gL);exact Ph
 have t1:(q.ax==1)=false:=cf;have t2:(q.ax==2)=false:=cf;have t3:(q.ax==3)=false:=cf;have t4:(q.ax==4)=false:=cf;have t7:(q.ax==7)=true:=beq_iff_eq.2 ag;have vw:=aa (show dT bk q=⟨5,0,0,0,at9⟩from by unfold dT;rw[if_neg ag,if_neg ag,if_neg ag,if_neg ag];rw[ai8]);have HRU:=aa (show cj q.ax= [340,341,344] from by unfold cj;rw[if_neg ag,if_neg ag,if_neg ag,if_neg ag]);clear hk;obtain⟨a9,Na⟩:=ae (w3.alloc (.cells #[.func (.func 340) #[] #[],.func (.func 341) #[] #[],.func (.func 344) #[] #[]] 440));obtain⟨fb,vr⟩:=ae w3.heap.size;have sL:=aa (eH ek.o Na);have Cm:=aa (show aD a9 xr 58 _ from Fq);have Co:=aa (aH Na vr);have Lh:=aa (show w.heap.size≤fb from Fk);have HNF:=aa (show xr≠fb from Fb);go_wp2_with (refine aj rfl 58 _ _ rfl xr 58 _ #[.int .i64 5,.int .u32 0,.int .i64 0,.int .i64 0,.int .i64 (at9)] Cm.o rfl rfl rfl bC ie ?_;intro s9 dE dL gL;have P8:=aa dE;have Qb:=aa (sL.o.grown dL sL.o.size (fun k e=>rH));have P':=aa (Co.o.bo dL (fun e=>xm));clear dE dL gL);exact Ph
end Bk
end
section
namespace Bk
def nN: List Int→Int
 | []=>0
 | x::l=>if x=0 then nN l else x
theorem Ey:∀(l:List Int) (i:Nat) (x:Int),(∀j,j<i→l.getD j 0=0)→i<l.length→l.getD i 0=x→x≠0→nN l=x
 | [],_,_,_,h,_,_=>by simp at h
 | y::l,0,x,_,_,h,hx=>by
  have e:y=x:=p3;rw[nN,if_neg (by rw[e];exact hx),e]
 | y::l,i+1,x,h0,hl,h,hx=>by
  have e:y=0:=by simpa using h0 0 ag
  rw[nN,if_pos e];exact Ey l i x (fun j hj=>by simpa using h0 (j+1) ag) (by simpa using hl) p3 hx
theorem yH:∀(l:List Int),(∀j,j<l.length→l.getD j 0=0)→nN l=0
 | [],_=>rfl
 | y::l,h=>by
  have e:y=0:=by simpa using h 0 dA
  rw[nN,if_pos e];exact yH l fun j hj=>by simpa using h (j+1) Ax
def iw(b:dJ)(a8:Int)(q:Rq): List Int:=
 let known:Int:=if(b.find q.id).isNone=true then 171 else 0
 let av:Int:=if(b.n:Int)≤q.av then 140 else 0
 let taken:Int:=if dV b q=true then 170 else 0
 let bS:Int:=if q.bS<1∨1073741824<q.bS then 2 else 0
 let ak:Int:=if 1099511627776<b.ak+q.bS then 172 else 0
 let full:Int:=if b.au≤b.L.length∨b.next=4294967295 then 6 else 0
 let fits:Int:=if a8<22+(cM (dT b q).ax:Int)then 220 else 0
 if q.ax=1 then [av,bS,ak,taken,full,fits] else if q.ax=2 then [known,fits] else if q.ax=3 then [known,fits] else if q.ax=4 then [known,av,taken,fits] else [bS,ak,fits]
theorem J7{b:dJ}{q:Rq}(hc:bE q.ax=true): (cM (dT b q).ax:Int)=if q.ax=1 then 15 else if q.ax=2∨q.ax=3 then 5 else if q.ax=4 then 7 else 9:=by
 unfold dT;rcases dg hc with h|h|h|h|h <;>simp[h,cM]
theorem dp(c:Prop)[Decidable c](x:Int)(hx:x≠0)(l:List Int): nN ((if c then x else 0)::l)=if c then x else nN l:=by
 by_cases h:c
 ·rw[if_pos h,if_pos h,nN,if_neg hx]
 rw[if_neg h,if_neg h,nN,if_pos rfl]
theorem Gq{b:dJ}{a8:Int}{q:Rq}(hc:bE q.ax=true): nN (iw b a8 q)=bB b a8 q:=by
 have hr:=J7 (b:=b) hc;unfold iw bB;rw[hr];rcases dg hc with h|h|h|h|h
 ·simp only[h,ke,if_true,if_false,or_self];rw[dp _ _ aM,dp _ _ aM,dp _ _ aM,dp _ _ aM,dp _ _ aM,dp _ _ aM];rfl
 ·simp only[h,ke,if_true,if_false,or_false,or_true];rw[dp _ _ aM,dp _ _ aM];rfl
 ·simp only[h,ke,if_true,if_false,or_false,or_true];rw[dp _ _ aM,dp _ _ aM];rfl
 ·simp only[h,ke,if_true,if_false,or_self];rw[dp _ _ aM,dp _ _ aM,dp _ _ aM,dp _ _ aM];rfl
 simp only[h,ke,if_true,if_false,or_self];rw[dp _ _ aM,dp _ _ aM,dp _ _ aM];rfl
theorem Np(b:dJ)(a8:Int)(q:Rq): (iw b a8 q).length=(cj q.ax).length:=by
 unfold iw cj;simp only;split
 ·rfl
 split
 ·rfl
 split
 ·rfl
 split <;>rfl
def sF(S:Nat→Prop)(b:Nat)(bk:dJ)(q:Rq)(r:Rec)(a8:Int)(f:Nat)(er:Int): Prop:=∀W,fQ S W b bk→Calls af f #[.agg (uR b q r a8)] W (oC S W b bk er)
theorem Vk{S:Nat→Prop}{b:Nat}{bk:dJ}{a8:Int}{q:Rq}(hb:bk.Ok)(hq:q.Good)(hc:bE q.ax=true):∀i,i<(cj q.ax).length→(∀j,j<i→(iw bk a8 q).getD j 0=0)→sF S b bk q (dT bk q) a8 ((cj q.ax).getD i 0) ((iw bk a8 q).getD i 0):=by
 have hid:=hq.id;have hs:=hq.av.1;have ht:=hq.bS;have PD:=hb.ak;have r1:sF S b bk q (dT bk q) a8 339 (if(bk.n:Int)≤q.av then 140 else 0):=fun W h=>aam S W b bk q _ a8 h hb hs
 have r2:sF S b bk q (dT bk q) a8 340 (if q.bS<1∨1073741824<q.bS then 2 else 0):=fun W h=>aeK S W b bk q _ a8 h hb
 have r3:(if q.bS<1∨1073741824<q.bS then(2:Int)else 0)=0→sF S b bk q (dT bk q) a8 341 (if 1099511627776<bk.ak+q.bS then 172 else 0):=fun h0 W h=>X9 S W b bk q _ a8 h hb (by
  by_cases c:q.bS<1∨1073741824<q.bS
  ·rw[if_pos c] at h0;exact absurd h0 aM
  omega)
 have r4:sF S b bk q (dT bk q) a8 342 (if dV bk q=true then 170 else 0):=fun W h=>Vd S W b bk q _ a8 h hb hs
 have r5:sF S b bk q (dT bk q) a8 343 (if bk.au≤bk.L.length∨bk.next=4294967295 then 6 else 0):=fun W h=>abg S W b bk q _ a8 h hb
 have r6:sF S b bk q (dT bk q) a8 344 (if a8<22+(cM (dT bk q).ax:Int)then 220 else 0):=fun W h=>abi S W b bk q _ a8 h hb
 have r7:sF S b bk q (dT bk q) a8 345 (if(bk.find q.id).isNone=true then 171 else 0):=fun W h=>WH S W b bk q _ a8 h hb hid
 intro i hi hj;rcases dg hc with h|h|h|h|h
 ·have eR:cj q.ax=cj 1:=by rw[h]
  have eE:iw bk a8 q= [if(bk.n:Int)≤q.av then 140 else 0,if q.bS<1∨1073741824<q.bS then 2 else 0,if 1099511627776<bk.ak+q.bS then 172 else 0,if dV bk q=true then 170 else 0,if bk.au≤bk.L.length∨bk.next=4294967295 then 6 else 0,if a8<22+(cM (dT bk q).ax:Int)then 220 else 0]:=by unfold iw;simp only;rw[if_pos h]
  rw[eR] at hi ⊢;rw[eE] at hj ⊢;have hi':i<6:=hi;rcases(show i=0∨i=1∨i=2∨i=3∨i=4∨i=5 from ag)with rfl|rfl|rfl|rfl|rfl|rfl
  ·exact r1
  ·exact r2
  ·exact r3 (hj 1 ag)
  ·exact r4
  ·exact r5
  exact r6
 ·have eR:cj q.ax=cj 2:=by rw[h]
  have eE:iw bk a8 q= [if(bk.find q.id).isNone=true then 171 else 0,if a8<22+(cM (dT bk q).ax:Int)then 220 else 0]:=by unfold iw;simp only;rw[if_neg ag,if_pos h]
  exact acM
 ·have eR:cj q.ax=cj 3:=by rw[h]
  have eE:iw bk a8 q= [if(bk.find q.id).isNone=true then 171 else 0,if a8<22+(cM (dT bk q).ax:Int)then 220 else 0]:=by unfold iw;simp only;rw[if_neg ag,if_neg ag,if_pos h]
  exact acM
 ·have eR:cj q.ax=cj 4:=by rw[h]
  have eE:iw bk a8 q= [if(bk.find q.id).isNone=true then 171 else 0,if(bk.n:Int)≤q.av then 140 else 0,if dV bk q=true then 170 else 0,if a8<22+(cM (dT bk q).ax:Int)then 220 else 0]:=by unfold iw;simp only;rw[if_neg ag,if_neg ag,if_neg ag,if_pos h]
  rw[eR] at hi ⊢;rw[eE] at hj ⊢;have hi':i<4:=hi;rcases(show i=0∨i=1∨i=2∨i=3 from ag)with rfl|rfl|rfl|rfl
  ·exact r7
  ·exact r1
  ·exact r4
  exact r6
 have eR:cj q.ax=cj 7:=by rw[h]
 have eE:iw bk a8 q= [if q.bS<1∨1073741824<q.bS then 2 else 0,if 1099511627776<bk.ak+q.bS then 172 else 0,if a8<22+(cM (dT bk q).ax:Int)then 220 else 0]:=by unfold iw;simp only;rw[if_neg ag,if_neg ag,if_neg ag,if_neg ag]
 rw[eR] at hi ⊢;rw[eE] at hj ⊢;have hi':i<3:=hi;rcases(show i=0∨i=1∨i=2 from ag)with rfl|rfl|rfl
 ·exact r2
 ·exact r3 (hj 0 ag)
 exact r6
theorem R2{b:dJ}(hb:b.Ok){a8:Int}{q:Rq}(hq:q.Good)(hc:bE q.ax=true)(h0:bB b a8 q=0): dT b q=bp b q:=by
 have PD:=hb.ak;have ht:=hq.bS;have hw:(q.ax=1∨q.ax=7)→aT.wrap (b.ak+q.bS)=b.ak+q.bS:=fun hk=>by
  have hl:¬(q.bS<1∨1073741824<q.bS):=fun c=>by
   unfold bB at h0;rcases hk with hk|hk
   ·rw[if_pos hk] at h0;simp only[if_pos c] at h0;split at h0 <;>exact absurd h0 aM
   rw[if_neg ag,if_neg ag,if_neg ag,if_pos c] at h0;exact absurd h0 aM
  rw[IntKind.wrap_i64];omega
 unfold dT bp;rcases dg hc with h|h|h|h|h
 ·rw[if_pos h,if_pos h,hw (.inl h)]
 ·simp[h]
 ·simp[h]
 ·simp[h]
 have:=hw (.inr h);simp[h,this]
end Bk
end
section
namespace Bk
open En (bC Km)
variable{w:World}
theorem nQ{S:Nat→Prop}{w':World} {b:Nat}{bk:dJ}{x:Nat}(h:fQ S w b bk)(hg:w.grownBy w' (some x))(hx:∀k,S k→k≠x): fQ S w' b bk:=by
 obtain⟨p,hp⟩:=h;have ht:aG (· =x) w w':=(aG.refl (· =x) w).grown hg (fun k e=>IP);exact⟨p,⟨hp.bg.same ht.size fun k hk hl=>ht.block k hl (hx k hk),hp.bits,hp.dQ,hp.under,hp.listed,hp.small,hp.qm⟩⟩
theorem _root_.Go.Proofs.YtemighjbfanenaaGreatDoor.aG.acK{S T:Nat→Prop}{a w':World} (h:aG S a w)(k:aG T w w')(hT:∀j,T j→S j∨a.heap.size≤j): aG S a w':=
 h.new (k.mono fun j _ hj=>hT j hj)
def Bb(f:Nat): Prop:=f=339∨f=340∨f=341∨f=342∨f=343∨f=344∨f=345
theorem afe(k:Int)(i:Nat)(h:i<(cj k).length): Bb ((cj k).getD i 0):=by
 have ha:∀l:List Nat,(∀x∈l,Bb x)→i<l.length→Bb (l.getD i 0):=fun l hl hi=>by rw[bQ,cI hi];exact hl _ (List.getElem_mem hi)
 refine ha _ ?_ h;unfold cj Bb;intro x hx;split at hx
 ·simp at hx;omega
 split at hx
 ·simp at hx;omega
 split at hx
 ·simp at hx;omega
 split at hx
 ·simp at hx;omega
 simp at hx;omega
theorem QY{f:Nat}(h:Bb f)(args:Array Value)(W:World): Sem.run af (callFunc f args) W=.ok (.enter f args) W:=by
 unfold Bb at h;rcases h with rfl|rfl|rfl|rfl|rfl|rfl|rfl <;>kernel_rfl
def aas: Rec:=⟨0,0,0,0,0⟩
def aeC(S:Nat→Prop)(b:Nat)(bk:dJ)(a8:Int)(q:Rq)(w:World)(e:Ending)(w':World): Prop:=
 e=.returned (if bB bk a8 q=0 then .tuple #[.agg (fF (bp bk q)),.agg (pW (bN q (bp bk q))),.bool true,.int .i64 0] else .tuple #[.agg (fF aas),.agg (pW (En.cy q (bB bk a8 q))),.bool false,.int .i64 0])∧fQ S w' b bk∧aG S w w'
theorem vH{P:Program}{fn:Func}{p q r s:Tmp}{tp tq:TypeId}(h:fn.results= #[.cell p tp,.cell q tq,.tmp r,.tmp s])(tmps:Array Value){a1 a2:Addr}{v1 v2:Value}
  (hp:tmps.getD p undef=.pointer (some a1)) (hq:tmps.getD q undef=.pointer (some a2)) (h1:(loadVar tp a1).run P w=.ok v1 w) (h2:(loadVar tq a2).run P w=.ok v2 w) :
  (results fn tmps).run P w=.ok (.tuple #[v1,v2,tmps.getD r undef,tmps.getD s undef]) w:=by
 have hp':tmps[p]?.getD undef=.pointer (some a1):=Ud;have hq':tmps[q]?.getD undef=.pointer (some a2):=by simpa using hq
 simp[results,h,hp',hq',asAddr,h1,h2]
theorem yh(S:Nat→Prop)(w:World)(b:Nat)(bk:dJ)(a8:Int)(q:Rq)(h:fQ S w b bk)(hb:bk.Ok)(hq:q.Good)(Dl:za q)(hc:bE q.ax=true):
  Calls af 216 #[.pointer (some ⟨b,0,none⟩),.int .i64 a8,.agg (dc q)] w (aeC S b bk a8 q w):=by
 have jd:=aa (show ∀k,S k→k<w.heap.size from by obtain⟨x,hx⟩:=h;exact hx.bg.lt);have eX:=aa (show ∀W,Below w.heap.size w W→fQ S W b bk from fun W hW=>by obtain⟨x,hx⟩:=h;exact⟨x,hx.ai hW⟩);have Ck:=aa (show ∀W,Below w.heap.size w W→Calls af 38 #[.pointer (some ⟨b,0,none⟩)] W fun e w'=>e=.returned (.agg #[.int .i64 bk.n,.int .i64 bk.au,.int .i64 bk.az])∧Below W.heap.size W w' from fun W hW=>by obtain⟨x,hx⟩:=h;exact fT (hx.ai hW).bg);have HRL:=aa (Vk (S:=S) (b:=b) (bk:=bk) (a8:=a8) (q:=q) hb hq hc);have HFE:=aa (Gq (b:=bk) (a8:=a8) hc);have HEL:=aa (Np bk a8 q);have Zf:=aa (R2 (b:=bk) hb (a8:=a8) hq hc);have jH:=aa Dl;have HCH:=aa hc;have hnz:((bk.n:Int)==0)=false:=beq_eq_false_iff_ne.2 (by have:=hb.n;omega);have Xc:¬(bk.n:Int)=0:=by have:=hb.n;omega
 obtain⟨rW,hrW⟩:=ae (dT bk q);obtain⟨nr,Dm⟩:=ae ((cj q.ax).length);have an1:nr≤6:=by rw[←Dm];unfold cj;split;decide;split;decide;split;decide;split <;>decide
 have amX:=aa hrW;have To:=aa Dm;rw[hrW] at HRL Zf;clear h hb hq Dl hc hrW Dm;obtain⟨xq,jw⟩:=ae w.heap.size;obtain⟨w1,aX⟩:=ae (w.alloc (.cells (dc q) 41));obtain⟨xr,oc⟩:=ae w1.heap.size;obtain⟨w2,hw2⟩:=ae (w1.alloc (.cells #[.int .i64 0,.int .u32 0,.int .i64 0,.int .i64 0,.int .i64 0] 58));obtain⟨xp,mz⟩:=ae w2.heap.size;obtain⟨w3,hw3⟩:=ae (w2.alloc (.cells #[.int .u32 0,.int .i64 0,.int .i64 0,.int .u32 0,.int .i64 0,.int .i64 0,.int .i64 0] 108));have jE:=aa (show aD w3 xq 41 (dc q) from UK);have iO:=aa (show aD w3 xr 58 #[.int .i64 0,.int .u32 0,.int .i64 0,.int .i64 0,.int .i64 0] by rw[←hw3,←hw2,←oc];exact(aD.fresh w1 _ _).alloc _);have HP3:=aa (aH hw3 mz);have ek:=aa (show Below w.heap.size w w3 from UW);have HX:=aa (show w.heap.size≤xq∧xr=xq+1∧xp=xq+2 from by
  refine⟨ag,?_,?_⟩
  ·rw[←oc,←aX,←jw];simp
  rw[←mz,←hw2,←aX,←jw];simp)
 go_enter Tryz.func216,Tryz.ntmps216;go_wp2_with fail;clear aX hw2 hw3 jw oc mz;refine(Ck.o _ ek.o).mono ?_;rintro e w4 ⟨rfl,hb4⟩;have tQ:=jE.jS hb4;have oI:=iO.jS hb4;have NT:=HP3.jS hb4;have gI:=ek.eo hb4;clear hb4 jE iO HP3 Ck ek;go_wp2_with (refine aB rfl 41 (.tmp 5) rfl xq 41 _ tQ.o rfl _ cq rfl aF ?_);refine(xV S w4 b bk q (eX.o _ gI.o) HCH.o).mono ?_;rintro e w5 ⟨fb,rfl,vr,hF5,dR⟩;rw[To.o,amX.o];have HF5:=aa hF5;have eQ:=gI.eo dR;have Zh:=tQ.jS dR;have rF:=oI.jS dR;have Dx:=NT.jS dR;have Lh:=aa (show w.heap.size≤fb∧fb<w5.heap.size from⟨by have:=gI.o.size;omega,hF5.lt⟩);clear vr hF5 dR tQ oI NT gI;obtain⟨xa,jb⟩:=ae w5.heap.size;obtain⟨w6,mM⟩:=ae (w5.alloc (.cells #[.int .i64 0,.int .u32 0,.int .i64 0,.int .i64 0,.int .i64 0] 58));have wA:=aa (aH mM jb);have jy:=aa (aJ mM);have HXA:=aa jb;go_upto_region 4 with(refine aj rfl 58 _ _ rfl xa 58 _ (fF rW) wA.o rfl rfl rfl bC TZ ?_;intro w7 Ik Xs hs7;have zh:=aa Ik;have pj:=aa (show Below w5.heap.size w5 w7 from br jy.o Xs (fX HXA.o));clear Ik Xs hs7)
 have HF7:=aa (HF5.o.keep pj.o);have Dv:=Zh.jS pj.o;have Sr:=rF.jS pj.o;have HP7:=Dx.jS pj.o;have jl:=aa (ar eQ.o pj.o);have ajU:=aa (show xp<xa from by have:=Dx.o.lt;have:=HXA.o;omega);have amN:=aa (show w.heap.size≤xa from by have:=eQ.o.size;have:=HXA.o;omega);clear mM jb wA jy HF5 Zh rF Dx eQ pj HXA;have c0:w7.cell? ⟨xq,0,none⟩=some (.int .i64 q.ax):=Dv.o.cell 0;have c1:w7.cell? ⟨xq,1,none⟩=some (.int .u32 q.tag):=Dv.o.cell 1;have c2:w7.cell? ⟨xq,2,none⟩=some (.int .u32 q.id):=Dv.o.cell 2;have c3:w7.cell? ⟨xq,3,none⟩=some (.int .i64 q.av):=Dv.o.cell 3;have c4:w7.cell? ⟨xq,4,none⟩=some (.int .i64 q.bS):=Dv.o.cell 4;go_wp2_with fail;refine(ki q w7 jH.o).mono ?_;rintro e w8 ⟨rfl,mC⟩;have HF8:=aa (HF7.o.keep mC);have HQ8:=Dv.jS mC;have La:=Sr.jS mC;have HP8:=HP7.jS mC;have zg:=aa (zh.o.keep mC);have ru:=jl.eo mC;clear mC c0 c1 c2 c3 c4 HF7 Dv Sr HP7 zh jl hnz Xc;have oJ:=aa (show ∀k,w.heap.size≤k→¬S k from fun k hk hs=>by have:=jd.o k hs;omega);go_wp2_with fail;go_loopw [40] (fun i wr=>∃j:Nat,j≤nr∧i=.int .i64 j∧(∀k,k<j→(iw bk a8 q).getD k 0=0)∧fQ S wr b bk∧aG S w8 wr) (fun i _=>(nr-intOf i).toNat)
 case atStart=>exact⟨0,Nat.zero_le _,rfl,fun k hk=>ag,eX.o _ ru.o,aG.refl _ _⟩
 case round=>
  obtain⟨j,hj,rfl,hz,cK,htc⟩:=hrel;have HZ:=aa hz;have aha:=aa cK;have HTC:=aa htc;have hx:=HX.o;have HFr:=aa (htc.arr HF8.o (oJ.o _ Lh.o.1));have HQr:=aa (htc.arr HQ8.o (oJ.o _ hx.1));have HRr:=aa (htc.arr La.o (oJ.o _ ag));have HPr:=aa (htc.arr HP8.o (oJ.o _ ag));have HAr:=aa (htc.arr zg.o (oJ.o _ amN.o));clear hz cK htc hx;by_cases h2:j<nr
  ·have hj2:(j:Int)<(nr:Int):=by omega
   have HRJ:=aa (HRL.o j (by rw[To.o];exact h2) HZ.o _ aha.o);obtain⟨f,hf⟩:=ae ((cj q.ax).getD j 0);have cF:wr.cell? ⟨fb,j,none⟩=some (.func (.func f) #[] #[]):=by
    have h9:=HFr.o.cell j;rw[h9];have h8:j<(cj q.ax).length:=by rw[To.o];exact h2
    rw[←hf];simp[aju,bQ,cI h8]
   have HF7:=aa (show Bb f from by rw[←hf];exact afe _ j (by rw[To.o];exact h2));rw[hf] at HRJ;clear hf;go_upto_region 9 with fail
   clear cF;have hE:=fun args=>QY (f:=f) HF7.o args wr
   go_wp2_with (first|(refine aB rfl 41 (.tmp 5) rfl xq 41 #[.int .i64 q.ax,.int .u32 q.tag,.int .u32 q.id,.int .i64 q.av,.int .i64 q.bS] HQr.o rfl _ cq rfl aF ?_)|(refine aB rfl 58 (.tmp 10) rfl xa 58 #[.int .i64 rW.ax,.int .u32 rW.id,.int .i64 rW.av,.int .i64 rW.aR,.int .i64 rW.ak] HAr.o rfl _ mZ rfl bC ?_));clear hE;refine HRJ.o.mono ?_;rintro e wn ⟨rfl,hbn,htn⟩;have HBN:=aa hbn;have HTN:=aa (HTC.o.trans htn);have hx:=HX.o;have wJ:=aa (htn.arr HQr.o (oJ.o _ hx.1));have HRn:=aa (htn.arr HRr.o (oJ.o _ ag));have HPn:=aa (htn.arr HPr.o (oJ.o _ ag));clear hbn htn hx HRJ HQr HRr HPr HAr HFr HTC aha;obtain⟨er,oU⟩:=ae ((iw bk a8 q).getD j 0);have HER:=aa oU;rw[oU];by_cases he:er=0
   ·subst he;go_wp2_with fail;go_roundw
    case rel=>
     refine⟨j+1,h2,by go_num,fun k hk=>?_,HBN.o,HTN.o⟩;rcases Nat.lt_or_ge k j with c|c
     ·exact HZ.o k c
     obtain rfl:k=j:=ag;exact HER.o
    case measure=>simp[intOf];omega
   have pN:(er != 0)=true:=bne_iff_ne.2 he;have HRF:=aa (show bB bk a8 q=er from by rw[←HFE.o];exact Ey _ j er HZ.o (by rw[HEL.o,To.o];exact h2) HER.o he);have jV:=aa he;clear he;go_upto_region 11 with fail
   have ic:=aa (show ∀W,aD W xq 41 (dc q)→(W.cell? ⟨xq,1,none⟩=some (.int .u32 q.tag)∧W.cell? ⟨xq,0,none⟩=some (.int .i64 q.ax))from fun W hW=>⟨hW.cell 1,hW.cell 0⟩);obtain⟨wd,hwd⟩:=ae wn.drew;have gQ:Below wn.heap.size wn wd:=mR;have HQd:=aa (wJ.o.keep gQ);have HRd:=aa (HRn.o.keep gQ);have Ss:=aa (HPn.o.keep gQ);have KD:=aa (HTN.o.ai gQ);have HBd:=aa (show fQ S wd b bk from by obtain⟨x,hx⟩:=HBN.o;exact⟨x,hx.ai gQ⟩);clear gQ;refine wp_region_held_drew (S:=(fun W=>W.cell? ⟨xq,1,none⟩=some (.int .u32 q.tag)∧W.cell? ⟨xq,0,none⟩=some (.int .i64 q.ax))) aW (by rw[hwd];exact ic.o _ HQd.o) (fun hHeld=>?_);rw[hwd] at hHeld ⊢;clear hwd;refine OC 0 1 2 3 4 5 ?_;refine ty 6 ?_;refine cD 7 fun K hK=>?_
   refine cT 58 _ _ rfl xr 58 _ #[.int .i64 0,.int .u32 0,.int .i64 0,.int .i64 0,.int .i64 0] HRd.o rfl rfl rfl bC ie ?_;intro ws dE dL gL;have hx:=HX.o;have HRs:=aa dE;have HQs:=aa (HQd.o.bo dL (fun e=>lV));have HPs:=aa (Ss.o.bo dL (fun e=>lV));have HTs:=aa (show aG (fun k=>S k∨k=xr) w8 ws from(KD.o.mono (fun k _ h=>.inl h)).grown dL (fun k e=>by injection e with e;exact .inl (.inr e.symm)));have HBs:=aa (nQ HBd.o dL (fun k hk e=>oJ.o k ag hk));clear dE dL gL hx;refine bW hK (by exact ic.o _ HQs.o) fun nK=>?_
   clear hK K;refine cD 8 fun K hK=>?_
   refine cT 108 _ _ rfl xp 108 _ #[.int .u32 q.tag,.int .i64 q.ax,.int .i64 er,.int .u32 0,.int .i64 0,.int .i64 0,.int .i64 0] HPs.o rfl rfl rfl aV ie ?_;intro wz dE dL gL;have hx:=HX.o;have HPz:=aa dE;have HQz:=aa (HQs.o.bo dL (fun e=>lV));have HRz:=aa (HRs.o.bo dL (fun e=>lV));have HTz:=aa (show aG (fun k=>S k∨k=xr∨k=xp) w8 wz from(HTs.o.mono (fun k _ h=>Uq)).grown dL (fun k e=>Up));have Tu:=aa (nQ HBs.o dL (fun k hk e=>oJ.o k ag hk));clear dE dL gL hx;refine bW hK (by exact ic.o _ HQz.o) fun nJ=>?_
   clear hK K;refine uw 9 10 ?_;refine bF ?_;go_wp2_with fail;refine bodyPost_ret (vH Tryz.results216 _ iN iN (aI 58 HRz.o _ mZ rfl bC) (aI 108 HPz.o _ eW rfl aV)) rfl ?_;refine⟨?_,Tu.o,?_⟩
   ·rw[if_neg (by rw[HRF.o];exact jV.o),HRF.o];rfl
   have hx:=HX.o;exact aG.acK (aG.aU ru.o) HTz.o (fun k hk=>U2)
  obtain rfl:j=nr:=ag;have HRF:=aa (show bB bk a8 q=0 from by rw[←HFE.o];exact yH _ (fun k hk=>HZ.o k (by rw[HEL.o,To.o] at hk;exact hk)));have vw:=aa (Zf.o HRF.o);have hj2:¬(j:Int)<(j:Int):=ag;go_upto_region 13 with fail
  have ic:=aa (show ∀W,aD W xq 41 (dc q)→aD W xa 58 (fF rW)→(W.rangeAt xq 0 (dc q).toList∧W.rangeAt xa 0 (fF rW).toList)from fun W hW hV=>⟨fun j u hj=>by rw[Nat.zero_add,hW.cell j];simpa using hj,fun j u hj=>by rw[Nat.zero_add,hV.cell j];simpa using hj⟩);obtain⟨wd,hwd⟩:=ae wr.drew;have gQ:Below wr.heap.size wr wd:=mR;have HQd:=aa (HQr.o.keep gQ);have HRd:=aa (HRr.o.keep gQ);have Ss:=aa (HPr.o.keep gQ);have HAd:=aa (HAr.o.keep gQ);have KD:=aa (HTC.o.ai gQ);have HBd:=aa (show fQ S wd b bk from by obtain⟨x,hx⟩:=aha.o;exact⟨x,hx.ai gQ⟩);clear gQ;refine wp_region_held_drew (S:=(fun W=>W.rangeAt xq 0 (dc q).toList∧W.rangeAt xa 0 (fF rW).toList)) aW (by rw[hwd];exact ic.o _ HQd.o HAd.o) (fun hHeld=>?_);rw[hwd] at hHeld ⊢;clear hwd;refine fj 0 (some 61) hHeld 58 (.tmp 10) xa 0 (fF rW).toList _ (fun w' h=>h.2) mZ rfl bC ?_;try simp only[aQ]
  refine fj 1 (some 62) hHeld 41 (.tmp 5) xq 0 (dc q).toList _ (fun w' h=>h.1) cq rfl aF ?_;try simp only[aQ]
  refine fj 2 (some 63) hHeld 58 (.tmp 10) xa 0 (fF rW).toList _ (fun w' h=>h.2) mZ rfl bC ?_;try simp only[aQ]
  refine cD 3 fun K hK=>?_
  go_simp;refine(Km q rW wd).mono ?_;rintro e wl ⟨rfl,hbl⟩;have HQl:=aa (HQd.o.keep hbl);have HRl:=aa (HRd.o.keep hbl);have HPl:=aa (Ss.o.keep hbl);have HAl:=aa (HAd.o.keep hbl);have HTl:=aa (KD.o.ai hbl);have HBl:=aa (show fQ S wl b bk from by obtain⟨x,hx⟩:=HBd.o;exact⟨x,hx.ai hbl⟩);clear hbl;go_wp2_with fail;refine bW hK (by exact ic.o _ HQl.o HAl.o) fun Nf=>?_
  clear hK K;refine cD 4 fun K hK=>?_
  refine cT 58 _ _ rfl xr 58 _ (fF rW) HRl.o rfl rfl rfl bC TZ ?_;intro ws dE dL gL;have hx:=HX.o;have jb:=ajU.o;have HRs:=aa dE;have HQs:=aa (HQl.o.bo dL (fun e=>lV));have HPs:=aa (HPl.o.bo dL (fun e=>lV));have HAs:=aa (HAl.o.bo dL (fun e=>lV));have HTs:=aa (show aG (fun k=>S k∨k=xr) w8 ws from(HTl.o.mono (fun k _ h=>.inl h)).grown dL (fun k e=>by injection e with e;exact .inl (.inr e.symm)));have HBs:=aa (nQ HBl.o dL (fun k hk e=>oJ.o k ag hk));clear dE dL gL hx jb;refine bW hK (by exact ic.o _ HQs.o HAs.o) fun oX=>?_
  clear hK K;refine cD 5 fun K hK=>?_
  refine cT 108 _ _ rfl xp 108 _ (pW (bN q rW)) HPs.o rfl rfl rfl aV (by simp[pW,eA]) ?_;intro wz dE dL gL;have hx:=HX.o;have jb:=ajU.o;have HPz:=aa dE;have HQz:=aa (HQs.o.bo dL (fun e=>lV));have HRz:=aa (HRs.o.bo dL (fun e=>lV));have lI:=aa (HAs.o.bo dL (fun e=>lV));have HTz:=aa (show aG (fun k=>S k∨k=xr∨k=xp) w8 wz from(HTs.o.mono (fun k _ h=>Uq)).grown dL (fun k e=>Up));have Tu:=aa (nQ HBs.o dL (fun k hk e=>oJ.o k ag hk));clear dE dL gL hx jb;refine bW hK (by exact ic.o _ HQz.o lI.o) fun jA=>?_
  clear hK K;refine uw 6 7 ?_;refine bF ?_;go_wp2_with fail;refine bodyPost_ret (vH Tryz.results216 _ iN iN (aI 58 HRz.o _ mZ rfl bC) (aI 108 HPz.o _ eW rfl aV)) rfl ?_;refine⟨?_,Tu.o,?_⟩
  ·rw[if_pos HRF.o,←vw.o];rfl
  have hx:=HX.o;exact aG.acK (aG.aU ru.o) HTz.o (fun k hk=>U2)
end Bk
end
section
namespace En
theorem yP{S:Nat→Prop}{w:World}{b n au:Nat}{az next ak:Int}{len:Nat}{p:bD}(h:cA S w b n au az next ak len p)(hn:1≤n)(q:Rq)(hq:za q)(hk:q.ax=10):
  Calls af 209 #[.pointer (some ⟨b,0,none⟩),.agg (dc q)] w fun e w'=>e=.returned (.tuple #[.agg (pW ⟨q.tag,10,0,0,0,0,len⟩),.int .i64 0])∧Below w.heap.size w w':=by
 obtain⟨xq,jw⟩:=ae w.heap.size;obtain⟨w1,aX⟩:=ae (w.alloc (.cells (dc q) 41));obtain⟨xr,oc⟩:=ae w1.heap.size;obtain⟨w2,hw2⟩:=ae (w1.alloc (.cells #[.int .u32 0,.int .i64 0,.int .i64 0,.int .u32 0,.int .i64 0,.int .i64 0,.int .i64 0] 108));have rC:=aa (show aD w2 xq 41 (dc q) from acs);have pU:=aa (aH hw2 oc);have cx:=aa (show Below w.heap.size w w2 from IQ);have pS:=aa (show w.heap.size≤xr∧xr<w2.heap.size from⟨by rw[←oc,←aX];simp,pU.o.lt⟩);have EP:=aa (h.ai cx.o);have jH:=aa hq;have hz:((n:Int)==0)=false:=cf;have hz2:¬(n:Int)=0:=ag;clear h hq;go_enter Tryz.func209,Tryz.ntmps209;go_wp2_with fail;refine(fT EP.o).mono ?_;rintro e w3 ⟨rfl,hb3⟩;have jE:=rC.jS hb3;have iO:=pU.jS hb3;have SM:=aa (EP.o.ai hb3);have ek:=cx.eo hb3;clear hb3 rC pU EP;go_wp2_with (refine aB rfl 41 (.tmp 3) rfl xq 41 _ jE.o rfl _ cq rfl aF ?_);refine(ki q w3 jH.o).mono ?_;rintro e w4 ⟨rfl,hb4⟩;have tQ:=jE.jS hb4;have oI:=iO.jS hb4;have SJ:=aa (SM.o.ai hb4);have gI:=ek.eo hb4;clear hb4 jE iO SM hz hz2;have c0:w4.cell? ⟨xq,0,none⟩=some (.int .i64 10):=by rw[←hk];exact tQ.o.cell 0
 have c1:w4.cell? ⟨xq,1,none⟩=some (.int .u32 q.tag):=tQ.o.cell 1;obtain⟨x6,Z7⟩:=ae w4.heap.size;obtain⟨w5,jK⟩:=ae (w4.alloc (.cells #[.int .u32 0,.int .i64 0,.int .i64 0,.int .u32 0,.int .i64 0,.int .i64 0,.int .i64 0] 108));have o6:=aa (aH jK Z7);have eQ:=aa (aJ jK);have KC:=aa Z7;have jd:=aa (show xr<x6∧w.heap.size≤x6 by have:=oI.o.lt;have:=KC.o;have:=gI.o.size;omega);go_upto_region 6 with(refine aj rfl 108 _ _ rfl x6 108 _ (pW ⟨q.tag,10,0,0,0,0,0⟩) o6.o rfl rfl rfl aV (by simp[pW,eA]) ?_;intro w6 vt jG WZ;have jy:=aa (show Below w4.heap.size w4 w6 from br eQ.o jG (fX KC.o));have wA:=aa vt;clear vt jG WZ)
 obtain⟨w7,zx⟩:=ae (w6.alloc (.cells #[.int .u32 0,.int .i64 0,.int .i64 0] 171));have pc:=aJ zx;have zh:=aa (wA.o.keep pc);have pj:=jy.eo pc;have HC7:=aa (SJ.o.ai pj.o);have Sr:=oI.jS pj.o;have d0:w7.cell? ⟨xq,0,none⟩=some (.int .i64 10):=by rw[←hk];exact(tQ.o.keep pj.o).cell 0
 clear pc c0 c1 SJ oI tQ;go_wp2_with fail;refine ah (uX HC7.o) ?_;have d6:w7.cell? ⟨x6,6,none⟩=some (.int .i64 0):=zh.o.cell 6;have m6:=zh.o.mark 6;have lI:=aa (show aD (w7.setCell ⟨x6,6,none⟩ (.int .i64 (len:Int))) x6 108 (pW ⟨q.tag,10,0,0,0,0,len⟩)from zh.o.put 6 _);have jV:=aa (show xr≠x6∧w.heap.size≤x6 from rN);have HRz:=aa (show aD (w7.setCell ⟨x6,6,none⟩ (.int .i64 (len:Int))) xr 108 _ from Sr.o.other (p:=⟨x6,6,none⟩) jV.o.1 _);have Tu:=aa (show Below w.heap.size w (w7.setCell ⟨x6,6,none⟩ (.int .i64 (len:Int)))from(ar gI.o pj.o).setCell (by exact jV.o.2) _);go_wp2_with (first|(refine aB rfl 108 (.tmp 6) rfl x6 108 _ lI.o rfl _ eW rfl aV ?_)|(refine aj rfl 108 (.tmp 4) _ rfl xr 108 _ (pW ⟨q.tag,10,0,0,0,0,len⟩) HRz.o rfl rfl rfl aV (by simp[pW,eA]) ?_;intro w9 dE dL gL;have pn:=aa dE;have rp:=aa dL;clear dE dL gL));exact bodyPost_ret (results_cell_tmp Tryz.results209 _ iN (aI 108 pn.o _ eW rfl aV)) rfl ⟨rfl,br Tu.o rp.o pS.o.1⟩
