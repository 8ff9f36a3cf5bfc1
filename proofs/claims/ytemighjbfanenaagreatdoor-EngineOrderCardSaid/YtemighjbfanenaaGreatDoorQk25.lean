import Derived.Test.YtemighjbfanenaaGreatDoorQk23
set_option linter.all false
set_option maxRecDepth 100000
set_option maxHeartbeats 16000000
namespace Go.Proofs.YtemighjbfanenaaGreatDoor
open RowKit
open Oc (Bs gl fG aO bu le qV eT cM val)
open Cr (cj ij)
open Go.Instr renaming index→mN
open Go.Proofs.Tryz renaming underlying129→cq,results299→nh,results155→PI,prog→af,underlying266→PJ
open Go.Value renaming oneCell'→fY
open List renaming getElem?_eq_some_iff→iX
open Nat renaming zero_le→cx,le_refl→aY,le_trans→aV
open Option.some renaming inj→cP
open RowKit.Below renaming refl→ar
theorem acI{p:Prop}(h:p:=by
 go_enter Tryz.func68,Tryz.ntmps68;go_wp2_with fail;refine(HO.o _).mono ?_;rintro e w2 ⟨rfl,hb2⟩;obtain⟨w3,hw3⟩:=ae (w2.alloc (.cells #[.bool a1,.bool a2,.bool a3,.bool a4] 266));obtain⟨sb,kU⟩:=ae w2.heap.size;have dE:=aJ hw3 kU;have hb3:=ek hb2 hw3;have dO:=dF.o.ah hb3;have s0:=dE.cl 0;have s1:=dE.cl 1;have s2:=dE.cl 2;have s3:=dE.cl 3;have r1:=dO.cl 1;have r2:=dO.cl 2;have r3:=dO.cl 3;have r4:=dO.cl 4;have dV:=bA.dQ hb3;clear dE hb2 hb3 dO;go_wp2_with fail;refine ag (W1.o _) ?_;go_wp2_with fail;refine ag (W2.o _) ?_;go_wp2_with fail;refine ag (W3.o _) ?_;go_wp2_with fail;refine ag (W4.o _) ?_;go_wp2_with fail;go_ret;exact⟨oY,Ig⟩):p:=h
theorem acH{p:Prop}(h:p:=by
 have sZ:(er != 0)=true:=wY;have HQ:=aa (show(eb,bb,db)=(er,(none:Option By),D')from S5);have kX:=aa o6;clear o6 X0 Rl;go_wp2_with (first|(refine aj rfl 129 _ _ rfl rr 129 _ #[.int .u64 0,.int .u64 0,.int .i64 0,.int .u32 0] gH.o.res rfl rfl rfl bc (cE Hd.zero) ?_;intro wz gK eM hsz;have kY:=aa gK;have iF:=aa eM;clear gK eM hsz));refine bodyPost_ret (cZ nh _ iI (aL 129 kY.o _ cq rfl bc)) rfl ?_;have hR:R=⟨er,Hd.zero,[],0,D'⟩:=by
  have q0:=HQ.o;injection q0 with q1 q2
  injection q2 with q2 q3
  rw[HR.o];unfold kz;rw[Pe.o];simp only[R5.o.1,R5.o.2,if_true,HTB.o,q1,q2,q3,if_neg kX.o]
 rw[hR];exact(gH.o).o (R:=⟨er,Hd.zero,[],0,D'⟩) HS.o iF.o rfl (fun hne=>absurd rfl hne) (cx _)):p:=h
theorem acG{p:Prop}(h:p:=by
 have sZ:(er != 0)=true:=wY;have HQ:=aa (show(ea,ba,da)=(er,(none:Option By),D')from S5);have kX:=aa o6;clear o6 X0 Rl;go_wp2_with (first|(refine aj rfl 129 _ _ rfl rr 129 _ #[.int .u64 0,.int .u64 0,.int .i64 0,.int .u32 0] gH.o.res rfl rfl rfl bc (cE Hd.zero) ?_;intro wz gK eM hsz;have kY:=aa gK;have iF:=aa eM;clear gK eM hsz));refine bodyPost_ret (cZ nh _ iI (aL 129 kY.o _ cq rfl bc)) rfl ?_;have hR:R=⟨er,Hd.zero,[],0,D'⟩:=by
  have q0:=HQ.o;injection q0 with q1 q2
  injection q2 with q2 q3
  rw[HR.o];unfold kz;rw[Pe.o];simp only[q1,q2,q3,if_neg kX.o]
 rw[hR];exact(gH.o).o (R:=⟨er,Hd.zero,[],0,D'⟩) HS.o iF.o rfl (fun hne=>absurd rfl hne) (cx _)):p:=h
theorem acE{p:Prop}(h:p:=by
 clear hk;go_enter Tryz.func155,Tryz.ntmps155;go_wp2_with (first|(refine aj rfl 351 _ _ rfl tb 351 _ Lz cu.o rfl rfl rfl pK xe ?_;intro w3 dE hg3 hs3;have T3:aI (· =tb) w2 w3:=(aI.refl _ _).grown hg3 (fun k e=>.inl (cP e).symm);have dO:=T3.arr jB.o kX.o;have iu:=aa dO;have iJ:=aa T3;have pC:=aa dE;clear dE hg3 hs3 T3 dO)|(refine aj rfl 266 _ _ rfl rb 266 _ #[.bool false,.bool false,.bool false,.bool false] iu.o rfl rfl rfl oB vx ?_;intro w4 oa hg4 tL;have pB:=aa oa;have uV:=aa hg4;clear oa hg4 tL));have hb3:Below w.heap.size w w3:=aI.nz kS.o iJ.o (fun k hk=>abF);exact bodyPost_ret (results_cell_tmp PI _ iI (aL 266 pB.o _ PJ rfl oB)) rfl ⟨by rw[J8.o.1,J8.o.2];rfl,agj⟩):p:=h
theorem IJ{p:Prop}(h:p:=by
 have hb3:Below w.heap.size w w3:=aI.nz kS.o iJ.o (fun k hk=>abF);exact bodyPost_ret (results_cell_tmp PI _ iI (aL 266 pB.o _ PJ rfl oB)) rfl ⟨iI,agj⟩):p:=h
theorem acB{p:Prop}(h:p:=by
 have HI:=aa hI;have R5:=aa (show(ea=0∧ba=none)∧eb=0∧bb=none from⟨q0,q1,q2⟩);clear hI q0 q1 q2;go_wp2_with (first|(refine aj rfl 129 _ _ rfl rr 129 _ #[.int .u64 0,.int .u64 0,.int .i64 0,.int .u32 0] HI.o.res rfl rfl rfl bc (cE Hd.zero) ?_;intro wz gK eM hsz;have kY:=aa gK;have iF:=aa eM;clear gK eM hsz));refine bodyPost_ret (cZ nh _ iI (aL 129 kY.o _ cq rfl bc)) rfl ?_;have hR:R=⟨0,Hd.zero,[],-1,db⟩:=aeg;rw[hR];exact(HI.o).o (R:=⟨0,Hd.zero,[],-1,db⟩) HS.o iF.o rfl (fun hne=>absurd rfl hne) (cx _)):p:=h
theorem acw{p:Prop}(h:p:=by
 have hT:(eb,bb,db)=((0:Int),(none:Option By),da):=by rw[←HTB.o];unfold dg;rw[if_pos hz]
 injection hT with q1 q2
 injection q2 with q2 q3
 have HQ:=aa (show eb=0∧bb=none∧db=da from⟨q1,q2,q3⟩);clear hz q1 q2 q3;go_wp2_with fail;go_roundw
 case rel=>
  obtain⟨q1,q2,q3⟩:=HQ.o;exact .inr (.inr ⟨rfl,R5.o,q1,q2,SZ⟩)
 case measure=>simp[intOf]):p:=h
theorem acv{p:Prop}(h:p:=by
 have hT:(ea,ba,da)=((0:Int),(none:Option By),d2):=by rw[←Pe.o];unfold dg;rw[if_pos hz]
 injection hT with q1 q2
 injection q2 with q2 q3
 have HQ:=aa (show ea=0∧ba=none∧da=d2 from⟨q1,q2,q3⟩);clear hz q1 q2 q3;go_wp2_with fail;go_roundw
 case rel=>
  obtain⟨q1,q2,q3⟩:=HQ.o;exact .inr (.inl ⟨rfl,q1,q2,SZ⟩)
 case measure=>simp[intOf]):p:=h
theorem acq{p:Prop}(h:p:=by
 have HQ:=aa (show(eb,bb,db)=((0:Int),(none:Option By),D')from S9);clear mG B8;go_wp2_with fail;go_roundw
 case rel=>
  have q0:=HQ.o;injection q0 with q1 q2
  injection q2 with q2 q3
  exact .inr (.inr ⟨rfl,R5.o,q1,q2,abA⟩)
 case measure=>simp[intOf]):p:=h
theorem aco{p:Prop}(h:p:=by
 have HQ:=aa (show(ea,ba,da)=((0:Int),(none:Option By),D')from S9);clear mG B8;go_wp2_with fail;go_roundw
 case rel=>
  have q0:=HQ.o;injection q0 with q1 q2
  injection q2 with q2 q3
  exact .inr (.inl ⟨rfl,q1,q2,abA⟩)
 case measure=>simp[intOf]):p:=h
theorem acb{p:Prop}(h:p:=by
 have q0:=HQ.o;injection q0 with q1 q2
 injection q2 with q2 q3
 rw[HR.o];unfold kz;rw[Pe.o];simp only[R5.o.1,R5.o.2,if_true,HTB.o,q1,q2,q3];rfl):p:=h
theorem UM{p:Prop}(h:p:=by
 go_enter Tryz.func156,Tryz.ntmps156;go_wp2_with fail;go_ret;exact⟨rfl,rfl⟩):p:=h
theorem ab2{p:Prop}(h:p:=by
 have q0:=HQ.o;injection q0 with q1 q2
 injection q2 with q2 q3
 rw[HR.o];unfold kz;rw[Pe.o];simp only[q1,q2,q3];rfl):p:=h
theorem abT{p:Prop}(h:p:=by
 rw[hR];exact(gH.o.ak (az (ar _ _))).o (R:=⟨0,h2,bs,1,D'⟩) HS.o iF.o rfl (fun hne=>abG) Yk.o):p:=h
theorem abS{p:Prop}(h:p:=by
 rw[hR];exact(gH.o.ak (az (ar _ _))).o (R:=⟨0,h1,bs,0,D'⟩) HS.o iF.o rfl (fun hne=>abG) Yk.o):p:=h
theorem Vp{p:Prop}(h:p:=by
 go_wp2_with fail;go_roundw
 case rel=>exact⟨1,ai,NM,ND,ay HB.o _⟩
 case measure=>simp[intOf]):p:=h
theorem Vo{p:Prop}(h:p:=by
 go_wp2_with fail;go_roundw
 case rel=>exact⟨2,ai,NM,ND,ay HB.o _⟩
 case measure=>simp[intOf]):p:=h
theorem Vn{p:Prop}(h:p:=by
 go_wp2_with fail;go_roundw
 case rel=>exact⟨3,ai,NM,ND,ay HB.o _⟩
 case measure=>simp[intOf]):p:=h
theorem Vm{p:Prop}(h:p:=by
 go_wp2_with fail;go_roundw
 case rel=>exact⟨4,ai,NM,ND,ay HB.o _⟩
 case measure=>simp[intOf]):p:=h
theorem Vi{p:Prop}(h:p:=by
 intro j v h;have hj:j<4:=(iX.1 h).1;rcases(show j=0∨j=1∨j=2∨j=3 from ai)with rfl|rfl|rfl|rfl <;>exact h):p:=h
theorem agj{p:Prop}(h:p:=by first|exact br hb3 uV.o (by have:=uT.o;omega)|(rw[uT.o.1] at hb3;exact br hb3 uV.o (aY _))):p:=h
theorem vx{p:Prop}(h:p:=by simp[fY]):p:=h
theorem NM{p:Prop}(h:p:=by first|(rw[←HM.o];simp[mD,OV,HC.o])|(rw[←HM.o];simp[mD,OV,HC.o];done)):p:=h
theorem Ig{p:Prop}(h:p:=by first|exact dV.o|(rw[uT.o];exact dV.o)|(have:=dV.o;rw[uT.o] at this;exact this)):p:=h
theorem abG{p:Prop}(h:p:=by obtain⟨g',q1,q2,q3⟩:=fC.o hne;exact⟨g',q1,q2,q3.same rfl⟩):p:=h
theorem abF{p:Prop}(h:p:=by have:=uT.o;have e:k=tb:=hk;omega):p:=h
theorem ND{p:Prop}(h:p:=by first|rfl|go_num):p:=h
theorem abA{p:Prop}(h:p:=by rw[q3];exact gH.o.ak (az (ar _ _))):p:=h
theorem aeg{p:Prop}(h:p:=by rw[HR.o];unfold kz;rw[Pe.o];simp only[R5.o.1.1,R5.o.1.2,if_true,HTB.o,R5.o.2.1,R5.o.2.2]):p:=h
theorem T6{p:Prop}(h:p:=by unfold recKind;rw[Bool.and_eq_false_iff,decide_eq_false_iff_not,decide_eq_false_iff_not];omega):p:=h
theorem Fa{p:Prop}(h:p:=by obtain⟨g',rfl,_,wG⟩:=fC.o hn;exact wG.bs hn):p:=h
theorem oY{p:Prop}(h:p:=by rw[HE.o];rfl):p:=h
theorem EX{p:Prop}(h:p:=by rw[beq_eq_false_iff_ne];exact mG):p:=h
theorem uw{p:Prop}(h:p:=by simp at *;omega):p:=h
theorem EU{p:Prop}(h:p:=by rw[beq_eq_false_iff_ne];exact hz):p:=h
theorem xe{p:Prop}(h:p:=by simp[Lz,fY]):p:=h
theorem ajR{p:Prop}(h:p:=by have:=uT.o;omega):p:=h
theorem uq{p:Prop}(h:p:=by assumption):p:=h
theorem Tb{p:Prop}(h:p:=by injection e with e;subst e;exact .inr (by omega)):p:=h
theorem EJ{p:Prop}(h:p:=by rw[B8.o,if_pos mG]):p:=h
theorem S9{p:Prop}(h:p:=by rw[B8.o,if_neg mG]):p:=h
theorem EH{p:Prop}(h:p:=by have:=El.o;omega):p:=h
theorem EF{p:Prop}(h:p:=by rw[X0.o,if_pos o6]):p:=h
theorem S5{p:Prop}(h:p:=by rw[X0.o,if_neg o6]):p:=h
theorem SZ{p:Prop}(h:p:=by rw[q3];exact HI.o):p:=h
theorem rM{p:Prop}(h:p:=by exact m3):p:=h
theorem Ez{p:Prop}(h:p:=by exact⟨o1,l1⟩):p:=h
theorem Ey{p:Prop}(h:p:=by exact⟨o0,l0⟩):p:=h
section
namespace En
theorem Uk(g:Rg): ∀ (ps:List Piece) (d:bJ) (acc:By),(G8 g d ps acc).2.2.dk=d.dk
 | [],d,acc=>rfl
 | x::ps,d,acc=>by
  rw[G8];split
  ·rw[Uk g ps];exact bJ.lQ _ _
  exact bJ.lQ _ _
theorem Rg.lQ(g:Rg)(d:bJ)(at_ n:Int): (g.read d at_ n).2.2.dk=d.dk:=by
 unfold Rg.read;split
 ·rfl
 exact Uk g _ _ _
theorem nJ(g:Rg)(d:bJ): (dc g d).2.2.dk=d.dk:=by
 unfold dc;split <;>exact Rg.lQ _ _ _ _
theorem DW(g:Rg)(d:bJ): (dc g d).2.1.len≤g.bytes d.dk.size:=by
 unfold dc;split
 ·simp only;split
  ·split
   ·omega
   exact cx _
  exact cx _
 exact cx _
theorem jY(s:Sl)(d:bJ)(i:Nat)(h:Hd): (dg s d i h).2.2.dk=d.dk:=by
 unfold dg;split
 ·rfl
 split <;>exact Rg.lQ _ _ _ _
theorem Vt(s:Sl)(d:bJ)(i j:Nat)(hi hj:Hd): (kz s d i j hi hj).dev.dk=d.dk:=by
 unfold kz;split
 ·split
  ·exact jY _ _ _ _
  split
  ·split <;>exact(jY _ _ _ _).trans (jY _ _ _ _)
  exact(jY _ _ _ _).trans (jY _ _ _ _)
 exact jY _ _ _ _
theorem Oo(s:Sl)(d:bJ): (s.load d).dev.dk=d.dk:=by
 unfold Sl.load;split
 ·split
  ·split <;>exact(Vt _ _ _ _ _ _).trans ((nJ _ _).trans (nJ _ _))
  exact(nJ _ _).trans (nJ _ _)
 exact nJ _ _
def hds(a b:Hd): Array Value:=#[.int .u64 (a.gen:Nat),.int .u64 (a.mh:Nat),.int .i64 (a.len:Nat),.int .u32 (a.sum:Nat),.int .u64 (b.gen:Nat),.int .u64 (b.mh:Nat),.int .i64 (b.len:Nat),.int .u32 (b.sum:Nat)]
structure tN(S:Nat→Prop)(w:World)(rr hb p:Nat)(D:bJ)(a b:Hd)(W:World): Prop where
 fk:aG W hb 468 (hds a b)
 res:aG W rr 129 #[.int .u64 0,.int .u64 0,.int .i64 0,.int .u32 0]
 dev:dB p D S W
 cR:aI S w W
 rz:w.heap.size≤rr∧w.heap.size≤hb∧rr≠hb
variable{S:Nat→Prop}{w W W':World}{rr hb p:Nat}
theorem tN.ak{D:bJ}{a b:Hd}(h:tN S w rr hb p D a b W)(hb':Below W.heap.size W W'): tN S w rr hb p D a b W':=
 ⟨h.fk.ah hb',h.res.ah hb',(aF p D).ak h.dev hb',h.cR.ak hb',h.rz⟩
theorem tN.step{D D':bJ}{a b:Hd}(h:tN S w rr hb p D a b W)(hS: ∀ k,S k→k<w.heap.size)(hD:dB p D' S W')(ht:aI S W W'): tN S w rr hb p D' a b W':=by
 have h1:=h.rz;exact⟨ht.arr h.fk (fun hs=>by have:=hS _ hs;omega),ht.arr h.res (fun hs=>by have:=hS _ hs;omega),hD,h.cR.trans ht,h.rz⟩
theorem tN.put{D:bJ}{a b a' b':Hd}(h:tN S w rr hb p D a b W)(hS: ∀ k,S k→k<w.heap.size)(hA:aG W' hb 468 (hds a' b'))(hg:W.grownBy W' (some hb)): tN S w rr hb p D a' b' W':=by
 have h1:=h.rz;refine⟨hA,h.res.grown hg ai,(aF p D).same h.dev hg.size (fun k hk=>hg.block k ((aF p D).lt h.dev k hk) (fun e=>by injection e with e;subst e;have:=hS _ hk;omega)),h.cR.grown hg (fun k e=>Tb),h.rz⟩
def XK(S:Nat→Prop)(p:Nat)(R:Ld)(w:World)(e:Ending)(w':World): Prop:=
 (∃ A c,e= .returned (.tuple #[.agg (n9 R.hd),.slice A R.body.length c,.int .i64 R.at_,.int .i64 R.err])∧(R.body≠ []→∃ g,A=some ⟨g,0,none⟩∧w.heap.size≤g∧jO w' 5 g R.body)∧R.body.length≤c)∧dB p R.dev S w'∧aI S w w'
theorem tN.o{D:bJ}{a b:Hd}{R:Ld}{A:Option Addr}{c:Nat}(h:tN S w rr hb p D a b W)(hS: ∀ k,S k→k<w.heap.size)(hg:W.grownBy W' (some rr))(hR:R.dev=D)
  (hB:R.body≠ []→∃ g,A=some ⟨g,0,none⟩∧w.heap.size≤g∧jO W 5 g R.body) (hc:R.body.length≤c):XK S p R w (.returned (.tuple #[.agg (n9 R.hd),.slice A R.body.length c,.int .i64 R.at_,.int .i64 R.err])) W':=by
 have h1:=h.rz;subst hR;refine⟨⟨A,c,rfl,fun hne=>?_,hc⟩,(aF p R.dev).same h.dev hg.size (fun k hk=>hg.block k ((aF p R.dev).lt h.dev k hk) (fun e=>by injection e with e;subst e;have:=hS _ hk;omega)),h.cR.grown hg (fun k e=>Tb)⟩;obtain⟨g,rfl,hg2,hbl⟩:=hB hne;refine⟨g,rfl,hg2,hbl.same (hg.block g hbl.lt (fun e=>?_))⟩;injection e with e
 subst e;obtain⟨cur,hq,_⟩:=hbl;have hr:=h.res;unfold aG at hr;rw[hq] at hr;injection hr with hr
 injection hr with _ ht _
 exact absurd ht aM
theorem tN.only{D:bJ}{a b:Hd}{x:Nat}(h:tN S w rr hb p D a b W)(hg:W.grownBy W' (some x))(hx:(∀ k,S k→k≠x)∧rr≠x∧hb≠x∧w.heap.size≤x): tN S w rr hb p D a b W':=
 ⟨h.fk.grown hg hx.2.2.1,h.res.grown hg hx.2.1,(aF p D).same h.dev hg.size (fun k hk=>hg.block k ((aF p D).lt h.dev k hk) (fun e=>by injection e with e;exact hx.1 k hk e)),h.cR.grown hg (fun k e=>by injection e with e;subst e;exact .inr hx.2.2.2),h.rz⟩
theorem rK: (af.info? 470).map (·.size)=some 2:=bh
theorem DV(a b:Hd): ∀ j v,(n9 a).toList[j]? =some v→(hds a b)[0+j]? =some v:=by
 exact Vi
theorem DU(a b:Hd): ∀ j v,(n9 b).toList[j]? =some v→(hds a b)[4+j]? =some v:=by
 exact Vi
theorem QD(x y:Nat)(W:World): (mN 91 (.agg #[.pointer (some ⟨x,0,none⟩),.pointer (some ⟨y,0,none⟩)]) (.int .i64 0)).run af W= .ok (.agg #[.pointer (some ⟨x,0,none⟩)]) W:=bh
theorem QC(x y:Nat)(W:World): (mN 91 (.agg #[.pointer (some ⟨x,0,none⟩),.pointer (some ⟨y,0,none⟩)]) (.int .i64 1)).run af W= .ok (.agg #[.pointer (some ⟨y,0,none⟩)]) W:=bh
theorem IY(x y:Int)(W:World): (mN 470 (.agg #[.int .i64 x,.int .i64 y]) (.int .i64 0)).run af W= .ok (.int .i64 x) W:=bh
theorem IX(x y:Int)(W:World): (mN 470 (.agg #[.int .i64 x,.int .i64 y]) (.int .i64 1)).run af W= .ok (.int .i64 y) W:=bh
theorem Xm{s ra rb:Nat} {sl:Sl}{d:bJ}(h:qC w s ra rb p sl d.dk.size)(hD:dB p d S w)(hs: ¬S s)(I9: ¬S ra)(jJ: ¬S rb)(ht:cj w)(QH: ¬S 1):
  Calls af 299 #[.pointer (some ⟨s,0,none⟩)] w (XK S p (sl.load d) w):=by
 have hS:=(aF p d).lt hD;obtain⟨rr,vh⟩:=ae w.heap.size;obtain⟨w0,hw0⟩:=ae (w.alloc (.cells #[.int .u64 0,.int .u64 0,.int .i64 0,.int .u32 0] 129));obtain⟨hb,hhb⟩:=ae w0.heap.size;obtain⟨w1,a8⟩:=ae (w0.alloc (.cells #[.int .u64 0,.int .u64 0,.int .i64 0,.int .u32 0,.int .u64 0,.int .u64 0,.int .i64 0,.int .u32 0] 468));have hb0:=aK hw0;have y9:=aK a8;have ha0:=aJ hw0 vh;have ha1:aG w1 hb 468 (hds Hd.zero Hd.zero):=by rw[←a8,←hhb];exact aG.fresh w0 _ _
 have hr1:rr+1=hb:=by rw[←hhb,←hw0,←vh];simp only[World.alloc,Array.size_push]
 have kV:tN S w rr hb p d Hd.zero Hd.zero w1:=⟨ha1,ha0.ah y9,(aF p d).ak hD (av hb0 y9),aI.aW (av hb0 y9),ai,ai,ai⟩;have x0:w0.cell? ⟨s,0,none⟩=some (.pointer (some ⟨ra,0,none⟩)):=(h.own.ah hb0).cell 0;obtain⟨e1,h1,d1,hR1⟩: ∃ e h d',dc sl.a d=(e,h,d'):=⟨_,_,_,rfl⟩;obtain⟨e2,h2,d2,qp⟩: ∃ e h d',dc sl.b d1=(e,h,d'):=⟨_,_,_,rfl⟩;have yF:d1.dk=d.dk:=by have:=nJ sl.a d;rw[hR1] at this;exact this
 have hk2:d2.dk=d.dk:=by have:=nJ sl.b d1;rw[qp] at this;exact this.trans yF
 have sZ:h1.len≤268435456:=by have:=DW sl.a d;rw[hR1] at this;exact aV this h.a.eU
 have px:h2.len≤268435456:=by have:=DW sl.b d1;rw[qp,yF] at this;exact aV this h.b.eU
 have acS:sl.load d=if e1=0 then if e2=0 then if h1.gen<h2.gen then kz sl d2 1 0 h2 h1 else kz sl d2 0 1 h1 h2 else⟨e2,Hd.zero,[],0,d2⟩else⟨e1,Hd.zero,[],0,d1⟩:=by unfold Sl.load;rw[hR1];simp only;rw[qp]
 have HH1:=aa (show ∀ H0 H1 W W',tN S w rr hb p d H0 H1 W→Below W.heap.size W W'→Calls af 334 #[.agg #[.pointer (some ⟨ra,0,none⟩)]] W' (fun e w3=>e= .returned (.tuple #[.agg (n9 h1),.int .i64 e1])∧tN S w rr hb p d1 H0 H1 w3)from fun H0 H1 W W' hI hB=>by
  have hI':=hI.ak hB;have HC:=JN (g:=sl.a) (d:=d) (h.cR hI'.cR hs I9 jJ).a hI'.dev I9 (ht.cR hI'.cR QH) QH;rw[hR1] at HC;exact HC.mono fun e w3 he=>⟨he.1,hI'.step hS he.2.1 he.2.2⟩)
 have HH2:=aa (show ∀ H0 H1 W W',tN S w rr hb p d1 H0 H1 W→Below W.heap.size W W'→Calls af 334 #[.agg #[.pointer (some ⟨rb,0,none⟩)]] W' (fun e w3=>e= .returned (.tuple #[.agg (n9 h2),.int .i64 e2])∧tN S w rr hb p d2 H0 H1 w3)from fun H0 H1 W W' hI hB=>by
  have hI':=hI.ak hB;have HC:=JN (g:=sl.b) (d:=d1) (by rw[yF];exact(h.cR hI'.cR hs I9 jJ).b) hI'.dev jJ (ht.cR hI'.cR QH) QH;rw[qp] at HC;exact HC.mono fun e w3 he=>⟨he.1,hI'.step hS he.2.1 he.2.2⟩)
 have mj:=aa (show ∀ (r:Nat) (g:Rg) (D:bJ) (n:Nat) H0 H1 W W',(r=ra∧g=sl.a∨r=rb∧g=sl.b)→D.dk=d.dk→n≤268435456→tN S w rr hb p D H0 H1 W→Below W.heap.size W W'→Calls af 335 #[.pointer (some ⟨r,0,none⟩),.int .i64 d.dk.size,.int .i64 n] W' (fun e w3=>(∃ A c,e= .returned (.tuple #[.slice A (g.read D D.dk.size n).2.1.length c,.int .i64 (g.read D D.dk.size n).1])∧((g.read D D.dk.size n).2.1≠ []→∃ gg,A=some ⟨gg,0,none⟩∧w.heap.size≤gg∧jO w3 5 gg (g.read D D.dk.size n).2.1)∧(g.read D D.dk.size n).2.1.length≤c)∧tN S w rr hb p (g.read D D.dk.size n).2.2 H0 H1 w3)from fun r g D n H0 H1 W W' hr hk hn hI hB=>by
  have hI':=hI.ak hB;have hsz:=h.a.size;have hrg:fV W' r p g D.dk.size∧¬S r:=by rw[hk];rcases hr with⟨rfl,rfl⟩|⟨rfl,rfl⟩;exact⟨(h.cR hI'.cR hs I9 jJ).a,I9⟩;exact⟨(h.cR hI'.cR hs I9 jJ).b,jJ⟩
  have HC:=JU hrg.1 hI'.dev hrg.2 D.dk.size n (by rw[hk];omega) hn;rw[←hk];refine HC.mono fun e w3 he=>?_
  obtain⟨⟨A,c,h1,h2,h3⟩,h4,h5⟩:=he;exact⟨⟨A,c,h1,fun hne=>by obtain⟨gg,e1,e2,e3⟩:=h2 hne;exact⟨gg,e1,aV hI'.cR.size e2,e3⟩,h3⟩,hI'.step hS h4 h5⟩)
 have HRZ:=aa (show ∀ (r:Nat) W,(r=ra∨r=rb)→aI S w W→Calls af 128 #[.pointer (some ⟨r,0,none⟩)] W (fun e w'=>e= .returned (.int .i64 d.dk.size)∧w'=W)from fun r W hr hW=>by
  rcases hr with rfl|rfl
  ·exact kF (h.cR hW hs I9 jJ).a
  exact kF (h.cR hW hs I9 jJ).b)
 have Zh:=aa (show ∀ W,aI S w W→aG W s 93 #[.pointer (some ⟨ra,0,none⟩),.pointer (some ⟨rb,0,none⟩)] from fun W hW=>(h.cR hW hs I9 jJ).own);have Df:=aa (show ∀ W,aI S w W→cj W from fun W hW=>ht.cR hW QH);have HS:=aa hS;have wK:=aa kV;have HLD:=aa acS;have HK1:=aa yF;have HK2:=aa hk2;have HN1:=aa sZ;have Pj:=aa px;have XZ:=aa hw0;have sK:=aa a8;have uj:=aa vh;have HHB:=aa hhb;obtain⟨size,hsize⟩:=ae d.dk.size;have hsz:=h.a.size;rw[hsize] at HRZ mj hsz;have mz:=aa hsz;have F4:=aa hsize;obtain⟨R,hR⟩:=ae (sl.load d);rw[hR] at HLD ⊢;have hy0:=(wK.o.cR);have y0:w1.cell? ⟨s,0,none⟩=some (.pointer (some ⟨ra,0,none⟩)):=(Zh.o w1 hy0).cell 0;have y1:w1.cell? ⟨s,1,none⟩=some (.pointer (some ⟨rb,0,none⟩)):=(Zh.o w1 hy0).cell 1;have z0:(w0.alloc (.cells #[.int .u64 0,.int .u64 0,.int .i64 0,.int .u32 0,.int .u64 0,.int .u64 0,.int .i64 0,.int .u32 0] 468)).cell? ⟨s,0,none⟩=some (.pointer (some ⟨ra,0,none⟩)):=by rw[sK.o];exact y0
 have z1:(w0.alloc (.cells #[.int .u64 0,.int .u64 0,.int .i64 0,.int .u32 0,.int .u64 0,.int .u64 0,.int .i64 0,.int .u32 0] 468)).cell? ⟨s,1,none⟩=some (.pointer (some ⟨rb,0,none⟩)):=by rw[sK.o];exact y1
 clear hR hS kV acS yF hk2 sZ px hw0 a8 vh hhb hsize hsz h hD hs I9 jJ ht QH hb0 y9 ha0 ha1 hr1 hR1 qp hy0;go_enter Tryz.func299,Tryz.ntmps299;go_wp2_with fail;rw[XZ.o,uj.o];refine ag (xZ s ra w0 x0) ?_;go_wp2_with fail;rw[sK.o,HHB.o];clear z0 z1;have ix0:=QD ra rb;have ix1:=QC ra rb;go_loopw [23] (fun k wr=>(k= .int .i64 0∧tN S w rr hb p d Hd.zero Hd.zero wr)∨(k= .int .i64 1∧e1=0∧tN S w rr hb p d1 h1 Hd.zero wr)∨(k= .int .i64 2∧e1=0∧e2=0∧tN S w rr hb p d2 h1 h2 wr)) (fun k _=>(2 - intOf k).toNat)
 case atStart=>exact .inl ⟨rfl,wK.o⟩
 case round=>
  rcases hrel with⟨rfl,hI⟩|⟨rfl,rfl,hI⟩|⟨rfl,rfl,rfl,hI⟩
  ·have HI:=aa hI;clear hI;go_wp2_with fail;refine(HH1.o _ _ _ _ HI.o (by repeat(first|with_reducible exact ar _ _|with_reducible refine ay ?_ _|with_reducible refine az ?_|with_reducible refine aQ ?_ _|(refine eD ?_ uw _)|with_reducible refine av ?_ uq))).mono ?_;rintro e w3 ⟨rfl,fo⟩;have gH:=aa fo;clear fo;by_cases he:e1=0
   ·subst he;go_wp2_with (first|(refine iz rfl 129 _ _ rfl hb 0 468 _ (n9 h1) gH.o.fk rfl rfl (by show 0+4≤8;decide) bc (cE h1) ?_;intro w5 gB fF hs5;have pZ:=aa (gH.o.put (a':=h1) (b':=Hd.zero) HS.o gB fF);clear gB fF hs5));go_roundw
    case rel=>exact .inr (.inl ⟨rfl,xm,pZ.o⟩)
    case measure=>simp[intOf]
   have sZ:(e1 != 0)=true:=by simp[he]
   have HE:=aa he;clear he;go_wp2_with (first|(refine iz rfl 129 _ _ rfl hb 0 468 _ (n9 h1) gH.o.fk rfl rfl (by show 0+4≤8;decide) bc (cE h1) ?_;intro w5 gB fF hs5;have pZ:=aa (gH.o.put (a':=h1) (b':=Hd.zero) HS.o gB fF);clear gB fF hs5)|(refine aj rfl 129 _ _ rfl rr 129 _ #[.int .u64 0,.int .u64 0,.int .i64 0,.int .u32 0] pZ.o.res rfl rfl rfl bc (cE Hd.zero) ?_;intro wz gK eM hsz;have kY:=aa gK;have iF:=aa eM;clear gK eM hsz));refine bodyPost_ret (cZ nh _ iI (aL 129 kY.o _ cq rfl bc)) rfl ?_;have he:=HE.o;rw[show R=⟨e1,Hd.zero,[],0,d1⟩from by rw[HLD.o];simp[he]];exact(pZ.o).o (R:=⟨e1,Hd.zero,[],0,d1⟩) HS.o iF.o rfl (fun hne=>absurd rfl hne) (cx _)
  ·have HI:=aa hI;clear hI;go_wp2_with fail;refine(HH2.o _ _ _ _ HI.o (by repeat(first|with_reducible exact ar _ _|with_reducible refine ay ?_ _|with_reducible refine az ?_|with_reducible refine aQ ?_ _|(refine eD ?_ uw _)|with_reducible refine av ?_ uq))).mono ?_;rintro e w3 ⟨rfl,fo⟩;have gH:=aa fo;clear fo;by_cases he:e2=0
   ·subst he;go_wp2_with (first|(refine iz rfl 129 _ _ rfl hb 4 468 _ (n9 h2) gH.o.fk rfl rfl (by show 4+4≤8;decide) bc (cE h2) ?_;intro w5 gB fF hs5;have pZ:=aa (gH.o.put (a':=h1) (b':=h2) HS.o gB fF);clear gB fF hs5));go_roundw
    case rel=>exact .inr (.inr ⟨rfl,xm,xm,pZ.o⟩)
    case measure=>simp[intOf]
   have sZ:(e2 != 0)=true:=by simp[he]
   have HE:=aa he;clear he;go_wp2_with (first|(refine iz rfl 129 _ _ rfl hb 4 468 _ (n9 h2) gH.o.fk rfl rfl (by show 4+4≤8;decide) bc (cE h2) ?_;intro w5 gB fF hs5;have pZ:=aa (gH.o.put (a':=h1) (b':=h2) HS.o gB fF);clear gB fF hs5)|(refine aj rfl 129 _ _ rfl rr 129 _ #[.int .u64 0,.int .u64 0,.int .i64 0,.int .u32 0] pZ.o.res rfl rfl rfl bc (cE Hd.zero) ?_;intro wz gK eM hsz;have kY:=aa gK;have iF:=aa eM;clear gK eM hsz));refine bodyPost_ret (cZ nh _ iI (aL 129 kY.o _ cq rfl bc)) rfl ?_;have he:=HE.o;rw[show R=⟨e2,Hd.zero,[],0,d2⟩from by rw[HLD.o];simp[he]];exact(pZ.o).o (R:=⟨e2,Hd.zero,[],0,d2⟩) HS.o iF.o rfl (fun hne=>absurd rfl hne) (cx _)
  have HI:=aa hI;have i':=aa (show(∀ k,S k→k≠wr.heap.size)∧rr≠wr.heap.size∧hb≠wr.heap.size∧w.heap.size≤wr.heap.size from⟨fun k hk=>by have:=HS.o _ hk;have:=hI.cR.size;omega,by have:=hI.res.lt;omega,by have:=hI.fk.lt;omega,hI.cR.size⟩);clear hI;by_cases hlt:h1.gen<h2.gen
  ·have Bp:((h1.gen:Nat):Int)<((h2.gen:Nat):Int):=by omega
   have HR:=aa (show R=kz sl d2 1 0 h2 h1 from by rw[HLD.o];simp[hlt]);clear HLD;go_wp2_with (first|(refine aj rfl 470 _ _ rfl wr.heap.size 470 _ #[.int .i64 0,.int .i64 1] (aG.fresh wr _ _) rfl rfl rfl rK vx ?_;intro w5 gB fF hs5;have D3:tN S w rr hb p d2 h1 h2 w5:=HI.o.ak (br (ay (ar _ _) _) fF (aY _));have g0:w5.cell? ⟨hb,0,none⟩=some (.int .u64 (h1.gen:Nat)):=D3.fk.cell 0;have g4:w5.cell? ⟨hb,4,none⟩=some (.int .u64 (h2.gen:Nat)):=D3.fk.cell 4;have pj:=aa gB;have pZ:=aa D3;clear gB fF hs5 D3)|(refine aj rfl 470 _ _ rfl wr.heap.size 470 _ #[.int .i64 1,.int .i64 0] pj.o rfl rfl rfl rK vx ?_;intro w6 yG kr VO;have Jt:tN S w rr hb p d2 h1 h2 w6:=pZ.o.only kr i'.o;have tx:=aa yG;have ll:=aa Jt;clear yG kr VO Jt)|(refine aC rfl 470 _ rfl wr.heap.size 470 _ tx.o rfl _ Tryz.underlying470 rfl rK ?_));clear hlt Bp HI i';obtain⟨ea,ba,da,Jp⟩: ∃ ea ba da,dg sl d2 1 h2=(ea,ba,da):=⟨_,_,_,rfl⟩;obtain⟨eb,bb,db,hTb⟩: ∃ eb bb db,dg sl da 0 h1=(eb,bb,db):=⟨_,_,_,rfl⟩;have HKA:=aa (show da.dk=d.dk from by have:=jY sl d2 1 h2;rw[Jp] at this;exact this.trans HK2.o);have Pe:=aa Jp;have HTB:=aa hTb;clear Jp hTb;have jx0:=IY 1 0;have jx1:=IX 1 0;go_loopw [49] (fun k wr=>(k= .int .i64 0∧tN S w rr hb p d2 h1 h2 wr)∨(k= .int .i64 1∧ea=0∧ba=none∧tN S w rr hb p da h1 h2 wr)∨(k= .int .i64 2∧(ea=0∧ba=none)∧eb=0∧bb=none∧tN S w rr hb p db h1 h2 wr)) (fun k _=>(2 - intOf k).toNat)
   case atStart=>exact .inl ⟨rfl,ll.o⟩
   case round=>
    rcases hrel with⟨rfl,hI⟩|⟨rfl,q1,q2,hI⟩|⟨rfl,q0,q1,q2,hI⟩
    ·have HI:=aa hI;have o1:wr.cell? ⟨s,1,none⟩=some (.pointer (some ⟨rb,0,none⟩)):=(Zh.o wr hI.cR).cell 1;have g1:wr.cell? ⟨hb,4,none⟩=some (.int .u64 (h2.gen:Nat)):=hI.fk.cell 4;have l1:wr.cell? ⟨hb,6,none⟩=some (.int .i64 (h2.len:Nat)):=hI.fk.cell 6;clear hI;by_cases hz:h2.gen=0
     ·rw[hz] at g1;exact acv
     have hz1:((h2.gen:Nat)==0)=false:=EU;have hz2:(((h2.gen:Nat):Int)==0)=false:=mQ;obtain⟨er,bs,D',Cx⟩: ∃ er bs D',sl.b.read d2 d2.dk.size h2.len=(er,bs,D'):=⟨_,_,_,rfl⟩;have Wn:(ea,ba,da)=(if er=0 then((0:Int),(if ij 0 bs=h2.sum then some bs else none),D')else(er,none,D')):=by rw[←Pe.o];unfold dg;rw[if_neg hz];rw[show(sl.one 1)=sl.b from rfl,Cx]
     have hbl:bs.length≤268435456:=by
      have h0:=sl.b.rV d2 d2.dk.size h2.len (by rw[HK2.o,F4.o];exact mz.o.1);rw[Cx] at h0;exact aV h0 Pj.o
     have Rl:=aa Cx;have X0:=aa Wn;have El:=aa hbl;clear hz Cx Wn hbl;go_wp2_with fail;refine wp_region_held_drew (S:=(fun w'=>w'.cell? ⟨s,1,none⟩=some (.pointer (some ⟨rb,0,none⟩))∧w'.cell? ⟨hb,6,none⟩=some (.int .i64 (h2.len:Nat)))) bh Ez (fun hHeld=>?_);refine cV 0 (some 58) hHeld ?_;refine cV 1 (some 59) hHeld ?_;refine cV 2 (some 60) hHeld ?_;refine cV 3 (some 61) hHeld ?_;refine cV 4 (some 62) hHeld ?_;refine cV 5 (some 63) hHeld ?_;refine cV 6 (some 64) hHeld ?_;refine cV 7 (some 65) hHeld ?_;refine cV 8 (some 66) hHeld ?_;refine cV 9 (some 67) hHeld ?_;refine cV 10 (some 68) hHeld ?_;refine cV 11 (some 69) hHeld ?_;refine cV 12 (some 70) hHeld ?_;refine cV 13 (some 71) hHeld ?_;refine cV 15 (some 73) hHeld ?_;refine cV 16 (some 74) hHeld ?_;refine cV 17 (some 75) hHeld ?_;refine ty 18 ?_;refine cJ 14 fun K hK=>?_
     go_simp;refine ag (HRZ.o rb wr.drew (.inr rfl) (HI.o.cR.ak (az (ar _ _)))) ?_;go_wp2_with fail;refine bW hK Ez fun lT=>?_
     clear hK K;try simp only[aZ]
     refine cJ 19 fun K hK=>?_
     go_simp;refine(mj.o rb sl.b d2 h2.len h1 h2 wr wr.drew (.inr ⟨rfl,rfl⟩) HK2.o Pj.o HI.o (az (ar _ _))).mono ?_;rw[Rl.o];rintro e w3 ⟨⟨A,c,rfl,cL,C9⟩,fo⟩;have o1':w3.cell? ⟨s,1,none⟩=some (.pointer (some ⟨rb,0,none⟩)):=(Zh.o w3 fo.cR).cell 1;have l1':w3.cell? ⟨hb,6,none⟩=some (.int .i64 (h2.len:Nat)):=fo.fk.cell 6;have gH:=aa fo;have fC:=aa cL;have Yk:=aa C9;clear fo cL C9;go_wp2_with fail;refine bW hK (by exact⟨o1',l1'⟩) fun ej=>?_
     clear hK K;refine cV 20 (some 57) ej ?_;refine cV 21 (some 78) ej ?_;refine cV 22 (some 79) ej ?_;refine cV 23 (some 13) ej ?_;refine ty 24 ?_;refine bM ?_;by_cases o6:er=0
     ·have B8:=aa (show(ea,ba,da)=((0:Int),(if ij 0 bs=h2.sum then some bs else none),D')from EF);subst o6;have m3:w3.cell? ⟨hb,7,none⟩=some (.int .u32 (h2.sum:Nat)):=gH.o.fk.cell 7;clear X0 Rl;go_wp2_with fail;refine tW (S:=(fun w'=>w'.cell? ⟨hb,7,none⟩=some (.int .u32 (h2.sum:Nat)))) rM fun hHeld=>?_
      refine cV 0 (some 84) hHeld ?_;refine cV 2 (some 86) hHeld ?_;refine cV 3 (some 87) hHeld ?_;refine cV 4 (some 88) hHeld ?_;refine ty 5 ?_;refine cJ 1 fun K hK=>?_
      go_simp;refine ag (Cr.qB bs A c w3.drew (fun hn=>Fa) (Df.o w3.drew (gH.o.cR.ak (az (ar _ _)))) EH) ?_;go_wp2_with fail;refine bW hK rM fun sy=>?_
      clear hK K;refine ty 6 ?_;refine bM ?_;by_cases mG:ij 0 bs=h2.sum
      ·have kU:((ij 0 bs:Nat)==(h2.sum:Nat))=true:=by simp[mG]
       have CZ:(((ij 0 bs:Nat):Int)==((h2.sum:Nat):Int))=true:=wS;have HQ:=aa (show(ea,ba,da)=((0:Int),some bs,D')from EJ);clear mG B8;go_wp2_with (first|(refine ja rfl 129 _ rfl hb 4 468 _ (n9 h2).toList gH.o.fk rfl (DU h1 h2) _ cq rfl bc ?_)|(refine aj rfl 129 _ _ rfl rr 129 _ (n9 h2) gH.o.res rfl rfl rfl bc (cE h2) ?_;intro wz gK eM hsz;have kY:=aa gK;have iF:=aa eM;clear gK eM hsz));refine bodyPost_ret (cZ nh _ iI (aL 129 kY.o _ cq rfl bc)) rfl ?_;have hR:R=⟨0,h2,bs,1,D'⟩:=by
        exact ab2
       exact abT
      have kU:((ij 0 bs:Nat)==(h2.sum:Nat))=false:=EX;have CZ:(((ij 0 bs:Nat):Int)==((h2.sum:Nat):Int))=false:=mQ;exact aco
     exact acG
    ·have R5:=aa (show ea=0∧ba=none from⟨q1,q2⟩);clear q1 q2;have HI:=aa hI;have o0:wr.cell? ⟨s,0,none⟩=some (.pointer (some ⟨ra,0,none⟩)):=(Zh.o wr hI.cR).cell 0;have g0:wr.cell? ⟨hb,0,none⟩=some (.int .u64 (h1.gen:Nat)):=hI.fk.cell 0;have l0:wr.cell? ⟨hb,2,none⟩=some (.int .i64 (h1.len:Nat)):=hI.fk.cell 2;clear hI;by_cases hz:h1.gen=0
     ·rw[hz] at g0;exact acw
     have hz1:((h1.gen:Nat)==0)=false:=EU;have hz2:(((h1.gen:Nat):Int)==0)=false:=mQ;obtain⟨er,bs,D',Cx⟩: ∃ er bs D',sl.a.read da da.dk.size h1.len=(er,bs,D'):=⟨_,_,_,rfl⟩;have Wn:(eb,bb,db)=(if er=0 then((0:Int),(if ij 0 bs=h1.sum then some bs else none),D')else(er,none,D')):=by rw[←HTB.o];unfold dg;rw[if_neg hz];rw[show(sl.one 0)=sl.a from rfl,Cx]
     have hbl:bs.length≤268435456:=by
      have h0:=sl.a.rV da da.dk.size h1.len (by rw[HKA.o,F4.o];exact mz.o.1);rw[Cx] at h0;exact aV h0 HN1.o
     have Rl:=aa Cx;have X0:=aa Wn;have El:=aa hbl;clear hz Cx Wn hbl;go_wp2_with fail;refine wp_region_held_drew (S:=(fun w'=>w'.cell? ⟨s,0,none⟩=some (.pointer (some ⟨ra,0,none⟩))∧w'.cell? ⟨hb,2,none⟩=some (.int .i64 (h1.len:Nat)))) bh Ey (fun hHeld=>?_);refine cV 0 (some 58) hHeld ?_;refine cV 1 (some 59) hHeld ?_;refine cV 2 (some 60) hHeld ?_;refine cV 3 (some 61) hHeld ?_;refine cV 4 (some 62) hHeld ?_;refine cV 5 (some 63) hHeld ?_;refine cV 6 (some 64) hHeld ?_;refine cV 7 (some 65) hHeld ?_;refine cV 8 (some 66) hHeld ?_;refine cV 9 (some 67) hHeld ?_;refine cV 10 (some 68) hHeld ?_;refine cV 11 (some 69) hHeld ?_;refine cV 12 (some 70) hHeld ?_;refine cV 13 (some 71) hHeld ?_;refine cV 15 (some 73) hHeld ?_;refine cV 16 (some 74) hHeld ?_;refine cV 17 (some 75) hHeld ?_;refine ty 18 ?_;refine cJ 14 fun K hK=>?_
     go_simp;refine ag (HRZ.o ra wr.drew (.inl rfl) (HI.o.cR.ak (az (ar _ _)))) ?_;go_wp2_with fail;refine bW hK Ey fun lT=>?_
     clear hK K;try simp only[aZ]
     refine cJ 19 fun K hK=>?_
     go_simp;refine(mj.o ra sl.a da h1.len h1 h2 wr wr.drew (.inl ⟨rfl,rfl⟩) HKA.o HN1.o HI.o (az (ar _ _))).mono ?_;rw[Rl.o];rintro e w3 ⟨⟨A,c,rfl,cL,C9⟩,fo⟩;have o0':w3.cell? ⟨s,0,none⟩=some (.pointer (some ⟨ra,0,none⟩)):=(Zh.o w3 fo.cR).cell 0;have l0':w3.cell? ⟨hb,2,none⟩=some (.int .i64 (h1.len:Nat)):=fo.fk.cell 2;have gH:=aa fo;have fC:=aa cL;have Yk:=aa C9;clear fo cL C9;go_wp2_with fail;refine bW hK (by exact⟨o0',l0'⟩) fun ej=>?_
     clear hK K;refine cV 20 (some 57) ej ?_;refine cV 21 (some 78) ej ?_;refine cV 22 (some 79) ej ?_;refine cV 23 (some 13) ej ?_;refine ty 24 ?_;refine bM ?_;by_cases o6:er=0
     ·have B8:=aa (show(eb,bb,db)=((0:Int),(if ij 0 bs=h1.sum then some bs else none),D')from EF);subst o6;have m3:w3.cell? ⟨hb,3,none⟩=some (.int .u32 (h1.sum:Nat)):=gH.o.fk.cell 3;clear X0 Rl;go_wp2_with fail;refine tW (S:=(fun w'=>w'.cell? ⟨hb,3,none⟩=some (.int .u32 (h1.sum:Nat)))) rM fun hHeld=>?_
      refine cV 0 (some 84) hHeld ?_;refine cV 2 (some 86) hHeld ?_;refine cV 3 (some 87) hHeld ?_;refine cV 4 (some 88) hHeld ?_;refine ty 5 ?_;refine cJ 1 fun K hK=>?_
      go_simp;refine ag (Cr.qB bs A c w3.drew (fun hn=>Fa) (Df.o w3.drew (gH.o.cR.ak (az (ar _ _)))) EH) ?_;go_wp2_with fail;refine bW hK rM fun sy=>?_
      clear hK K;refine ty 6 ?_;refine bM ?_;by_cases mG:ij 0 bs=h1.sum
      ·have kU:((ij 0 bs:Nat)==(h1.sum:Nat))=true:=by simp[mG]
       have CZ:(((ij 0 bs:Nat):Int)==((h1.sum:Nat):Int))=true:=wS;have HQ:=aa (show(eb,bb,db)=((0:Int),some bs,D')from EJ);clear mG B8;go_wp2_with (first|(refine ja rfl 129 _ rfl hb 0 468 _ (n9 h1).toList gH.o.fk rfl (DV h1 h2) _ cq rfl bc ?_)|(refine aj rfl 129 _ _ rfl rr 129 _ (n9 h1) gH.o.res rfl rfl rfl bc (cE h1) ?_;intro wz gK eM hsz;have kY:=aa gK;have iF:=aa eM;clear gK eM hsz));refine bodyPost_ret (cZ nh _ iI (aL 129 kY.o _ cq rfl bc)) rfl ?_;have hR:R=⟨0,h1,bs,0,D'⟩:=by
        exact acb
       exact abS
      have kU:((ij 0 bs:Nat)==(h1.sum:Nat))=false:=EX;have CZ:(((ij 0 bs:Nat):Int)==((h1.sum:Nat):Int))=false:=mQ;exact acq
     exact acH
    exact acB
  have Bp: ¬((h1.gen:Nat):Int)<((h2.gen:Nat):Int):=ai;have HR:=aa (show R=kz sl d2 0 1 h1 h2 from by rw[HLD.o];simp[hlt]);clear HLD;go_wp2_with (first|(refine aj rfl 470 _ _ rfl wr.heap.size 470 _ #[.int .i64 0,.int .i64 1] (aG.fresh wr _ _) rfl rfl rfl rK vx ?_;intro w5 gB fF hs5;have D3:tN S w rr hb p d2 h1 h2 w5:=HI.o.ak (br (ay (ar _ _) _) fF (aY _));have g0:w5.cell? ⟨hb,0,none⟩=some (.int .u64 (h1.gen:Nat)):=D3.fk.cell 0;have g4:w5.cell? ⟨hb,4,none⟩=some (.int .u64 (h2.gen:Nat)):=D3.fk.cell 4;have pj:=aa gB;have ll:=aa D3;clear gB fF hs5 D3)|(refine aC rfl 470 _ rfl wr.heap.size 470 _ pj.o rfl _ Tryz.underlying470 rfl rK ?_));clear hlt Bp HI i';obtain⟨ea,ba,da,Jp⟩: ∃ ea ba da,dg sl d2 0 h1=(ea,ba,da):=⟨_,_,_,rfl⟩;obtain⟨eb,bb,db,hTb⟩: ∃ eb bb db,dg sl da 1 h2=(eb,bb,db):=⟨_,_,_,rfl⟩;have HKA:=aa (show da.dk=d.dk from by have:=jY sl d2 0 h1;rw[Jp] at this;exact this.trans HK2.o);have Pe:=aa Jp;have HTB:=aa hTb;clear Jp hTb;have jx0:=IY 0 1;have jx1:=IX 0 1;go_loopw [49] (fun k wr=>(k= .int .i64 0∧tN S w rr hb p d2 h1 h2 wr)∨(k= .int .i64 1∧ea=0∧ba=none∧tN S w rr hb p da h1 h2 wr)∨(k= .int .i64 2∧(ea=0∧ba=none)∧eb=0∧bb=none∧tN S w rr hb p db h1 h2 wr)) (fun k _=>(2 - intOf k).toNat)
  case atStart=>exact .inl ⟨rfl,ll.o⟩
  case round=>
   rcases hrel with⟨rfl,hI⟩|⟨rfl,q1,q2,hI⟩|⟨rfl,q0,q1,q2,hI⟩
   ·have HI:=aa hI;have o0:wr.cell? ⟨s,0,none⟩=some (.pointer (some ⟨ra,0,none⟩)):=(Zh.o wr hI.cR).cell 0;have g0:wr.cell? ⟨hb,0,none⟩=some (.int .u64 (h1.gen:Nat)):=hI.fk.cell 0;have l0:wr.cell? ⟨hb,2,none⟩=some (.int .i64 (h1.len:Nat)):=hI.fk.cell 2;clear hI;by_cases hz:h1.gen=0
    ·rw[hz] at g0;exact acv
    have hz1:((h1.gen:Nat)==0)=false:=EU;have hz2:(((h1.gen:Nat):Int)==0)=false:=mQ;obtain⟨er,bs,D',Cx⟩: ∃ er bs D',sl.a.read d2 d2.dk.size h1.len=(er,bs,D'):=⟨_,_,_,rfl⟩;have Wn:(ea,ba,da)=(if er=0 then((0:Int),(if ij 0 bs=h1.sum then some bs else none),D')else(er,none,D')):=by rw[←Pe.o];unfold dg;rw[if_neg hz];rw[show(sl.one 0)=sl.a from rfl,Cx]
    have hbl:bs.length≤268435456:=by
     have h0:=sl.a.rV d2 d2.dk.size h1.len (by rw[HK2.o,F4.o];exact mz.o.1);rw[Cx] at h0;exact aV h0 HN1.o
    have Rl:=aa Cx;have X0:=aa Wn;have El:=aa hbl;clear hz Cx Wn hbl;go_wp2_with fail;refine wp_region_held_drew (S:=(fun w'=>w'.cell? ⟨s,0,none⟩=some (.pointer (some ⟨ra,0,none⟩))∧w'.cell? ⟨hb,2,none⟩=some (.int .i64 (h1.len:Nat)))) bh Ey (fun hHeld=>?_);refine cV 0 (some 58) hHeld ?_;refine cV 1 (some 59) hHeld ?_;refine cV 2 (some 60) hHeld ?_;refine cV 3 (some 61) hHeld ?_;refine cV 4 (some 62) hHeld ?_;refine cV 5 (some 63) hHeld ?_;refine cV 6 (some 64) hHeld ?_;refine cV 7 (some 65) hHeld ?_;refine cV 8 (some 66) hHeld ?_;refine cV 9 (some 67) hHeld ?_;refine cV 10 (some 68) hHeld ?_;refine cV 11 (some 69) hHeld ?_;refine cV 12 (some 70) hHeld ?_;refine cV 13 (some 71) hHeld ?_;refine cV 15 (some 73) hHeld ?_;refine cV 16 (some 74) hHeld ?_;refine cV 17 (some 75) hHeld ?_;refine ty 18 ?_;refine cJ 14 fun K hK=>?_
    go_simp;refine ag (HRZ.o ra wr.drew (.inl rfl) (HI.o.cR.ak (az (ar _ _)))) ?_;go_wp2_with fail;refine bW hK Ey fun lT=>?_
    clear hK K;try simp only[aZ]
    refine cJ 19 fun K hK=>?_
    go_simp;refine(mj.o ra sl.a d2 h1.len h1 h2 wr wr.drew (.inl ⟨rfl,rfl⟩) HK2.o HN1.o HI.o (az (ar _ _))).mono ?_;rw[Rl.o];rintro e w3 ⟨⟨A,c,rfl,cL,C9⟩,fo⟩;have o0':w3.cell? ⟨s,0,none⟩=some (.pointer (some ⟨ra,0,none⟩)):=(Zh.o w3 fo.cR).cell 0;have l0':w3.cell? ⟨hb,2,none⟩=some (.int .i64 (h1.len:Nat)):=fo.fk.cell 2;have gH:=aa fo;have fC:=aa cL;have Yk:=aa C9;clear fo cL C9;go_wp2_with fail;refine bW hK (by exact⟨o0',l0'⟩) fun ej=>?_
    clear hK K;refine cV 20 (some 57) ej ?_;refine cV 21 (some 78) ej ?_;refine cV 22 (some 79) ej ?_;refine cV 23 (some 13) ej ?_;refine ty 24 ?_;refine bM ?_;by_cases o6:er=0
    ·have B8:=aa (show(ea,ba,da)=((0:Int),(if ij 0 bs=h1.sum then some bs else none),D')from EF);subst o6;have m3:w3.cell? ⟨hb,3,none⟩=some (.int .u32 (h1.sum:Nat)):=gH.o.fk.cell 3;clear X0 Rl;go_wp2_with fail;refine tW (S:=(fun w'=>w'.cell? ⟨hb,3,none⟩=some (.int .u32 (h1.sum:Nat)))) rM fun hHeld=>?_
     refine cV 0 (some 84) hHeld ?_;refine cV 2 (some 86) hHeld ?_;refine cV 3 (some 87) hHeld ?_;refine cV 4 (some 88) hHeld ?_;refine ty 5 ?_;refine cJ 1 fun K hK=>?_
     go_simp;refine ag (Cr.qB bs A c w3.drew (fun hn=>Fa) (Df.o w3.drew (gH.o.cR.ak (az (ar _ _)))) EH) ?_;go_wp2_with fail;refine bW hK rM fun sy=>?_
     clear hK K;refine ty 6 ?_;refine bM ?_;by_cases mG:ij 0 bs=h1.sum
     ·have kU:((ij 0 bs:Nat)==(h1.sum:Nat))=true:=by simp[mG]
      have CZ:(((ij 0 bs:Nat):Int)==((h1.sum:Nat):Int))=true:=wS;have HQ:=aa (show(ea,ba,da)=((0:Int),some bs,D')from EJ);clear mG B8;go_wp2_with (first|(refine ja rfl 129 _ rfl hb 0 468 _ (n9 h1).toList gH.o.fk rfl (DV h1 h2) _ cq rfl bc ?_)|(refine aj rfl 129 _ _ rfl rr 129 _ (n9 h1) gH.o.res rfl rfl rfl bc (cE h1) ?_;intro wz gK eM hsz;have kY:=aa gK;have iF:=aa eM;clear gK eM hsz));refine bodyPost_ret (cZ nh _ iI (aL 129 kY.o _ cq rfl bc)) rfl ?_;have hR:R=⟨0,h1,bs,0,D'⟩:=by
       exact ab2
      exact abS
     have kU:((ij 0 bs:Nat)==(h1.sum:Nat))=false:=EX;have CZ:(((ij 0 bs:Nat):Int)==((h1.sum:Nat):Int))=false:=mQ;exact aco
    exact acG
   ·have R5:=aa (show ea=0∧ba=none from⟨q1,q2⟩);clear q1 q2;have HI:=aa hI;have o1:wr.cell? ⟨s,1,none⟩=some (.pointer (some ⟨rb,0,none⟩)):=(Zh.o wr hI.cR).cell 1;have g1:wr.cell? ⟨hb,4,none⟩=some (.int .u64 (h2.gen:Nat)):=hI.fk.cell 4;have l1:wr.cell? ⟨hb,6,none⟩=some (.int .i64 (h2.len:Nat)):=hI.fk.cell 6;clear hI;by_cases hz:h2.gen=0
    ·rw[hz] at g1;exact acw
    have hz1:((h2.gen:Nat)==0)=false:=EU;have hz2:(((h2.gen:Nat):Int)==0)=false:=mQ;obtain⟨er,bs,D',Cx⟩: ∃ er bs D',sl.b.read da da.dk.size h2.len=(er,bs,D'):=⟨_,_,_,rfl⟩;have Wn:(eb,bb,db)=(if er=0 then((0:Int),(if ij 0 bs=h2.sum then some bs else none),D')else(er,none,D')):=by rw[←HTB.o];unfold dg;rw[if_neg hz];rw[show(sl.one 1)=sl.b from rfl,Cx]
    have hbl:bs.length≤268435456:=by
     have h0:=sl.b.rV da da.dk.size h2.len (by rw[HKA.o,F4.o];exact mz.o.1);rw[Cx] at h0;exact aV h0 Pj.o
    have Rl:=aa Cx;have X0:=aa Wn;have El:=aa hbl;clear hz Cx Wn hbl;go_wp2_with fail;refine wp_region_held_drew (S:=(fun w'=>w'.cell? ⟨s,1,none⟩=some (.pointer (some ⟨rb,0,none⟩))∧w'.cell? ⟨hb,6,none⟩=some (.int .i64 (h2.len:Nat)))) bh Ez (fun hHeld=>?_);refine cV 0 (some 58) hHeld ?_;refine cV 1 (some 59) hHeld ?_;refine cV 2 (some 60) hHeld ?_;refine cV 3 (some 61) hHeld ?_;refine cV 4 (some 62) hHeld ?_;refine cV 5 (some 63) hHeld ?_;refine cV 6 (some 64) hHeld ?_;refine cV 7 (some 65) hHeld ?_;refine cV 8 (some 66) hHeld ?_;refine cV 9 (some 67) hHeld ?_;refine cV 10 (some 68) hHeld ?_;refine cV 11 (some 69) hHeld ?_;refine cV 12 (some 70) hHeld ?_;refine cV 13 (some 71) hHeld ?_;refine cV 15 (some 73) hHeld ?_;refine cV 16 (some 74) hHeld ?_;refine cV 17 (some 75) hHeld ?_;refine ty 18 ?_;refine cJ 14 fun K hK=>?_
    go_simp;refine ag (HRZ.o rb wr.drew (.inr rfl) (HI.o.cR.ak (az (ar _ _)))) ?_;go_wp2_with fail;refine bW hK Ez fun lT=>?_
    clear hK K;try simp only[aZ]
    refine cJ 19 fun K hK=>?_
    go_simp;refine(mj.o rb sl.b da h2.len h1 h2 wr wr.drew (.inr ⟨rfl,rfl⟩) HKA.o Pj.o HI.o (az (ar _ _))).mono ?_;rw[Rl.o];rintro e w3 ⟨⟨A,c,rfl,cL,C9⟩,fo⟩;have o1':w3.cell? ⟨s,1,none⟩=some (.pointer (some ⟨rb,0,none⟩)):=(Zh.o w3 fo.cR).cell 1;have l1':w3.cell? ⟨hb,6,none⟩=some (.int .i64 (h2.len:Nat)):=fo.fk.cell 6;have gH:=aa fo;have fC:=aa cL;have Yk:=aa C9;clear fo cL C9;go_wp2_with fail;refine bW hK (by exact⟨o1',l1'⟩) fun ej=>?_
    clear hK K;refine cV 20 (some 57) ej ?_;refine cV 21 (some 78) ej ?_;refine cV 22 (some 79) ej ?_;refine cV 23 (some 13) ej ?_;refine ty 24 ?_;refine bM ?_;by_cases o6:er=0
    ·have B8:=aa (show(eb,bb,db)=((0:Int),(if ij 0 bs=h2.sum then some bs else none),D')from EF);subst o6;have m3:w3.cell? ⟨hb,7,none⟩=some (.int .u32 (h2.sum:Nat)):=gH.o.fk.cell 7;clear X0 Rl;go_wp2_with fail;refine tW (S:=(fun w'=>w'.cell? ⟨hb,7,none⟩=some (.int .u32 (h2.sum:Nat)))) rM fun hHeld=>?_
     refine cV 0 (some 84) hHeld ?_;refine cV 2 (some 86) hHeld ?_;refine cV 3 (some 87) hHeld ?_;refine cV 4 (some 88) hHeld ?_;refine ty 5 ?_;refine cJ 1 fun K hK=>?_
     go_simp;refine ag (Cr.qB bs A c w3.drew (fun hn=>Fa) (Df.o w3.drew (gH.o.cR.ak (az (ar _ _)))) EH) ?_;go_wp2_with fail;refine bW hK rM fun sy=>?_
     clear hK K;refine ty 6 ?_;refine bM ?_;by_cases mG:ij 0 bs=h2.sum
     ·have kU:((ij 0 bs:Nat)==(h2.sum:Nat))=true:=by simp[mG]
      have CZ:(((ij 0 bs:Nat):Int)==((h2.sum:Nat):Int))=true:=wS;have HQ:=aa (show(eb,bb,db)=((0:Int),some bs,D')from EJ);clear mG B8;go_wp2_with (first|(refine ja rfl 129 _ rfl hb 4 468 _ (n9 h2).toList gH.o.fk rfl (DU h1 h2) _ cq rfl bc ?_)|(refine aj rfl 129 _ _ rfl rr 129 _ (n9 h2) gH.o.res rfl rfl rfl bc (cE h2) ?_;intro wz gK eM hsz;have kY:=aa gK;have iF:=aa eM;clear gK eM hsz));refine bodyPost_ret (cZ nh _ iI (aL 129 kY.o _ cq rfl bc)) rfl ?_;have hR:R=⟨0,h2,bs,1,D'⟩:=by
       exact acb
      exact abT
     have kU:((ij 0 bs:Nat)==(h2.sum:Nat))=false:=EX;have CZ:(((ij 0 bs:Nat):Int)==((h2.sum:Nat):Int))=false:=mQ;exact acq
    exact acH
   exact acB
end En
end
section
namespace En
theorem sQ(there:Bool)(n lo hi:Int)(w:World): Calls af 156 #[.bool there,.int .i64 n,.int .i64 lo,.int .i64 hi] w fun e w'=>e= .returned (.bool (within there n lo hi))∧w'=w:=by
 unfold within;cases there with
 | false=>
  rw[if_neg dM];have h0:(n==0)=decide (n=0):=by rw[Bool.eq_iff_iff];simp
  exact UM
 | true=>
  rw[if_pos rfl];by_cases h1:lo≤n
  ·rw[show decide (lo≤n)=true from wW,Bool.true_and];exact UM
  rw[show decide (lo≤n)=false from wW,Bool.false_and];exact UM
def shV(k:Int): Array Value:=#[.bool (dN k).1,.bool (dN k).2.1,.bool (dN k).2.2.1,.bool (dN k).2.2.2]
theorem oB: (af.info? 266).map (·.size)=some 4:=bh
def aij(k:Int)(w:World)(e:Ending)(w':World): Prop:=e= .returned (.tuple #[.agg (shV k),.bool (recKind k)])∧Below w.heap.size w w'
end En
end
section
namespace En
theorem pK: (af.info? 351).map (·.size)=some 24:=bh
def Lz: Array Value:=#[.bool false,.bool false,.bool false,.bool false,.bool true,.bool true,.bool true,.bool false,.bool true,.bool false,.bool false,.bool false,.bool true,.bool false,.bool false,.bool false,.bool true,.bool true,.bool false,.bool false,.bool false,.bool false,.bool false,.bool true]
theorem agx(k:Int)(w:World): Calls af 155 #[.int .i64 k] w (aij k w):=by
 obtain⟨w1,a8⟩:=ae (w.alloc (.cells #[.bool false,.bool false,.bool false,.bool false] 266));obtain⟨rb,jJ⟩:=ae w.heap.size;have bp:=aJ a8 jJ;have hb1:=aK a8;obtain⟨w2,hw2⟩:=ae (w1.alloc (.cells #[.bool false,.bool false,.bool false,.bool false,.bool false,.bool false,.bool false,.bool false,.bool false,.bool false,.bool false,.bool false,.bool false,.bool false,.bool false,.bool false,.bool false,.bool false,.bool false,.bool false,.bool false,.bool false,.bool false,.bool false] 351));obtain⟨tb,htb⟩:=ae w1.heap.size;have o9:=aJ hw2 htb;have hb2:=aK hw2;have gZ:=bp.ah hb2;have hne: ¬rb=tb:=by have:=bp.lt;omega
 have cu:=aa o9;have jB:=aa gZ;have kS:=aa (av hb1 hb2);have kX:=aa hne;have uT:=aa (And.intro jJ (show w.heap.size≤tb by rw[←htb];exact hb1.size));clear bp hb1 o9 hb2 gZ hne;by_cases hk:1≤k∧k≤5
 ·have hk5:k=1∨k=2∨k=3∨k=4∨k=5:=by omega
  clear hk;rcases hk5 with rfl|rfl|rfl|rfl|rfl
  ·go_enter Tryz.func155,Tryz.ntmps155;go_wp2_with (first|(refine aj rfl 351 _ _ rfl tb 351 _ Lz cu.o rfl rfl rfl pK xe ?_;intro w3 dE hg3 hs3;have T3:aI (· =tb) w2 w3:=(aI.refl _ _).grown hg3 (fun k e=>.inl (cP e).symm);have dO:=T3.arr jB.o kX.o;have iu:=aa dO;have iJ:=aa T3;have pC:=aa dE;have c0:w3.cell? ⟨tb,4,none⟩=some (.bool true):=dE.cell 4;have c1:w3.cell? ⟨tb,5,none⟩=some (.bool true):=dE.cell 5;have c2:w3.cell? ⟨tb,6,none⟩=some (.bool true):=dE.cell 6;have c3:w3.cell? ⟨tb,7,none⟩=some (.bool false):=dE.cell 7;clear dE hg3 hs3 T3 dO)|(refine aj rfl 266 _ _ rfl rb 266 _ #[.bool true,.bool true,.bool true,.bool false] iu.o rfl rfl rfl oB vx ?_;intro w4 oa hg4 tL;have pB:=aa oa;have uV:=aa hg4;clear oa hg4 tL));exact IJ
  ·go_enter Tryz.func155,Tryz.ntmps155;go_wp2_with (first|(refine aj rfl 351 _ _ rfl tb 351 _ Lz cu.o rfl rfl rfl pK xe ?_;intro w3 dE hg3 hs3;have T3:aI (· =tb) w2 w3:=(aI.refl _ _).grown hg3 (fun k e=>.inl (cP e).symm);have dO:=T3.arr jB.o kX.o;have iu:=aa dO;have iJ:=aa T3;have pC:=aa dE;have c0:w3.cell? ⟨tb,8,none⟩=some (.bool true):=dE.cell 8;have c1:w3.cell? ⟨tb,9,none⟩=some (.bool false):=dE.cell 9;have c2:w3.cell? ⟨tb,10,none⟩=some (.bool false):=dE.cell 10;have c3:w3.cell? ⟨tb,11,none⟩=some (.bool false):=dE.cell 11;clear dE hg3 hs3 T3 dO)|(refine aj rfl 266 _ _ rfl rb 266 _ #[.bool true,.bool false,.bool false,.bool false] iu.o rfl rfl rfl oB vx ?_;intro w4 oa hg4 tL;have pB:=aa oa;have uV:=aa hg4;clear oa hg4 tL));exact IJ
  ·go_enter Tryz.func155,Tryz.ntmps155;go_wp2_with (first|(refine aj rfl 351 _ _ rfl tb 351 _ Lz cu.o rfl rfl rfl pK xe ?_;intro w3 dE hg3 hs3;have T3:aI (· =tb) w2 w3:=(aI.refl _ _).grown hg3 (fun k e=>.inl (cP e).symm);have dO:=T3.arr jB.o kX.o;have iu:=aa dO;have iJ:=aa T3;have pC:=aa dE;have c0:w3.cell? ⟨tb,12,none⟩=some (.bool true):=dE.cell 12;have c1:w3.cell? ⟨tb,13,none⟩=some (.bool false):=dE.cell 13;have c2:w3.cell? ⟨tb,14,none⟩=some (.bool false):=dE.cell 14;have c3:w3.cell? ⟨tb,15,none⟩=some (.bool false):=dE.cell 15;clear dE hg3 hs3 T3 dO)|(refine aj rfl 266 _ _ rfl rb 266 _ #[.bool true,.bool false,.bool false,.bool false] iu.o rfl rfl rfl oB vx ?_;intro w4 oa hg4 tL;have pB:=aa oa;have uV:=aa hg4;clear oa hg4 tL));exact IJ
  ·go_enter Tryz.func155,Tryz.ntmps155;go_wp2_with (first|(refine aj rfl 351 _ _ rfl tb 351 _ Lz cu.o rfl rfl rfl pK xe ?_;intro w3 dE hg3 hs3;have T3:aI (· =tb) w2 w3:=(aI.refl _ _).grown hg3 (fun k e=>.inl (cP e).symm);have dO:=T3.arr jB.o kX.o;have iu:=aa dO;have iJ:=aa T3;have pC:=aa dE;have c0:w3.cell? ⟨tb,16,none⟩=some (.bool true):=dE.cell 16;have c1:w3.cell? ⟨tb,17,none⟩=some (.bool true):=dE.cell 17;have c2:w3.cell? ⟨tb,18,none⟩=some (.bool false):=dE.cell 18;have c3:w3.cell? ⟨tb,19,none⟩=some (.bool false):=dE.cell 19;clear dE hg3 hs3 T3 dO)|(refine aj rfl 266 _ _ rfl rb 266 _ #[.bool true,.bool true,.bool false,.bool false] iu.o rfl rfl rfl oB vx ?_;intro w4 oa hg4 tL;have pB:=aa oa;have uV:=aa hg4;clear oa hg4 tL));exact IJ
  go_enter Tryz.func155,Tryz.ntmps155;go_wp2_with (first|(refine aj rfl 351 _ _ rfl tb 351 _ Lz cu.o rfl rfl rfl pK xe ?_;intro w3 dE hg3 hs3;have T3:aI (· =tb) w2 w3:=(aI.refl _ _).grown hg3 (fun k e=>.inl (cP e).symm);have dO:=T3.arr jB.o kX.o;have iu:=aa dO;have iJ:=aa T3;have pC:=aa dE;have c0:w3.cell? ⟨tb,20,none⟩=some (.bool false):=dE.cell 20;have c1:w3.cell? ⟨tb,21,none⟩=some (.bool false):=dE.cell 21;have c2:w3.cell? ⟨tb,22,none⟩=some (.bool false):=dE.cell 22;have c3:w3.cell? ⟨tb,23,none⟩=some (.bool true):=dE.cell 23;clear dE hg3 hs3 T3 dO)|(refine aj rfl 266 _ _ rfl rb 266 _ #[.bool false,.bool false,.bool false,.bool true] iu.o rfl rfl rfl oB vx ?_;intro w4 oa hg4 tL;have pB:=aa oa;have uV:=aa hg4;clear oa hg4 tL));exact IJ
 have J8:=aa (show shV k= #[.bool false,.bool false,.bool false,.bool false]∧recKind k=false from⟨by unfold shV dN;rw[if_neg ai,if_neg ai,if_neg ai,if_neg ai,if_neg ai],T6⟩);by_cases h1:k<1
 ·have q1:decide (k<1)=true:=decide_eq_true h1;exact acE
 have q1:decide (k<1)=false:=decide_eq_false h1;have q2:decide (6≤k)=true:=zA;have h2:6≤k:=ai;exact acE
end En
end
section
namespace En
theorem A9{k:Int}{a1 a2 a3 a4 ok:Bool}(h:dN k=(a1,a2,a3,a4))(hk:recKind k=ok)(w:World): Calls af 155 #[.int .i64 k] w fun e w'=>e= .returned (.tuple #[.agg #[.bool a1,.bool a2,.bool a3,.bool a4],.bool ok])∧Below w.heap.size w w':=by
 refine(agx k w).mono ?_;rintro e w' ⟨rfl,hb⟩;refine⟨?_,hb⟩;unfold shV;rw[h,hk]
def fA(r:Rec): Array Value:=#[.int .i64 r.ax,.int .u32 r.id,.int .i64 r.aw,.int .i64 r.aR,.int .i64 r.aq]
def Ps(r:Rec)(w:World)(e:Ending)(w':World): Prop:=e= .returned (.int .i64 (if r.ok=true then 0 else 160))∧Below w.heap.size w w'
theorem fW(r:Rec)(w:World)(hid:0≤r.id∧r.id<4294967296): Calls af 68 #[.agg (fA r)] w (Ps r w):=by
 obtain⟨k,id,aw,aR,aq⟩:=r;obtain⟨a1,a2,a3,a4,hh⟩: ∃ a1 a2 a3 a4,dN k=(a1,a2,a3,a4):=⟨_,_,_,_,rfl⟩;obtain⟨ok,fw⟩:=ae (recKind k);obtain⟨v1,h1⟩:=ae (within a1 id 1 4294967295);obtain⟨v2,h2⟩:=ae (within a2 aw 0 1023);obtain⟨v3,h3⟩:=ae (within a3 aR 1 1099511627776);obtain⟨v4,h4⟩:=ae (within a4 aq 1 1099511627776);have HE:=aa (show(⟨k,id,aw,aR,aq⟩:Rec).ok=(ok && v1 && v2 && v3 && v4)by unfold Rec.ok;simp only;rw[hh,fw,←h1,←h2,←h3,←h4]);have HO:=aa (fun W=>A9 hh fw W);have W1:=aa (show ∀ W,Calls af 156 #[.bool a1,.int .i64 id,.int .i64 1,.int .i64 4294967295] W fun e w'=>e= .returned (.bool v1)∧w'=W from fun W=>h1▸sQ a1 id 1 4294967295 W);have W2:=aa (show ∀ W,Calls af 156 #[.bool a2,.int .i64 aw,.int .i64 0,.int .i64 1023] W fun e w'=>e= .returned (.bool v2)∧w'=W from fun W=>h2▸sQ a2 aw 0 1023 W);have W3:=aa (show ∀ W,Calls af 156 #[.bool a3,.int .i64 aR,.int .i64 1,.int .i64 1099511627776] W fun e w'=>e= .returned (.bool v3)∧w'=W from fun W=>h3▸sQ a3 aR 1 1099511627776 W);have W4:=aa (show ∀ W,Calls af 156 #[.bool a4,.int .i64 aq,.int .i64 1,.int .i64 1099511627776] W fun e w'=>e= .returned (.bool v4)∧w'=W from fun W=>h4▸sQ a4 aq 1 1099511627776 W);have hwi:IntKind.i64.wrap id=id:=by rw[IntKind.wrap_i64];simp only at hid;omega
 dsimp only[fA];obtain⟨w1,a8⟩:=ae (w.alloc (.cells #[.int .i64 k,.int .u32 id,.int .i64 aw,.int .i64 aR,.int .i64 aq] 58));obtain⟨rb,jJ⟩:=ae w.heap.size;have bp:=aJ a8 jJ;have hb1:=aK a8;have x0:=bp.cl 0;have dF:=aa bp;have bA:=aa hb1;have uT:=aa jJ;clear hh fw h1 h2 h3 h4 bp hb1;cases ok
 case false=>
  go_enter Tryz.func68,Tryz.ntmps68;go_wp2_with fail;refine(HO.o _).mono ?_;rintro e w2 ⟨rfl,hb2⟩;obtain⟨w3,hw3⟩:=ae (w2.alloc (.cells #[.bool a1,.bool a2,.bool a3,.bool a4] 266));obtain⟨sb,kU⟩:=ae w2.heap.size;have dE:=aJ hw3 kU;have hb3:=ek hb2 hw3;have dO:=dF.o.ah hb3;have s0:=dE.cl 0;have s1:=dE.cl 1;have s2:=dE.cl 2;have s3:=dE.cl 3;have r1:=dO.cl 1;have r2:=dO.cl 2;have r3:=dO.cl 3;have r4:=dO.cl 4;have dV:=bA.dQ hb3;clear dE hb2 hb3 dO;go_wp2_with fail;go_ret;exact⟨oY,Ig⟩
 case true=>
  cases v1
  case false=>
   go_enter Tryz.func68,Tryz.ntmps68;go_wp2_with fail;refine(HO.o _).mono ?_;rintro e w2 ⟨rfl,hb2⟩;obtain⟨w3,hw3⟩:=ae (w2.alloc (.cells #[.bool a1,.bool a2,.bool a3,.bool a4] 266));obtain⟨sb,kU⟩:=ae w2.heap.size;have dE:=aJ hw3 kU;have hb3:=ek hb2 hw3;have dO:=dF.o.ah hb3;have s0:=dE.cl 0;have s1:=dE.cl 1;have s2:=dE.cl 2;have s3:=dE.cl 3;have r1:=dO.cl 1;have r2:=dO.cl 2;have r3:=dO.cl 3;have r4:=dO.cl 4;have dV:=bA.dQ hb3;clear dE hb2 hb3 dO;go_wp2_with fail;refine ag (W1.o _) ?_;go_wp2_with fail;go_ret;exact⟨oY,Ig⟩
  case true=>
   cases v2
   case false=>
    go_enter Tryz.func68,Tryz.ntmps68;go_wp2_with fail;refine(HO.o _).mono ?_;rintro e w2 ⟨rfl,hb2⟩;obtain⟨w3,hw3⟩:=ae (w2.alloc (.cells #[.bool a1,.bool a2,.bool a3,.bool a4] 266));obtain⟨sb,kU⟩:=ae w2.heap.size;have dE:=aJ hw3 kU;have hb3:=ek hb2 hw3;have dO:=dF.o.ah hb3;have s0:=dE.cl 0;have s1:=dE.cl 1;have s2:=dE.cl 2;have s3:=dE.cl 3;have r1:=dO.cl 1;have r2:=dO.cl 2;have r3:=dO.cl 3;have r4:=dO.cl 4;have dV:=bA.dQ hb3;clear dE hb2 hb3 dO;go_wp2_with fail;refine ag (W1.o _) ?_;go_wp2_with fail;refine ag (W2.o _) ?_;go_wp2_with fail;go_ret;exact⟨oY,Ig⟩
   case true=>
    cases v3
    case false=>
     go_enter Tryz.func68,Tryz.ntmps68;go_wp2_with fail;refine(HO.o _).mono ?_;rintro e w2 ⟨rfl,hb2⟩;obtain⟨w3,hw3⟩:=ae (w2.alloc (.cells #[.bool a1,.bool a2,.bool a3,.bool a4] 266));obtain⟨sb,kU⟩:=ae w2.heap.size;have dE:=aJ hw3 kU;have hb3:=ek hb2 hw3;have dO:=dF.o.ah hb3;have s0:=dE.cl 0;have s1:=dE.cl 1;have s2:=dE.cl 2;have s3:=dE.cl 3;have r1:=dO.cl 1;have r2:=dO.cl 2;have r3:=dO.cl 3;have r4:=dO.cl 4;have dV:=bA.dQ hb3;clear dE hb2 hb3 dO;go_wp2_with fail;refine ag (W1.o _) ?_;go_wp2_with fail;refine ag (W2.o _) ?_;go_wp2_with fail;refine ag (W3.o _) ?_;go_wp2_with fail;go_ret;exact⟨oY,Ig⟩
    case true=>
     cases v4
     case false=>
      exact acI
     case true=>
      exact acI
end En
end
section
namespace En
def OV(b:Bool)(n:Nat): Nat:=if b=true then n else 0
def mD(a1 a2 a3 a4:Bool): Nat→Nat
 | 0=>1
 | 1=>1+OV a1 4
 | 2=>1+OV a1 4+OV a2 2
 | 3=>1+OV a1 4+OV a2 2+OV a3 8
 | _=>1+OV a1 4+OV a2 2+OV a3 8+OV a4 8
theorem P9(a1 a2 a3 a4:Bool)(i:Nat): mD a1 a2 a3 a4 i≤23:=by
 have h: ∀ b n,OV b n≤n:=fun b n=>by unfold OV;split <;>omega
 have h1:=h a1 4;have h2:=h a2 2;have h3:=h a3 8;have h4:=h a4 8;unfold mD;split <;>omega
theorem ix0(a1 a2 a3 a4:Bool)(W:World): (mN 501 (.agg #[.bool a1,.int .i64 4,.bool a2,.int .i64 2,.bool a3,.int .i64 8,.bool a4,.int .i64 8]) (.int .i64 0)).run af W= .ok (.agg #[.bool a1,.int .i64 4]) W:=bh
theorem ix1(a1 a2 a3 a4:Bool)(W:World): (mN 501 (.agg #[.bool a1,.int .i64 4,.bool a2,.int .i64 2,.bool a3,.int .i64 8,.bool a4,.int .i64 8]) (.int .i64 1)).run af W= .ok (.agg #[.bool a2,.int .i64 2]) W:=bh
theorem ix2(a1 a2 a3 a4:Bool)(W:World): (mN 501 (.agg #[.bool a1,.int .i64 4,.bool a2,.int .i64 2,.bool a3,.int .i64 8,.bool a4,.int .i64 8]) (.int .i64 2)).run af W= .ok (.agg #[.bool a3,.int .i64 8]) W:=bh
theorem ix3(a1 a2 a3 a4:Bool)(W:World): (mN 501 (.agg #[.bool a1,.int .i64 4,.bool a2,.int .i64 2,.bool a3,.int .i64 8,.bool a4,.int .i64 8]) (.int .i64 3)).run af W= .ok (.agg #[.bool a4,.int .i64 8]) W:=bh
theorem P'(a1 a2 a3 a4:Bool)(w:World): Calls af 376 #[.agg #[.bool a1,.bool a2,.bool a3,.bool a4]] w fun e w'=>e= .returned (.int .i64 (mD a1 a2 a3 a4 4:Nat))∧Below w.heap.size w w':=by
 obtain⟨w1,a8⟩:=ae (w.alloc (.cells #[.bool a1,.bool a2,.bool a3,.bool a4] 266));have hb1:=aK a8;have bp:aG w1 w.heap.size 266 #[.bool a1,.bool a2,.bool a3,.bool a4]:=by rw[←a8];exact aG.fresh w _ _
 have s0:w1.cell? ⟨w.heap.size,0,none⟩=some (.bool a1):=bp.cell 0;have s1:w1.cell? ⟨w.heap.size,1,none⟩=some (.bool a2):=bp.cell 1;have s2:w1.cell? ⟨w.heap.size,2,none⟩=some (.bool a3):=bp.cell 2;have s3:w1.cell? ⟨w.heap.size,3,none⟩=some (.bool a4):=bp.cell 3;have bA:=aa hb1;have hsz:=P9 a1 a2 a3 a4;have mz:=aa hsz;clear hb1 bp hsz;go_enter Tryz.func376,Tryz.ntmps376;go_wp2_with fail;go_loopw [3,19] (fun nv iv wr=>∃ i:Nat,i≤4∧nv= .int .i64 (mD a1 a2 a3 a4 i:Nat)∧iv= .int .i64 i∧Below w.heap.size w wr) (fun _ iv _=>(4 - intOf iv).toNat)
 case atStart=>exact⟨0,ai,rfl,rfl,bA.o⟩
 case round=>
  obtain⟨i,hi,rfl,rfl,hb⟩:=hrel;have HB:=aa hb;clear hb s0 s1 s2 s3 bA;have hs1:=mz.o i;rcases(show i=0∨i=1∨i=2∨i=3∨i=4 from ai)with rfl|rfl|rfl|rfl|rfl
  ·have Km:=ix0 a1 a2 a3 a4;obtain⟨m,hm⟩:=ae (mD a1 a2 a3 a4 0);rw[hm] at hs1 ⊢;have HM:=aa hm;clear hm;push_cast;obtain⟨c,hc⟩:=ae a1;have HC:=aa hc;cases c
   ·rw[hc] at Km ⊢;exact Vp
   rw[hc] at Km ⊢;exact Vp
  ·have Km:=ix1 a1 a2 a3 a4;obtain⟨m,hm⟩:=ae (mD a1 a2 a3 a4 1);rw[hm] at hs1 ⊢;have HM:=aa hm;clear hm;push_cast;obtain⟨c,hc⟩:=ae a2;have HC:=aa hc;cases c
   ·rw[hc] at Km ⊢;exact Vo
   rw[hc] at Km ⊢;exact Vo
  ·have Km:=ix2 a1 a2 a3 a4;obtain⟨m,hm⟩:=ae (mD a1 a2 a3 a4 2);rw[hm] at hs1 ⊢;have HM:=aa hm;clear hm;push_cast;obtain⟨c,hc⟩:=ae a3;have HC:=aa hc;cases c
   ·rw[hc] at Km ⊢;exact Vn
   rw[hc] at Km ⊢;exact Vn
  ·have Km:=ix3 a1 a2 a3 a4;obtain⟨m,hm⟩:=ae (mD a1 a2 a3 a4 3);rw[hm] at hs1 ⊢;have HM:=aa hm;clear hm;push_cast;obtain⟨c,hc⟩:=ae a4;have HC:=aa hc;cases c
   ·rw[hc] at Km ⊢;exact Vm
   rw[hc] at Km ⊢;exact Vm
  have hq: ¬((4:Nat):Int)<4:=ai;go_wp2_with fail;go_ret;exact⟨rfl,HB.o⟩
