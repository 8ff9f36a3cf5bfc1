import Derived.Test.YtemighjbfanenaaGreatDoorPk23
set_option linter.all false
set_option maxRecDepth 100000
set_option maxHeartbeats 16000000
namespace Go.Proofs.YtemighjbfanenaaGreatDoor
open RowKit
open Oc (Bs fZ fF aP bu le rh eP cI val)
open Cr (cj ic)
open Go.Instr renaming index→mI
open Go.Proofs.Tryz renaming results299→np,underlying129→cq,results155→PU,prog→af,underlying266→PV
open Go.Value renaming oneCell'→fw
open List renaming getElem?_eq_some_iff→oa
open Nat renaming zero_le→cm,le_refl→aQ,le_trans→aT
open Option.some renaming inj→cM
open RowKit.Below renaming refl→au
theorem acS{p:Prop}(h:p:=by
 go_enter Tryz.func68,Tryz.ntmps68;go_wp2_with fail;refine(HO.o _).mono ?_;rintro e w2 ⟨rfl,hb2⟩;obtain⟨w3,hw3⟩:=ae (w2.alloc (.cells #[.bool a1,.bool a2,.bool a3,.bool a4] 266));obtain⟨sb,ky⟩:=ae w2.heap.size;have dD:=aK hw3 ky;have hb3:=dU hb2 hw3;have dN:=dz.o.ai hb3;have s0:=dD.cl 0;have s1:=dD.cl 1;have s2:=dD.cl 2;have s3:=dD.cl 3;have r1:=dN.cl 1;have r2:=dN.cl 2;have r3:=dN.cl 3;have r4:=dN.cl 4;have dV:=bz.dP hb3;clear dD hb2 hb3 dN;go_wp2_with fail;refine ag (W1.o _) ?_;go_wp2_with fail;refine ag (W2.o _) ?_;go_wp2_with fail;refine ag (W3.o _) ?_;go_wp2_with fail;refine ag (W4.o _) ?_;go_wp2_with fail;go_ret;exact⟨oW,IG⟩):p:=h
theorem acR{p:Prop}(h:p:=by
 have tu:(er != 0)=true:=xu;have HQ:=aa (show(eb,bb,db)=(er,(none:Option By),D')from Tf);have kV:=aa o7;clear o7 X7 RE;go_wp2_with (first|(refine ah rfl 129 _ _ rfl rr 129 _ #[.int .u64 0,.int .u64 0,.int .i64 0,.int .u32 0] gG.o.res rfl rfl rfl a8 (cB Hd.zero) ?_;intro wz gz eC hsz;have kH:=aa gz;have iw:=aa eC;clear gz eC hsz));refine bodyPost_ret (cW np _ im (aJ 129 kH.o _ cq rfl a8)) rfl ?_;have hR:R=⟨er,Hd.zero,[],0,D'⟩:=by
  have q0:=HQ.o;injection q0 with q1 q2
  injection q2 with q2 q3
  rw[HR.o];unfold kx;rw[X8.o];simp only[Sj.o.1,Sj.o.2,if_true,HTB.o,q1,q2,q3,if_neg kV.o]
 rw[hR];exact(gG.o).o (R:=⟨er,Hd.zero,[],0,D'⟩) HS.o iw.o rfl (fun hne=>absurd rfl hne) (cm _)):p:=h
theorem acQ{p:Prop}(h:p:=by
 have tu:(er != 0)=true:=xu;have HQ:=aa (show(ea,ba,da)=(er,(none:Option By),D')from Tf);have kV:=aa o7;clear o7 X7 RE;go_wp2_with (first|(refine ah rfl 129 _ _ rfl rr 129 _ #[.int .u64 0,.int .u64 0,.int .i64 0,.int .u32 0] gG.o.res rfl rfl rfl a8 (cB Hd.zero) ?_;intro wz gz eC hsz;have kH:=aa gz;have iw:=aa eC;clear gz eC hsz));refine bodyPost_ret (cW np _ im (aJ 129 kH.o _ cq rfl a8)) rfl ?_;have hR:R=⟨er,Hd.zero,[],0,D'⟩:=by
  have q0:=HQ.o;injection q0 with q1 q2
  injection q2 with q2 q3
  rw[HR.o];unfold kx;rw[X8.o];simp only[q1,q2,q3,if_neg kV.o]
 rw[hR];exact(gG.o).o (R:=⟨er,Hd.zero,[],0,D'⟩) HS.o iw.o rfl (fun hne=>absurd rfl hne) (cm _)):p:=h
theorem acO{p:Prop}(h:p:=by
 clear hk;go_enter Tryz.func155,Tryz.ntmps155;go_wp2_with (first|(refine ah rfl 351 _ _ rfl tb 351 _ LS cu.o rfl rfl rfl pK xC ?_;intro w3 dD hg3 hs3;have T3:aI (· =tb) w2 w3:=(aI.refl _ _).grown hg3 (fun k e=>.inl (cM e).symm);have dN:=T3.arr iZ.o kV.o;have gM:=aa dN;have jF:=aa T3;have pB:=aa dD;clear dD hg3 hs3 T3 dN)|(refine ah rfl 266 _ _ rfl rb 266 _ #[.bool false,.bool false,.bool false,.bool false] gM.o rfl rfl rfl oA vG ?_;intro w4 mZ hg4 sr;have pA:=aa mZ;have ve:=aa hg4;clear mZ hg4 sr));have hb3:Below w.heap.size w w3:=aI.nD ie.o jF.o (fun k hk=>abL);exact bodyPost_ret (results_cell_tmp PU _ im (aJ 266 pA.o _ PV rfl oA)) rfl ⟨by rw[HKK.o.1,HKK.o.2];rfl,ags⟩):p:=h
theorem I'{p:Prop}(h:p:=by
 have hb3:Below w.heap.size w w3:=aI.nD ie.o jF.o (fun k hk=>abL);exact bodyPost_ret (results_cell_tmp PU _ im (aJ 266 pA.o _ PV rfl oA)) rfl ⟨im,ags⟩):p:=h
theorem acL{p:Prop}(h:p:=by
 have HI:=aa hI;have Sj:=aa (show(ea=0∧ba=none)∧eb=0∧bb=none from⟨q0,q1,q2⟩);clear hI q0 q1 q2;go_wp2_with (first|(refine ah rfl 129 _ _ rfl rr 129 _ #[.int .u64 0,.int .u64 0,.int .i64 0,.int .u32 0] HI.o.res rfl rfl rfl a8 (cB Hd.zero) ?_;intro wz gz eC hsz;have kH:=aa gz;have iw:=aa eC;clear gz eC hsz));refine bodyPost_ret (cW np _ im (aJ 129 kH.o _ cq rfl a8)) rfl ?_;have hR:R=⟨0,Hd.zero,[],-1,db⟩:=aer;rw[hR];exact(HI.o).o (R:=⟨0,Hd.zero,[],-1,db⟩) HS.o iw.o rfl (fun hne=>absurd rfl hne) (cm _)):p:=h
theorem acG{p:Prop}(h:p:=by
 have hT:(eb,bb,db)=((0:Int),(none:Option By),da):=by rw[←HTB.o];unfold dc;rw[if_pos hz]
 injection hT with q1 q2
 injection q2 with q2 q3
 have HQ:=aa (show eb=0∧bb=none∧db=da from⟨q1,q2,q3⟩);clear hz q1 q2 q3;go_wp2_with fail;go_roundw
 case rel=>
  obtain⟨q1,q2,q3⟩:=HQ.o;exact .inr (.inr ⟨rfl,Sj.o,q1,q2,Tc⟩)
 case measure=>simp[intOf]):p:=h
theorem acF{p:Prop}(h:p:=by
 have hT:(ea,ba,da)=((0:Int),(none:Option By),d2):=by rw[←X8.o];unfold dc;rw[if_pos hz]
 injection hT with q1 q2
 injection q2 with q2 q3
 have HQ:=aa (show ea=0∧ba=none∧da=d2 from⟨q1,q2,q3⟩);clear hz q1 q2 q3;go_wp2_with fail;go_roundw
 case rel=>
  obtain⟨q1,q2,q3⟩:=HQ.o;exact .inr (.inl ⟨rfl,q1,q2,Tc⟩)
 case measure=>simp[intOf]):p:=h
theorem acB{p:Prop}(h:p:=by
 have HQ:=aa (show(eb,bb,db)=((0:Int),(none:Option By),D')from Tj);clear mA Cs;go_wp2_with fail;go_roundw
 case rel=>
  have q0:=HQ.o;injection q0 with q1 q2
  injection q2 with q2 q3
  exact .inr (.inr ⟨rfl,Sj.o,q1,q2,Uh⟩)
 case measure=>simp[intOf]):p:=h
theorem acz{p:Prop}(h:p:=by
 have HQ:=aa (show(ea,ba,da)=((0:Int),(none:Option By),D')from Tj);clear mA Cs;go_wp2_with fail;go_roundw
 case rel=>
  have q0:=HQ.o;injection q0 with q1 q2
  injection q2 with q2 q3
  exact .inr (.inl ⟨rfl,q1,q2,Uh⟩)
 case measure=>simp[intOf]):p:=h
theorem acm{p:Prop}(h:p:=by
 have q0:=HQ.o;injection q0 with q1 q2
 injection q2 with q2 q3
 rw[HR.o];unfold kx;rw[X8.o];simp only[Sj.o.1,Sj.o.2,if_true,HTB.o,q1,q2,q3];rfl):p:=h
theorem UY{p:Prop}(h:p:=by
 go_enter Tryz.func156,Tryz.ntmps156;go_wp2_with fail;go_ret;exact⟨rfl,rfl⟩):p:=h
theorem aca{p:Prop}(h:p:=by
 have q0:=HQ.o;injection q0 with q1 q2
 injection q2 with q2 q3
 rw[HR.o];unfold kx;rw[X8.o];simp only[q1,q2,q3];rfl):p:=h
theorem ab2{p:Prop}(h:p:=by
 rw[hR];exact(gG.o.ak (az (au _ _))).o (R:=⟨0,h2,bs,1,D'⟩) HS.o iw.o rfl (fun hne=>abM) Yr.o):p:=h
theorem ab1{p:Prop}(h:p:=by
 rw[hR];exact(gG.o.ak (az (au _ _))).o (R:=⟨0,h1,bs,0,D'⟩) HS.o iw.o rfl (fun hne=>abM) Yr.o):p:=h
theorem VB{p:Prop}(h:p:=by
 go_wp2_with fail;go_roundw
 case rel=>exact⟨1,aj,N6,NV,ax HB.o _⟩
 case measure=>simp[intOf]):p:=h
theorem Vz{p:Prop}(h:p:=by
 go_wp2_with fail;go_roundw
 case rel=>exact⟨2,aj,N6,NV,ax HB.o _⟩
 case measure=>simp[intOf]):p:=h
theorem Vy{p:Prop}(h:p:=by
 go_wp2_with fail;go_roundw
 case rel=>exact⟨3,aj,N6,NV,ax HB.o _⟩
 case measure=>simp[intOf]):p:=h
theorem Vx{p:Prop}(h:p:=by
 go_wp2_with fail;go_roundw
 case rel=>exact⟨4,aj,N6,NV,ax HB.o _⟩
 case measure=>simp[intOf]):p:=h
theorem Vt{p:Prop}(h:p:=by
 intro j v h;have hj:j<4:=(oa.1 h).1;rcases(show j=0∨j=1∨j=2∨j=3 from aj)with rfl|rfl|rfl|rfl <;>exact h):p:=h
theorem ags{p:Prop}(h:p:=by first|exact bn hb3 ve.o (by have:=uZ.o;omega)|(rw[uZ.o.1] at hb3;exact bn hb3 ve.o (aQ _))):p:=h
theorem vG{p:Prop}(h:p:=by simp[fw]):p:=h
theorem N6{p:Prop}(h:p:=by first|(rw[←HM.o];simp[mr,O9,HC.o])|(rw[←HM.o];simp[mr,O9,HC.o];done)):p:=h
theorem IG{p:Prop}(h:p:=by first|exact dV.o|(rw[uZ.o];exact dV.o)|(have:=dV.o;rw[uZ.o] at this;exact this)):p:=h
theorem abM{p:Prop}(h:p:=by obtain⟨g',q1,q2,q3⟩:=fC.o hne;exact⟨g',q1,q2,q3.same rfl⟩):p:=h
theorem abL{p:Prop}(h:p:=by have:=uZ.o;have e:k=tb:=hk;omega):p:=h
theorem NV{p:Prop}(h:p:=by first|rfl|go_num):p:=h
theorem Uh{p:Prop}(h:p:=by rw[q3];exact gG.o.ak (az (au _ _))):p:=h
theorem aer{p:Prop}(h:p:=by rw[HR.o];unfold kx;rw[X8.o];simp only[Sj.o.1.1,Sj.o.1.2,if_true,HTB.o,Sj.o.2.1,Sj.o.2.2]):p:=h
theorem Ug{p:Prop}(h:p:=by unfold recKind;rw[Bool.and_eq_false_iff,decide_eq_false_iff_not,decide_eq_false_iff_not];omega):p:=h
theorem Fv{p:Prop}(h:p:=by obtain⟨g',rfl,_,vw⟩:=fC.o hn;exact vw.bs hn):p:=h
theorem oW{p:Prop}(h:p:=by rw[HE.o];rfl):p:=h
theorem Ff{p:Prop}(h:p:=by rw[beq_eq_false_iff_ne];exact mA):p:=h
theorem uC{p:Prop}(h:p:=by simp at *;omega):p:=h
theorem Fb{p:Prop}(h:p:=by rw[beq_eq_false_iff_ne];exact hz):p:=h
theorem xC{p:Prop}(h:p:=by simp[LS,fw]):p:=h
theorem ajU{p:Prop}(h:p:=by have:=uZ.o;omega):p:=h
theorem uy{p:Prop}(h:p:=by assumption):p:=h
theorem Tl{p:Prop}(h:p:=by injection e with e;subst e;exact .inr (by omega)):p:=h
theorem E3{p:Prop}(h:p:=by rw[Cs.o,if_pos mA]):p:=h
theorem Tj{p:Prop}(h:p:=by rw[Cs.o,if_neg mA]):p:=h
theorem EZ{p:Prop}(h:p:=by have:=EG.o;omega):p:=h
theorem EX{p:Prop}(h:p:=by rw[X7.o,if_pos o7]):p:=h
theorem Tf{p:Prop}(h:p:=by rw[X7.o,if_neg o7]):p:=h
theorem Tc{p:Prop}(h:p:=by rw[q3];exact HI.o):p:=h
theorem rN{p:Prop}(h:p:=by exact m3):p:=h
theorem ER{p:Prop}(h:p:=by exact⟨o1,l1⟩):p:=h
theorem EP{p:Prop}(h:p:=by exact⟨o0,l0⟩):p:=h
section
namespace En
theorem Ux(g:Rg): ∀ (ps:List Piece) (d:bK) (acc:By),(Hs g d ps acc).2.2.dk=d.dk
 | [],d,acc=>rfl
 | x::ps,d,acc=>by
  rw[Hs];split
  ·rw[Ux g ps];exact bK.lK _ _
  exact bK.lK _ _
theorem Rg.lK(g:Rg)(d:bK)(at_ n:Int): (g.read d at_ n).2.2.dk=d.dk:=by
 unfold Rg.read;split
 ·rfl
 exact Ux g _ _ _
theorem nM(g:Rg)(d:bK): (cX g d).2.2.dk=d.dk:=by
 unfold cX;split <;>exact Rg.lK _ _ _ _
theorem Ed(g:Rg)(d:bK): (cX g d).2.1.len≤g.bytes d.dk.size:=by
 unfold cX;split
 ·simp only;split
  ·split
   ·omega
   exact cm _
  exact cm _
 exact cm _
theorem jX(s:Sl)(d:bK)(i:Nat)(h:Hd): (dc s d i h).2.2.dk=d.dk:=by
 unfold dc;split
 ·rfl
 split <;>exact Rg.lK _ _ _ _
theorem VF(s:Sl)(d:bK)(i j:Nat)(hi hj:Hd): (kx s d i j hi hj).dev.dk=d.dk:=by
 unfold kx;split
 ·split
  ·exact jX _ _ _ _
  split
  ·split <;>exact(jX _ _ _ _).trans (jX _ _ _ _)
  exact(jX _ _ _ _).trans (jX _ _ _ _)
 exact jX _ _ _ _
theorem OJ(s:Sl)(d:bK): (s.load d).dev.dk=d.dk:=by
 unfold Sl.load;split
 ·split
  ·split <;>exact(VF _ _ _ _ _ _).trans ((nM _ _).trans (nM _ _))
  exact(nM _ _).trans (nM _ _)
 exact nM _ _
def Sd(a b:Hd): Array Value:=#[.int .u64 (a.gen:Nat),.int .u64 (a.l8:Nat),.int .i64 (a.len:Nat),.int .u32 (a.sum:Nat),.int .u64 (b.gen:Nat),.int .u64 (b.l8:Nat),.int .i64 (b.len:Nat),.int .u32 (b.sum:Nat)]
structure tP(S:Nat→Prop)(w:World)(rr hb p:Nat)(D:bK)(a b:Hd)(W:World): Prop where
 fh:aG W hb 468 (Sd a b)
 res:aG W rr 129 #[.int .u64 0,.int .u64 0,.int .i64 0,.int .u32 0]
 dev:dF p D S W
 cO:aI S w W
 rz:w.heap.size≤rr∧w.heap.size≤hb∧rr≠hb
variable{S:Nat→Prop}{w W W':World}{rr hb p:Nat}
theorem tP.ak{D:bK}{a b:Hd}(h:tP S w rr hb p D a b W)(hb':Below W.heap.size W W'): tP S w rr hb p D a b W':=
 ⟨h.fh.ai hb',h.res.ai hb',(aD p D).ak h.dev hb',h.cO.ak hb',h.rz⟩
theorem tP.step{D D':bK}{a b:Hd}(h:tP S w rr hb p D a b W)(hS: ∀ k,S k→k<w.heap.size)(hD:dF p D' S W')(ht:aI S W W'): tP S w rr hb p D' a b W':=by
 have h1:=h.rz;exact⟨ht.arr h.fh (fun hs=>by have:=hS _ hs;omega),ht.arr h.res (fun hs=>by have:=hS _ hs;omega),hD,h.cO.trans ht,h.rz⟩
theorem tP.put{D:bK}{a b a' b':Hd}(h:tP S w rr hb p D a b W)(hS: ∀ k,S k→k<w.heap.size)(hA:aG W' hb 468 (Sd a' b'))(hg:W.grownBy W' (some hb)): tP S w rr hb p D a' b' W':=by
 have h1:=h.rz;refine⟨hA,h.res.grown hg aj,(aD p D).same h.dev hg.size (fun k hk=>hg.block k ((aD p D).lt h.dev k hk) (fun e=>by injection e with e;subst e;have:=hS _ hk;omega)),h.cO.grown hg (fun k e=>Tl),h.rz⟩
def XS(S:Nat→Prop)(p:Nat)(R:Ld)(w:World)(e:Ending)(w':World): Prop:=
 (∃ A c,e= .returned (.tuple #[.agg (oc R.hd),.slice A R.body.length c,.int .i64 R.at_,.int .i64 R.err])∧(R.body≠ []→∃ g,A=some ⟨g,0,none⟩∧w.heap.size≤g∧jN w' 5 g R.body)∧R.body.length≤c)∧dF p R.dev S w'∧aI S w w'
theorem tP.o{D:bK}{a b:Hd}{R:Ld}{A:Option Addr}{c:Nat}(h:tP S w rr hb p D a b W)(hS: ∀ k,S k→k<w.heap.size)(hg:W.grownBy W' (some rr))(hR:R.dev=D)
  (hB:R.body≠ []→∃ g,A=some ⟨g,0,none⟩∧w.heap.size≤g∧jN W 5 g R.body) (hc:R.body.length≤c):XS S p R w (.returned (.tuple #[.agg (oc R.hd),.slice A R.body.length c,.int .i64 R.at_,.int .i64 R.err])) W':=by
 have h1:=h.rz;subst hR;refine⟨⟨A,c,rfl,fun hne=>?_,hc⟩,(aD p R.dev).same h.dev hg.size (fun k hk=>hg.block k ((aD p R.dev).lt h.dev k hk) (fun e=>by injection e with e;subst e;have:=hS _ hk;omega)),h.cO.grown hg (fun k e=>Tl)⟩;obtain⟨g,rfl,hg2,hbl⟩:=hB hne;refine⟨g,rfl,hg2,hbl.same (hg.block g hbl.lt (fun e=>?_))⟩;injection e with e
 subst e;obtain⟨cur,hq,_⟩:=hbl;have hr:=h.res;unfold aG at hr;rw[hq] at hr;injection hr with hr
 injection hr with _ ht _
 exact absurd ht aN
theorem tP.only{D:bK}{a b:Hd}{x:Nat}(h:tP S w rr hb p D a b W)(hg:W.grownBy W' (some x))(hx:(∀ k,S k→k≠x)∧rr≠x∧hb≠x∧w.heap.size≤x): tP S w rr hb p D a b W':=
 ⟨h.fh.grown hg hx.2.2.1,h.res.grown hg hx.2.1,(aD p D).same h.dev hg.size (fun k hk=>hg.block k ((aD p D).lt h.dev k hk) (fun e=>by injection e with e;exact hx.1 k hk e)),h.cO.grown hg (fun k e=>by injection e with e;subst e;exact .inr hx.2.2.2),h.rz⟩
theorem rL: (af.info? 470).map (·.size)=some 2:=br
theorem Ec(a b:Hd): ∀ j v,(oc a).toList[j]? =some v→(Sd a b)[0+j]? =some v:=by
 exact Vt
theorem Eb(a b:Hd): ∀ j v,(oc b).toList[j]? =some v→(Sd a b)[4+j]? =some v:=by
 exact Vt
theorem QP(x y:Nat)(W:World): (mI 91 (.agg #[.pointer (some ⟨x,0,none⟩),.pointer (some ⟨y,0,none⟩)]) (.int .i64 0)).run af W= .ok (.agg #[.pointer (some ⟨x,0,none⟩)]) W:=br
theorem QO(x y:Nat)(W:World): (mI 91 (.agg #[.pointer (some ⟨x,0,none⟩),.pointer (some ⟨y,0,none⟩)]) (.int .i64 1)).run af W= .ok (.agg #[.pointer (some ⟨y,0,none⟩)]) W:=br
theorem Jj(x y:Int)(W:World): (mI 470 (.agg #[.int .i64 x,.int .i64 y]) (.int .i64 0)).run af W= .ok (.int .i64 x) W:=br
theorem Ji(x y:Int)(W:World): (mI 470 (.agg #[.int .i64 x,.int .i64 y]) (.int .i64 1)).run af W= .ok (.int .i64 y) W:=br
theorem Xu{s ra rb:Nat} {sl:Sl}{d:bK}(h:qH w s ra rb p sl d.dk.size)(hD:dF p d S w)(hs: ¬S s)(Jv: ¬S ra)(jI: ¬S rb)(ht:cj w)(QT: ¬S 1):
  Calls af 299 #[.pointer (some ⟨s,0,none⟩)] w (XS S p (sl.load d) w):=by
 have hS:=(aD p d).lt hD;obtain⟨rr,vr⟩:=ae w.heap.size;obtain⟨w0,hw0⟩:=ae (w.alloc (.cells #[.int .u64 0,.int .u64 0,.int .i64 0,.int .u32 0] 129));obtain⟨hb,hhb⟩:=ae w0.heap.size;obtain⟨w1,aZ⟩:=ae (w0.alloc (.cells #[.int .u64 0,.int .u64 0,.int .i64 0,.int .u32 0,.int .u64 0,.int .u64 0,.int .i64 0,.int .u32 0] 468));have hb0:=aL hw0;have zt:=aL aZ;have ha0:=aK hw0 vr;have ha1:aG w1 hb 468 (Sd Hd.zero Hd.zero):=by rw[←aZ,←hhb];exact aG.fresh w0 _ _
 have hr1:rr+1=hb:=by rw[←hhb,←hw0,←vr];simp only[World.alloc,Array.size_push]
 have kS:tP S w rr hb p d Hd.zero Hd.zero w1:=⟨ha1,ha0.ai zt,(aD p d).ak hD (av hb0 zt),aI.aU (av hb0 zt),aj,aj,aj⟩;have x0:w0.cell? ⟨s,0,none⟩=some (.pointer (some ⟨ra,0,none⟩)):=(h.own.ai hb0).cell 0;obtain⟨e1,h1,d1,hR1⟩: ∃ e h d',cX sl.a d=(e,h,d'):=⟨_,_,_,rfl⟩;obtain⟨e2,h2,d2,qz⟩: ∃ e h d',cX sl.b d1=(e,h,d'):=⟨_,_,_,rfl⟩;have yU:d1.dk=d.dk:=by have:=nM sl.a d;rw[hR1] at this;exact this
 have hk2:d2.dk=d.dk:=by have:=nM sl.b d1;rw[qz] at this;exact this.trans yU
 have tu:h1.len≤268435456:=by have:=Ed sl.a d;rw[hR1] at this;exact aT this h.a.eQ
 have pq:h2.len≤268435456:=by have:=Ed sl.b d1;rw[qz,yU] at this;exact aT this h.b.eQ
 have ac1:sl.load d=if e1=0 then if e2=0 then if h1.gen<h2.gen then kx sl d2 1 0 h2 h1 else kx sl d2 0 1 h1 h2 else⟨e2,Hd.zero,[],0,d2⟩else⟨e1,Hd.zero,[],0,d1⟩:=by unfold Sl.load;rw[hR1];simp only;rw[qz]
 have HH1:=aa (show ∀ H0 H1 W W',tP S w rr hb p d H0 H1 W→Below W.heap.size W W'→Calls af 334 #[.agg #[.pointer (some ⟨ra,0,none⟩)]] W' (fun e w3=>e= .returned (.tuple #[.agg (oc h1),.int .i64 e1])∧tP S w rr hb p d1 H0 H1 w3)from fun H0 H1 W W' hI hB=>by
  have hI':=hI.ak hB;have HC:=J7 (g:=sl.a) (d:=d) (h.cO hI'.cO hs Jv jI).a hI'.dev Jv (ht.cO hI'.cO QT) QT;rw[hR1] at HC;exact HC.mono fun e w3 he=>⟨he.1,hI'.step hS he.2.1 he.2.2⟩)
 have HH2:=aa (show ∀ H0 H1 W W',tP S w rr hb p d1 H0 H1 W→Below W.heap.size W W'→Calls af 334 #[.agg #[.pointer (some ⟨rb,0,none⟩)]] W' (fun e w3=>e= .returned (.tuple #[.agg (oc h2),.int .i64 e2])∧tP S w rr hb p d2 H0 H1 w3)from fun H0 H1 W W' hI hB=>by
  have hI':=hI.ak hB;have HC:=J7 (g:=sl.b) (d:=d1) (by rw[yU];exact(h.cO hI'.cO hs Jv jI).b) hI'.dev jI (ht.cO hI'.cO QT) QT;rw[qz] at HC;exact HC.mono fun e w3 he=>⟨he.1,hI'.step hS he.2.1 he.2.2⟩)
 have nh:=aa (show ∀ (r:Nat) (g:Rg) (D:bK) (n:Nat) H0 H1 W W',(r=ra∧g=sl.a∨r=rb∧g=sl.b)→D.dk=d.dk→n≤268435456→tP S w rr hb p D H0 H1 W→Below W.heap.size W W'→Calls af 335 #[.pointer (some ⟨r,0,none⟩),.int .i64 d.dk.size,.int .i64 n] W' (fun e w3=>(∃ A c,e= .returned (.tuple #[.slice A (g.read D D.dk.size n).2.1.length c,.int .i64 (g.read D D.dk.size n).1])∧((g.read D D.dk.size n).2.1≠ []→∃ gg,A=some ⟨gg,0,none⟩∧w.heap.size≤gg∧jN w3 5 gg (g.read D D.dk.size n).2.1)∧(g.read D D.dk.size n).2.1.length≤c)∧tP S w rr hb p (g.read D D.dk.size n).2.2 H0 H1 w3)from fun r g D n H0 H1 W W' hr hk hn hI hB=>by
  have hI':=hI.ak hB;have hsz:=h.a.size;have hrg:fT W' r p g D.dk.size∧¬S r:=by rw[hk];rcases hr with⟨rfl,rfl⟩|⟨rfl,rfl⟩;exact⟨(h.cO hI'.cO hs Jv jI).a,Jv⟩;exact⟨(h.cO hI'.cO hs Jv jI).b,jI⟩
  have HC:=Kd hrg.1 hI'.dev hrg.2 D.dk.size n (by rw[hk];omega) hn;rw[←hk];refine HC.mono fun e w3 he=>?_
  obtain⟨⟨A,c,h1,h2,h3⟩,h4,h5⟩:=he;exact⟨⟨A,c,h1,fun hne=>by obtain⟨gg,e1,e2,e3⟩:=h2 hne;exact⟨gg,e1,aT hI'.cO.size e2,e3⟩,h3⟩,hI'.step hS h4 h5⟩)
 have HRZ:=aa (show ∀ (r:Nat) W,(r=ra∨r=rb)→aI S w W→Calls af 128 #[.pointer (some ⟨r,0,none⟩)] W (fun e w'=>e= .returned (.int .i64 d.dk.size)∧w'=W)from fun r W hr hW=>by
  rcases hr with rfl|rfl
  ·exact kC (h.cO hW hs Jv jI).a
  exact kC (h.cO hW hs Jv jI).b)
 have Zo:=aa (show ∀ W,aI S w W→aG W s 93 #[.pointer (some ⟨ra,0,none⟩),.pointer (some ⟨rb,0,none⟩)] from fun W hW=>(h.cO hW hs Jv jI).own);have CY:=aa (show ∀ W,aI S w W→cj W from fun W hW=>ht.cO hW QT);have HS:=aa hS;have wV:=aa kS;have HLD:=aa ac1;have HK1:=aa yU;have HK2:=aa hk2;have HN1:=aa tu;have Sq:=aa pq;have X6:=aa hw0;have sN:=aa aZ;have uq:=aa vr;have HHB:=aa hhb;obtain⟨size,hsize⟩:=ae d.dk.size;have hsz:=h.a.size;rw[hsize] at HRZ nh hsz;have mi:=aa hsz;have Gm:=aa hsize;obtain⟨R,hR⟩:=ae (sl.load d);rw[hR] at HLD ⊢;have hy0:=(wV.o.cO);have y0:w1.cell? ⟨s,0,none⟩=some (.pointer (some ⟨ra,0,none⟩)):=(Zo.o w1 hy0).cell 0;have y1:w1.cell? ⟨s,1,none⟩=some (.pointer (some ⟨rb,0,none⟩)):=(Zo.o w1 hy0).cell 1;have z0:(w0.alloc (.cells #[.int .u64 0,.int .u64 0,.int .i64 0,.int .u32 0,.int .u64 0,.int .u64 0,.int .i64 0,.int .u32 0] 468)).cell? ⟨s,0,none⟩=some (.pointer (some ⟨ra,0,none⟩)):=by rw[sN.o];exact y0
 have z1:(w0.alloc (.cells #[.int .u64 0,.int .u64 0,.int .i64 0,.int .u32 0,.int .u64 0,.int .u64 0,.int .i64 0,.int .u32 0] 468)).cell? ⟨s,1,none⟩=some (.pointer (some ⟨rb,0,none⟩)):=by rw[sN.o];exact y1
 clear hR hS kS ac1 yU hk2 tu pq hw0 aZ vr hhb hsize hsz h hD hs Jv jI ht QT hb0 zt ha0 ha1 hr1 hR1 qz hy0;go_enter Tryz.func299,Tryz.ntmps299;go_wp2_with fail;rw[X6.o,uq.o];refine ag (ym s ra w0 x0) ?_;go_wp2_with fail;rw[sN.o,HHB.o];clear z0 z1;have ix0:=QP ra rb;have ix1:=QO ra rb;go_loopw [23] (fun k wr=>(k= .int .i64 0∧tP S w rr hb p d Hd.zero Hd.zero wr)∨(k= .int .i64 1∧e1=0∧tP S w rr hb p d1 h1 Hd.zero wr)∨(k= .int .i64 2∧e1=0∧e2=0∧tP S w rr hb p d2 h1 h2 wr)) (fun k _=>(2 - intOf k).toNat)
 case atStart=>exact .inl ⟨rfl,wV.o⟩
 case round=>
  rcases hrel with⟨rfl,hI⟩|⟨rfl,rfl,hI⟩|⟨rfl,rfl,rfl,hI⟩
  ·have HI:=aa hI;clear hI;go_wp2_with fail;refine(HH1.o _ _ _ _ HI.o (by repeat(first|with_reducible exact au _ _|with_reducible refine ax ?_ _|with_reducible refine az ?_|with_reducible refine bJ ?_ _|(refine eF ?_ uC _)|with_reducible refine av ?_ uy))).mono ?_;rintro e w3 ⟨rfl,fj⟩;have gG:=aa fj;clear fj;by_cases he:e1=0
   ·subst he;go_wp2_with (first|(refine iF rfl 129 _ _ rfl hb 0 468 _ (oc h1) gG.o.fh rfl rfl (by show 0+4≤8;decide) a8 (cB h1) ?_;intro w5 fX ft hs5;have pZ:=aa (gG.o.put (a':=h1) (b':=Hd.zero) HS.o fX ft);clear fX ft hs5));go_roundw
    case rel=>exact .inr (.inl ⟨rfl,xG,pZ.o⟩)
    case measure=>simp[intOf]
   have tu:(e1 != 0)=true:=by simp[he]
   have HE:=aa he;clear he;go_wp2_with (first|(refine iF rfl 129 _ _ rfl hb 0 468 _ (oc h1) gG.o.fh rfl rfl (by show 0+4≤8;decide) a8 (cB h1) ?_;intro w5 fX ft hs5;have pZ:=aa (gG.o.put (a':=h1) (b':=Hd.zero) HS.o fX ft);clear fX ft hs5)|(refine ah rfl 129 _ _ rfl rr 129 _ #[.int .u64 0,.int .u64 0,.int .i64 0,.int .u32 0] pZ.o.res rfl rfl rfl a8 (cB Hd.zero) ?_;intro wz gz eC hsz;have kH:=aa gz;have iw:=aa eC;clear gz eC hsz));refine bodyPost_ret (cW np _ im (aJ 129 kH.o _ cq rfl a8)) rfl ?_;have he:=HE.o;rw[show R=⟨e1,Hd.zero,[],0,d1⟩from by rw[HLD.o];simp[he]];exact(pZ.o).o (R:=⟨e1,Hd.zero,[],0,d1⟩) HS.o iw.o rfl (fun hne=>absurd rfl hne) (cm _)
  ·have HI:=aa hI;clear hI;go_wp2_with fail;refine(HH2.o _ _ _ _ HI.o (by repeat(first|with_reducible exact au _ _|with_reducible refine ax ?_ _|with_reducible refine az ?_|with_reducible refine bJ ?_ _|(refine eF ?_ uC _)|with_reducible refine av ?_ uy))).mono ?_;rintro e w3 ⟨rfl,fj⟩;have gG:=aa fj;clear fj;by_cases he:e2=0
   ·subst he;go_wp2_with (first|(refine iF rfl 129 _ _ rfl hb 4 468 _ (oc h2) gG.o.fh rfl rfl (by show 4+4≤8;decide) a8 (cB h2) ?_;intro w5 fX ft hs5;have pZ:=aa (gG.o.put (a':=h1) (b':=h2) HS.o fX ft);clear fX ft hs5));go_roundw
    case rel=>exact .inr (.inr ⟨rfl,xG,xG,pZ.o⟩)
    case measure=>simp[intOf]
   have tu:(e2 != 0)=true:=by simp[he]
   have HE:=aa he;clear he;go_wp2_with (first|(refine iF rfl 129 _ _ rfl hb 4 468 _ (oc h2) gG.o.fh rfl rfl (by show 4+4≤8;decide) a8 (cB h2) ?_;intro w5 fX ft hs5;have pZ:=aa (gG.o.put (a':=h1) (b':=h2) HS.o fX ft);clear fX ft hs5)|(refine ah rfl 129 _ _ rfl rr 129 _ #[.int .u64 0,.int .u64 0,.int .i64 0,.int .u32 0] pZ.o.res rfl rfl rfl a8 (cB Hd.zero) ?_;intro wz gz eC hsz;have kH:=aa gz;have iw:=aa eC;clear gz eC hsz));refine bodyPost_ret (cW np _ im (aJ 129 kH.o _ cq rfl a8)) rfl ?_;have he:=HE.o;rw[show R=⟨e2,Hd.zero,[],0,d2⟩from by rw[HLD.o];simp[he]];exact(pZ.o).o (R:=⟨e2,Hd.zero,[],0,d2⟩) HS.o iw.o rfl (fun hne=>absurd rfl hne) (cm _)
  have HI:=aa hI;have iY:=aa (show(∀ k,S k→k≠wr.heap.size)∧rr≠wr.heap.size∧hb≠wr.heap.size∧w.heap.size≤wr.heap.size from⟨fun k hk=>by have:=HS.o _ hk;have:=hI.cO.size;omega,by have:=hI.res.lt;omega,by have:=hI.fh.lt;omega,hI.cO.size⟩);clear hI;by_cases hlt:h1.gen<h2.gen
  ·have BP:((h1.gen:Nat):Int)<((h2.gen:Nat):Int):=by omega
   have HR:=aa (show R=kx sl d2 1 0 h2 h1 from by rw[HLD.o];simp[hlt]);clear HLD;go_wp2_with (first|(refine ah rfl 470 _ _ rfl wr.heap.size 470 _ #[.int .i64 0,.int .i64 1] (aG.fresh wr _ _) rfl rfl rfl rL vG ?_;intro w5 fX ft hs5;have Ej:tP S w rr hb p d2 h1 h2 w5:=HI.o.ak (bn (ax (au _ _) _) ft (aQ _));have g0:w5.cell? ⟨hb,0,none⟩=some (.int .u64 (h1.gen:Nat)):=Ej.fh.cell 0;have g4:w5.cell? ⟨hb,4,none⟩=some (.int .u64 (h2.gen:Nat)):=Ej.fh.cell 4;have ou:=aa fX;have pZ:=aa Ej;clear fX ft hs5 Ej)|(refine ah rfl 470 _ _ rfl wr.heap.size 470 _ #[.int .i64 1,.int .i64 0] ou.o rfl rfl rfl rL vG ?_;intro w6 yV kq VW;have JQ:tP S w rr hb p d2 h1 h2 w6:=pZ.o.only kq iY.o;have tC:=aa yV;have kZ:=aa JQ;clear yV kq VW JQ)|(refine aC rfl 470 _ rfl wr.heap.size 470 _ tC.o rfl _ Tryz.underlying470 rfl rL ?_));clear hlt BP HI iY;obtain⟨ea,ba,da,JM⟩: ∃ ea ba da,dc sl d2 1 h2=(ea,ba,da):=⟨_,_,_,rfl⟩;obtain⟨eb,bb,db,hTb⟩: ∃ eb bb db,dc sl da 0 h1=(eb,bb,db):=⟨_,_,_,rfl⟩;have HKA:=aa (show da.dk=d.dk from by have:=jX sl d2 1 h2;rw[JM] at this;exact this.trans HK2.o);have X8:=aa JM;have HTB:=aa hTb;clear JM hTb;have jx0:=Jj 1 0;have jx1:=Ji 1 0;go_loopw [49] (fun k wr=>(k= .int .i64 0∧tP S w rr hb p d2 h1 h2 wr)∨(k= .int .i64 1∧ea=0∧ba=none∧tP S w rr hb p da h1 h2 wr)∨(k= .int .i64 2∧(ea=0∧ba=none)∧eb=0∧bb=none∧tP S w rr hb p db h1 h2 wr)) (fun k _=>(2 - intOf k).toNat)
   case atStart=>exact .inl ⟨rfl,kZ.o⟩
   case round=>
    rcases hrel with⟨rfl,hI⟩|⟨rfl,q1,q2,hI⟩|⟨rfl,q0,q1,q2,hI⟩
    ·have HI:=aa hI;have o1:wr.cell? ⟨s,1,none⟩=some (.pointer (some ⟨rb,0,none⟩)):=(Zo.o wr hI.cO).cell 1;have g1:wr.cell? ⟨hb,4,none⟩=some (.int .u64 (h2.gen:Nat)):=hI.fh.cell 4;have l1:wr.cell? ⟨hb,6,none⟩=some (.int .i64 (h2.len:Nat)):=hI.fh.cell 6;clear hI;by_cases hz:h2.gen=0
     ·rw[hz] at g1;exact acF
     have hz1:((h2.gen:Nat)==0)=false:=Fb;have hz2:(((h2.gen:Nat):Int)==0)=false:=mM;obtain⟨er,bs,D',CO⟩: ∃ er bs D',sl.b.read d2 d2.dk.size h2.len=(er,bs,D'):=⟨_,_,_,rfl⟩;have Ww:(ea,ba,da)=(if er=0 then((0:Int),(if ic 0 bs=h2.sum then some bs else none),D')else(er,none,D')):=by rw[←X8.o];unfold dc;rw[if_neg hz];rw[show(sl.one 1)=sl.b from rfl,CO]
     have hbl:bs.length≤268435456:=by
      have h0:=sl.b.rX d2 d2.dk.size h2.len (by rw[HK2.o,Gm.o];exact mi.o.1);rw[CO] at h0;exact aT h0 Sq.o
     have RE:=aa CO;have X7:=aa Ww;have EG:=aa hbl;clear hz CO Ww hbl;go_wp2_with fail;refine wp_region_held_drew (S:=(fun w'=>w'.cell? ⟨s,1,none⟩=some (.pointer (some ⟨rb,0,none⟩))∧w'.cell? ⟨hb,6,none⟩=some (.int .i64 (h2.len:Nat)))) br ER (fun hHeld=>?_);refine cS 0 (some 58) hHeld ?_;refine cS 1 (some 59) hHeld ?_;refine cS 2 (some 60) hHeld ?_;refine cS 3 (some 61) hHeld ?_;refine cS 4 (some 62) hHeld ?_;refine cS 5 (some 63) hHeld ?_;refine cS 6 (some 64) hHeld ?_;refine cS 7 (some 65) hHeld ?_;refine cS 8 (some 66) hHeld ?_;refine cS 9 (some 67) hHeld ?_;refine cS 10 (some 68) hHeld ?_;refine cS 11 (some 69) hHeld ?_;refine cS 12 (some 70) hHeld ?_;refine cS 13 (some 71) hHeld ?_;refine cS 15 (some 73) hHeld ?_;refine cS 16 (some 74) hHeld ?_;refine cS 17 (some 75) hHeld ?_;refine ty 18 ?_;refine cG 14 fun K hK=>?_
     go_simp;refine ag (HRZ.o rb wr.drew (.inr rfl) (HI.o.cO.ak (az (au _ _)))) ?_;go_wp2_with fail;refine bW hK ER fun lN=>?_
     clear hK K;try simp only[aY]
     refine cG 19 fun K hK=>?_
     go_simp;refine(nh.o rb sl.b d2 h2.len h1 h2 wr wr.drew (.inr ⟨rfl,rfl⟩) HK2.o Sq.o HI.o (az (au _ _))).mono ?_;rw[RE.o];rintro e w3 ⟨⟨A,c,rfl,cL,Dq⟩,fj⟩;have o1':w3.cell? ⟨s,1,none⟩=some (.pointer (some ⟨rb,0,none⟩)):=(Zo.o w3 fj.cO).cell 1;have l1':w3.cell? ⟨hb,6,none⟩=some (.int .i64 (h2.len:Nat)):=fj.fh.cell 6;have gG:=aa fj;have fC:=aa cL;have Yr:=aa Dq;clear fj cL Dq;go_wp2_with fail;refine bW hK (by exact⟨o1',l1'⟩) fun et=>?_
     clear hK K;refine cS 20 (some 57) et ?_;refine cS 21 (some 78) et ?_;refine cS 22 (some 79) et ?_;refine cS 23 (some 13) et ?_;refine ty 24 ?_;refine bO ?_;by_cases o7:er=0
     ·have Cs:=aa (show(ea,ba,da)=((0:Int),(if ic 0 bs=h2.sum then some bs else none),D')from EX);subst o7;have m3:w3.cell? ⟨hb,7,none⟩=some (.int .u32 (h2.sum:Nat)):=gG.o.fh.cell 7;clear X7 RE;go_wp2_with fail;refine ud (S:=(fun w'=>w'.cell? ⟨hb,7,none⟩=some (.int .u32 (h2.sum:Nat)))) rN fun hHeld=>?_
      refine cS 0 (some 84) hHeld ?_;refine cS 2 (some 86) hHeld ?_;refine cS 3 (some 87) hHeld ?_;refine cS 4 (some 88) hHeld ?_;refine ty 5 ?_;refine cG 1 fun K hK=>?_
      go_simp;refine ag (Cr.qG bs A c w3.drew (fun hn=>Fv) (CY.o w3.drew (gG.o.cO.ak (az (au _ _)))) EZ) ?_;go_wp2_with fail;refine bW hK rN fun sD=>?_
      clear hK K;refine ty 6 ?_;refine bO ?_;by_cases mA:ic 0 bs=h2.sum
      ·have ky:((ic 0 bs:Nat)==(h2.sum:Nat))=true:=by simp[mA]
       have Dj:(((ic 0 bs:Nat):Int)==((h2.sum:Nat):Int))=true:=xe;have HQ:=aa (show(ea,ba,da)=((0:Int),some bs,D')from E3);clear mA Cs;go_wp2_with (first|(refine i' rfl 129 _ rfl hb 4 468 _ (oc h2).toList gG.o.fh rfl (Eb h1 h2) _ cq rfl a8 ?_)|(refine ah rfl 129 _ _ rfl rr 129 _ (oc h2) gG.o.res rfl rfl rfl a8 (cB h2) ?_;intro wz gz eC hsz;have kH:=aa gz;have iw:=aa eC;clear gz eC hsz));refine bodyPost_ret (cW np _ im (aJ 129 kH.o _ cq rfl a8)) rfl ?_;have hR:R=⟨0,h2,bs,1,D'⟩:=by
        exact aca
       exact ab2
      have ky:((ic 0 bs:Nat)==(h2.sum:Nat))=false:=Ff;have Dj:(((ic 0 bs:Nat):Int)==((h2.sum:Nat):Int))=false:=mM;exact acz
     exact acQ
    ·have Sj:=aa (show ea=0∧ba=none from⟨q1,q2⟩);clear q1 q2;have HI:=aa hI;have o0:wr.cell? ⟨s,0,none⟩=some (.pointer (some ⟨ra,0,none⟩)):=(Zo.o wr hI.cO).cell 0;have g0:wr.cell? ⟨hb,0,none⟩=some (.int .u64 (h1.gen:Nat)):=hI.fh.cell 0;have l0:wr.cell? ⟨hb,2,none⟩=some (.int .i64 (h1.len:Nat)):=hI.fh.cell 2;clear hI;by_cases hz:h1.gen=0
     ·rw[hz] at g0;exact acG
     have hz1:((h1.gen:Nat)==0)=false:=Fb;have hz2:(((h1.gen:Nat):Int)==0)=false:=mM;obtain⟨er,bs,D',CO⟩: ∃ er bs D',sl.a.read da da.dk.size h1.len=(er,bs,D'):=⟨_,_,_,rfl⟩;have Ww:(eb,bb,db)=(if er=0 then((0:Int),(if ic 0 bs=h1.sum then some bs else none),D')else(er,none,D')):=by rw[←HTB.o];unfold dc;rw[if_neg hz];rw[show(sl.one 0)=sl.a from rfl,CO]
     have hbl:bs.length≤268435456:=by
      have h0:=sl.a.rX da da.dk.size h1.len (by rw[HKA.o,Gm.o];exact mi.o.1);rw[CO] at h0;exact aT h0 HN1.o
     have RE:=aa CO;have X7:=aa Ww;have EG:=aa hbl;clear hz CO Ww hbl;go_wp2_with fail;refine wp_region_held_drew (S:=(fun w'=>w'.cell? ⟨s,0,none⟩=some (.pointer (some ⟨ra,0,none⟩))∧w'.cell? ⟨hb,2,none⟩=some (.int .i64 (h1.len:Nat)))) br EP (fun hHeld=>?_);refine cS 0 (some 58) hHeld ?_;refine cS 1 (some 59) hHeld ?_;refine cS 2 (some 60) hHeld ?_;refine cS 3 (some 61) hHeld ?_;refine cS 4 (some 62) hHeld ?_;refine cS 5 (some 63) hHeld ?_;refine cS 6 (some 64) hHeld ?_;refine cS 7 (some 65) hHeld ?_;refine cS 8 (some 66) hHeld ?_;refine cS 9 (some 67) hHeld ?_;refine cS 10 (some 68) hHeld ?_;refine cS 11 (some 69) hHeld ?_;refine cS 12 (some 70) hHeld ?_;refine cS 13 (some 71) hHeld ?_;refine cS 15 (some 73) hHeld ?_;refine cS 16 (some 74) hHeld ?_;refine cS 17 (some 75) hHeld ?_;refine ty 18 ?_;refine cG 14 fun K hK=>?_
     go_simp;refine ag (HRZ.o ra wr.drew (.inl rfl) (HI.o.cO.ak (az (au _ _)))) ?_;go_wp2_with fail;refine bW hK EP fun lN=>?_
     clear hK K;try simp only[aY]
     refine cG 19 fun K hK=>?_
     go_simp;refine(nh.o ra sl.a da h1.len h1 h2 wr wr.drew (.inl ⟨rfl,rfl⟩) HKA.o HN1.o HI.o (az (au _ _))).mono ?_;rw[RE.o];rintro e w3 ⟨⟨A,c,rfl,cL,Dq⟩,fj⟩;have o0':w3.cell? ⟨s,0,none⟩=some (.pointer (some ⟨ra,0,none⟩)):=(Zo.o w3 fj.cO).cell 0;have l0':w3.cell? ⟨hb,2,none⟩=some (.int .i64 (h1.len:Nat)):=fj.fh.cell 2;have gG:=aa fj;have fC:=aa cL;have Yr:=aa Dq;clear fj cL Dq;go_wp2_with fail;refine bW hK (by exact⟨o0',l0'⟩) fun et=>?_
     clear hK K;refine cS 20 (some 57) et ?_;refine cS 21 (some 78) et ?_;refine cS 22 (some 79) et ?_;refine cS 23 (some 13) et ?_;refine ty 24 ?_;refine bO ?_;by_cases o7:er=0
     ·have Cs:=aa (show(eb,bb,db)=((0:Int),(if ic 0 bs=h1.sum then some bs else none),D')from EX);subst o7;have m3:w3.cell? ⟨hb,3,none⟩=some (.int .u32 (h1.sum:Nat)):=gG.o.fh.cell 3;clear X7 RE;go_wp2_with fail;refine ud (S:=(fun w'=>w'.cell? ⟨hb,3,none⟩=some (.int .u32 (h1.sum:Nat)))) rN fun hHeld=>?_
      refine cS 0 (some 84) hHeld ?_;refine cS 2 (some 86) hHeld ?_;refine cS 3 (some 87) hHeld ?_;refine cS 4 (some 88) hHeld ?_;refine ty 5 ?_;refine cG 1 fun K hK=>?_
      go_simp;refine ag (Cr.qG bs A c w3.drew (fun hn=>Fv) (CY.o w3.drew (gG.o.cO.ak (az (au _ _)))) EZ) ?_;go_wp2_with fail;refine bW hK rN fun sD=>?_
      clear hK K;refine ty 6 ?_;refine bO ?_;by_cases mA:ic 0 bs=h1.sum
      ·have ky:((ic 0 bs:Nat)==(h1.sum:Nat))=true:=by simp[mA]
       have Dj:(((ic 0 bs:Nat):Int)==((h1.sum:Nat):Int))=true:=xe;have HQ:=aa (show(eb,bb,db)=((0:Int),some bs,D')from E3);clear mA Cs;go_wp2_with (first|(refine i' rfl 129 _ rfl hb 0 468 _ (oc h1).toList gG.o.fh rfl (Ec h1 h2) _ cq rfl a8 ?_)|(refine ah rfl 129 _ _ rfl rr 129 _ (oc h1) gG.o.res rfl rfl rfl a8 (cB h1) ?_;intro wz gz eC hsz;have kH:=aa gz;have iw:=aa eC;clear gz eC hsz));refine bodyPost_ret (cW np _ im (aJ 129 kH.o _ cq rfl a8)) rfl ?_;have hR:R=⟨0,h1,bs,0,D'⟩:=by
        exact acm
       exact ab1
      have ky:((ic 0 bs:Nat)==(h1.sum:Nat))=false:=Ff;have Dj:(((ic 0 bs:Nat):Int)==((h1.sum:Nat):Int))=false:=mM;exact acB
     exact acR
    exact acL
  have BP: ¬((h1.gen:Nat):Int)<((h2.gen:Nat):Int):=aj;have HR:=aa (show R=kx sl d2 0 1 h1 h2 from by rw[HLD.o];simp[hlt]);clear HLD;go_wp2_with (first|(refine ah rfl 470 _ _ rfl wr.heap.size 470 _ #[.int .i64 0,.int .i64 1] (aG.fresh wr _ _) rfl rfl rfl rL vG ?_;intro w5 fX ft hs5;have Ej:tP S w rr hb p d2 h1 h2 w5:=HI.o.ak (bn (ax (au _ _) _) ft (aQ _));have g0:w5.cell? ⟨hb,0,none⟩=some (.int .u64 (h1.gen:Nat)):=Ej.fh.cell 0;have g4:w5.cell? ⟨hb,4,none⟩=some (.int .u64 (h2.gen:Nat)):=Ej.fh.cell 4;have ou:=aa fX;have kZ:=aa Ej;clear fX ft hs5 Ej)|(refine aC rfl 470 _ rfl wr.heap.size 470 _ ou.o rfl _ Tryz.underlying470 rfl rL ?_));clear hlt BP HI iY;obtain⟨ea,ba,da,JM⟩: ∃ ea ba da,dc sl d2 0 h1=(ea,ba,da):=⟨_,_,_,rfl⟩;obtain⟨eb,bb,db,hTb⟩: ∃ eb bb db,dc sl da 1 h2=(eb,bb,db):=⟨_,_,_,rfl⟩;have HKA:=aa (show da.dk=d.dk from by have:=jX sl d2 0 h1;rw[JM] at this;exact this.trans HK2.o);have X8:=aa JM;have HTB:=aa hTb;clear JM hTb;have jx0:=Jj 0 1;have jx1:=Ji 0 1;go_loopw [49] (fun k wr=>(k= .int .i64 0∧tP S w rr hb p d2 h1 h2 wr)∨(k= .int .i64 1∧ea=0∧ba=none∧tP S w rr hb p da h1 h2 wr)∨(k= .int .i64 2∧(ea=0∧ba=none)∧eb=0∧bb=none∧tP S w rr hb p db h1 h2 wr)) (fun k _=>(2 - intOf k).toNat)
  case atStart=>exact .inl ⟨rfl,kZ.o⟩
  case round=>
   rcases hrel with⟨rfl,hI⟩|⟨rfl,q1,q2,hI⟩|⟨rfl,q0,q1,q2,hI⟩
   ·have HI:=aa hI;have o0:wr.cell? ⟨s,0,none⟩=some (.pointer (some ⟨ra,0,none⟩)):=(Zo.o wr hI.cO).cell 0;have g0:wr.cell? ⟨hb,0,none⟩=some (.int .u64 (h1.gen:Nat)):=hI.fh.cell 0;have l0:wr.cell? ⟨hb,2,none⟩=some (.int .i64 (h1.len:Nat)):=hI.fh.cell 2;clear hI;by_cases hz:h1.gen=0
    ·rw[hz] at g0;exact acF
    have hz1:((h1.gen:Nat)==0)=false:=Fb;have hz2:(((h1.gen:Nat):Int)==0)=false:=mM;obtain⟨er,bs,D',CO⟩: ∃ er bs D',sl.a.read d2 d2.dk.size h1.len=(er,bs,D'):=⟨_,_,_,rfl⟩;have Ww:(ea,ba,da)=(if er=0 then((0:Int),(if ic 0 bs=h1.sum then some bs else none),D')else(er,none,D')):=by rw[←X8.o];unfold dc;rw[if_neg hz];rw[show(sl.one 0)=sl.a from rfl,CO]
    have hbl:bs.length≤268435456:=by
     have h0:=sl.a.rX d2 d2.dk.size h1.len (by rw[HK2.o,Gm.o];exact mi.o.1);rw[CO] at h0;exact aT h0 HN1.o
    have RE:=aa CO;have X7:=aa Ww;have EG:=aa hbl;clear hz CO Ww hbl;go_wp2_with fail;refine wp_region_held_drew (S:=(fun w'=>w'.cell? ⟨s,0,none⟩=some (.pointer (some ⟨ra,0,none⟩))∧w'.cell? ⟨hb,2,none⟩=some (.int .i64 (h1.len:Nat)))) br EP (fun hHeld=>?_);refine cS 0 (some 58) hHeld ?_;refine cS 1 (some 59) hHeld ?_;refine cS 2 (some 60) hHeld ?_;refine cS 3 (some 61) hHeld ?_;refine cS 4 (some 62) hHeld ?_;refine cS 5 (some 63) hHeld ?_;refine cS 6 (some 64) hHeld ?_;refine cS 7 (some 65) hHeld ?_;refine cS 8 (some 66) hHeld ?_;refine cS 9 (some 67) hHeld ?_;refine cS 10 (some 68) hHeld ?_;refine cS 11 (some 69) hHeld ?_;refine cS 12 (some 70) hHeld ?_;refine cS 13 (some 71) hHeld ?_;refine cS 15 (some 73) hHeld ?_;refine cS 16 (some 74) hHeld ?_;refine cS 17 (some 75) hHeld ?_;refine ty 18 ?_;refine cG 14 fun K hK=>?_
    go_simp;refine ag (HRZ.o ra wr.drew (.inl rfl) (HI.o.cO.ak (az (au _ _)))) ?_;go_wp2_with fail;refine bW hK EP fun lN=>?_
    clear hK K;try simp only[aY]
    refine cG 19 fun K hK=>?_
    go_simp;refine(nh.o ra sl.a d2 h1.len h1 h2 wr wr.drew (.inl ⟨rfl,rfl⟩) HK2.o HN1.o HI.o (az (au _ _))).mono ?_;rw[RE.o];rintro e w3 ⟨⟨A,c,rfl,cL,Dq⟩,fj⟩;have o0':w3.cell? ⟨s,0,none⟩=some (.pointer (some ⟨ra,0,none⟩)):=(Zo.o w3 fj.cO).cell 0;have l0':w3.cell? ⟨hb,2,none⟩=some (.int .i64 (h1.len:Nat)):=fj.fh.cell 2;have gG:=aa fj;have fC:=aa cL;have Yr:=aa Dq;clear fj cL Dq;go_wp2_with fail;refine bW hK (by exact⟨o0',l0'⟩) fun et=>?_
    clear hK K;refine cS 20 (some 57) et ?_;refine cS 21 (some 78) et ?_;refine cS 22 (some 79) et ?_;refine cS 23 (some 13) et ?_;refine ty 24 ?_;refine bO ?_;by_cases o7:er=0
    ·have Cs:=aa (show(ea,ba,da)=((0:Int),(if ic 0 bs=h1.sum then some bs else none),D')from EX);subst o7;have m3:w3.cell? ⟨hb,3,none⟩=some (.int .u32 (h1.sum:Nat)):=gG.o.fh.cell 3;clear X7 RE;go_wp2_with fail;refine ud (S:=(fun w'=>w'.cell? ⟨hb,3,none⟩=some (.int .u32 (h1.sum:Nat)))) rN fun hHeld=>?_
     refine cS 0 (some 84) hHeld ?_;refine cS 2 (some 86) hHeld ?_;refine cS 3 (some 87) hHeld ?_;refine cS 4 (some 88) hHeld ?_;refine ty 5 ?_;refine cG 1 fun K hK=>?_
     go_simp;refine ag (Cr.qG bs A c w3.drew (fun hn=>Fv) (CY.o w3.drew (gG.o.cO.ak (az (au _ _)))) EZ) ?_;go_wp2_with fail;refine bW hK rN fun sD=>?_
     clear hK K;refine ty 6 ?_;refine bO ?_;by_cases mA:ic 0 bs=h1.sum
     ·have ky:((ic 0 bs:Nat)==(h1.sum:Nat))=true:=by simp[mA]
      have Dj:(((ic 0 bs:Nat):Int)==((h1.sum:Nat):Int))=true:=xe;have HQ:=aa (show(ea,ba,da)=((0:Int),some bs,D')from E3);clear mA Cs;go_wp2_with (first|(refine i' rfl 129 _ rfl hb 0 468 _ (oc h1).toList gG.o.fh rfl (Ec h1 h2) _ cq rfl a8 ?_)|(refine ah rfl 129 _ _ rfl rr 129 _ (oc h1) gG.o.res rfl rfl rfl a8 (cB h1) ?_;intro wz gz eC hsz;have kH:=aa gz;have iw:=aa eC;clear gz eC hsz));refine bodyPost_ret (cW np _ im (aJ 129 kH.o _ cq rfl a8)) rfl ?_;have hR:R=⟨0,h1,bs,0,D'⟩:=by
       exact aca
      exact ab1
     have ky:((ic 0 bs:Nat)==(h1.sum:Nat))=false:=Ff;have Dj:(((ic 0 bs:Nat):Int)==((h1.sum:Nat):Int))=false:=mM;exact acz
    exact acQ
   ·have Sj:=aa (show ea=0∧ba=none from⟨q1,q2⟩);clear q1 q2;have HI:=aa hI;have o1:wr.cell? ⟨s,1,none⟩=some (.pointer (some ⟨rb,0,none⟩)):=(Zo.o wr hI.cO).cell 1;have g1:wr.cell? ⟨hb,4,none⟩=some (.int .u64 (h2.gen:Nat)):=hI.fh.cell 4;have l1:wr.cell? ⟨hb,6,none⟩=some (.int .i64 (h2.len:Nat)):=hI.fh.cell 6;clear hI;by_cases hz:h2.gen=0
    ·rw[hz] at g1;exact acG
    have hz1:((h2.gen:Nat)==0)=false:=Fb;have hz2:(((h2.gen:Nat):Int)==0)=false:=mM;obtain⟨er,bs,D',CO⟩: ∃ er bs D',sl.b.read da da.dk.size h2.len=(er,bs,D'):=⟨_,_,_,rfl⟩;have Ww:(eb,bb,db)=(if er=0 then((0:Int),(if ic 0 bs=h2.sum then some bs else none),D')else(er,none,D')):=by rw[←HTB.o];unfold dc;rw[if_neg hz];rw[show(sl.one 1)=sl.b from rfl,CO]
    have hbl:bs.length≤268435456:=by
     have h0:=sl.b.rX da da.dk.size h2.len (by rw[HKA.o,Gm.o];exact mi.o.1);rw[CO] at h0;exact aT h0 Sq.o
    have RE:=aa CO;have X7:=aa Ww;have EG:=aa hbl;clear hz CO Ww hbl;go_wp2_with fail;refine wp_region_held_drew (S:=(fun w'=>w'.cell? ⟨s,1,none⟩=some (.pointer (some ⟨rb,0,none⟩))∧w'.cell? ⟨hb,6,none⟩=some (.int .i64 (h2.len:Nat)))) br ER (fun hHeld=>?_);refine cS 0 (some 58) hHeld ?_;refine cS 1 (some 59) hHeld ?_;refine cS 2 (some 60) hHeld ?_;refine cS 3 (some 61) hHeld ?_;refine cS 4 (some 62) hHeld ?_;refine cS 5 (some 63) hHeld ?_;refine cS 6 (some 64) hHeld ?_;refine cS 7 (some 65) hHeld ?_;refine cS 8 (some 66) hHeld ?_;refine cS 9 (some 67) hHeld ?_;refine cS 10 (some 68) hHeld ?_;refine cS 11 (some 69) hHeld ?_;refine cS 12 (some 70) hHeld ?_;refine cS 13 (some 71) hHeld ?_;refine cS 15 (some 73) hHeld ?_;refine cS 16 (some 74) hHeld ?_;refine cS 17 (some 75) hHeld ?_;refine ty 18 ?_;refine cG 14 fun K hK=>?_
    go_simp;refine ag (HRZ.o rb wr.drew (.inr rfl) (HI.o.cO.ak (az (au _ _)))) ?_;go_wp2_with fail;refine bW hK ER fun lN=>?_
    clear hK K;try simp only[aY]
    refine cG 19 fun K hK=>?_
    go_simp;refine(nh.o rb sl.b da h2.len h1 h2 wr wr.drew (.inr ⟨rfl,rfl⟩) HKA.o Sq.o HI.o (az (au _ _))).mono ?_;rw[RE.o];rintro e w3 ⟨⟨A,c,rfl,cL,Dq⟩,fj⟩;have o1':w3.cell? ⟨s,1,none⟩=some (.pointer (some ⟨rb,0,none⟩)):=(Zo.o w3 fj.cO).cell 1;have l1':w3.cell? ⟨hb,6,none⟩=some (.int .i64 (h2.len:Nat)):=fj.fh.cell 6;have gG:=aa fj;have fC:=aa cL;have Yr:=aa Dq;clear fj cL Dq;go_wp2_with fail;refine bW hK (by exact⟨o1',l1'⟩) fun et=>?_
    clear hK K;refine cS 20 (some 57) et ?_;refine cS 21 (some 78) et ?_;refine cS 22 (some 79) et ?_;refine cS 23 (some 13) et ?_;refine ty 24 ?_;refine bO ?_;by_cases o7:er=0
    ·have Cs:=aa (show(eb,bb,db)=((0:Int),(if ic 0 bs=h2.sum then some bs else none),D')from EX);subst o7;have m3:w3.cell? ⟨hb,7,none⟩=some (.int .u32 (h2.sum:Nat)):=gG.o.fh.cell 7;clear X7 RE;go_wp2_with fail;refine ud (S:=(fun w'=>w'.cell? ⟨hb,7,none⟩=some (.int .u32 (h2.sum:Nat)))) rN fun hHeld=>?_
     refine cS 0 (some 84) hHeld ?_;refine cS 2 (some 86) hHeld ?_;refine cS 3 (some 87) hHeld ?_;refine cS 4 (some 88) hHeld ?_;refine ty 5 ?_;refine cG 1 fun K hK=>?_
     go_simp;refine ag (Cr.qG bs A c w3.drew (fun hn=>Fv) (CY.o w3.drew (gG.o.cO.ak (az (au _ _)))) EZ) ?_;go_wp2_with fail;refine bW hK rN fun sD=>?_
     clear hK K;refine ty 6 ?_;refine bO ?_;by_cases mA:ic 0 bs=h2.sum
     ·have ky:((ic 0 bs:Nat)==(h2.sum:Nat))=true:=by simp[mA]
      have Dj:(((ic 0 bs:Nat):Int)==((h2.sum:Nat):Int))=true:=xe;have HQ:=aa (show(eb,bb,db)=((0:Int),some bs,D')from E3);clear mA Cs;go_wp2_with (first|(refine i' rfl 129 _ rfl hb 4 468 _ (oc h2).toList gG.o.fh rfl (Eb h1 h2) _ cq rfl a8 ?_)|(refine ah rfl 129 _ _ rfl rr 129 _ (oc h2) gG.o.res rfl rfl rfl a8 (cB h2) ?_;intro wz gz eC hsz;have kH:=aa gz;have iw:=aa eC;clear gz eC hsz));refine bodyPost_ret (cW np _ im (aJ 129 kH.o _ cq rfl a8)) rfl ?_;have hR:R=⟨0,h2,bs,1,D'⟩:=by
       exact acm
      exact ab2
     have ky:((ic 0 bs:Nat)==(h2.sum:Nat))=false:=Ff;have Dj:(((ic 0 bs:Nat):Int)==((h2.sum:Nat):Int))=false:=mM;exact acB
    exact acR
   exact acL
end En
end
section
namespace En
theorem sV(there:Bool)(n lo hi:Int)(w:World): Calls af 156 #[.bool there,.int .i64 n,.int .i64 lo,.int .i64 hi] w fun e w'=>e= .returned (.bool (within there n lo hi))∧w'=w:=by
 unfold within;cases there with
 | false=>
  rw[if_neg dR];have h0:(n==0)=decide (n=0):=by rw[Bool.eq_iff_iff];simp
  exact UY
 | true=>
  rw[if_pos rfl];by_cases h1:lo≤n
  ·rw[show decide (lo≤n)=true from xm,Bool.true_and];exact UY
  rw[show decide (lo≤n)=false from xm,Bool.false_and];exact UY
def shV(k:Int): Array Value:=#[.bool (dL k).1,.bool (dL k).2.1,.bool (dL k).2.2.1,.bool (dL k).2.2.2]
theorem oA: (af.info? 266).map (·.size)=some 4:=br
def aio(k:Int)(w:World)(e:Ending)(w':World): Prop:=e= .returned (.tuple #[.agg (shV k),.bool (recKind k)])∧Below w.heap.size w w'
end En
end
section
namespace En
theorem pK: (af.info? 351).map (·.size)=some 24:=br
def LS: Array Value:=#[.bool false,.bool false,.bool false,.bool false,.bool true,.bool true,.bool true,.bool false,.bool true,.bool false,.bool false,.bool false,.bool true,.bool false,.bool false,.bool false,.bool true,.bool true,.bool false,.bool false,.bool false,.bool false,.bool false,.bool true]
theorem agG(k:Int)(w:World): Calls af 155 #[.int .i64 k] w (aio k w):=by
 obtain⟨w1,aZ⟩:=ae (w.alloc (.cells #[.bool false,.bool false,.bool false,.bool false] 266));obtain⟨rb,jI⟩:=ae w.heap.size;have bt:=aK aZ jI;have hb1:=aL aZ;obtain⟨w2,hw2⟩:=ae (w1.alloc (.cells #[.bool false,.bool false,.bool false,.bool false,.bool false,.bool false,.bool false,.bool false,.bool false,.bool false,.bool false,.bool false,.bool false,.bool false,.bool false,.bool false,.bool false,.bool false,.bool false,.bool false,.bool false,.bool false,.bool false,.bool false] 351));obtain⟨tb,htb⟩:=ae w1.heap.size;have pc:=aK hw2 htb;have hb2:=aL hw2;have ia:=bt.ai hb2;have hne: ¬rb=tb:=by have:=bt.lt;omega
 have cu:=aa pc;have iZ:=aa ia;have ie:=aa (av hb1 hb2);have kV:=aa hne;have uZ:=aa (And.intro jI (show w.heap.size≤tb by rw[←htb];exact hb1.size));clear bt hb1 pc hb2 ia hne;by_cases hk:1≤k∧k≤5
 ·have hk5:k=1∨k=2∨k=3∨k=4∨k=5:=by omega
  clear hk;rcases hk5 with rfl|rfl|rfl|rfl|rfl
  ·go_enter Tryz.func155,Tryz.ntmps155;go_wp2_with (first|(refine ah rfl 351 _ _ rfl tb 351 _ LS cu.o rfl rfl rfl pK xC ?_;intro w3 dD hg3 hs3;have T3:aI (· =tb) w2 w3:=(aI.refl _ _).grown hg3 (fun k e=>.inl (cM e).symm);have dN:=T3.arr iZ.o kV.o;have gM:=aa dN;have jF:=aa T3;have pB:=aa dD;have c0:w3.cell? ⟨tb,4,none⟩=some (.bool true):=dD.cell 4;have c1:w3.cell? ⟨tb,5,none⟩=some (.bool true):=dD.cell 5;have c2:w3.cell? ⟨tb,6,none⟩=some (.bool true):=dD.cell 6;have c3:w3.cell? ⟨tb,7,none⟩=some (.bool false):=dD.cell 7;clear dD hg3 hs3 T3 dN)|(refine ah rfl 266 _ _ rfl rb 266 _ #[.bool true,.bool true,.bool true,.bool false] gM.o rfl rfl rfl oA vG ?_;intro w4 mZ hg4 sr;have pA:=aa mZ;have ve:=aa hg4;clear mZ hg4 sr));exact I'
  ·go_enter Tryz.func155,Tryz.ntmps155;go_wp2_with (first|(refine ah rfl 351 _ _ rfl tb 351 _ LS cu.o rfl rfl rfl pK xC ?_;intro w3 dD hg3 hs3;have T3:aI (· =tb) w2 w3:=(aI.refl _ _).grown hg3 (fun k e=>.inl (cM e).symm);have dN:=T3.arr iZ.o kV.o;have gM:=aa dN;have jF:=aa T3;have pB:=aa dD;have c0:w3.cell? ⟨tb,8,none⟩=some (.bool true):=dD.cell 8;have c1:w3.cell? ⟨tb,9,none⟩=some (.bool false):=dD.cell 9;have c2:w3.cell? ⟨tb,10,none⟩=some (.bool false):=dD.cell 10;have c3:w3.cell? ⟨tb,11,none⟩=some (.bool false):=dD.cell 11;clear dD hg3 hs3 T3 dN)|(refine ah rfl 266 _ _ rfl rb 266 _ #[.bool true,.bool false,.bool false,.bool false] gM.o rfl rfl rfl oA vG ?_;intro w4 mZ hg4 sr;have pA:=aa mZ;have ve:=aa hg4;clear mZ hg4 sr));exact I'
  ·go_enter Tryz.func155,Tryz.ntmps155;go_wp2_with (first|(refine ah rfl 351 _ _ rfl tb 351 _ LS cu.o rfl rfl rfl pK xC ?_;intro w3 dD hg3 hs3;have T3:aI (· =tb) w2 w3:=(aI.refl _ _).grown hg3 (fun k e=>.inl (cM e).symm);have dN:=T3.arr iZ.o kV.o;have gM:=aa dN;have jF:=aa T3;have pB:=aa dD;have c0:w3.cell? ⟨tb,12,none⟩=some (.bool true):=dD.cell 12;have c1:w3.cell? ⟨tb,13,none⟩=some (.bool false):=dD.cell 13;have c2:w3.cell? ⟨tb,14,none⟩=some (.bool false):=dD.cell 14;have c3:w3.cell? ⟨tb,15,none⟩=some (.bool false):=dD.cell 15;clear dD hg3 hs3 T3 dN)|(refine ah rfl 266 _ _ rfl rb 266 _ #[.bool true,.bool false,.bool false,.bool false] gM.o rfl rfl rfl oA vG ?_;intro w4 mZ hg4 sr;have pA:=aa mZ;have ve:=aa hg4;clear mZ hg4 sr));exact I'
  ·go_enter Tryz.func155,Tryz.ntmps155;go_wp2_with (first|(refine ah rfl 351 _ _ rfl tb 351 _ LS cu.o rfl rfl rfl pK xC ?_;intro w3 dD hg3 hs3;have T3:aI (· =tb) w2 w3:=(aI.refl _ _).grown hg3 (fun k e=>.inl (cM e).symm);have dN:=T3.arr iZ.o kV.o;have gM:=aa dN;have jF:=aa T3;have pB:=aa dD;have c0:w3.cell? ⟨tb,16,none⟩=some (.bool true):=dD.cell 16;have c1:w3.cell? ⟨tb,17,none⟩=some (.bool true):=dD.cell 17;have c2:w3.cell? ⟨tb,18,none⟩=some (.bool false):=dD.cell 18;have c3:w3.cell? ⟨tb,19,none⟩=some (.bool false):=dD.cell 19;clear dD hg3 hs3 T3 dN)|(refine ah rfl 266 _ _ rfl rb 266 _ #[.bool true,.bool true,.bool false,.bool false] gM.o rfl rfl rfl oA vG ?_;intro w4 mZ hg4 sr;have pA:=aa mZ;have ve:=aa hg4;clear mZ hg4 sr));exact I'
  go_enter Tryz.func155,Tryz.ntmps155;go_wp2_with (first|(refine ah rfl 351 _ _ rfl tb 351 _ LS cu.o rfl rfl rfl pK xC ?_;intro w3 dD hg3 hs3;have T3:aI (· =tb) w2 w3:=(aI.refl _ _).grown hg3 (fun k e=>.inl (cM e).symm);have dN:=T3.arr iZ.o kV.o;have gM:=aa dN;have jF:=aa T3;have pB:=aa dD;have c0:w3.cell? ⟨tb,20,none⟩=some (.bool false):=dD.cell 20;have c1:w3.cell? ⟨tb,21,none⟩=some (.bool false):=dD.cell 21;have c2:w3.cell? ⟨tb,22,none⟩=some (.bool false):=dD.cell 22;have c3:w3.cell? ⟨tb,23,none⟩=some (.bool true):=dD.cell 23;clear dD hg3 hs3 T3 dN)|(refine ah rfl 266 _ _ rfl rb 266 _ #[.bool false,.bool false,.bool false,.bool true] gM.o rfl rfl rfl oA vG ?_;intro w4 mZ hg4 sr;have pA:=aa mZ;have ve:=aa hg4;clear mZ hg4 sr));exact I'
 have HKK:=aa (show shV k= #[.bool false,.bool false,.bool false,.bool false]∧recKind k=false from⟨by unfold shV dL;rw[if_neg aj,if_neg aj,if_neg aj,if_neg aj,if_neg aj],Ug⟩);by_cases h1:k<1
 ·have q1:decide (k<1)=true:=decide_eq_true h1;exact acO
 have q1:decide (k<1)=false:=decide_eq_false h1;have q2:decide (6≤k)=true:=zU;have h2:6≤k:=aj;exact acO
end En
end
section
namespace En
theorem Bx{k:Int}{a1 a2 a3 a4 ok:Bool}(h:dL k=(a1,a2,a3,a4))(hk:recKind k=ok)(w:World): Calls af 155 #[.int .i64 k] w fun e w'=>e= .returned (.tuple #[.agg #[.bool a1,.bool a2,.bool a3,.bool a4],.bool ok])∧Below w.heap.size w w':=by
 refine(agG k w).mono ?_;rintro e w' ⟨rfl,hb⟩;refine⟨?_,hb⟩;unfold shV;rw[h,hk]
def fA(r:Rec): Array Value:=#[.int .i64 r.ay,.int .u32 r.id,.int .i64 r.aw,.int .i64 r.aS,.int .i64 r.aq]
def PE(r:Rec)(w:World)(e:Ending)(w':World): Prop:=e= .returned (.int .i64 (if r.ok=true then 0 else 160))∧Below w.heap.size w w'
theorem fU(r:Rec)(w:World)(hid:0≤r.id∧r.id<4294967296): Calls af 68 #[.agg (fA r)] w (PE r w):=by
 obtain⟨k,id,aw,aS,aq⟩:=r;obtain⟨a1,a2,a3,a4,hh⟩: ∃ a1 a2 a3 a4,dL k=(a1,a2,a3,a4):=⟨_,_,_,_,rfl⟩;obtain⟨ok,fq⟩:=ae (recKind k);obtain⟨v1,h1⟩:=ae (within a1 id 1 4294967295);obtain⟨v2,h2⟩:=ae (within a2 aw 0 1023);obtain⟨v3,h3⟩:=ae (within a3 aS 1 1099511627776);obtain⟨v4,h4⟩:=ae (within a4 aq 1 1099511627776);have HE:=aa (show(⟨k,id,aw,aS,aq⟩:Rec).ok=(ok && v1 && v2 && v3 && v4)by unfold Rec.ok;simp only;rw[hh,fq,←h1,←h2,←h3,←h4]);have HO:=aa (fun W=>Bx hh fq W);have W1:=aa (show ∀ W,Calls af 156 #[.bool a1,.int .i64 id,.int .i64 1,.int .i64 4294967295] W fun e w'=>e= .returned (.bool v1)∧w'=W from fun W=>h1▸sV a1 id 1 4294967295 W);have W2:=aa (show ∀ W,Calls af 156 #[.bool a2,.int .i64 aw,.int .i64 0,.int .i64 1023] W fun e w'=>e= .returned (.bool v2)∧w'=W from fun W=>h2▸sV a2 aw 0 1023 W);have W3:=aa (show ∀ W,Calls af 156 #[.bool a3,.int .i64 aS,.int .i64 1,.int .i64 1099511627776] W fun e w'=>e= .returned (.bool v3)∧w'=W from fun W=>h3▸sV a3 aS 1 1099511627776 W);have W4:=aa (show ∀ W,Calls af 156 #[.bool a4,.int .i64 aq,.int .i64 1,.int .i64 1099511627776] W fun e w'=>e= .returned (.bool v4)∧w'=W from fun W=>h4▸sV a4 aq 1 1099511627776 W);have hwi:IntKind.i64.wrap id=id:=by rw[IntKind.wrap_i64];simp only at hid;omega
 dsimp only[fA];obtain⟨w1,aZ⟩:=ae (w.alloc (.cells #[.int .i64 k,.int .u32 id,.int .i64 aw,.int .i64 aS,.int .i64 aq] 58));obtain⟨rb,jI⟩:=ae w.heap.size;have bt:=aK aZ jI;have hb1:=aL aZ;have x0:=bt.cl 0;have dz:=aa bt;have bz:=aa hb1;have uZ:=aa jI;clear hh fq h1 h2 h3 h4 bt hb1;cases ok
 case false=>
  go_enter Tryz.func68,Tryz.ntmps68;go_wp2_with fail;refine(HO.o _).mono ?_;rintro e w2 ⟨rfl,hb2⟩;obtain⟨w3,hw3⟩:=ae (w2.alloc (.cells #[.bool a1,.bool a2,.bool a3,.bool a4] 266));obtain⟨sb,ky⟩:=ae w2.heap.size;have dD:=aK hw3 ky;have hb3:=dU hb2 hw3;have dN:=dz.o.ai hb3;have s0:=dD.cl 0;have s1:=dD.cl 1;have s2:=dD.cl 2;have s3:=dD.cl 3;have r1:=dN.cl 1;have r2:=dN.cl 2;have r3:=dN.cl 3;have r4:=dN.cl 4;have dV:=bz.dP hb3;clear dD hb2 hb3 dN;go_wp2_with fail;go_ret;exact⟨oW,IG⟩
 case true=>
  cases v1
  case false=>
   go_enter Tryz.func68,Tryz.ntmps68;go_wp2_with fail;refine(HO.o _).mono ?_;rintro e w2 ⟨rfl,hb2⟩;obtain⟨w3,hw3⟩:=ae (w2.alloc (.cells #[.bool a1,.bool a2,.bool a3,.bool a4] 266));obtain⟨sb,ky⟩:=ae w2.heap.size;have dD:=aK hw3 ky;have hb3:=dU hb2 hw3;have dN:=dz.o.ai hb3;have s0:=dD.cl 0;have s1:=dD.cl 1;have s2:=dD.cl 2;have s3:=dD.cl 3;have r1:=dN.cl 1;have r2:=dN.cl 2;have r3:=dN.cl 3;have r4:=dN.cl 4;have dV:=bz.dP hb3;clear dD hb2 hb3 dN;go_wp2_with fail;refine ag (W1.o _) ?_;go_wp2_with fail;go_ret;exact⟨oW,IG⟩
  case true=>
   cases v2
   case false=>
    go_enter Tryz.func68,Tryz.ntmps68;go_wp2_with fail;refine(HO.o _).mono ?_;rintro e w2 ⟨rfl,hb2⟩;obtain⟨w3,hw3⟩:=ae (w2.alloc (.cells #[.bool a1,.bool a2,.bool a3,.bool a4] 266));obtain⟨sb,ky⟩:=ae w2.heap.size;have dD:=aK hw3 ky;have hb3:=dU hb2 hw3;have dN:=dz.o.ai hb3;have s0:=dD.cl 0;have s1:=dD.cl 1;have s2:=dD.cl 2;have s3:=dD.cl 3;have r1:=dN.cl 1;have r2:=dN.cl 2;have r3:=dN.cl 3;have r4:=dN.cl 4;have dV:=bz.dP hb3;clear dD hb2 hb3 dN;go_wp2_with fail;refine ag (W1.o _) ?_;go_wp2_with fail;refine ag (W2.o _) ?_;go_wp2_with fail;go_ret;exact⟨oW,IG⟩
   case true=>
    cases v3
    case false=>
     go_enter Tryz.func68,Tryz.ntmps68;go_wp2_with fail;refine(HO.o _).mono ?_;rintro e w2 ⟨rfl,hb2⟩;obtain⟨w3,hw3⟩:=ae (w2.alloc (.cells #[.bool a1,.bool a2,.bool a3,.bool a4] 266));obtain⟨sb,ky⟩:=ae w2.heap.size;have dD:=aK hw3 ky;have hb3:=dU hb2 hw3;have dN:=dz.o.ai hb3;have s0:=dD.cl 0;have s1:=dD.cl 1;have s2:=dD.cl 2;have s3:=dD.cl 3;have r1:=dN.cl 1;have r2:=dN.cl 2;have r3:=dN.cl 3;have r4:=dN.cl 4;have dV:=bz.dP hb3;clear dD hb2 hb3 dN;go_wp2_with fail;refine ag (W1.o _) ?_;go_wp2_with fail;refine ag (W2.o _) ?_;go_wp2_with fail;refine ag (W3.o _) ?_;go_wp2_with fail;go_ret;exact⟨oW,IG⟩
    case true=>
     cases v4
     case false=>
      exact acS
     case true=>
      exact acS
end En
end
section
namespace En
def O9(b:Bool)(n:Nat): Nat:=if b=true then n else 0
def mr(a1 a2 a3 a4:Bool): Nat→Nat
 | 0=>1
 | 1=>1+O9 a1 4
 | 2=>1+O9 a1 4+O9 a2 2
 | 3=>1+O9 a1 4+O9 a2 2+O9 a3 8
 | _=>1+O9 a1 4+O9 a2 2+O9 a3 8+O9 a4 8
theorem Qk(a1 a2 a3 a4:Bool)(i:Nat): mr a1 a2 a3 a4 i≤23:=by
 have h: ∀ b n,O9 b n≤n:=fun b n=>by unfold O9;split <;>omega
 have h1:=h a1 4;have h2:=h a2 2;have h3:=h a3 8;have h4:=h a4 8;unfold mr;split <;>omega
theorem ix0(a1 a2 a3 a4:Bool)(W:World): (mI 501 (.agg #[.bool a1,.int .i64 4,.bool a2,.int .i64 2,.bool a3,.int .i64 8,.bool a4,.int .i64 8]) (.int .i64 0)).run af W= .ok (.agg #[.bool a1,.int .i64 4]) W:=br
theorem ix1(a1 a2 a3 a4:Bool)(W:World): (mI 501 (.agg #[.bool a1,.int .i64 4,.bool a2,.int .i64 2,.bool a3,.int .i64 8,.bool a4,.int .i64 8]) (.int .i64 1)).run af W= .ok (.agg #[.bool a2,.int .i64 2]) W:=br
theorem ix2(a1 a2 a3 a4:Bool)(W:World): (mI 501 (.agg #[.bool a1,.int .i64 4,.bool a2,.int .i64 2,.bool a3,.int .i64 8,.bool a4,.int .i64 8]) (.int .i64 2)).run af W= .ok (.agg #[.bool a3,.int .i64 8]) W:=br
theorem ix3(a1 a2 a3 a4:Bool)(W:World): (mI 501 (.agg #[.bool a1,.int .i64 4,.bool a2,.int .i64 2,.bool a3,.int .i64 8,.bool a4,.int .i64 8]) (.int .i64 3)).run af W= .ok (.agg #[.bool a4,.int .i64 8]) W:=br
theorem Ql(a1 a2 a3 a4:Bool)(w:World): Calls af 376 #[.agg #[.bool a1,.bool a2,.bool a3,.bool a4]] w fun e w'=>e= .returned (.int .i64 (mr a1 a2 a3 a4 4:Nat))∧Below w.heap.size w w':=by
 obtain⟨w1,aZ⟩:=ae (w.alloc (.cells #[.bool a1,.bool a2,.bool a3,.bool a4] 266));have hb1:=aL aZ;have bt:aG w1 w.heap.size 266 #[.bool a1,.bool a2,.bool a3,.bool a4]:=by rw[←aZ];exact aG.fresh w _ _
 have s0:w1.cell? ⟨w.heap.size,0,none⟩=some (.bool a1):=bt.cell 0;have s1:w1.cell? ⟨w.heap.size,1,none⟩=some (.bool a2):=bt.cell 1;have s2:w1.cell? ⟨w.heap.size,2,none⟩=some (.bool a3):=bt.cell 2;have s3:w1.cell? ⟨w.heap.size,3,none⟩=some (.bool a4):=bt.cell 3;have bz:=aa hb1;have hsz:=Qk a1 a2 a3 a4;have mi:=aa hsz;clear hb1 bt hsz;go_enter Tryz.func376,Tryz.ntmps376;go_wp2_with fail;go_loopw [3,19] (fun nv iv wr=>∃ i:Nat,i≤4∧nv= .int .i64 (mr a1 a2 a3 a4 i:Nat)∧iv= .int .i64 i∧Below w.heap.size w wr) (fun _ iv _=>(4 - intOf iv).toNat)
 case atStart=>exact⟨0,aj,rfl,rfl,bz.o⟩
 case round=>
  obtain⟨i,hi,rfl,rfl,hb⟩:=hrel;have HB:=aa hb;clear hb s0 s1 s2 s3 bz;have hs1:=mi.o i;rcases(show i=0∨i=1∨i=2∨i=3∨i=4 from aj)with rfl|rfl|rfl|rfl|rfl
  ·have KI:=ix0 a1 a2 a3 a4;obtain⟨m,hm⟩:=ae (mr a1 a2 a3 a4 0);rw[hm] at hs1 ⊢;have HM:=aa hm;clear hm;push_cast;obtain⟨c,hc⟩:=ae a1;have HC:=aa hc;cases c
   ·rw[hc] at KI ⊢;exact VB
   rw[hc] at KI ⊢;exact VB
  ·have KI:=ix1 a1 a2 a3 a4;obtain⟨m,hm⟩:=ae (mr a1 a2 a3 a4 1);rw[hm] at hs1 ⊢;have HM:=aa hm;clear hm;push_cast;obtain⟨c,hc⟩:=ae a2;have HC:=aa hc;cases c
   ·rw[hc] at KI ⊢;exact Vz
   rw[hc] at KI ⊢;exact Vz
  ·have KI:=ix2 a1 a2 a3 a4;obtain⟨m,hm⟩:=ae (mr a1 a2 a3 a4 2);rw[hm] at hs1 ⊢;have HM:=aa hm;clear hm;push_cast;obtain⟨c,hc⟩:=ae a3;have HC:=aa hc;cases c
   ·rw[hc] at KI ⊢;exact Vy
   rw[hc] at KI ⊢;exact Vy
  ·have KI:=ix3 a1 a2 a3 a4;obtain⟨m,hm⟩:=ae (mr a1 a2 a3 a4 3);rw[hm] at hs1 ⊢;have HM:=aa hm;clear hm;push_cast;obtain⟨c,hc⟩:=ae a4;have HC:=aa hc;cases c
   ·rw[hc] at KI ⊢;exact Vx
   rw[hc] at KI ⊢;exact Vx
  have hq: ¬((4:Nat):Int)<4:=aj;go_wp2_with fail;go_ret;exact⟨rfl,HB.o⟩
