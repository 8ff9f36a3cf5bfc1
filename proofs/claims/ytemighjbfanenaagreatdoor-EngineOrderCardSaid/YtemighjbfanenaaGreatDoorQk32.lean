import Derived.Test.YtemighjbfanenaaGreatDoorQk24
set_option linter.all false
set_option maxRecDepth 100000
set_option maxHeartbeats 16000000
namespace Go.Proofs.YtemighjbfanenaaGreatDoor
open RowKit
open Oc (Bs le qV val)
open Eg (ia jv jF LR)
open Bk (nY Kg fL adF yh ZH)
open Go.AllReadyH renaming cons→pw
open Go.Proofs.Tryz renaming prog→af
open Go.Value renaming oneCell'→fY
open List renaming length_append→bZ
open Nat renaming zero_add→gV,le_trans→aV
open RowKit.Below renaming refl→ar
theorem yV{p:Prop}(h:p:=by
 refine cJ 18 fun K hK=>?_
 refine cW 58 _ _ rfl xa 58 _ (fA X) jN.o rfl rfl rfl bH SP ?_;intro v5 dG hg gJ;have jI:=B7.o;have adu:=aa (show bD aB v5 e q wt es from mR.o.grown hg jI HN.o);have adn:=aa (show aG v5 xq 41 (cS rq)from nW.o.bz hg (fun e=>ago));have aiD:=aa (show aI (fun k=>aB k≠0) w v5 from vy oQ.o hg jI);have abc:=aa (jM.o.bz hg (fun e=>agq));have abe:=aa dG;clear dG hg gJ jI;refine bW hK agm fun hh5=>?_
 clear hK K;refine cJ 19 fun K hK=>?_
 refine cW 108 _ _ rfl xp 108 _ (lf Y) abc.o rfl rfl rfl aS vu ?_;intro v6 dG hg gJ;have jI:=B6.o;have adt:=aa (show bD aB v6 e q wt es from adu.o.grown hg jI HN.o);have adm:=aa (show aG v6 xq 41 (cS rq)from adn.o.bz hg (fun e=>agn));have aiC:=aa (show aI (fun k=>aB k≠0) w v6 from vy aiD.o hg jI);have abd:=aa (abe.o.bz hg (fun e=>agq));have abb:=aa dG;clear dG hg gJ jI;refine bW hK agl fun Kn=>?_
 clear hK K;refine tJ 20 21 ?_;refine bM ?_;go_wp2_with fail;go_meet;exact⟨rfl,xa,xp,rfl,rfl,abd.o,abb.o,adm.o,adt.o,aiC.o,B7.o,B6.o,tj.o.1⟩):p:=h
theorem acJ{p:Prop}(h:p:=by
 refine bW hK (by exact HSP.o _ De.o) fun Kn=>?_
 clear hK K;refine cJ 7 fun K hK=>?_
 refine fu _ (.tmp 61) (.tmp 63) 65 rfl 108 j0 (.agg #[.int .u32 0,.int .i64 0,.int .i64 0,.int .u32 0,.int .i64 0,.int .i64 0,.int .i64 0]) 7 56 Tryz.underlying65 hj hz0 hz1 hz2 rfl aM (.slice A n cp) n _ rfl qG.o ⟨wd.heap.size,0,none⟩ 1 [.int .u32 Y.tag,.int .i64 Y.ax,.int .i64 Y.err,.int .u32 Y.id,.int .i64 Y.aw,.int .i64 Y.aR,.int .i64 Y.count] rfl rfl Zj.o SU (by have:=HNL.o;unfold maxLen;omega) (by have:=HNL.o;omega) ?_;intro ga ca w6 Cy kr;have h9:=Ye.o.waited (x:=Y) (v:=.slice (some ⟨ga,0,none⟩) (n+1) ca) (w6:=w6) aee kr;have O':=aa (show bD (grow Dz v5 w6 4) (w6.setCell ⟨e,5,none⟩ (.slice (some ⟨ga,0,none⟩) (n+1) ca)) e q (.slice (some ⟨ga,0,none⟩) (n+1) ca) {Jw with aD:=Jw.aD++ [Y]}∧aI (fun k=>Dz k=4∨k=e) v5 (w6.setCell ⟨e,5,none⟩ (.slice (some ⟨ga,0,none⟩) (n+1) ca))from⟨h9.1,h9.2.1⟩);have x5:w6.cell? ⟨e,5,none⟩=some (.slice A n cp):=h9.2.2.1;have m5:w6.frozen? ⟨e,5,none⟩=false:=h9.2.2.2;have MU:=aa (De.o.bz kr (fun c=>aeb));have HZ6:=aa (show v5.heap.size≤w6.heap.size from kr.size);clear h9 Cy kr;refine bW hK (by exact HSP.o _ MU.o) fun hh7=>?_
 clear hK K;refine tJ 8 9 ?_;refine cJ 10 fun K hK=>?_
 go_simp;go_wp2_with fail;refine bW hK agk fun amm=>?_
 clear hK K;refine bM ?_;go_wp2_with fail;go_meet;exact⟨rfl,R7.o _ _ _ O'.o.1 O'.o.2 HZ6.o pz.o⟩):p:=h
theorem agq{p:Prop}(h:p:=by injection e with e;have:=jL.o;omega):p:=h
theorem yw{p:Prop}(h:p:=by have:=(HN.o _ B7.o).1;rw[this] at c;exact absurd c (by decide)):p:=h
theorem yu{p:Prop}(h:p:=by have:=(HN.o _ B6.o).1;rw[this] at c;exact absurd c (by decide)):p:=h
theorem ago{p:Prop}(h:p:=by injection e with e;have:=qE.o;omega):p:=h
theorem agn{p:Prop}(h:p:=by injection e with e;have:=qD.o;omega):p:=h
theorem qQ{p:Prop}(h:p:=by exact fX.o _ mR.o nW.o):p:=h
theorem agm{p:Prop}(h:p:=by exact fX.o _ adu.o adn.o):p:=h
theorem agl{p:Prop}(h:p:=by exact fX.o _ adt.o adm.o):p:=h
theorem agk{p:Prop}(h:p:=by exact HSP.o _ (MU.o.other (p:=⟨e,5,none⟩) (fun c=>by have c2:xp=e:=c;have h3:=Ye.o.rest.r5;rw[←c2,HX4.o] at h3;exact absurd h3 (by decide)) _)):p:=h
theorem aee{p:Prop}(h:p:=by have h1:=Cy;have h2:=Ix Jw.aD Y;rw[Pj.o] at h2;rw[←h2,bZ,Pj.o];exact h1):p:=h
theorem ajU{p:Prop}(h:p:=by have c2:xp=e:=c;have h3:=Ye.o.rest.r5;rw[←c2,HX4.o] at h3;exact absurd h3 (by decide)):p:=h
theorem ux{p:Prop}(h:p:=by have:=gi.o.lt;omega):p:=h
theorem aeb{p:Prop}(h:p:=by have h3:=Ye.o.aD.block xp c;rw[HX4.o] at h3;exact absurd h3 (by decide)):p:=h
theorem xg{p:Prop}(h:p:=by have:=fH.o.lt;omega):p:=h
theorem Ts{p:Prop}(h:p:=by have Hb:aB k=1:=hk;rw[Hb];exact⟨by decide,by decide⟩):p:=h
theorem Tf{p:Prop}(h:p:=by have Hb:aB k=1:=hk;show aB k≠0;rw[Hb];decide):p:=h
theorem K3{p:Prop}(h:p:=by rw[←iZ];exact eY.o.size):p:=h
theorem K2{p:Prop}(h:p:=by rw[←mF];exact eX.o.size):p:=h
theorem K1{p:Prop}(h:p:=by rw[←mF];exact eY.o.size):p:=h
theorem K0{p:Prop}(h:p:=by rw[←iZ];exact eX.o.size):p:=h
theorem KT{p:Prop}(h:p:=by have:=fz.o.lt;omega):p:=h
theorem KS{p:Prop}(h:p:=by have:=fy.o.lt;omega):p:=h
section
namespace En
theorem _root_.Go.Proofs.YtemighjbfanenaaGreatDoor.Bk.ae6(a b c:Int)(W:World): (Instr.field 80 (.agg #[.int .i64 a,.int .i64 b,.int .i64 c]) 2).run af W= .ok (.int .i64 c) W:=bh
section
variable {aB:Nat→Nat}{w w':World}{e:Nat}{q:rB}{wt:Value}{es:Es}
theorem di.aej{w0:World}(h:di aB w e q es)(hlt: ∀ k,aB k≠0→k<w0.heap.size)(hz:w0.heap.size≤w.heap.size)(hc:1<w0.heap.size∧0<w0.heap.size): di (grow aB w0 w 4) w e q es:=by
 have o: ∀ {k r:Nat},aB k=r→r≠0→grow aB w0 w 4 k=r:=fun hk hr=>(dH (hlt _ (by rw[hk];exact hr))).trans hk
 refine⟨h.does,?_,?_,?_,h.slots,o h.r5 aM,o h.r6 aM,⟨o h.r7.1 aM,o h.r7.2.1 aM,o h.r7.2.2 aM⟩,zz hlt hz,h.ij,h.rep,⟨(dH hc.1).trans h.kW.1,(dH hc.2).trans h.kW.2⟩⟩
 ·rw[gP hlt aM aM];exact h.log
 ·rw[gP hlt aM aM];exact h.dev
 rw[gP hlt aM aM];exact h.book
theorem bD.waited(h:bD aB w e q wt es){w6:World}{v:Value}{x:Rp}(hr:aP (fun k=>aB k=4∨k=w.heap.size) w6 108 7 v (es.aD++ [x]).length (yU (es.aD++ [x])))(hg:w.grownBy w6 wt.ownBlock):
  bD (grow aB w w6 4) (w6.setCell ⟨e,5,none⟩ v) e q v {es with aD:=es.aD++ [x]}∧aI (fun k=>aB k=4∨k=e) w (w6.setCell ⟨e,5,none⟩ v)∧w6.cell? ⟨e,5,none⟩=some wt∧w6.frozen? ⟨e,5,none⟩=false:=by
 have ht:aI (fun k=>aB k=4) w w6:=(aI.refl (fun k=>aB k=4) w).grown hg (fun k hk=>.inl (h.aD.block k hk));have hz:=ht.size;have hne: ¬aB e=4:=by rw[h.rest.r5];decide
 have ho:ia w6 e es.up (some ⟨q.lq,0,none⟩) (some ⟨q.sl,0,none⟩) (some ⟨q.bk,0,none⟩) wt (.map (some q.mb)):=ht.arr h.own hne;have hR:=h.rest.cR (w':=w6) (ht.mono fun k _ hk=>.inl hk);have qp:=hR.aej h.rest.lt hz ⟨h.rest.ij.lt,h.rest.rep.lt⟩;have h5:(grow aB w w6 4) e=5:=qp.r5;have hr2:aP (fun k=>grow aB w w6 4 k=4) w6 108 7 v (es.aD++ [x]).length (yU (es.aD++ [x])):=hr.mono fun k hk hl=>by
  rcases hk with hk|hk
  ·exact nt h.rest.lt k hk
  unfold grow;rw[if_neg ai,if_pos hl]
 refine⟨⟨(qp.agw (aI.at w6 e 5 _)).as rfl rfl rfl rfl rfl,aG.put ho 5 _,hr2.put (q:=⟨e,5,none⟩) (fun g hg c=>?_) _⟩,(ht.mono fun k _ hk=>.inl hk).put (p:=⟨e,5,none⟩) (.inl (.inr rfl)) _,ho.cell 5,ho.mark 5⟩;have c':e=g:=c;have:=hr2.block g hg;rw[←c',h5] at this;exact absurd this aM
theorem bD.Qh(h:bD aB w e q wt es): Calls af 96 #[.pointer (some ⟨q.lq,0,none⟩)] w fun en w'=>en= .returned (.int .i64 es.bj)∧Below w.heap.size w w':=by
 obtain⟨v,hv⟩:=h.rest.log;refine(vZ hv).mono ?_;rintro en w' ⟨rfl,hb⟩;refine⟨?_,hb⟩;have:=hv.fit;unfold Es.bj;congr 3;omega
def af6(S:Nat→Prop)(b:Nat)(bk:dI)(X:Rec)(Y:Rp)(ok:Bool)(w:World)(e:Ending)(w':World): Prop:=e= .returned (.tuple #[.agg (fA X),.agg (lf Y),.bool ok,.int .i64 0])∧fL S w' b bk∧aI S w w'
theorem JA(S:Nat→Prop)(b:Nat)(bk:dI)(bj:Int)(rq:Rq)(hb:bk.Ok)(hq:rq.Good)(C1:zb rq)(hc:bt rq.ax=true):
  ∃ (X:Rec) (Y:Rp) (ok:Bool),(∀ W,fL S W b bk→Calls af 216 #[.pointer (some ⟨b,0,none⟩),.int .i64 bj,.agg (cS rq)] W (af6 S b bk X Y ok W))∧
   ((bF bk bj rq=0∧X=bC bk rq∧Y=bN rq (bC bk rq)∧ok=true)∨(bF bk bj rq≠0∧X=ZH∧Y=cf rq (bF bk bj rq)∧ok=false)):=by
 by_cases c:bF bk bj rq=0
 ·refine⟨bC bk rq,bN rq (bC bk rq),true,fun W hW=>(yh S W b bk bj rq hW hb hq C1 hc).mono ?_,.inl ⟨c,rfl,rfl,rfl⟩⟩;rintro e w' ⟨rfl,h1,h2⟩;exact⟨by rw[if_pos c],h1,h2⟩
 ·refine⟨ZH,cf rq (bF bk bj rq),false,fun W hW=>(yh S W b bk bj rq hW hb hq C1 hc).mono ?_,.inr ⟨c,rfl,rfl,rfl⟩⟩;rintro e w' ⟨rfl,h1,h2⟩;exact⟨by rw[if_neg c],h1,h2⟩
def ajE(aB:Nat→Nat)(w:World)(e:Nat)(q:rB)(wt:Value)(es:Es)(rq:Rq)(xq:Nat)(X:Rec)(Y:Rp)(s5 s6:Value)(wc:World): Prop:=
 ∃ xa xp,s5= .pointer (some ⟨xa,0,none⟩)∧s6= .pointer (some ⟨xp,0,none⟩)∧aG wc xa 58 (fA X)∧aG wc xp 108 (lf Y)∧aG wc xq 41 (cS rq)∧bD aB wc e q wt es∧aI (fun k=>aB k≠0) w wc∧w.heap.size≤xa∧w.heap.size≤xp∧w.heap.size≤xq
theorem xW(h:bD aB w e q wt es)(rq:Rq)(hb:es.bk.Ok)(hq:rq.Good)(C1:zb rq)(hc:bt rq.ax=true)(hn:es.aD.length≤1000)(hr:es.dev.dk.row.length+es.log.aD.length+54≤1000000)(hs:1≤es.dev.dk.size):
  Calls af 101 #[.pointer (some ⟨e,0,none⟩),.agg (cS rq)] w (eZ aB e q (es.change rq).1 (es.change rq).2 w):=by
 obtain⟨xq,il⟩:=ae w.heap.size;obtain⟨w1,a8⟩:=ae (w.alloc (.cells (cS rq) 41));have bA:=aa (aK a8);have vo:=aa (aJ a8 il);have vp:=aa (h.ak bA.o);have HN:=aa h.news;have tj:=aa (show w.heap.size≤xq∧xq<w1.heap.size from⟨ai,vo.o.lt⟩);have MQ:=aa (show ∀ W,bD aB W e q wt es→_ from fun W hW=>hW.Qh);obtain⟨X,Y,ok,hdc,hdd⟩:=JA (fun k=>aB k=3) q.bk es.bk es.bj rq hb hq C1 hc;have RA:=aa hdc;have Yg:=aa hdd;have pg:=aa hb;have HGO:=aa hq;have HCH:=aa hc;have HNN:=aa hn;have uj:=aa hr;have Rk:=aa hs;obtain⟨bj,hroom⟩:=ae es.bj;have HRO:=aa hroom;rw[hroom] at MQ RA;clear h hb hq C1 hc hdd hdc hroom hn hr hs;go_enter Tryz.func101,Tryz.ntmps101;go_upto_region 1 with fail
 clear a8 il;go_cut [5,6,7,8] from 13 to 28 (fun s5 s6 s7 s8 wc=>s7= .bool ok∧ajE aB w e q wt es rq xq X Y s5 s6 wc)
 case first=>
  have fX:=aa (show ∀ W,bD aB W e q wt es→aG W xq 41 (cS rq)→(W.cell? ⟨e,4,none⟩=some (.pointer (some ⟨q.bk,0,none⟩))∧W.cell? ⟨e,2,none⟩=some (.pointer (some ⟨q.lq,0,none⟩))∧W.rangeAt xq 0 (cS rq).toList)from fun W hE hQ=>⟨hE.own.cell 4,hE.own.cell 2,fun j u hj=>by rw[gV,hQ.cell j];simpa using hj⟩);obtain⟨wd,hwd⟩:=ae w1.drew;have gO:Below w1.heap.size w1 wd:=mU;have mm:=aa (vp.o.ak gO);have kJ:=vo.jC gO;have ko:=aa (show aI (fun k=>aB k≠0) w wd from aI.aW (av bA.o gO));clear gO;refine wp_region_held_drew (S:=(fun W=>W.cell? ⟨e,4,none⟩=some (.pointer (some ⟨q.bk,0,none⟩))∧W.cell? ⟨e,2,none⟩=some (.pointer (some ⟨q.lq,0,none⟩))∧W.rangeAt xq 0 (cS rq).toList)) bh (by rw[hwd];exact fX.o _ mm.o kJ.o) (fun hHeld=>?_);rw[hwd] at hHeld ⊢;clear hwd vp vo;refine ov 0 1 2 3 4 5 6 7 ?_;refine fc 9 (some 23) hHeld 41 (.tmp 3) xq 0 (cS rq).toList _ (fun w' h=>h.2.2) Tryz.underlying41 rfl aH ?_;try simp only[aZ]
  refine wpAnyH_ready (rs:=[8,16,17]) bh dM ?_;refine pw rfl (fun K hK=>?_) (pw rfl (fun K hK=>?_) (pw rfl (fun K hK=>?_) (AllReadyH.nil)))
  ·go_simp;refine(MQ.o _ mm.o).mono ?_;rintro en v1 ⟨rfl,hb⟩;have iV:=aa (show bD aB v1 e q wt es from mm.o.ak hb);have lj:=aa (show aG v1 xq 41 (cS rq)from kJ.o.ah hb);have iE:=aa (show aI (fun k=>aB k≠0) w v1 from ko.o.ak hb);clear hb;go_wp2_with fail;refine bW hK AG fun hh1=>?_
   clear hK K;refine wpAnyH_ready (rs:=[10,16,17]) bh dM ?_;refine pw rfl (fun K hK=>?_) (pw rfl (fun K hK=>?_) (pw rfl (fun K hK=>?_) (AllReadyH.nil)))
   ·go_simp;refine(RA.o _ iV.o.rest.book).mono ?_;rintro en v2 ⟨rfl,cL,ht⟩;have eH:=aa (iV.o.asked cL ht);have gi:=aa (ht.arr lj.o (fun c=>wR));have eY:=aa (iE.o.trans (ht.mono fun k _ hk=>oA));clear cL ht;go_wp2_with fail;refine bW hK vt fun QO=>?_
    clear hK K;refine lA 11 12 13 14 ?_;refine ty 15 ?_;refine qh 16 17 (fun K hK=>?_) fun K hK=>?_
    ·obtain⟨v3,hv3⟩:=ae (v2.alloc (.cells #[.int .i64 0,.int .u32 0,.int .i64 0,.int .i64 0,.int .i64 0] 58));obtain⟨xa,iZ⟩:=ae v2.heap.size;have hb:Below v2.heap.size v2 v3:=by rw[←hv3];exact ay (ar _ _) _
     have dY:=aa (show bD aB v3 e q wt es from eH.o.ak hb);have fH:=aa (show aG v3 xq 41 (cS rq)from gi.o.ah hb);have eX:=aa (show aI (fun k=>aB k≠0) w v3 from eY.o.ak hb);have fz:=aa (show aG v3 xa 58 #[.int .i64 0,.int .u32 0,.int .i64 0,.int .i64 0,.int .i64 0] by rw[←hv3,←iZ];exact aG.fresh v2 _ _);have B7:=aa (show w.heap.size≤xa from K3);have qE:=aa (show xq<xa from ux);clear hb;go_simp;go_wp2_with fail;try rw[hv3]
     try rw[iZ]
     clear hv3 iZ;refine bW hK pH fun Ko=>?_
     clear hK K;refine cJ 17 fun K hK=>?_
     obtain⟨v4,hv4⟩:=ae (v3.alloc (.cells #[.int .u32 0,.int .i64 0,.int .i64 0,.int .u32 0,.int .i64 0,.int .i64 0,.int .i64 0] 108));obtain⟨xp,mF⟩:=ae v3.heap.size;have hb:=aK hv4;have mR:=aa (show bD aB v4 e q wt es from dY.o.ak hb);have nW:=aa (show aG v4 xq 41 (cS rq)from fH.o.ah hb);have oQ:=aa (show aI (fun k=>aB k≠0) w v4 from eX.o.ak hb);have jN:=aa (show aG v4 xa 58 #[.int .i64 0,.int .u32 0,.int .i64 0,.int .i64 0,.int .i64 0] from fz.o.ah hb);have jM:=aa (aJ hv4 mF);have B6:=aa (show w.heap.size≤xp from K2);have qD:=aa (show xq<xp from xg);have jL:=aa (show xa≠xp from KT);clear hb;go_simp;go_wp2_with fail;try rw[hv4]
     try rw[mF]
     clear hv4 mF;refine bW hK qQ fun QN=>?_
     clear hK K;exact yV
    obtain⟨v3,hv3⟩:=ae (v2.alloc (.cells #[.int .u32 0,.int .i64 0,.int .i64 0,.int .u32 0,.int .i64 0,.int .i64 0,.int .i64 0] 108));obtain⟨xp,mF⟩:=ae v2.heap.size;have hb:=aK hv3;have dY:=aa (show bD aB v3 e q wt es from eH.o.ak hb);have fH:=aa (show aG v3 xq 41 (cS rq)from gi.o.ah hb);have eX:=aa (show aI (fun k=>aB k≠0) w v3 from eY.o.ak hb);have fy:=aa (aJ hv3 mF);have B6:=aa (show w.heap.size≤xp from K1);have qD:=aa (show xq<xp from ux);clear hb;go_simp;go_wp2_with fail;try rw[hv3]
    try rw[mF]
    clear hv3 mF;refine bW hK pH fun Ko=>?_
    clear hK K;refine cJ 16 fun K hK=>?_
    obtain⟨v4,hv4⟩:=ae (v3.alloc (.cells #[.int .i64 0,.int .u32 0,.int .i64 0,.int .i64 0,.int .i64 0] 58));obtain⟨xa,iZ⟩:=ae v3.heap.size;have hb:=aK hv4;have mR:=aa (show bD aB v4 e q wt es from dY.o.ak hb);have nW:=aa (show aG v4 xq 41 (cS rq)from fH.o.ah hb);have oQ:=aa (show aI (fun k=>aB k≠0) w v4 from eX.o.ak hb);have jM:=aa (show aG v4 xp 108 #[.int .u32 0,.int .i64 0,.int .i64 0,.int .u32 0,.int .i64 0,.int .i64 0,.int .i64 0] from fy.o.ah hb);have jN:=aa (aJ hv4 iZ);have B7:=aa (show w.heap.size≤xa from K0);have qE:=aa (show xq<xa from xg);have jL:=aa (show xp≠xa from KS);clear hb;go_simp;go_wp2_with fail;try rw[hv4]
    try rw[iZ]
    clear hv4 iZ;refine bW hK qQ fun QN=>?_
    clear hK K;exact yV
   ·obtain⟨v2,hv2⟩:=ae (v1.alloc (.cells #[.int .i64 0,.int .u32 0,.int .i64 0,.int .i64 0,.int .i64 0] 58));obtain⟨xa,iZ⟩:=ae v1.heap.size;have hb:Below v1.heap.size v1 v2:=by rw[←hv2];exact ay (ar _ _) _
    have eH:=aa (show bD aB v2 e q wt es from iV.o.ak hb);have gi:=aa (show aG v2 xq 41 (cS rq)from lj.o.ah hb);have eY:=aa (show aI (fun k=>aB k≠0) w v2 from iE.o.ak hb);have kL:=aa (show aG v2 xa 58 #[.int .i64 0,.int .u32 0,.int .i64 0,.int .i64 0,.int .i64 0] by rw[←hv2,←iZ];exact aG.fresh v1 _ _);have B7:=aa (show w.heap.size≤xa from K4);have qE:=aa (show xq<xa from Ay);clear hb;go_simp;go_wp2_with fail;try rw[hv2]
    try rw[iZ]
    clear hv2 iZ;refine bW hK vt fun QO=>?_
    clear hK K;refine qh 10 17 (fun K hK=>?_) fun K hK=>?_
    ·go_simp;refine(RA.o _ eH.o.rest.book).mono ?_;rintro en v3 ⟨rfl,cL,ht⟩;have dY:=aa (eH.o.asked cL ht);have fH:=aa (ht.arr gi.o (fun c=>wR));have eX:=aa (eY.o.trans (ht.mono fun k _ hk=>oA));have fz:=aa (ht.arr kL.o (fun c=>yw));clear cL ht;go_wp2_with fail;refine bW hK pH fun Ko=>?_
     clear hK K;refine lA 11 12 13 14 ?_;refine ty 15 ?_;refine cJ 17 fun K hK=>?_
     obtain⟨v4,hv4⟩:=ae (v3.alloc (.cells #[.int .u32 0,.int .i64 0,.int .i64 0,.int .u32 0,.int .i64 0,.int .i64 0,.int .i64 0] 108));obtain⟨xp,mF⟩:=ae v3.heap.size;have hb:=aK hv4;have mR:=aa (show bD aB v4 e q wt es from dY.o.ak hb);have nW:=aa (show aG v4 xq 41 (cS rq)from fH.o.ah hb);have oQ:=aa (show aI (fun k=>aB k≠0) w v4 from eX.o.ak hb);have jN:=aa (show aG v4 xa 58 #[.int .i64 0,.int .u32 0,.int .i64 0,.int .i64 0,.int .i64 0] from fz.o.ah hb);have jM:=aa (aJ hv4 mF);have B6:=aa (show w.heap.size≤xp from K2);have qD:=aa (show xq<xp from xg);have jL:=aa (show xa≠xp from KT);clear hb;go_simp;go_wp2_with fail;try rw[hv4]
     try rw[mF]
     clear hv4 mF;refine bW hK qQ fun QN=>?_
     clear hK K;exact yV
    obtain⟨v3,hv3⟩:=ae (v2.alloc (.cells #[.int .u32 0,.int .i64 0,.int .i64 0,.int .u32 0,.int .i64 0,.int .i64 0,.int .i64 0] 108));obtain⟨xp,mF⟩:=ae v2.heap.size;have hb:=aK hv3;have dY:=aa (show bD aB v3 e q wt es from eH.o.ak hb);have fH:=aa (show aG v3 xq 41 (cS rq)from gi.o.ah hb);have eX:=aa (show aI (fun k=>aB k≠0) w v3 from eY.o.ak hb);have fz:=aa (show aG v3 xa 58 #[.int .i64 0,.int .u32 0,.int .i64 0,.int .i64 0,.int .i64 0] from kL.o.ah hb);have fy:=aa (aJ hv3 mF);have B6:=aa (show w.heap.size≤xp from K1);have qD:=aa (show xq<xp from ux);have jL:=aa (show xa≠xp from by have:=kL.o.lt;omega);clear hb;go_simp;go_wp2_with fail;try rw[hv3]
    try rw[mF]
    clear hv3 mF;refine bW hK pH fun Ko=>?_
    clear hK K;refine cJ 10 fun K hK=>?_
    go_simp;refine(RA.o _ dY.o.rest.book).mono ?_;rintro en v4 ⟨rfl,cL,ht⟩;have mR:=aa (dY.o.asked cL ht);have nW:=aa (ht.arr fH.o (fun c=>wR));have oQ:=aa (eX.o.trans (ht.mono fun k _ hk=>oA));have jN:=aa (ht.arr fz.o (fun c=>yw));have jM:=aa (ht.arr fy.o (fun c=>yu));clear cL ht;go_wp2_with fail;refine bW hK qQ fun QN=>?_
    clear hK K;refine lA 11 12 13 14 ?_;refine ty 15 ?_;exact yV
   obtain⟨v2,hv2⟩:=ae (v1.alloc (.cells #[.int .u32 0,.int .i64 0,.int .i64 0,.int .u32 0,.int .i64 0,.int .i64 0,.int .i64 0] 108));obtain⟨xp,mF⟩:=ae v1.heap.size;have hb:=aK hv2;have eH:=aa (show bD aB v2 e q wt es from iV.o.ak hb);have gi:=aa (show aG v2 xq 41 (cS rq)from lj.o.ah hb);have eY:=aa (show aI (fun k=>aB k≠0) w v2 from iE.o.ak hb);have kK:=aa (aJ hv2 mF);have B6:=aa (show w.heap.size≤xp from by rw[←mF];exact iE.o.size);have qD:=aa (show xq<xp from Ay);clear hb;go_simp;go_wp2_with fail;try rw[hv2]
   try rw[mF]
   clear hv2 mF;refine bW hK vt fun QO=>?_
   clear hK K;refine qh 10 16 (fun K hK=>?_) fun K hK=>?_
   ·go_simp;refine(RA.o _ eH.o.rest.book).mono ?_;rintro en v3 ⟨rfl,cL,ht⟩;have dY:=aa (eH.o.asked cL ht);have fH:=aa (ht.arr gi.o (fun c=>wR));have eX:=aa (eY.o.trans (ht.mono fun k _ hk=>oA));have fy:=aa (ht.arr kK.o (fun c=>yu));clear cL ht;go_wp2_with fail;refine bW hK pH fun Ko=>?_
    clear hK K;refine lA 11 12 13 14 ?_;refine ty 15 ?_;refine cJ 16 fun K hK=>?_
    obtain⟨v4,hv4⟩:=ae (v3.alloc (.cells #[.int .i64 0,.int .u32 0,.int .i64 0,.int .i64 0,.int .i64 0] 58));obtain⟨xa,iZ⟩:=ae v3.heap.size;have hb:=aK hv4;have mR:=aa (show bD aB v4 e q wt es from dY.o.ak hb);have nW:=aa (show aG v4 xq 41 (cS rq)from fH.o.ah hb);have oQ:=aa (show aI (fun k=>aB k≠0) w v4 from eX.o.ak hb);have jM:=aa (show aG v4 xp 108 #[.int .u32 0,.int .i64 0,.int .i64 0,.int .u32 0,.int .i64 0,.int .i64 0,.int .i64 0] from fy.o.ah hb);have jN:=aa (aJ hv4 iZ);have B7:=aa (show w.heap.size≤xa from K0);have qE:=aa (show xq<xa from xg);have jL:=aa (show xp≠xa from KS);clear hb;go_simp;go_wp2_with fail;try rw[hv4]
    try rw[iZ]
    clear hv4 iZ;refine bW hK qQ fun QN=>?_
    clear hK K;exact yV
   obtain⟨v3,hv3⟩:=ae (v2.alloc (.cells #[.int .i64 0,.int .u32 0,.int .i64 0,.int .i64 0,.int .i64 0] 58));obtain⟨xa,iZ⟩:=ae v2.heap.size;have hb:=aK hv3;have dY:=aa (show bD aB v3 e q wt es from eH.o.ak hb);have fH:=aa (show aG v3 xq 41 (cS rq)from gi.o.ah hb);have eX:=aa (show aI (fun k=>aB k≠0) w v3 from eY.o.ak hb);have fy:=aa (show aG v3 xp 108 #[.int .u32 0,.int .i64 0,.int .i64 0,.int .u32 0,.int .i64 0,.int .i64 0,.int .i64 0] from kK.o.ah hb);have fz:=aa (aJ hv3 iZ);have B7:=aa (show w.heap.size≤xa from K3);have qE:=aa (show xq<xa from ux);have jL:=aa (show xp≠xa from by have:=kK.o.lt;omega);clear hb;go_simp;go_wp2_with fail;try rw[hv3]
   try rw[iZ]
   clear hv3 iZ;refine bW hK pH fun Ko=>?_
   clear hK K;refine cJ 10 fun K hK=>?_
   go_simp;refine(RA.o _ dY.o.rest.book).mono ?_;rintro en v4 ⟨rfl,cL,ht⟩;have mR:=aa (dY.o.asked cL ht);have nW:=aa (ht.arr fH.o (fun c=>wR));have oQ:=aa (eX.o.trans (ht.mono fun k _ hk=>oA));have jM:=aa (ht.arr fy.o (fun c=>yu));have jN:=aa (ht.arr fz.o (fun c=>yw));clear cL ht;go_wp2_with fail;refine bW hK qQ fun QN=>?_
   clear hK K;refine lA 11 12 13 14 ?_;refine ty 15 ?_;exact yV
  ·obtain⟨v1,kq⟩:=ae (wd.alloc (.cells #[.int .i64 0,.int .u32 0,.int .i64 0,.int .i64 0,.int .i64 0] 58));obtain⟨xa,iZ⟩:=ae wd.heap.size;have hb:Below wd.heap.size wd v1:=by rw[←kq];exact ay (ar _ _) _
   have iV:=aa (show bD aB v1 e q wt es from mm.o.ak hb);have lj:=aa (show aG v1 xq 41 (cS rq)from kJ.o.ah hb);have iE:=aa (show aI (fun k=>aB k≠0) w v1 from ko.o.ak hb);have Gh:=aa (show aG v1 xa 58 #[.int .i64 0,.int .u32 0,.int .i64 0,.int .i64 0,.int .i64 0] by rw[←kq,←iZ];exact aG.fresh wd _ _);have B7:=aa (show w.heap.size≤xa from by rw[←iZ];exact ko.o.size);have qE:=aa (show xq<xa from Ax);clear hb;go_simp;go_wp2_with fail;try rw[kq]
   try rw[iZ]
   clear kq iZ;refine bW hK AG fun hh1=>?_
   clear hK K;refine qh 8 17 (fun K hK=>?_) fun K hK=>?_
   ·go_simp;refine(MQ.o _ iV.o).mono ?_;rintro en v2 ⟨rfl,hb⟩;have eH:=aa (show bD aB v2 e q wt es from iV.o.ak hb);have gi:=aa (show aG v2 xq 41 (cS rq)from lj.o.ah hb);have eY:=aa (show aI (fun k=>aB k≠0) w v2 from iE.o.ak hb);have kL:=aa (show aG v2 xa 58 #[.int .i64 0,.int .u32 0,.int .i64 0,.int .i64 0,.int .i64 0] from Gh.o.ah hb);clear hb;go_wp2_with fail;refine bW hK vt fun QO=>?_
    clear hK K;refine qh 10 17 (fun K hK=>?_) fun K hK=>?_
    ·go_simp;refine(RA.o _ eH.o.rest.book).mono ?_;rintro en v3 ⟨rfl,cL,ht⟩;have dY:=aa (eH.o.asked cL ht);have fH:=aa (ht.arr gi.o (fun c=>wR));have eX:=aa (eY.o.trans (ht.mono fun k _ hk=>oA));have fz:=aa (ht.arr kL.o (fun c=>yw));clear cL ht;go_wp2_with fail;refine bW hK pH fun Ko=>?_
     clear hK K;refine lA 11 12 13 14 ?_;refine ty 15 ?_;refine cJ 17 fun K hK=>?_
     obtain⟨v4,hv4⟩:=ae (v3.alloc (.cells #[.int .u32 0,.int .i64 0,.int .i64 0,.int .u32 0,.int .i64 0,.int .i64 0,.int .i64 0] 108));obtain⟨xp,mF⟩:=ae v3.heap.size;have hb:=aK hv4;have mR:=aa (show bD aB v4 e q wt es from dY.o.ak hb);have nW:=aa (show aG v4 xq 41 (cS rq)from fH.o.ah hb);have oQ:=aa (show aI (fun k=>aB k≠0) w v4 from eX.o.ak hb);have jN:=aa (show aG v4 xa 58 #[.int .i64 0,.int .u32 0,.int .i64 0,.int .i64 0,.int .i64 0] from fz.o.ah hb);have jM:=aa (aJ hv4 mF);have B6:=aa (show w.heap.size≤xp from K2);have qD:=aa (show xq<xp from xg);have jL:=aa (show xa≠xp from KT);clear hb;go_simp;go_wp2_with fail;try rw[hv4]
     try rw[mF]
     clear hv4 mF;refine bW hK qQ fun QN=>?_
     clear hK K;exact yV
    obtain⟨v3,hv3⟩:=ae (v2.alloc (.cells #[.int .u32 0,.int .i64 0,.int .i64 0,.int .u32 0,.int .i64 0,.int .i64 0,.int .i64 0] 108));obtain⟨xp,mF⟩:=ae v2.heap.size;have hb:=aK hv3;have dY:=aa (show bD aB v3 e q wt es from eH.o.ak hb);have fH:=aa (show aG v3 xq 41 (cS rq)from gi.o.ah hb);have eX:=aa (show aI (fun k=>aB k≠0) w v3 from eY.o.ak hb);have fz:=aa (show aG v3 xa 58 #[.int .i64 0,.int .u32 0,.int .i64 0,.int .i64 0,.int .i64 0] from kL.o.ah hb);have fy:=aa (aJ hv3 mF);have B6:=aa (show w.heap.size≤xp from K1);have qD:=aa (show xq<xp from ux);have jL:=aa (show xa≠xp from by have:=kL.o.lt;omega);clear hb;go_simp;go_wp2_with fail;try rw[hv3]
    try rw[mF]
    clear hv3 mF;refine bW hK pH fun Ko=>?_
    clear hK K;refine cJ 10 fun K hK=>?_
    go_simp;refine(RA.o _ dY.o.rest.book).mono ?_;rintro en v4 ⟨rfl,cL,ht⟩;have mR:=aa (dY.o.asked cL ht);have nW:=aa (ht.arr fH.o (fun c=>wR));have oQ:=aa (eX.o.trans (ht.mono fun k _ hk=>oA));have jN:=aa (ht.arr fz.o (fun c=>yw));have jM:=aa (ht.arr fy.o (fun c=>yu));clear cL ht;go_wp2_with fail;refine bW hK qQ fun QN=>?_
    clear hK K;refine lA 11 12 13 14 ?_;refine ty 15 ?_;exact yV
   obtain⟨v2,hv2⟩:=ae (v1.alloc (.cells #[.int .u32 0,.int .i64 0,.int .i64 0,.int .u32 0,.int .i64 0,.int .i64 0,.int .i64 0] 108));obtain⟨xp,mF⟩:=ae v1.heap.size;have hb:=aK hv2;have eH:=aa (show bD aB v2 e q wt es from iV.o.ak hb);have gi:=aa (show aG v2 xq 41 (cS rq)from lj.o.ah hb);have eY:=aa (show aI (fun k=>aB k≠0) w v2 from iE.o.ak hb);have kL:=aa (show aG v2 xa 58 #[.int .i64 0,.int .u32 0,.int .i64 0,.int .i64 0,.int .i64 0] from Gh.o.ah hb);have kK:=aa (aJ hv2 mF);have B6:=aa (show w.heap.size≤xp from by rw[←mF];exact iE.o.size);have qD:=aa (show xq<xp from Ay);have jL:=aa (show xa≠xp from by have:=Gh.o.lt;omega);clear hb;go_simp;go_wp2_with fail;try rw[hv2]
   try rw[mF]
   clear hv2 mF;refine bW hK vt fun QO=>?_
   clear hK K;refine cJ 8 fun K hK=>?_
   go_simp;refine(MQ.o _ eH.o).mono ?_;rintro en v3 ⟨rfl,hb⟩;have dY:=aa (show bD aB v3 e q wt es from eH.o.ak hb);have fH:=aa (show aG v3 xq 41 (cS rq)from gi.o.ah hb);have eX:=aa (show aI (fun k=>aB k≠0) w v3 from eY.o.ak hb);have fz:=aa (show aG v3 xa 58 #[.int .i64 0,.int .u32 0,.int .i64 0,.int .i64 0,.int .i64 0] from kL.o.ah hb);have fy:=aa (show aG v3 xp 108 #[.int .u32 0,.int .i64 0,.int .i64 0,.int .u32 0,.int .i64 0,.int .i64 0,.int .i64 0] from kK.o.ah hb);clear hb;go_wp2_with fail;refine bW hK pH fun Ko=>?_
   clear hK K;refine cJ 10 fun K hK=>?_
   go_simp;refine(RA.o _ dY.o.rest.book).mono ?_;rintro en v4 ⟨rfl,cL,ht⟩;have mR:=aa (dY.o.asked cL ht);have nW:=aa (ht.arr fH.o (fun c=>wR));have oQ:=aa (eX.o.trans (ht.mono fun k _ hk=>oA));have jN:=aa (ht.arr fz.o (fun c=>yw));have jM:=aa (ht.arr fy.o (fun c=>yu));clear cL ht;go_wp2_with fail;refine bW hK qQ fun QN=>?_
   clear hK K;refine lA 11 12 13 14 ?_;refine ty 15 ?_;exact yV
  obtain⟨v1,kq⟩:=ae (wd.alloc (.cells #[.int .u32 0,.int .i64 0,.int .i64 0,.int .u32 0,.int .i64 0,.int .i64 0,.int .i64 0] 108));obtain⟨xp,mF⟩:=ae wd.heap.size;have hb:=aK kq;have iV:=aa (show bD aB v1 e q wt es from mm.o.ak hb);have lj:=aa (show aG v1 xq 41 (cS rq)from kJ.o.ah hb);have iE:=aa (show aI (fun k=>aB k≠0) w v1 from ko.o.ak hb);have Gg:=aa (aJ kq mF);have B6:=aa (show w.heap.size≤xp from by rw[←mF];exact ko.o.size);have qD:=aa (show xq<xp from Ax);clear hb;go_simp;go_wp2_with fail;try rw[kq]
  try rw[mF]
  clear kq mF;refine bW hK AG fun hh1=>?_
  clear hK K;refine qh 8 16 (fun K hK=>?_) fun K hK=>?_
  ·go_simp;refine(MQ.o _ iV.o).mono ?_;rintro en v2 ⟨rfl,hb⟩;have eH:=aa (show bD aB v2 e q wt es from iV.o.ak hb);have gi:=aa (show aG v2 xq 41 (cS rq)from lj.o.ah hb);have eY:=aa (show aI (fun k=>aB k≠0) w v2 from iE.o.ak hb);have kK:=aa (show aG v2 xp 108 #[.int .u32 0,.int .i64 0,.int .i64 0,.int .u32 0,.int .i64 0,.int .i64 0,.int .i64 0] from Gg.o.ah hb);clear hb;go_wp2_with fail;refine bW hK vt fun QO=>?_
   clear hK K;refine qh 10 16 (fun K hK=>?_) fun K hK=>?_
   ·go_simp;refine(RA.o _ eH.o.rest.book).mono ?_;rintro en v3 ⟨rfl,cL,ht⟩;have dY:=aa (eH.o.asked cL ht);have fH:=aa (ht.arr gi.o (fun c=>wR));have eX:=aa (eY.o.trans (ht.mono fun k _ hk=>oA));have fy:=aa (ht.arr kK.o (fun c=>yu));clear cL ht;go_wp2_with fail;refine bW hK pH fun Ko=>?_
    clear hK K;refine lA 11 12 13 14 ?_;refine ty 15 ?_;refine cJ 16 fun K hK=>?_
    obtain⟨v4,hv4⟩:=ae (v3.alloc (.cells #[.int .i64 0,.int .u32 0,.int .i64 0,.int .i64 0,.int .i64 0] 58));obtain⟨xa,iZ⟩:=ae v3.heap.size;have hb:=aK hv4;have mR:=aa (show bD aB v4 e q wt es from dY.o.ak hb);have nW:=aa (show aG v4 xq 41 (cS rq)from fH.o.ah hb);have oQ:=aa (show aI (fun k=>aB k≠0) w v4 from eX.o.ak hb);have jM:=aa (show aG v4 xp 108 #[.int .u32 0,.int .i64 0,.int .i64 0,.int .u32 0,.int .i64 0,.int .i64 0,.int .i64 0] from fy.o.ah hb);have jN:=aa (aJ hv4 iZ);have B7:=aa (show w.heap.size≤xa from K0);have qE:=aa (show xq<xa from xg);have jL:=aa (show xp≠xa from KS);clear hb;go_simp;go_wp2_with fail;try rw[hv4]
    try rw[iZ]
    clear hv4 iZ;refine bW hK qQ fun QN=>?_
    clear hK K;exact yV
   obtain⟨v3,hv3⟩:=ae (v2.alloc (.cells #[.int .i64 0,.int .u32 0,.int .i64 0,.int .i64 0,.int .i64 0] 58));obtain⟨xa,iZ⟩:=ae v2.heap.size;have hb:=aK hv3;have dY:=aa (show bD aB v3 e q wt es from eH.o.ak hb);have fH:=aa (show aG v3 xq 41 (cS rq)from gi.o.ah hb);have eX:=aa (show aI (fun k=>aB k≠0) w v3 from eY.o.ak hb);have fy:=aa (show aG v3 xp 108 #[.int .u32 0,.int .i64 0,.int .i64 0,.int .u32 0,.int .i64 0,.int .i64 0,.int .i64 0] from kK.o.ah hb);have fz:=aa (aJ hv3 iZ);have B7:=aa (show w.heap.size≤xa from K3);have qE:=aa (show xq<xa from ux);have jL:=aa (show xp≠xa from by have:=kK.o.lt;omega);clear hb;go_simp;go_wp2_with fail;try rw[hv3]
   try rw[iZ]
   clear hv3 iZ;refine bW hK pH fun Ko=>?_
   clear hK K;refine cJ 10 fun K hK=>?_
   go_simp;refine(RA.o _ dY.o.rest.book).mono ?_;rintro en v4 ⟨rfl,cL,ht⟩;have mR:=aa (dY.o.asked cL ht);have nW:=aa (ht.arr fH.o (fun c=>wR));have oQ:=aa (eX.o.trans (ht.mono fun k _ hk=>oA));have jM:=aa (ht.arr fy.o (fun c=>yu));have jN:=aa (ht.arr fz.o (fun c=>yw));clear cL ht;go_wp2_with fail;refine bW hK qQ fun QN=>?_
   clear hK K;refine lA 11 12 13 14 ?_;refine ty 15 ?_;exact yV
  obtain⟨v2,hv2⟩:=ae (v1.alloc (.cells #[.int .i64 0,.int .u32 0,.int .i64 0,.int .i64 0,.int .i64 0] 58));obtain⟨xa,iZ⟩:=ae v1.heap.size;have hb:=aK hv2;have eH:=aa (show bD aB v2 e q wt es from iV.o.ak hb);have gi:=aa (show aG v2 xq 41 (cS rq)from lj.o.ah hb);have eY:=aa (show aI (fun k=>aB k≠0) w v2 from iE.o.ak hb);have kK:=aa (show aG v2 xp 108 #[.int .u32 0,.int .i64 0,.int .i64 0,.int .u32 0,.int .i64 0,.int .i64 0,.int .i64 0] from Gg.o.ah hb);have kL:=aa (aJ hv2 iZ);have B7:=aa (show w.heap.size≤xa from K4);have qE:=aa (show xq<xa from Ay);have jL:=aa (show xp≠xa from by have:=Gg.o.lt;omega);clear hb;go_simp;go_wp2_with fail;try rw[hv2]
  try rw[iZ]
  clear hv2 iZ;refine bW hK vt fun QO=>?_
  clear hK K;refine cJ 8 fun K hK=>?_
  go_simp;refine(MQ.o _ eH.o).mono ?_;rintro en v3 ⟨rfl,hb⟩;have dY:=aa (show bD aB v3 e q wt es from eH.o.ak hb);have fH:=aa (show aG v3 xq 41 (cS rq)from gi.o.ah hb);have eX:=aa (show aI (fun k=>aB k≠0) w v3 from eY.o.ak hb);have fy:=aa (show aG v3 xp 108 #[.int .u32 0,.int .i64 0,.int .i64 0,.int .u32 0,.int .i64 0,.int .i64 0,.int .i64 0] from kK.o.ah hb);have fz:=aa (show aG v3 xa 58 #[.int .i64 0,.int .u32 0,.int .i64 0,.int .i64 0,.int .i64 0] from kL.o.ah hb);clear hb;go_wp2_with fail;refine bW hK pH fun Ko=>?_
  clear hK K;refine cJ 10 fun K hK=>?_
  go_simp;refine(RA.o _ dY.o.rest.book).mono ?_;rintro en v4 ⟨rfl,cL,ht⟩;have mR:=aa (dY.o.asked cL ht);have nW:=aa (ht.arr fH.o (fun c=>wR));have oQ:=aa (eX.o.trans (ht.mono fun k _ hk=>oA));have jM:=aa (ht.arr fy.o (fun c=>yu));have jN:=aa (ht.arr fz.o (fun c=>yw));clear cL ht;go_wp2_with fail;refine bW hK qQ fun QN=>?_
  clear hK K;refine lA 11 12 13 14 ?_;refine ty 15 ?_;exact yV
 case rest=>
  obtain⟨rfl,xa,xp,rfl,rfl,hA,hP,hQ,hE,hT,iZ,mF,aex⟩:=hcut;have HP:=aa hP;have HE:=aa hE;have HT:=aa hT;have HA:=aa hA;have HQ:=aa hQ;have HX:=aa (show aB xa=0∧aB xp=0∧aB xq=0 from⟨(HN.o _ iZ).1,(HN.o _ mF).1,(HN.o _ aex).1⟩);have HXL:=aa (show w.heap.size≤xa∧w.heap.size≤xp∧w.heap.size≤xq from⟨iZ,mF,aex⟩);clear hA hP hQ hE hT vp vo iZ mF aex tj bA RA MQ w1;rcases Yg.o with⟨c0,hX,hY,rfl⟩|⟨c0,hX,hY,rfl⟩
  ·have HC0:=aa c0;have HXE:=aa hX;have HYE:=aa hY;obtain⟨h1,h2⟩:=ac0 pg.o HGO.o HCH.o c0;have MR:=aa (show X.ok=true from by rw[hX];exact h1);obtain⟨b,hb⟩:=ae (jb X);have hlen:b.length=cO X.ax:=by rw[←hb,hX];exact Iz (Rec.Fv h1)
   have uU:=aa (show b.length≤32∧b≠ []∧22+(b.length:Int)≤es.bj from by
    have h3:recKind X.ax=true:=by rw[hX];exact Rec.Fv h1
    have h4:1≤cO X.ax∧cO X.ax≤32:=by
     simp only[recKind,Bool.and_eq_true,decide_eq_true_eq] at h3;rcases(show X.ax=1∨X.ax=2∨X.ax=3∨X.ax=4∨X.ax=5 from ai)with h|h|h|h|h <;>rw[h] <;>decide
    refine⟨ai,fun e=>by rw[e] at hlen;simp at hlen;omega,by rw[hlen,hX];exact h2⟩)
   have Rs:=aa (show Calls af 217 #[.agg (fA X)] wc (ui b wc)from by rw[←hb];exact aaV X wc MR.o);have kS:=aa hb;clear c0 hX hY h1 h2 hlen hb;go_wp2_with (refine aC rfl 58 (.tmp 5) rfl xa 58 _ HA.o rfl _ Tryz.underlying58 rfl bH ?_);refine Rs.o.mono ?_;rintro en w2 ⟨BA,BC,rfl,tM,hb2,QP,hbg,akg⟩;obtain⟨gb,off,rfl,-,-⟩:=tM uU.o.2.1;have KE:=aa tM;have wL:=aa (HE.o.ak hb2);have jB:=aa (HA.o.ah hb2);have X8:=aa (HP.o.ah hb2);have rH:=aa (HQ.o.ah hb2);have gI:=aa (HT.o.ak hb2);clear tM hb2 QP hbg akg Rs HE HA HP HQ HT;have x2:w2.cell? ⟨e,2,none⟩=some (.pointer (some ⟨q.lq,0,none⟩)):=wL.o.own.cell 2;obtain⟨lv,hlv⟩:=wL.o.rest.log;have Gf:=aa (show Calls af 218 #[.pointer (some ⟨q.lq,0,none⟩),.slice (some ⟨gb,off,none⟩) b.length BC] w2 (Pu (fun k=>aB k=1) q.lq q.rl q.p es.log es.rg es.dev.dk.size b w2)from MM hlv b gb off BC KE.o uU.o.2.1 uU.o.1 wL.o.rest.ij);have ai1:=aa (show es.log.Ok∧es.log.used≤es.rg.bytes es.dev.dk.size from⟨hlv.ok,hlv.fit⟩);have aje:=aa (show es.log.fits (es.rg.bytes es.dev.dk.size) b.length=decide (es.log.last≠18446744073709551615)from by
    unfold Lg.fits;have h1:=uU.o;have h2:=ai1.o.2;unfold Es.bj at h1;rw[decide_eq_true (show b.length≤32 from h1.1),decide_eq_true (show 22+b.length+es.log.used≤es.rg.bytes es.dev.dk.size from ai)];simp)
   clear hlv lv KE;by_cases c1:es.log.last=18446744073709551615
   ·have Gc:=aa (show es.change rq=([cf rq 220],es)from by unfold Es.change;rw[if_neg (by rw[HC0.o];exact fun h=>h rfl),if_pos c1]);go_wp2_with fail;refine Gf.o.mono ?_;rintro en w3 ⟨hap,Cw⟩;rw[aje.o,if_neg (by simp[c1])] at hap;obtain⟨rfl,hl3⟩:=hap;have J':=aa (show bD (grow aB w2 w3 1) w3 e q wt es from wL.o.keeps (wL.o.rest.append (l:=es.log) hl3 Cw) rfl rfl Cw (fun k hk=>Ts) (nt wL.o.rest.lt));have jy:=aa (Cw.arr rH.o (fun c=>by have c':aB xq=1:=c;rw[HX.o.2.2] at c';exact absurd c' aM));have iJ:=aa (gI.o.trans (Cw.mono fun k _ hk=>Tf));clear hl3 Cw c1 wL jB X8 rH x2 Gf;go_wp2_with (refine aC rfl 41 (.tmp 3) rfl xq 41 _ jy.o rfl _ Tryz.underlying41 rfl aH ?_);refine(lB rq 220 w3).mono ?_;rintro en w4 ⟨A,cp,rfl,hr4,hb4⟩;have HF:=aa (show eZ aB e q (es.change rq).1 (es.change rq).2 w (.returned (.slice A 1 cp)) w4 from by
     rw[Gc.o];exact eZ.one J'.o (fun k hk=>by
      rcases iR k hk with h|h
      ·exact .inl h
      exact .inr (aV gI.o.size h)) iJ.o hr4 hb4)
    clear hr4 hb4;go_wp2_with fail;go_ret;exact HF.o
   have hf1:es.log.fits (es.rg.bytes es.dev.dk.size) b.length=true:=by rw[aje.o];exact decide_eq_true c1
   have ku:=aa c1;go_wp2_with fail;refine Gf.o.mono ?_;rintro en w3 ⟨hap,Cw⟩;rw[if_pos hf1] at hap;obtain⟨rfl,hl3⟩:=hap;obtain⟨Mr,aag⟩:=ae (({es with log:=es.log.append b}:Es));have ajh:=aa aag;have J':=aa (show bD (grow aB w2 w3 1) w3 e q wt Mr from by rw[←aag];exact wL.o.keeps (wL.o.rest.append (l:=es.log.append b) hl3 Cw) rfl rfl Cw (fun k hk=>Ts) (nt wL.o.rest.lt));have no1: ∀ x,aB x=0→¬aB x=1:=fun x h c=>by rw[h] at c;exact absurd c aM
   have pC:=aa (Cw.arr jB.o (no1 _ HX.o.1));have Zg:=aa (Cw.arr X8.o (no1 _ HX.o.2.1));have iJ:=aa (gI.o.trans (Cw.mono fun k _ hk=>Tf));have MN:=aa (show(grow aB w2 w3 1) xa=0∧(grow aB w2 w3 1) xp=0 from⟨(dH jB.o.lt).trans HX.o.1,(dH X8.o.lt).trans HX.o.2.1⟩);have HS3:=aa (show ∀ k,(grow aB w2 w3 1) k≠0→aB k≠0∨w.heap.size≤k from fun k hk=>by
    rcases iR k hk with h|h
    ·exact .inl h
    exact .inr (aV gI.o.size h))
   obtain⟨qU,ag3⟩:=ae (grow aB w2 w3 1);rw[ag3] at J' MN HS3;have M5:=aa (show Mr.bk=es.bk∧Mr.aD=es.aD∧Mr.up=es.up∧Mr.dev=es.dev∧Mr.rg=es.rg∧Mr.log=es.log.append b from by rw[←aag];exact⟨rfl,rfl,rfl,rfl,rfl,rfl⟩);clear hl3 Cw c1 wL jB X8 rH x2 Gf no1 hf1 gI ag3 aag;have x4:w3.cell? ⟨e,4,none⟩=some (.pointer (some ⟨q.bk,0,none⟩)):=J'.o.own.cell 4;have ajw:=aa (show ∀ W,bD qU W e q wt Mr→Calls af 15 #[.pointer (some ⟨q.bk,0,none⟩),.agg (fA X)] W (nY (fun k=>qU k=3) W q.bk (es.bk.apply X))from fun W hW=>Kg (fun k=>qU k=3) q.bk es.bk W X (by rw[←M5.o.1];exact hW.rest.book) pg.o MR.o);go_upto_region 8 with fail
   clear x4;have fX:=aa (show ∀ W,bD qU W e q wt Mr→aG W xa 58 (fA X)→(W.cell? ⟨e,4,none⟩=some (.pointer (some ⟨q.bk,0,none⟩))∧W.rangeAt xa 0 (fA X).toList)from fun W hE hA=>⟨hE.own.cell 4,fun j u hj=>by rw[gV,hA.cell j];simpa using hj⟩);obtain⟨wd,hwd⟩:=ae w3.drew;have gO:Below w3.heap.size w3 wd:=mU;have Ej:=aa (J'.o.ak gO);have Zo:=aa (pC.o.ah gO);have Ro:=aa (Zg.o.ah gO);have J4:=aa (iJ.o.ak gO);clear gO;refine wp_region_held_drew (S:=(fun W=>W.cell? ⟨e,4,none⟩=some (.pointer (some ⟨q.bk,0,none⟩))∧W.rangeAt xa 0 (fA X).toList)) bh (by rw[hwd];exact fX.o _ Ej.o Zo.o) (fun hHeld=>?_);rw[hwd] at hHeld ⊢;clear hwd J' pC Zg iJ;refine lA 0 1 2 3 ?_;refine fc 4 (some 55) hHeld 58 (.tmp 5) xa 0 (fA X).toList _ (fun w' h=>h.2) Tryz.underlying58 rfl bH ?_;try simp only[aZ]
   refine cJ 5 fun K hK=>?_
   go_simp;refine(ajw.o _ Ej.o).mono ?_;rintro en w4 ⟨rfl,Cv,hb4⟩;obtain⟨Jw,aaf⟩:=ae (({Mr with bk:=(es.bk.apply X).2}:Es));have ajg:=aa aaf;have no3: ∀ x,qU x=0→¬qU x=3:=fun x h c=>by rw[h] at c;exact absurd c aM
   have Rw:=aa (show bD (grow qU wd w4 3) w4 e q wt Jw from by rw[←aaf];exact Ej.o.keeps (Ej.o.rest.apply hb4 Cv) rfl rfl Cv (fun k hk=>by have Hb:qU k=3:=hk;rw[Hb];exact⟨aM,aM⟩) (nt Ej.o.rest.lt));have pB:=aa (Cv.arr Zo.o (no3 _ MN.o.1));have MV:=aa (Cv.arr Ro.o (no3 _ MN.o.2));have HS4:=aa (show ∀ k,(grow qU wd w4 3) k≠0→aB k≠0∨w.heap.size≤k from fun k hk=>by
    rcases iR k hk with h|h
    ·exact HS3.o k h
    exact .inr (aV J4.o.size h))
   have nU:=aa (J4.o.new (Cv.mono fun k _ hk=>HS3.o k (by have Hb:qU k=3:=hk;rw[Hb];decide)));have HX4:=aa (show(grow qU wd w4 3) xp=0 from(dH Ro.o.lt).trans MN.o.2);obtain⟨Dz,ag2⟩:=ae (grow qU wd w4 3);rw[ag2] at Rw HS4 HX4;have ajr:=aa (show Jw.aD=es.aD∧Jw.up=es.up∧Jw.dev=es.dev∧Jw.rg=es.rg∧Jw.log=es.log.append b∧Jw.bk=(es.bk.apply X).2 from by rw[←aaf];exact⟨M5.o.2.1,M5.o.2.2.1,M5.o.2.2.2.1,M5.o.2.2.2.2.1,M5.o.2.2.2.2.2,rfl⟩);have agU:w4.cell? ⟨e,4,none⟩=some (.pointer (some ⟨q.bk,0,none⟩))∧w4.rangeAt xa 0 (fA X).toList:=⟨Rw.o.own.cell 4,fun j u hj=>by rw[gV,pB.o.cell j];simpa using hj⟩;have aiH:=aa agU;clear Cv hb4 no3 agU ajw Zo Ro Ej J4 aaf ag2;go_wp2_with fail;refine hK.out _ _ (by exact aiH.o) (fun ju=>?_);clear hK K hHeld ju;try simp only[aZ]
   refine bM ?_;clear fX aiH;go_upto_region 9 with fail
   have ajf:=aa (show({Jw with aD:=Jw.aD++ [Y]}:Es)=es.after rq from by
    rw[←ajg.o,←ajh.o];unfold Es.after;rw[HYE.o,HXE.o,←kS.o,HXE.o])
   obtain⟨j0,hj,hz0,hz1,hz2⟩:=info_parts uB;obtain⟨n,px⟩:=ae Jw.aD.length;have Pj:=aa px;have HNL:=aa (show n≤1000 from by rw[←px,ajr.o.1];exact HNN.o);obtain⟨A,cp,hwt⟩:=Rw.o.aD.any;rw[px] at hwt;subst hwt;clear px;obtain⟨wd,hwd⟩:=ae w4.drew;have gO:Below w4.heap.size w4 wd:=mU;have Ej:=aa (Rw.o.ak gO);have Ro:=aa (MV.o.ah gO);have J4:=aa (nU.o.ak gO);clear gO pB;go_cut [4] from 57 to 66 (fun s4 wx=>s4= .slice none 0 0∧∃ tV wt5,bD tV wx e q wt5 (es.after rq)∧(∀ k,tV k≠0→aB k≠0∨w.heap.size≤k)∧aI (fun k=>aB k≠0) w wx)
   case first=>
    have HSP:=aa (show ∀ W,aG W xp 108 (lf Y)→W.rangeAt xp 0 [.int .u32 Y.tag,.int .i64 Y.ax,.int .i64 Y.err,.int .u32 Y.id,.int .i64 Y.aw,.int .i64 Y.aR,.int .i64 Y.count] from fun W hP=>fun j u hj=>by rw[gV,hP.cell j];simpa[lf] using hj);have R7:=aa (show ∀ (v5 w6:World) (v:Value),bD (grow Dz v5 w6 4) (w6.setCell ⟨e,5,none⟩ v) e q v {Jw with aD:=Jw.aD++ [Y]}→aI (fun k=>Dz k=4∨k=e) v5 (w6.setCell ⟨e,5,none⟩ v)→v5.heap.size≤w6.heap.size→aI (fun k=>aB k≠0) w v5→(∃ tV wt5,bD tV (w6.setCell ⟨e,5,none⟩ v) e q wt5 (es.after rq)∧(∀ k,tV k≠0→aB k≠0∨w.heap.size≤k)∧aI (fun k=>aB k≠0) w (w6.setCell ⟨e,5,none⟩ v))from fun v5 w6 v a1 a2 a3 a4=>by
     rw[ajf.o] at a1;refine⟨_,_,a1,fun k hk=>?_,a4.new (a2.mono fun k _ hk=>?_)⟩
     ·rcases iR k hk with h|h
      ·exact HS4.o k h
      exact .inr (aV a4.size h)
     rcases hk with hk|hk
     ·exact HS4.o k (by rw[hk];decide)
     subst hk;exact HS4.o k (by rw[Rw.o.rest.r5];decide))
    refine wp_region_held_drew (S:=(fun W=>W.rangeAt xp 0 [.int .u32 Y.tag,.int .i64 Y.ax,.int .i64 Y.err,.int .u32 Y.id,.int .i64 Y.aw,.int .i64 Y.aR,.int .i64 Y.count])) bh (by rw[hwd];exact HSP.o _ Ro.o) (fun hHeld=>?_);rw[hwd] at hHeld ⊢;clear hwd;refine lA 0 1 2 3 ?_;refine fc 5 (some 62) hHeld 108 (.tmp 6) xp 0 [.int .u32 Y.tag,.int .i64 Y.ax,.int .i64 Y.err,.int .u32 Y.id,.int .i64 Y.aw,.int .i64 Y.aR,.int .i64 Y.count] _ (fun w' h=>h) Tryz.underlying108 rfl aS ?_;try simp only[aZ]
    refine qh 4 6 (fun K hK=>?_) fun K hK=>?_
    ·have x5:wd.cell? ⟨e,5,none⟩=some (.slice A n cp):=Ej.o.own.cell 5;go_simp;go_wp2_with fail;clear x5;refine bW hK (by exact HSP.o _ Ro.o) fun QN=>?_
     clear hK K;refine cJ 6 fun K hK=>?_
     obtain⟨v5,OB⟩:=ae (wd.alloc (.cells #[.int .u32 Y.tag,.int .i64 Y.ax,.int .i64 Y.err,.int .u32 Y.id,.int .i64 Y.aw,.int .i64 Y.aR,.int .i64 Y.count] 108));have dU:=aK OB;have Ye:=aa (Ej.o.ak dU);have De:=aa (Ro.o.ah dU);have pz:=aa (J4.o.ak dU);have qG:=aa (show aP (fun k=>Dz k=4) v5 108 7 (.slice A n cp) n (yU Jw.aD)from by have h1:=Ye.o.aD;rw[Pj.o] at h1;exact h1);have Zj:=aa (show ∀ (j:Nat) (u:Value),[.int .u32 Y.tag,.int .i64 Y.ax,.int .i64 Y.err,.int .u32 Y.id,.int .i64 Y.aw,.int .i64 Y.aR,.int .i64 Y.count][j]? =some u→v5.cell? ((⟨wd.heap.size,0,none⟩:Addr).add j)=some u by rw[←OB];exact iQ wd _ _);clear dU;go_simp;go_wp2_with fail;try rw[OB]
     clear OB;exact acJ
    obtain⟨v5,OB⟩:=ae (wd.alloc (.cells #[.int .u32 Y.tag,.int .i64 Y.ax,.int .i64 Y.err,.int .u32 Y.id,.int .i64 Y.aw,.int .i64 Y.aR,.int .i64 Y.count] 108));have dU:=aK OB;have Ye:=aa (Ej.o.ak dU);have De:=aa (Ro.o.ah dU);have pz:=aa (J4.o.ak dU);have qG:=aa (show aP (fun k=>Dz k=4) v5 108 7 (.slice A n cp) n (yU Jw.aD)from by have h1:=Ye.o.aD;rw[Pj.o] at h1;exact h1);have Zj:=aa (show ∀ (j:Nat) (u:Value),[.int .u32 Y.tag,.int .i64 Y.ax,.int .i64 Y.err,.int .u32 Y.id,.int .i64 Y.aw,.int .i64 Y.aR,.int .i64 Y.count][j]? =some u→v5.cell? ((⟨wd.heap.size,0,none⟩:Addr).add j)=some u by rw[←OB];exact iQ wd _ _);clear dU;go_simp;go_wp2_with fail;try rw[OB]
    clear OB;refine bW hK (by exact HSP.o _ De.o) fun Kn=>?_
    clear hK K;have x5:v5.cell? ⟨e,5,none⟩=some (.slice A n cp):=Ye.o.own.cell 5;refine cJ 4 fun K hK=>?_
    go_simp;go_wp2_with fail;clear x5;exact acJ
   case rest=>
    obtain⟨rfl,tV,wt5,hE5,hs5,oH⟩:=hcut;obtain⟨je,he3⟩:=ae (es.after rq);have pC:=aa he3;rw[he3] at hE5;have MO:=aa (show je.bk.aA=es.bk.aA∧je.dev=es.dev∧je.rg=es.rg∧je.log=es.log.append b from by
     rw[←he3];exact⟨(sF es.bk (bC es.bk rq)).1,rfl,rfl,by show es.log.append (jb (bC es.bk rq))=_;rw[←HXE.o,kS.o]⟩)
    have afM:=aa (show es.change rq=if je.aD.length<es.bk.aA then([],je)else if(je.log.flush je.rg je.dev).1≠0 then([],je.down (je.log.flush je.rg je.dev).2.2 (je.log.flush je.rg je.dev).2.1)else(je.aD,{je with dev:=(je.log.flush je.rg je.dev).2.2,log:=(je.log.flush je.rg je.dev).2.1,aD:=[]})from by
     unfold Es.change;rw[if_neg (by rw[HC0.o];exact fun h=>h rfl),if_neg ku.o,←he3];rfl)
    obtain⟨n5,hn5⟩:=ae je.aD.length;have HN5:=aa hn5;obtain⟨A5,c5,jD⟩:=hE5.aD.any;rw[hn5] at jD;subst jD;have Ye:=aa hE5;have X4:=aa hs5;have pz:=aa oH;clear hE5 hs5 oH he3 hn5 Ej Ro J4 Rw nU MV ajr M5 ajg ajh ajf HX4 MN HS4 HS3 hwd wd hj hz0 hz1 hz2 j0;have Hj:=aa (show ∀ W,bD tV W e q (.slice A5 n5 c5) je→Calls af 38 #[.pointer (some ⟨q.bk,0,none⟩)] W fun e w'=>e= .returned (.agg #[.int .i64 je.bk.n,.int .i64 je.bk.au,.int .i64 je.bk.aA])∧Below W.heap.size W w' from fun W hW=>by obtain⟨x,hx⟩:=hW.rest.book;exact Bk.fT hx.bg);have fX:=aa (show ∀ W,bD tV W e q (.slice A5 n5 c5) je→(W.cell? ⟨e,5,none⟩=some (.slice A5 n5 c5)∧W.cell? ⟨e,4,none⟩=some (.pointer (some ⟨q.bk,0,none⟩)))from fun W hE=>⟨hE.own.cell 5,hE.own.cell 4⟩);have lS:=Bk.ae6 (je.bk.n:Int) (je.bk.au:Int) (je.bk.aA:Int);obtain⟨wd,hwd⟩:=ae wc.drew;have gO:Below wc.heap.size wc wd:=mU;have Ej:=aa (Ye.o.ak gO);have J4:=aa (pz.o.ak gO);clear gO;obtain⟨lt,hlt⟩:=ae (decide (n5<je.bk.aA));have FK:decide ((n5:Int)<(je.bk.aA:Int))=lt:=by rw[←hlt];simp
    have i':=aa hlt;clear hlt;go_upto_region 10 with fail
    refine wp_region_held_drew (S:=(fun W=>W.cell? ⟨e,5,none⟩=some (.slice A5 n5 c5)∧W.cell? ⟨e,4,none⟩=some (.pointer (some ⟨q.bk,0,none⟩)))) bh (by rw[hwd];exact fX.o _ Ej.o) (fun hHeld=>?_);rw[hwd] at hHeld ⊢;clear hwd Ye pz;refine ov 0 1 2 3 4 5 6 7 ?_;refine ty 8 ?_;refine cJ 9 fun K hK=>?_
    go_simp;refine(Hj.o _ Ej.o).mono ?_;rintro en w8 ⟨rfl,mY⟩;have HE8:=aa (Ej.o.ak mY);have X1:=aa (J4.o.ak mY);clear mY;go_wp2_with fail;refine bW hK (by exact fX.o _ HE8.o) fun hh9=>?_
    clear hK K;refine tJ 10 11 ?_;refine bM ?_;clear hh9 hHeld Ej J4 fX Hj;cases lt with
    | true=>
     have hl:n5<je.bk.aA:=of_decide_eq_true i'.o;have hl2:(n5:Int)<(je.bk.aA:Int):=ai;have hl3:decide (n5<je.bk.aA)=true:=i'.o;have Gc:=aa (show es.change rq=([],je)from by rw[afM.o,if_pos (by rw[HN5.o,←MO.o.1];exact hl)]);have HF:=aa (show eZ aB e q (es.change rq).1 (es.change rq).2 w (.returned (.slice none 0 0)) w8 from by
      rw[Gc.o];exact⟨tV,_,none,0,rfl,fun h=>absurd rfl h,HE8.o,X4.o,X1.o⟩)
     go_wp2_with fail;go_ret;exact HF.o
    | false=>
     have hl: ¬n5<je.bk.aA:=of_decide_eq_false i'.o;have hl2: ¬(n5:Int)<(je.bk.aA:Int):=ai;have hl3:decide (n5<je.bk.aA)=false:=i'.o;have afN:=aa (show es.change rq=if(je.log.flush je.rg je.dev).1≠0 then([],je.down (je.log.flush je.rg je.dev).2.2 (je.log.flush je.rg je.dev).2.1)else(je.aD,{je with dev:=(je.log.flush je.rg je.dev).2.2,log:=(je.log.flush je.rg je.dev).2.1,aD:=[]})from by rw[afM.o,if_neg (by rw[HN5.o,←MO.o.1];exact hl)]);obtain⟨a1,a2,a3,a4,a5,a6⟩:=es.log.sG b ai1.o.1.done;have Ga:=aa (HE8.o.BD (by
      rw[MO.o.2.1,MO.o.2.2.2,a2,bZ,qy];have:=uj.o;have:=uU.o.1;omega) (by rw[MO.o.2.1];exact Rk.o))
     obtain⟨R,hR⟩:=ae (je.log.flush je.rg je.dev);have wj:=aa hR;rw[hR] at Ga afN;have x2:w8.cell? ⟨e,2,none⟩=some (.pointer (some ⟨q.lq,0,none⟩)):=HE8.o.own.cell 2;clear a1 a2 a3 a4 a5 a6 hR afM;by_cases c:R.1=0
     ·have hc1:(R.1 != 0)=false:=by rw[c];rfl
      have Gc:=aa (show es.change rq=(je.aD,{je with dev:=R.2.2,log:=R.2.1,aD:=[]})from by rw[afN.o,if_neg (by rw[c];exact fun h=>h rfl)]);clear c;go_wp2_with fail;refine Ga.o.mono ?_;rintro en w9 ⟨rfl,hE9,hT9⟩;have HE9:=aa hE9;have Ef:=aa hT9;clear hE9 hT9 Ga x2;go_wp2_with fail;refine(AY HE9.o).mono ?_;rintro en wa ⟨rfl,hEa,hRa,Jp⟩;have HF:=aa (show eZ aB e q (es.change rq).1 (es.change rq).2 w (.returned (.slice A5 n5 c5)) wa from by
       rw[Gc.o];have I9:aP (fun k=>grow tV w8 w9 2 k=4) wa 108 7 (.slice A5 je.aD.length c5) je.aD.length (yU je.aD):=by rw[HN5.o] at hRa ⊢;exact hRa
       refine⟨_,_,A5,c5,by rw[HN5.o],Uh I9,hEa,fun k hk=>?_,?_⟩
       ·rcases iR k hk with h|h
        ·exact X4.o k h
        exact .inr (aV X1.o.size h)
       have h1:=X1.o.new (Ef.o.mono fun k _ hk=>X4.o k (by rcases hk with hk|hk <;>rw[hk] <;>decide));exact h1.new (Jp.mono fun k _ hk=>by
        subst hk;exact X4.o k (by rw[HE8.o.rest.r5];decide)))
      clear hEa hRa Jp;go_wp2_with fail;go_ret;exact HF.o
     have hc1:(R.1 != 0)=true:=bne_iff_ne.2 c;have Gc:=aa (show es.change rq=([],je.down R.2.2 R.2.1)from by rw[afN.o,if_pos c]);clear c;go_wp2_with fail;refine Ga.o.mono ?_;rintro en w9 ⟨rfl,hE9,hT9⟩;have HE9:=aa hE9;have Ef:=aa hT9;clear hE9 hT9 Ga x2;go_wp2_with fail;refine(FU HE9.o).mono ?_;rintro en wa ⟨⟨u,rfl⟩,hEa,Jp⟩;have HF:=aa (show eZ aB e q (es.change rq).1 (es.change rq).2 w (.returned (.slice none 0 0)) wa from by
      rw[Gc.o];refine⟨_,_,none,0,rfl,fun h=>absurd rfl h,hEa,fun k hk=>?_,?_⟩
      ·rcases iR k hk with h|h
       ·exact X4.o k h
       exact .inr (aV X1.o.size h)
      have h1:=X1.o.new (Ef.o.mono fun k _ hk=>X4.o k (by rcases hk with hk|hk <;>rw[hk] <;>decide));exact h1.new (Jp.mono fun k _ hk=>by
       subst hk;exact X4.o k (by rw[HE8.o.rest.r5];decide)))
     clear hEa Jp;go_wp2_with fail;go_ret;exact HF.o
  have HC0:=aa c0;have HYE:=aa hY;have Gc:=aa (show es.change rq=([Y],es)from by unfold Es.change;rw[if_pos c0,hY]);clear c0 hX hY;have HF:=aa (show ∀ g c,g=wc.heap.size→eZ aB e q (es.change rq).1 (es.change rq).2 w (.returned (.slice (some ⟨g,0,none⟩) 1 c)) (wc.alloc (.cells (lf Y) 108))from fun g c hg=>by
   rw[Gc.o];refine eZ.one HE.o (fun k hk=>.inl hk) HT.o (fun _=>⟨g,0,rfl,by rw[hg];simp,fun i hi j u hj=>?_⟩) (ay (ar _ _) _);have h0:i=0:=Ak;subst h0;have:=(aG.fresh wc 108 (lf Y)).cell j;simp only[Nat.zero_mul,gV];rw[hg];refine this.trans ?_;simpa using hj)
  go_wp2_with (refine aC rfl 108 (.tmp 6) rfl xp 108 #[.int .u32 Y.tag,.int .i64 Y.ax,.int .i64 Y.err,.int .u32 Y.id,.int .i64 Y.aw,.int .i64 Y.aR,.int .i64 Y.count] HP.o rfl _ Tryz.underlying108 rfl aS ?_);go_ret;exact HF.o _ _ rfl
