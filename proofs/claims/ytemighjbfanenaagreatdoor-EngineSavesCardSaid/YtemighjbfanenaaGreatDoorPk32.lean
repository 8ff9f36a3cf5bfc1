import Derived.Test.YtemighjbfanenaaGreatDoorPk24
set_option linter.all false
set_option maxRecDepth 100000
set_option maxHeartbeats 16000000
namespace Go.Proofs.YtemighjbfanenaaGreatDoor
open RowKit
open Oc (Bs le rh val)
open Eg (ik ju jC Mf)
open Bk (n9 KB fK adO yw ZR)
open Go.AllReadyH renaming cons→po
open Go.Proofs.Tryz renaming prog→af
open Go.Value renaming oneCell'→fw
open List renaming length_append→dh
open Nat renaming zero_add→gX,le_trans→aT
open RowKit.Below renaming refl→au
theorem zl{p:Prop}(h:p:=by
 refine cG 18 fun K hK=>?_
 refine cT 58 _ _ rfl xa 58 _ (fA X) jM.o rfl rfl rfl bG S4 ?_;intro v5 dE hg gJ;have jH:=Cq.o;have adD:=aa (show bC aB v5 e q wt es from mQ.o.grown hg jH HN.o);have adw:=aa (show aG v5 xq 41 (cZ rq)from nZ.o.bw hg (fun e=>agx));have aiH:=aa (show aI (fun k=>aB k≠0) w v5 from vH oN.o hg jH);have abj:=aa (jL.o.bw hg (fun e=>agz));have abl:=aa dE;clear dE hg gJ jH;refine bW hK agv fun hh5=>?_
 clear hK K;refine cG 19 fun K hK=>?_
 refine cT 108 _ _ rfl xp 108 _ (iW Y) abj.o rfl rfl rfl aR pH ?_;intro v6 dE hg gJ;have jH:=Cp.o;have adC:=aa (show bC aB v6 e q wt es from adD.o.grown hg jH HN.o);have adv:=aa (show aG v6 xq 41 (cZ rq)from adw.o.bw hg (fun e=>agw));have aiG:=aa (show aI (fun k=>aB k≠0) w v6 from vH aiH.o hg jH);have abk:=aa (abl.o.bw hg (fun e=>agz));have abi:=aa dE;clear dE hg gJ jH;refine bW hK agu fun KJ=>?_
 clear hK K;refine tX 20 21 ?_;refine bO ?_;go_wp2_with fail;go_meet;exact⟨rfl,xa,xp,rfl,rfl,abk.o,abi.o,adv.o,adC.o,aiG.o,Cq.o,Cp.o,vx.o.1⟩):p:=h
theorem acT{p:Prop}(h:p:=by
 refine bW hK (by exact HSP.o _ Dx.o) fun KJ=>?_
 clear hK K;refine cG 7 fun K hK=>?_
 refine fp _ (.tmp 61) (.tmp 63) 65 rfl 108 j0 (.agg #[.int .u32 0,.int .i64 0,.int .i64 0,.int .u32 0,.int .i64 0,.int .i64 0,.int .i64 0]) 7 56 Tryz.underlying65 hj hz0 hz1 hz2 rfl aN (.slice A n cp) n _ rfl qL.o ⟨wd.heap.size,0,none⟩ 1 [.int .u32 Y.tag,.int .i64 Y.ay,.int .i64 Y.err,.int .u32 Y.id,.int .i64 Y.aw,.int .i64 Y.aS,.int .i64 Y.count] rfl rfl Zq.o S8 (by have:=HNL.o;unfold maxLen;omega) (by have:=HNL.o;omega) ?_;intro ga ca w6 CP kq;have h9:=Yn.o.waited (x:=Y) (v:=.slice (some ⟨ga,0,none⟩) (n+1) ca) (w6:=w6) aep kq;have Pp:=aa (show bC (grow DO v5 w6 4) (w6.setCell ⟨e,5,none⟩ (.slice (some ⟨ga,0,none⟩) (n+1) ca)) e q (.slice (some ⟨ga,0,none⟩) (n+1) ca) {JT with aF:=JT.aF++ [Y]}∧aI (fun k=>DO k=4∨k=e) v5 (w6.setCell ⟨e,5,none⟩ (.slice (some ⟨ga,0,none⟩) (n+1) ca))from⟨h9.1,h9.2.1⟩);have x5:w6.cell? ⟨e,5,none⟩=some (.slice A n cp):=h9.2.2.1;have m5:w6.frozen? ⟨e,5,none⟩=false:=h9.2.2.2;have Nb:=aa (Dx.o.bw kq (fun c=>aem));have HZ6:=aa (show v5.heap.size≤w6.heap.size from kq.size);clear h9 CP kq;refine bW hK (by exact HSP.o _ Nb.o) fun hh7=>?_
 clear hK K;refine tX 8 9 ?_;refine cG 10 fun K hK=>?_
 go_simp;go_wp2_with fail;refine bW hK agt fun ams=>?_
 clear hK K;refine bO ?_;go_wp2_with fail;go_meet;exact⟨rfl,Sm.o _ _ _ Pp.o.1 Pp.o.2 HZ6.o px.o⟩):p:=h
theorem agz{p:Prop}(h:p:=by injection e with e;have:=jK.o;omega):p:=h
theorem yK{p:Prop}(h:p:=by have:=(HN.o _ Cq.o).1;rw[this] at c;exact absurd c (by decide)):p:=h
theorem yJ{p:Prop}(h:p:=by have:=(HN.o _ Cp.o).1;rw[this] at c;exact absurd c (by decide)):p:=h
theorem agx{p:Prop}(h:p:=by injection e with e;have:=qJ.o;omega):p:=h
theorem agw{p:Prop}(h:p:=by injection e with e;have:=qI.o;omega):p:=h
theorem qX{p:Prop}(h:p:=by exact gi.o _ mQ.o nZ.o):p:=h
theorem agv{p:Prop}(h:p:=by exact gi.o _ adD.o adw.o):p:=h
theorem agu{p:Prop}(h:p:=by exact gi.o _ adC.o adv.o):p:=h
theorem agt{p:Prop}(h:p:=by exact HSP.o _ (Nb.o.other (p:=⟨e,5,none⟩) (fun c=>by have c2:xp=e:=c;have h3:=Yn.o.rest.r5;rw[←c2,Ze.o] at h3;exact absurd h3 (by decide)) _)):p:=h
theorem aep{p:Prop}(h:p:=by have h1:=CP;have h2:=IY JT.aF Y;rw[Sq.o] at h2;rw[←h2,dh,Sq.o];exact h1):p:=h
theorem ajX{p:Prop}(h:p:=by have c2:xp=e:=c;have h3:=Yn.o.rest.r5;rw[←c2,Ze.o] at h3;exact absurd h3 (by decide)):p:=h
theorem uD{p:Prop}(h:p:=by have:=fY.o.lt;omega):p:=h
theorem aem{p:Prop}(h:p:=by have h3:=Yn.o.aF.block xp c;rw[Ze.o] at h3;exact absurd h3 (by decide)):p:=h
theorem xD{p:Prop}(h:p:=by have:=fG.o.lt;omega):p:=h
theorem TC{p:Prop}(h:p:=by have Hz:aB k=1:=hk;rw[Hz];exact⟨by decide,by decide⟩):p:=h
theorem Tp{p:Prop}(h:p:=by have Hz:aB k=1:=hk;show aB k≠0;rw[Hz];decide):p:=h
theorem Lm{p:Prop}(h:p:=by rw[←iz];exact eW.o.size):p:=h
theorem Ll{p:Prop}(h:p:=by rw[←lF];exact eV.o.size):p:=h
theorem Lk{p:Prop}(h:p:=by rw[←lF];exact eW.o.size):p:=h
theorem Lj{p:Prop}(h:p:=by rw[←iz];exact eV.o.size):p:=h
theorem La{p:Prop}(h:p:=by have:=fy.o.lt;omega):p:=h
theorem K9{p:Prop}(h:p:=by have:=fx.o.lt;omega):p:=h
section
namespace En
theorem _root_.Go.Proofs.YtemighjbfanenaaGreatDoor.Bk.akS(a b c:Int)(W:World): (Instr.field 80 (.agg #[.int .i64 a,.int .i64 b,.int .i64 c]) 2).run af W= .ok (.int .i64 c) W:=br
section
variable {aB:Nat→Nat}{w w':World}{e:Nat}{q:sQ}{wt:Value}{es:Es}
theorem dg.aeu{w0:World}(h:dg aB w e q es)(hlt: ∀ k,aB k≠0→k<w0.heap.size)(hz:w0.heap.size≤w.heap.size)(hc:1<w0.heap.size∧0<w0.heap.size): dg (grow aB w0 w 4) w e q es:=by
 have o: ∀ {k r:Nat},aB k=r→r≠0→grow aB w0 w 4 k=r:=fun hk hr=>(dG (hlt _ (by rw[hk];exact hr))).trans hk
 refine⟨h.does,?_,?_,?_,h.slots,o h.r5 aN,o h.r6 aN,⟨o h.r7.1 aN,o h.r7.2.1 aN,o h.r7.2.2 aN⟩,zT hlt hz,h.ic,h.rep,⟨(dG hc.1).trans h.kT.1,(dG hc.2).trans h.kT.2⟩⟩
 ·rw[gR hlt aN aN];exact h.log
 ·rw[gR hlt aN aN];exact h.dev
 rw[gR hlt aN aN];exact h.book
theorem bC.waited(h:bC aB w e q wt es){w6:World}{v:Value}{x:Rp}(hr:aM (fun k=>aB k=4∨k=w.heap.size) w6 108 7 v (es.aF++ [x]).length (oY (es.aF++ [x])))(hg:w.grownBy w6 wt.ownBlock):
  bC (grow aB w w6 4) (w6.setCell ⟨e,5,none⟩ v) e q v {es with aF:=es.aF++ [x]}∧aI (fun k=>aB k=4∨k=e) w (w6.setCell ⟨e,5,none⟩ v)∧w6.cell? ⟨e,5,none⟩=some wt∧w6.frozen? ⟨e,5,none⟩=false:=by
 have ht:aI (fun k=>aB k=4) w w6:=(aI.refl (fun k=>aB k=4) w).grown hg (fun k hk=>.inl (h.aF.block k hk));have hz:=ht.size;have hne: ¬aB e=4:=by rw[h.rest.r5];decide
 have ho:ik w6 e es.up (some ⟨q.lq,0,none⟩) (some ⟨q.sl,0,none⟩) (some ⟨q.bk,0,none⟩) wt (.map (some q.mb)):=ht.arr h.own hne;have hR:=h.rest.cO (w':=w6) (ht.mono fun k _ hk=>.inl hk);have qz:=hR.aeu h.rest.lt hz ⟨h.rest.ic.lt,h.rest.rep.lt⟩;have h5:(grow aB w w6 4) e=5:=qz.r5;have hr2:aM (fun k=>grow aB w w6 4 k=4) w6 108 7 v (es.aF++ [x]).length (oY (es.aF++ [x])):=hr.mono fun k hk hl=>by
  rcases hk with hk|hk
  ·exact nA h.rest.lt k hk
  unfold grow;rw[if_neg aj,if_pos hl]
 refine⟨⟨(qz.agF (aI.at w6 e 5 _)).as rfl rfl rfl rfl rfl,aG.put ho 5 _,hr2.put (q:=⟨e,5,none⟩) (fun g hg c=>?_) _⟩,(ht.mono fun k _ hk=>.inl hk).put (p:=⟨e,5,none⟩) (.inl (.inr rfl)) _,ho.cell 5,ho.mark 5⟩;have c':e=g:=c;have:=hr2.block g hg;rw[←c',h5] at this;exact absurd this aN
theorem bC.Qt(h:bC aB w e q wt es): Calls af 96 #[.pointer (some ⟨q.lq,0,none⟩)] w fun en w'=>en= .returned (.int .i64 es.bg)∧Below w.heap.size w w':=by
 obtain⟨v,hv⟩:=h.rest.log;refine(wF hv).mono ?_;rintro en w' ⟨rfl,hb⟩;refine⟨?_,hb⟩;have:=hv.fit;unfold Es.bg;congr 3;omega
def agh(S:Nat→Prop)(b:Nat)(bk:dK)(X:Rec)(Y:Rp)(ok:Bool)(w:World)(e:Ending)(w':World): Prop:=e= .returned (.tuple #[.agg (fA X),.agg (iW Y),.bool ok,.int .i64 0])∧fK S w' b bk∧aI S w w'
theorem JW(S:Nat→Prop)(b:Nat)(bk:dK)(bg:Int)(rq:Rq)(hb:bk.Ok)(hq:rq.Good)(Dl:zv rq)(hc:bI rq.ay=true):
  ∃ (X:Rec) (Y:Rp) (ok:Bool),(∀ W,fK S W b bk→Calls af 216 #[.pointer (some ⟨b,0,none⟩),.int .i64 bg,.agg (cZ rq)] W (agh S b bk X Y ok W))∧
   ((bE bk bg rq=0∧X=bB bk rq∧Y=bP rq (bB bk rq)∧ok=true)∨(bE bk bg rq≠0∧X=ZR∧Y=bZ rq (bE bk bg rq)∧ok=false)):=by
 by_cases c:bE bk bg rq=0
 ·refine⟨bB bk rq,bP rq (bB bk rq),true,fun W hW=>(yw S W b bk bg rq hW hb hq Dl hc).mono ?_,.inl ⟨c,rfl,rfl,rfl⟩⟩;rintro e w' ⟨rfl,h1,h2⟩;exact⟨by rw[if_pos c],h1,h2⟩
 ·refine⟨ZR,bZ rq (bE bk bg rq),false,fun W hW=>(yw S W b bk bg rq hW hb hq Dl hc).mono ?_,.inr ⟨c,rfl,rfl,rfl⟩⟩;rintro e w' ⟨rfl,h1,h2⟩;exact⟨by rw[if_neg c],h1,h2⟩
def ajG(aB:Nat→Nat)(w:World)(e:Nat)(q:sQ)(wt:Value)(es:Es)(rq:Rq)(xq:Nat)(X:Rec)(Y:Rp)(s5 s6:Value)(wc:World): Prop:=
 ∃ xa xp,s5= .pointer (some ⟨xa,0,none⟩)∧s6= .pointer (some ⟨xp,0,none⟩)∧aG wc xa 58 (fA X)∧aG wc xp 108 (iW Y)∧aG wc xq 41 (cZ rq)∧bC aB wc e q wt es∧aI (fun k=>aB k≠0) w wc∧w.heap.size≤xa∧w.heap.size≤xp∧w.heap.size≤xq
theorem yi(h:bC aB w e q wt es)(rq:Rq)(hb:es.bk.Ok)(hq:rq.Good)(Dl:zv rq)(hc:bI rq.ay=true)(hn:es.aF.length≤1000)(hr:es.dev.dk.row.length+es.log.aF.length+54≤1000000)(hs:1≤es.dev.dk.size):
  Calls af 101 #[.pointer (some ⟨e,0,none⟩),.agg (cZ rq)] w (eX aB e q (es.change rq).1 (es.change rq).2 w):=by
 obtain⟨xq,iO⟩:=ae w.heap.size;obtain⟨w1,aZ⟩:=ae (w.alloc (.cells (cZ rq) 41));have bz:=aa (aL aZ);have vz:=aa (aK aZ iO);have vA:=aa (h.ak bz.o);have HN:=aa h.news;have vx:=aa (show w.heap.size≤xq∧xq<w1.heap.size from⟨aj,vz.o.lt⟩);have M7:=aa (show ∀ W,bC aB W e q wt es→_ from fun W hW=>hW.Qt);obtain⟨X,Y,ok,hdc,hdd⟩:=JW (fun k=>aB k=3) q.bk es.bk es.bg rq hb hq Dl hc;have RP:=aa hdc;have Yp:=aa hdd;have oo:=aa hb;have HGO:=aa hq;have HCH:=aa hc;have HNN:=aa hn;have uq:=aa hr;have RD:=aa hs;obtain⟨bg,hroom⟩:=ae es.bg;have HRO:=aa hroom;rw[hroom] at M7 RP;clear h hb hq Dl hc hdd hdc hroom hn hr hs;go_enter Tryz.func101,Tryz.ntmps101;go_upto_region 1 with fail
 clear aZ iO;go_cut [5,6,7,8] from 13 to 28 (fun s5 s6 s7 s8 wc=>s7= .bool ok∧ajG aB w e q wt es rq xq X Y s5 s6 wc)
 case first=>
  have gi:=aa (show ∀ W,bC aB W e q wt es→aG W xq 41 (cZ rq)→(W.cell? ⟨e,4,none⟩=some (.pointer (some ⟨q.bk,0,none⟩))∧W.cell? ⟨e,2,none⟩=some (.pointer (some ⟨q.lq,0,none⟩))∧W.rangeAt xq 0 (cZ rq).toList)from fun W hE hQ=>⟨hE.own.cell 4,hE.own.cell 2,fun j u hj=>by rw[gX,hQ.cell j];simpa using hj⟩);obtain⟨wd,hwd⟩:=ae w1.drew;have gQ:Below w1.heap.size w1 wd:=mS;have ma:=aa (vA.o.ak gQ);have kG:=vz.js gQ;have kj:=aa (show aI (fun k=>aB k≠0) w wd from aI.aU (av bz.o gQ));clear gQ;refine wp_region_held_drew (S:=(fun W=>W.cell? ⟨e,4,none⟩=some (.pointer (some ⟨q.bk,0,none⟩))∧W.cell? ⟨e,2,none⟩=some (.pointer (some ⟨q.lq,0,none⟩))∧W.rangeAt xq 0 (cZ rq).toList)) br (by rw[hwd];exact gi.o _ ma.o kG.o) (fun hHeld=>?_);rw[hwd] at hHeld ⊢;clear hwd vA vz;refine ov 0 1 2 3 4 5 6 7 ?_;refine eZ 9 (some 23) hHeld 41 (.tmp 3) xq 0 (cZ rq).toList _ (fun w' h=>h.2.2) Tryz.underlying41 rfl aH ?_;try simp only[aY]
  refine wpAnyH_ready (rs:=[8,16,17]) br dR ?_;refine po rfl (fun K hK=>?_) (po rfl (fun K hK=>?_) (po rfl (fun K hK=>?_) (AllReadyH.nil)))
  ·go_simp;refine(M7.o _ ma.o).mono ?_;rintro en v1 ⟨rfl,hb⟩;have iU:=aa (show bC aB v1 e q wt es from ma.o.ak hb);have kY:=aa (show aG v1 xq 41 (cZ rq)from kG.o.ai hb);have iK:=aa (show aI (fun k=>aB k≠0) w v1 from kj.o.ak hb);clear hb;go_wp2_with fail;refine bW hK Bd fun hh1=>?_
   clear hK K;refine wpAnyH_ready (rs:=[10,16,17]) br dR ?_;refine po rfl (fun K hK=>?_) (po rfl (fun K hK=>?_) (po rfl (fun K hK=>?_) (AllReadyH.nil)))
   ·go_simp;refine(RP.o _ iU.o.rest.book).mono ?_;rintro en v2 ⟨rfl,cL,ht⟩;have eI:=aa (iU.o.asked cL ht);have fY:=aa (ht.arr kY.o (fun c=>xd));have eW:=aa (iK.o.trans (ht.mono fun k _ hk=>oz));clear cL ht;go_wp2_with fail;refine bW hK vE fun Q4=>?_
    clear hK K;refine lu 11 12 13 14 ?_;refine ty 15 ?_;refine qp 16 17 (fun K hK=>?_) fun K hK=>?_
    ·obtain⟨v3,hv3⟩:=ae (v2.alloc (.cells #[.int .i64 0,.int .u32 0,.int .i64 0,.int .i64 0,.int .i64 0] 58));obtain⟨xa,iz⟩:=ae v2.heap.size;have hb:Below v2.heap.size v2 v3:=by rw[←hv3];exact ax (au _ _) _
     have eh:=aa (show bC aB v3 e q wt es from eI.o.ak hb);have fG:=aa (show aG v3 xq 41 (cZ rq)from fY.o.ai hb);have eV:=aa (show aI (fun k=>aB k≠0) w v3 from eW.o.ak hb);have fy:=aa (show aG v3 xa 58 #[.int .i64 0,.int .u32 0,.int .i64 0,.int .i64 0,.int .i64 0] by rw[←hv3,←iz];exact aG.fresh v2 _ _);have Cq:=aa (show w.heap.size≤xa from Lm);have qJ:=aa (show xq<xa from uD);clear hb;go_simp;go_wp2_with fail;try rw[hv3]
     try rw[iz]
     clear hv3 iz;refine bW hK pG fun KL=>?_
     clear hK K;refine cG 17 fun K hK=>?_
     obtain⟨v4,hv4⟩:=ae (v3.alloc (.cells #[.int .u32 0,.int .i64 0,.int .i64 0,.int .u32 0,.int .i64 0,.int .i64 0,.int .i64 0] 108));obtain⟨xp,lF⟩:=ae v3.heap.size;have hb:=aL hv4;have mQ:=aa (show bC aB v4 e q wt es from eh.o.ak hb);have nZ:=aa (show aG v4 xq 41 (cZ rq)from fG.o.ai hb);have oN:=aa (show aI (fun k=>aB k≠0) w v4 from eV.o.ak hb);have jM:=aa (show aG v4 xa 58 #[.int .i64 0,.int .u32 0,.int .i64 0,.int .i64 0,.int .i64 0] from fy.o.ai hb);have jL:=aa (aK hv4 lF);have Cp:=aa (show w.heap.size≤xp from Ll);have qI:=aa (show xq<xp from xD);have jK:=aa (show xa≠xp from La);clear hb;go_simp;go_wp2_with fail;try rw[hv4]
     try rw[lF]
     clear hv4 lF;refine bW hK qX fun Q3=>?_
     clear hK K;exact zl
    obtain⟨v3,hv3⟩:=ae (v2.alloc (.cells #[.int .u32 0,.int .i64 0,.int .i64 0,.int .u32 0,.int .i64 0,.int .i64 0,.int .i64 0] 108));obtain⟨xp,lF⟩:=ae v2.heap.size;have hb:=aL hv3;have eh:=aa (show bC aB v3 e q wt es from eI.o.ak hb);have fG:=aa (show aG v3 xq 41 (cZ rq)from fY.o.ai hb);have eV:=aa (show aI (fun k=>aB k≠0) w v3 from eW.o.ak hb);have fx:=aa (aK hv3 lF);have Cp:=aa (show w.heap.size≤xp from Lk);have qI:=aa (show xq<xp from uD);clear hb;go_simp;go_wp2_with fail;try rw[hv3]
    try rw[lF]
    clear hv3 lF;refine bW hK pG fun KL=>?_
    clear hK K;refine cG 16 fun K hK=>?_
    obtain⟨v4,hv4⟩:=ae (v3.alloc (.cells #[.int .i64 0,.int .u32 0,.int .i64 0,.int .i64 0,.int .i64 0] 58));obtain⟨xa,iz⟩:=ae v3.heap.size;have hb:=aL hv4;have mQ:=aa (show bC aB v4 e q wt es from eh.o.ak hb);have nZ:=aa (show aG v4 xq 41 (cZ rq)from fG.o.ai hb);have oN:=aa (show aI (fun k=>aB k≠0) w v4 from eV.o.ak hb);have jL:=aa (show aG v4 xp 108 #[.int .u32 0,.int .i64 0,.int .i64 0,.int .u32 0,.int .i64 0,.int .i64 0,.int .i64 0] from fx.o.ai hb);have jM:=aa (aK hv4 iz);have Cq:=aa (show w.heap.size≤xa from Lj);have qJ:=aa (show xq<xa from xD);have jK:=aa (show xp≠xa from K9);clear hb;go_simp;go_wp2_with fail;try rw[hv4]
    try rw[iz]
    clear hv4 iz;refine bW hK qX fun Q3=>?_
    clear hK K;exact zl
   ·obtain⟨v2,hv2⟩:=ae (v1.alloc (.cells #[.int .i64 0,.int .u32 0,.int .i64 0,.int .i64 0,.int .i64 0] 58));obtain⟨xa,iz⟩:=ae v1.heap.size;have hb:Below v1.heap.size v1 v2:=by rw[←hv2];exact ax (au _ _) _
    have eI:=aa (show bC aB v2 e q wt es from iU.o.ak hb);have fY:=aa (show aG v2 xq 41 (cZ rq)from kY.o.ai hb);have eW:=aa (show aI (fun k=>aB k≠0) w v2 from iK.o.ak hb);have kJ:=aa (show aG v2 xa 58 #[.int .i64 0,.int .u32 0,.int .i64 0,.int .i64 0,.int .i64 0] by rw[←hv2,←iz];exact aG.fresh v1 _ _);have Cq:=aa (show w.heap.size≤xa from Ln);have qJ:=aa (show xq<xa from AX);clear hb;go_simp;go_wp2_with fail;try rw[hv2]
    try rw[iz]
    clear hv2 iz;refine bW hK vE fun Q4=>?_
    clear hK K;refine qp 10 17 (fun K hK=>?_) fun K hK=>?_
    ·go_simp;refine(RP.o _ eI.o.rest.book).mono ?_;rintro en v3 ⟨rfl,cL,ht⟩;have eh:=aa (eI.o.asked cL ht);have fG:=aa (ht.arr fY.o (fun c=>xd));have eV:=aa (eW.o.trans (ht.mono fun k _ hk=>oz));have fy:=aa (ht.arr kJ.o (fun c=>yK));clear cL ht;go_wp2_with fail;refine bW hK pG fun KL=>?_
     clear hK K;refine lu 11 12 13 14 ?_;refine ty 15 ?_;refine cG 17 fun K hK=>?_
     obtain⟨v4,hv4⟩:=ae (v3.alloc (.cells #[.int .u32 0,.int .i64 0,.int .i64 0,.int .u32 0,.int .i64 0,.int .i64 0,.int .i64 0] 108));obtain⟨xp,lF⟩:=ae v3.heap.size;have hb:=aL hv4;have mQ:=aa (show bC aB v4 e q wt es from eh.o.ak hb);have nZ:=aa (show aG v4 xq 41 (cZ rq)from fG.o.ai hb);have oN:=aa (show aI (fun k=>aB k≠0) w v4 from eV.o.ak hb);have jM:=aa (show aG v4 xa 58 #[.int .i64 0,.int .u32 0,.int .i64 0,.int .i64 0,.int .i64 0] from fy.o.ai hb);have jL:=aa (aK hv4 lF);have Cp:=aa (show w.heap.size≤xp from Ll);have qI:=aa (show xq<xp from xD);have jK:=aa (show xa≠xp from La);clear hb;go_simp;go_wp2_with fail;try rw[hv4]
     try rw[lF]
     clear hv4 lF;refine bW hK qX fun Q3=>?_
     clear hK K;exact zl
    obtain⟨v3,hv3⟩:=ae (v2.alloc (.cells #[.int .u32 0,.int .i64 0,.int .i64 0,.int .u32 0,.int .i64 0,.int .i64 0,.int .i64 0] 108));obtain⟨xp,lF⟩:=ae v2.heap.size;have hb:=aL hv3;have eh:=aa (show bC aB v3 e q wt es from eI.o.ak hb);have fG:=aa (show aG v3 xq 41 (cZ rq)from fY.o.ai hb);have eV:=aa (show aI (fun k=>aB k≠0) w v3 from eW.o.ak hb);have fy:=aa (show aG v3 xa 58 #[.int .i64 0,.int .u32 0,.int .i64 0,.int .i64 0,.int .i64 0] from kJ.o.ai hb);have fx:=aa (aK hv3 lF);have Cp:=aa (show w.heap.size≤xp from Lk);have qI:=aa (show xq<xp from uD);have jK:=aa (show xa≠xp from by have:=kJ.o.lt;omega);clear hb;go_simp;go_wp2_with fail;try rw[hv3]
    try rw[lF]
    clear hv3 lF;refine bW hK pG fun KL=>?_
    clear hK K;refine cG 10 fun K hK=>?_
    go_simp;refine(RP.o _ eh.o.rest.book).mono ?_;rintro en v4 ⟨rfl,cL,ht⟩;have mQ:=aa (eh.o.asked cL ht);have nZ:=aa (ht.arr fG.o (fun c=>xd));have oN:=aa (eV.o.trans (ht.mono fun k _ hk=>oz));have jM:=aa (ht.arr fy.o (fun c=>yK));have jL:=aa (ht.arr fx.o (fun c=>yJ));clear cL ht;go_wp2_with fail;refine bW hK qX fun Q3=>?_
    clear hK K;refine lu 11 12 13 14 ?_;refine ty 15 ?_;exact zl
   obtain⟨v2,hv2⟩:=ae (v1.alloc (.cells #[.int .u32 0,.int .i64 0,.int .i64 0,.int .u32 0,.int .i64 0,.int .i64 0,.int .i64 0] 108));obtain⟨xp,lF⟩:=ae v1.heap.size;have hb:=aL hv2;have eI:=aa (show bC aB v2 e q wt es from iU.o.ak hb);have fY:=aa (show aG v2 xq 41 (cZ rq)from kY.o.ai hb);have eW:=aa (show aI (fun k=>aB k≠0) w v2 from iK.o.ak hb);have kI:=aa (aK hv2 lF);have Cp:=aa (show w.heap.size≤xp from by rw[←lF];exact iK.o.size);have qI:=aa (show xq<xp from AX);clear hb;go_simp;go_wp2_with fail;try rw[hv2]
   try rw[lF]
   clear hv2 lF;refine bW hK vE fun Q4=>?_
   clear hK K;refine qp 10 16 (fun K hK=>?_) fun K hK=>?_
   ·go_simp;refine(RP.o _ eI.o.rest.book).mono ?_;rintro en v3 ⟨rfl,cL,ht⟩;have eh:=aa (eI.o.asked cL ht);have fG:=aa (ht.arr fY.o (fun c=>xd));have eV:=aa (eW.o.trans (ht.mono fun k _ hk=>oz));have fx:=aa (ht.arr kI.o (fun c=>yJ));clear cL ht;go_wp2_with fail;refine bW hK pG fun KL=>?_
    clear hK K;refine lu 11 12 13 14 ?_;refine ty 15 ?_;refine cG 16 fun K hK=>?_
    obtain⟨v4,hv4⟩:=ae (v3.alloc (.cells #[.int .i64 0,.int .u32 0,.int .i64 0,.int .i64 0,.int .i64 0] 58));obtain⟨xa,iz⟩:=ae v3.heap.size;have hb:=aL hv4;have mQ:=aa (show bC aB v4 e q wt es from eh.o.ak hb);have nZ:=aa (show aG v4 xq 41 (cZ rq)from fG.o.ai hb);have oN:=aa (show aI (fun k=>aB k≠0) w v4 from eV.o.ak hb);have jL:=aa (show aG v4 xp 108 #[.int .u32 0,.int .i64 0,.int .i64 0,.int .u32 0,.int .i64 0,.int .i64 0,.int .i64 0] from fx.o.ai hb);have jM:=aa (aK hv4 iz);have Cq:=aa (show w.heap.size≤xa from Lj);have qJ:=aa (show xq<xa from xD);have jK:=aa (show xp≠xa from K9);clear hb;go_simp;go_wp2_with fail;try rw[hv4]
    try rw[iz]
    clear hv4 iz;refine bW hK qX fun Q3=>?_
    clear hK K;exact zl
   obtain⟨v3,hv3⟩:=ae (v2.alloc (.cells #[.int .i64 0,.int .u32 0,.int .i64 0,.int .i64 0,.int .i64 0] 58));obtain⟨xa,iz⟩:=ae v2.heap.size;have hb:=aL hv3;have eh:=aa (show bC aB v3 e q wt es from eI.o.ak hb);have fG:=aa (show aG v3 xq 41 (cZ rq)from fY.o.ai hb);have eV:=aa (show aI (fun k=>aB k≠0) w v3 from eW.o.ak hb);have fx:=aa (show aG v3 xp 108 #[.int .u32 0,.int .i64 0,.int .i64 0,.int .u32 0,.int .i64 0,.int .i64 0,.int .i64 0] from kI.o.ai hb);have fy:=aa (aK hv3 iz);have Cq:=aa (show w.heap.size≤xa from Lm);have qJ:=aa (show xq<xa from uD);have jK:=aa (show xp≠xa from by have:=kI.o.lt;omega);clear hb;go_simp;go_wp2_with fail;try rw[hv3]
   try rw[iz]
   clear hv3 iz;refine bW hK pG fun KL=>?_
   clear hK K;refine cG 10 fun K hK=>?_
   go_simp;refine(RP.o _ eh.o.rest.book).mono ?_;rintro en v4 ⟨rfl,cL,ht⟩;have mQ:=aa (eh.o.asked cL ht);have nZ:=aa (ht.arr fG.o (fun c=>xd));have oN:=aa (eV.o.trans (ht.mono fun k _ hk=>oz));have jL:=aa (ht.arr fx.o (fun c=>yJ));have jM:=aa (ht.arr fy.o (fun c=>yK));clear cL ht;go_wp2_with fail;refine bW hK qX fun Q3=>?_
   clear hK K;refine lu 11 12 13 14 ?_;refine ty 15 ?_;exact zl
  ·obtain⟨v1,ko⟩:=ae (wd.alloc (.cells #[.int .i64 0,.int .u32 0,.int .i64 0,.int .i64 0,.int .i64 0] 58));obtain⟨xa,iz⟩:=ae wd.heap.size;have hb:Below wd.heap.size wd v1:=by rw[←ko];exact ax (au _ _) _
   have iU:=aa (show bC aB v1 e q wt es from ma.o.ak hb);have kY:=aa (show aG v1 xq 41 (cZ rq)from kG.o.ai hb);have iK:=aa (show aI (fun k=>aB k≠0) w v1 from kj.o.ak hb);have Gy:=aa (show aG v1 xa 58 #[.int .i64 0,.int .u32 0,.int .i64 0,.int .i64 0,.int .i64 0] by rw[←ko,←iz];exact aG.fresh wd _ _);have Cq:=aa (show w.heap.size≤xa from by rw[←iz];exact kj.o.size);have qJ:=aa (show xq<xa from AV);clear hb;go_simp;go_wp2_with fail;try rw[ko]
   try rw[iz]
   clear ko iz;refine bW hK Bd fun hh1=>?_
   clear hK K;refine qp 8 17 (fun K hK=>?_) fun K hK=>?_
   ·go_simp;refine(M7.o _ iU.o).mono ?_;rintro en v2 ⟨rfl,hb⟩;have eI:=aa (show bC aB v2 e q wt es from iU.o.ak hb);have fY:=aa (show aG v2 xq 41 (cZ rq)from kY.o.ai hb);have eW:=aa (show aI (fun k=>aB k≠0) w v2 from iK.o.ak hb);have kJ:=aa (show aG v2 xa 58 #[.int .i64 0,.int .u32 0,.int .i64 0,.int .i64 0,.int .i64 0] from Gy.o.ai hb);clear hb;go_wp2_with fail;refine bW hK vE fun Q4=>?_
    clear hK K;refine qp 10 17 (fun K hK=>?_) fun K hK=>?_
    ·go_simp;refine(RP.o _ eI.o.rest.book).mono ?_;rintro en v3 ⟨rfl,cL,ht⟩;have eh:=aa (eI.o.asked cL ht);have fG:=aa (ht.arr fY.o (fun c=>xd));have eV:=aa (eW.o.trans (ht.mono fun k _ hk=>oz));have fy:=aa (ht.arr kJ.o (fun c=>yK));clear cL ht;go_wp2_with fail;refine bW hK pG fun KL=>?_
     clear hK K;refine lu 11 12 13 14 ?_;refine ty 15 ?_;refine cG 17 fun K hK=>?_
     obtain⟨v4,hv4⟩:=ae (v3.alloc (.cells #[.int .u32 0,.int .i64 0,.int .i64 0,.int .u32 0,.int .i64 0,.int .i64 0,.int .i64 0] 108));obtain⟨xp,lF⟩:=ae v3.heap.size;have hb:=aL hv4;have mQ:=aa (show bC aB v4 e q wt es from eh.o.ak hb);have nZ:=aa (show aG v4 xq 41 (cZ rq)from fG.o.ai hb);have oN:=aa (show aI (fun k=>aB k≠0) w v4 from eV.o.ak hb);have jM:=aa (show aG v4 xa 58 #[.int .i64 0,.int .u32 0,.int .i64 0,.int .i64 0,.int .i64 0] from fy.o.ai hb);have jL:=aa (aK hv4 lF);have Cp:=aa (show w.heap.size≤xp from Ll);have qI:=aa (show xq<xp from xD);have jK:=aa (show xa≠xp from La);clear hb;go_simp;go_wp2_with fail;try rw[hv4]
     try rw[lF]
     clear hv4 lF;refine bW hK qX fun Q3=>?_
     clear hK K;exact zl
    obtain⟨v3,hv3⟩:=ae (v2.alloc (.cells #[.int .u32 0,.int .i64 0,.int .i64 0,.int .u32 0,.int .i64 0,.int .i64 0,.int .i64 0] 108));obtain⟨xp,lF⟩:=ae v2.heap.size;have hb:=aL hv3;have eh:=aa (show bC aB v3 e q wt es from eI.o.ak hb);have fG:=aa (show aG v3 xq 41 (cZ rq)from fY.o.ai hb);have eV:=aa (show aI (fun k=>aB k≠0) w v3 from eW.o.ak hb);have fy:=aa (show aG v3 xa 58 #[.int .i64 0,.int .u32 0,.int .i64 0,.int .i64 0,.int .i64 0] from kJ.o.ai hb);have fx:=aa (aK hv3 lF);have Cp:=aa (show w.heap.size≤xp from Lk);have qI:=aa (show xq<xp from uD);have jK:=aa (show xa≠xp from by have:=kJ.o.lt;omega);clear hb;go_simp;go_wp2_with fail;try rw[hv3]
    try rw[lF]
    clear hv3 lF;refine bW hK pG fun KL=>?_
    clear hK K;refine cG 10 fun K hK=>?_
    go_simp;refine(RP.o _ eh.o.rest.book).mono ?_;rintro en v4 ⟨rfl,cL,ht⟩;have mQ:=aa (eh.o.asked cL ht);have nZ:=aa (ht.arr fG.o (fun c=>xd));have oN:=aa (eV.o.trans (ht.mono fun k _ hk=>oz));have jM:=aa (ht.arr fy.o (fun c=>yK));have jL:=aa (ht.arr fx.o (fun c=>yJ));clear cL ht;go_wp2_with fail;refine bW hK qX fun Q3=>?_
    clear hK K;refine lu 11 12 13 14 ?_;refine ty 15 ?_;exact zl
   obtain⟨v2,hv2⟩:=ae (v1.alloc (.cells #[.int .u32 0,.int .i64 0,.int .i64 0,.int .u32 0,.int .i64 0,.int .i64 0,.int .i64 0] 108));obtain⟨xp,lF⟩:=ae v1.heap.size;have hb:=aL hv2;have eI:=aa (show bC aB v2 e q wt es from iU.o.ak hb);have fY:=aa (show aG v2 xq 41 (cZ rq)from kY.o.ai hb);have eW:=aa (show aI (fun k=>aB k≠0) w v2 from iK.o.ak hb);have kJ:=aa (show aG v2 xa 58 #[.int .i64 0,.int .u32 0,.int .i64 0,.int .i64 0,.int .i64 0] from Gy.o.ai hb);have kI:=aa (aK hv2 lF);have Cp:=aa (show w.heap.size≤xp from by rw[←lF];exact iK.o.size);have qI:=aa (show xq<xp from AX);have jK:=aa (show xa≠xp from by have:=Gy.o.lt;omega);clear hb;go_simp;go_wp2_with fail;try rw[hv2]
   try rw[lF]
   clear hv2 lF;refine bW hK vE fun Q4=>?_
   clear hK K;refine cG 8 fun K hK=>?_
   go_simp;refine(M7.o _ eI.o).mono ?_;rintro en v3 ⟨rfl,hb⟩;have eh:=aa (show bC aB v3 e q wt es from eI.o.ak hb);have fG:=aa (show aG v3 xq 41 (cZ rq)from fY.o.ai hb);have eV:=aa (show aI (fun k=>aB k≠0) w v3 from eW.o.ak hb);have fy:=aa (show aG v3 xa 58 #[.int .i64 0,.int .u32 0,.int .i64 0,.int .i64 0,.int .i64 0] from kJ.o.ai hb);have fx:=aa (show aG v3 xp 108 #[.int .u32 0,.int .i64 0,.int .i64 0,.int .u32 0,.int .i64 0,.int .i64 0,.int .i64 0] from kI.o.ai hb);clear hb;go_wp2_with fail;refine bW hK pG fun KL=>?_
   clear hK K;refine cG 10 fun K hK=>?_
   go_simp;refine(RP.o _ eh.o.rest.book).mono ?_;rintro en v4 ⟨rfl,cL,ht⟩;have mQ:=aa (eh.o.asked cL ht);have nZ:=aa (ht.arr fG.o (fun c=>xd));have oN:=aa (eV.o.trans (ht.mono fun k _ hk=>oz));have jM:=aa (ht.arr fy.o (fun c=>yK));have jL:=aa (ht.arr fx.o (fun c=>yJ));clear cL ht;go_wp2_with fail;refine bW hK qX fun Q3=>?_
   clear hK K;refine lu 11 12 13 14 ?_;refine ty 15 ?_;exact zl
  obtain⟨v1,ko⟩:=ae (wd.alloc (.cells #[.int .u32 0,.int .i64 0,.int .i64 0,.int .u32 0,.int .i64 0,.int .i64 0,.int .i64 0] 108));obtain⟨xp,lF⟩:=ae wd.heap.size;have hb:=aL ko;have iU:=aa (show bC aB v1 e q wt es from ma.o.ak hb);have kY:=aa (show aG v1 xq 41 (cZ rq)from kG.o.ai hb);have iK:=aa (show aI (fun k=>aB k≠0) w v1 from kj.o.ak hb);have Gx:=aa (aK ko lF);have Cp:=aa (show w.heap.size≤xp from by rw[←lF];exact kj.o.size);have qI:=aa (show xq<xp from AV);clear hb;go_simp;go_wp2_with fail;try rw[ko]
  try rw[lF]
  clear ko lF;refine bW hK Bd fun hh1=>?_
  clear hK K;refine qp 8 16 (fun K hK=>?_) fun K hK=>?_
  ·go_simp;refine(M7.o _ iU.o).mono ?_;rintro en v2 ⟨rfl,hb⟩;have eI:=aa (show bC aB v2 e q wt es from iU.o.ak hb);have fY:=aa (show aG v2 xq 41 (cZ rq)from kY.o.ai hb);have eW:=aa (show aI (fun k=>aB k≠0) w v2 from iK.o.ak hb);have kI:=aa (show aG v2 xp 108 #[.int .u32 0,.int .i64 0,.int .i64 0,.int .u32 0,.int .i64 0,.int .i64 0,.int .i64 0] from Gx.o.ai hb);clear hb;go_wp2_with fail;refine bW hK vE fun Q4=>?_
   clear hK K;refine qp 10 16 (fun K hK=>?_) fun K hK=>?_
   ·go_simp;refine(RP.o _ eI.o.rest.book).mono ?_;rintro en v3 ⟨rfl,cL,ht⟩;have eh:=aa (eI.o.asked cL ht);have fG:=aa (ht.arr fY.o (fun c=>xd));have eV:=aa (eW.o.trans (ht.mono fun k _ hk=>oz));have fx:=aa (ht.arr kI.o (fun c=>yJ));clear cL ht;go_wp2_with fail;refine bW hK pG fun KL=>?_
    clear hK K;refine lu 11 12 13 14 ?_;refine ty 15 ?_;refine cG 16 fun K hK=>?_
    obtain⟨v4,hv4⟩:=ae (v3.alloc (.cells #[.int .i64 0,.int .u32 0,.int .i64 0,.int .i64 0,.int .i64 0] 58));obtain⟨xa,iz⟩:=ae v3.heap.size;have hb:=aL hv4;have mQ:=aa (show bC aB v4 e q wt es from eh.o.ak hb);have nZ:=aa (show aG v4 xq 41 (cZ rq)from fG.o.ai hb);have oN:=aa (show aI (fun k=>aB k≠0) w v4 from eV.o.ak hb);have jL:=aa (show aG v4 xp 108 #[.int .u32 0,.int .i64 0,.int .i64 0,.int .u32 0,.int .i64 0,.int .i64 0,.int .i64 0] from fx.o.ai hb);have jM:=aa (aK hv4 iz);have Cq:=aa (show w.heap.size≤xa from Lj);have qJ:=aa (show xq<xa from xD);have jK:=aa (show xp≠xa from K9);clear hb;go_simp;go_wp2_with fail;try rw[hv4]
    try rw[iz]
    clear hv4 iz;refine bW hK qX fun Q3=>?_
    clear hK K;exact zl
   obtain⟨v3,hv3⟩:=ae (v2.alloc (.cells #[.int .i64 0,.int .u32 0,.int .i64 0,.int .i64 0,.int .i64 0] 58));obtain⟨xa,iz⟩:=ae v2.heap.size;have hb:=aL hv3;have eh:=aa (show bC aB v3 e q wt es from eI.o.ak hb);have fG:=aa (show aG v3 xq 41 (cZ rq)from fY.o.ai hb);have eV:=aa (show aI (fun k=>aB k≠0) w v3 from eW.o.ak hb);have fx:=aa (show aG v3 xp 108 #[.int .u32 0,.int .i64 0,.int .i64 0,.int .u32 0,.int .i64 0,.int .i64 0,.int .i64 0] from kI.o.ai hb);have fy:=aa (aK hv3 iz);have Cq:=aa (show w.heap.size≤xa from Lm);have qJ:=aa (show xq<xa from uD);have jK:=aa (show xp≠xa from by have:=kI.o.lt;omega);clear hb;go_simp;go_wp2_with fail;try rw[hv3]
   try rw[iz]
   clear hv3 iz;refine bW hK pG fun KL=>?_
   clear hK K;refine cG 10 fun K hK=>?_
   go_simp;refine(RP.o _ eh.o.rest.book).mono ?_;rintro en v4 ⟨rfl,cL,ht⟩;have mQ:=aa (eh.o.asked cL ht);have nZ:=aa (ht.arr fG.o (fun c=>xd));have oN:=aa (eV.o.trans (ht.mono fun k _ hk=>oz));have jL:=aa (ht.arr fx.o (fun c=>yJ));have jM:=aa (ht.arr fy.o (fun c=>yK));clear cL ht;go_wp2_with fail;refine bW hK qX fun Q3=>?_
   clear hK K;refine lu 11 12 13 14 ?_;refine ty 15 ?_;exact zl
  obtain⟨v2,hv2⟩:=ae (v1.alloc (.cells #[.int .i64 0,.int .u32 0,.int .i64 0,.int .i64 0,.int .i64 0] 58));obtain⟨xa,iz⟩:=ae v1.heap.size;have hb:=aL hv2;have eI:=aa (show bC aB v2 e q wt es from iU.o.ak hb);have fY:=aa (show aG v2 xq 41 (cZ rq)from kY.o.ai hb);have eW:=aa (show aI (fun k=>aB k≠0) w v2 from iK.o.ak hb);have kI:=aa (show aG v2 xp 108 #[.int .u32 0,.int .i64 0,.int .i64 0,.int .u32 0,.int .i64 0,.int .i64 0,.int .i64 0] from Gx.o.ai hb);have kJ:=aa (aK hv2 iz);have Cq:=aa (show w.heap.size≤xa from Ln);have qJ:=aa (show xq<xa from AX);have jK:=aa (show xp≠xa from by have:=Gx.o.lt;omega);clear hb;go_simp;go_wp2_with fail;try rw[hv2]
  try rw[iz]
  clear hv2 iz;refine bW hK vE fun Q4=>?_
  clear hK K;refine cG 8 fun K hK=>?_
  go_simp;refine(M7.o _ eI.o).mono ?_;rintro en v3 ⟨rfl,hb⟩;have eh:=aa (show bC aB v3 e q wt es from eI.o.ak hb);have fG:=aa (show aG v3 xq 41 (cZ rq)from fY.o.ai hb);have eV:=aa (show aI (fun k=>aB k≠0) w v3 from eW.o.ak hb);have fx:=aa (show aG v3 xp 108 #[.int .u32 0,.int .i64 0,.int .i64 0,.int .u32 0,.int .i64 0,.int .i64 0,.int .i64 0] from kI.o.ai hb);have fy:=aa (show aG v3 xa 58 #[.int .i64 0,.int .u32 0,.int .i64 0,.int .i64 0,.int .i64 0] from kJ.o.ai hb);clear hb;go_wp2_with fail;refine bW hK pG fun KL=>?_
  clear hK K;refine cG 10 fun K hK=>?_
  go_simp;refine(RP.o _ eh.o.rest.book).mono ?_;rintro en v4 ⟨rfl,cL,ht⟩;have mQ:=aa (eh.o.asked cL ht);have nZ:=aa (ht.arr fG.o (fun c=>xd));have oN:=aa (eV.o.trans (ht.mono fun k _ hk=>oz));have jL:=aa (ht.arr fx.o (fun c=>yJ));have jM:=aa (ht.arr fy.o (fun c=>yK));clear cL ht;go_wp2_with fail;refine bW hK qX fun Q3=>?_
  clear hK K;refine lu 11 12 13 14 ?_;refine ty 15 ?_;exact zl
 case rest=>
  obtain⟨rfl,xa,xp,rfl,rfl,hA,hP,hQ,hE,hT,iz,lF,aeI⟩:=hcut;have HP:=aa hP;have HE:=aa hE;have HT:=aa hT;have HA:=aa hA;have HQ:=aa hQ;have HX:=aa (show aB xa=0∧aB xp=0∧aB xq=0 from⟨(HN.o _ iz).1,(HN.o _ lF).1,(HN.o _ aeI).1⟩);have HXL:=aa (show w.heap.size≤xa∧w.heap.size≤xp∧w.heap.size≤xq from⟨iz,lF,aeI⟩);clear hA hP hQ hE hT vA vz iz lF aeI vx bz RP M7 w1;rcases Yp.o with⟨c0,hX,hY,rfl⟩|⟨c0,hX,hY,rfl⟩
  ·have HC0:=aa c0;have HXE:=aa hX;have HYE:=aa hY;obtain⟨h1,h2⟩:=ac9 oo.o HGO.o HCH.o c0;have M8:=aa (show X.ok=true from by rw[hX];exact h1);obtain⟨b,hb⟩:=ae (ja X);have hlen:b.length=cK X.ay:=by rw[←hb,hX];exact I1 (Rec.FN h1)
   have vd:=aa (show b.length≤32∧b≠ []∧22+(b.length:Int)≤es.bg from by
    have h3:recKind X.ay=true:=by rw[hX];exact Rec.FN h1
    have h4:1≤cK X.ay∧cK X.ay≤32:=by
     simp only[recKind,Bool.and_eq_true,decide_eq_true_eq] at h3;rcases(show X.ay=1∨X.ay=2∨X.ay=3∨X.ay=4∨X.ay=5 from aj)with h|h|h|h|h <;>rw[h] <;>decide
    refine⟨aj,fun e=>by rw[e] at hlen;simp at hlen;omega,by rw[hlen,hX];exact h2⟩)
   have RH:=aa (show Calls af 217 #[.agg (fA X)] wc (uo b wc)from by rw[←hb];exact aa2 X wc M8.o);have ie:=aa hb;clear c0 hX hY h1 h2 hlen hb;go_wp2_with (refine aC rfl 58 (.tmp 5) rfl xa 58 _ HA.o rfl _ Tryz.underlying58 rfl bG ?_);refine RH.o.mono ?_;rintro en w2 ⟨BA,BC,rfl,tO,hb2,Q6,hbg,akj⟩;obtain⟨gb,off,rfl,-,-⟩:=tO vd.o.2.1;have KW:=aa tO;have wW:=aa (HE.o.ak hb2);have iZ:=aa (HA.o.ai hb2);have Yf:=aa (HP.o.ai hb2);have rI:=aa (HQ.o.ai hb2);have gh:=aa (HT.o.ak hb2);clear tO hb2 Q6 hbg akj RH HE HA HP HQ HT;have x2:w2.cell? ⟨e,2,none⟩=some (.pointer (some ⟨q.lq,0,none⟩)):=wW.o.own.cell 2;obtain⟨lv,hlv⟩:=wW.o.rest.log;have Nq:=aa (show Calls af 218 #[.pointer (some ⟨q.lq,0,none⟩),.slice (some ⟨gb,off,none⟩) b.length BC] w2 (PH (fun k=>aB k=1) q.lq q.rl q.p es.log es.rg es.dev.dk.size b w2)from M3 hlv b gb off BC KW.o vd.o.2.1 vd.o.1 wW.o.rest.ic);have ai4:=aa (show es.log.Ok∧es.log.used≤es.rg.bytes es.dev.dk.size from⟨hlv.ok,hlv.fit⟩);have ajg:=aa (show es.log.fits (es.rg.bytes es.dev.dk.size) b.length=decide (es.log.last≠18446744073709551615)from by
    unfold Lg.fits;have h1:=vd.o;have h2:=ai4.o.2;unfold Es.bg at h1;rw[decide_eq_true (show b.length≤32 from h1.1),decide_eq_true (show 22+b.length+es.log.used≤es.rg.bytes es.dev.dk.size from aj)];simp)
   clear hlv lv KW;by_cases c1:es.log.last=18446744073709551615
   ·have Gu:=aa (show es.change rq=([bZ rq 220],es)from by unfold Es.change;rw[if_neg (by rw[HC0.o];exact fun h=>h rfl),if_pos c1]);go_wp2_with fail;refine Nq.o.mono ?_;rintro en w3 ⟨hap,CN⟩;rw[ajg.o,if_neg (by simp[c1])] at hap;obtain⟨rfl,hl3⟩:=hap;have Ks:=aa (show bC (grow aB w2 w3 1) w3 e q wt es from wW.o.keeps (wW.o.rest.append (l:=es.log) hl3 CN) rfl rfl CN (fun k hk=>TC) (nA wW.o.rest.lt));have jx:=aa (CN.arr rI.o (fun c=>by have c':aB xq=1:=c;rw[HX.o.2.2] at c';exact absurd c' aN));have jF:=aa (gh.o.trans (CN.mono fun k _ hk=>Tp));clear hl3 CN c1 wW iZ Yf rI x2 Nq;go_wp2_with (refine aC rfl 41 (.tmp 3) rfl xq 41 _ jx.o rfl _ Tryz.underlying41 rfl aH ?_);refine(lz rq 220 w3).mono ?_;rintro en w4 ⟨A,cp,rfl,hr4,hb4⟩;have HF:=aa (show eX aB e q (es.change rq).1 (es.change rq).2 w (.returned (.slice A 1 cp)) w4 from by
     rw[Gu.o];exact eX.one Ks.o (fun k hk=>by
      rcases iP k hk with h|h
      ·exact .inl h
      exact .inr (aT gh.o.size h)) jF.o hr4 hb4)
    clear hr4 hb4;go_wp2_with fail;go_ret;exact HF.o
   have hf1:es.log.fits (es.rg.bytes es.dev.dk.size) b.length=true:=by rw[ajg.o];exact decide_eq_true c1
   have kR:=aa c1;go_wp2_with fail;refine Nq.o.mono ?_;rintro en w3 ⟨hap,CN⟩;rw[if_pos hf1] at hap;obtain⟨rfl,hl3⟩:=hap;obtain⟨MJ,aam⟩:=ae (({es with log:=es.log.append b}:Es));have ajj:=aa aam;have Ks:=aa (show bC (grow aB w2 w3 1) w3 e q wt MJ from by rw[←aam];exact wW.o.keeps (wW.o.rest.append (l:=es.log.append b) hl3 CN) rfl rfl CN (fun k hk=>TC) (nA wW.o.rest.lt));have no1: ∀ x,aB x=0→¬aB x=1:=fun x h c=>by rw[h] at c;exact absurd c aN
   have pB:=aa (CN.arr iZ.o (no1 _ HX.o.1));have Zn:=aa (CN.arr Yf.o (no1 _ HX.o.2.1));have jF:=aa (gh.o.trans (CN.mono fun k _ hk=>Tp));have Ie:=aa (show(grow aB w2 w3 1) xa=0∧(grow aB w2 w3 1) xp=0 from⟨(dG iZ.o.lt).trans HX.o.1,(dG Yf.o.lt).trans HX.o.2.1⟩);have HS3:=aa (show ∀ k,(grow aB w2 w3 1) k≠0→aB k≠0∨w.heap.size≤k from fun k hk=>by
    rcases iP k hk with h|h
    ·exact .inl h
    exact .inr (aT gh.o.size h))
   obtain⟨rf,aha⟩:=ae (grow aB w2 w3 1);rw[aha] at Ks Ie HS3;have Nn:=aa (show MJ.bk=es.bk∧MJ.aF=es.aF∧MJ.up=es.up∧MJ.dev=es.dev∧MJ.rg=es.rg∧MJ.log=es.log.append b from by rw[←aam];exact⟨rfl,rfl,rfl,rfl,rfl,rfl⟩);clear hl3 CN c1 wW iZ Yf rI x2 Nq no1 hf1 gh aha aam;have x4:w3.cell? ⟨e,4,none⟩=some (.pointer (some ⟨q.bk,0,none⟩)):=Ks.o.own.cell 4;have ajy:=aa (show ∀ W,bC rf W e q wt MJ→Calls af 15 #[.pointer (some ⟨q.bk,0,none⟩),.agg (fA X)] W (n9 (fun k=>rf k=3) W q.bk (es.bk.apply X))from fun W hW=>KB (fun k=>rf k=3) q.bk es.bk W X (by rw[←Nn.o.1];exact hW.rest.book) oo.o M8.o);go_upto_region 8 with fail
   clear x4;have gi:=aa (show ∀ W,bC rf W e q wt MJ→aG W xa 58 (fA X)→(W.cell? ⟨e,4,none⟩=some (.pointer (some ⟨q.bk,0,none⟩))∧W.rangeAt xa 0 (fA X).toList)from fun W hE hA=>⟨hE.own.cell 4,fun j u hj=>by rw[gX,hA.cell j];simpa using hj⟩);obtain⟨wd,hwd⟩:=ae w3.drew;have gQ:Below w3.heap.size w3 wd:=mS;have EE:=aa (Ks.o.ak gQ);have Zy:=aa (pB.o.ai gQ);have RG:=aa (Zn.o.ai gQ);have Km:=aa (jF.o.ak gQ);clear gQ;refine wp_region_held_drew (S:=(fun W=>W.cell? ⟨e,4,none⟩=some (.pointer (some ⟨q.bk,0,none⟩))∧W.rangeAt xa 0 (fA X).toList)) br (by rw[hwd];exact gi.o _ EE.o Zy.o) (fun hHeld=>?_);rw[hwd] at hHeld ⊢;clear hwd Ks pB Zn jF;refine lu 0 1 2 3 ?_;refine eZ 4 (some 55) hHeld 58 (.tmp 5) xa 0 (fA X).toList _ (fun w' h=>h.2) Tryz.underlying58 rfl bG ?_;try simp only[aY]
   refine cG 5 fun K hK=>?_
   go_simp;refine(ajy.o _ EE.o).mono ?_;rintro en w4 ⟨rfl,CM,hb4⟩;obtain⟨JT,aal⟩:=ae (({MJ with bk:=(es.bk.apply X).2}:Es));have aji:=aa aal;have no3: ∀ x,rf x=0→¬rf x=3:=fun x h c=>by rw[h] at c;exact absurd c aN
   have RM:=aa (show bC (grow rf wd w4 3) w4 e q wt JT from by rw[←aal];exact EE.o.keeps (EE.o.rest.apply hb4 CM) rfl rfl CM (fun k hk=>by have Hz:rf k=3:=hk;rw[Hz];exact⟨aN,aN⟩) (nA EE.o.rest.lt));have pA:=aa (CM.arr Zy.o (no3 _ Ie.o.1));have Nc:=aa (CM.arr RG.o (no3 _ Ie.o.2));have HS4:=aa (show ∀ k,(grow rf wd w4 3) k≠0→aB k≠0∨w.heap.size≤k from fun k hk=>by
    rcases iP k hk with h|h
    ·exact HS3.o k h
    exact .inr (aT Km.o.size h))
   have nX:=aa (Km.o.new (CM.mono fun k _ hk=>HS3.o k (by have Hz:rf k=3:=hk;rw[Hz];decide)));have Ze:=aa (show(grow rf wd w4 3) xp=0 from(dG RG.o.lt).trans Ie.o.2);obtain⟨DO,ag9⟩:=ae (grow rf wd w4 3);rw[ag9] at RM HS4 Ze;have ajt:=aa (show JT.aF=es.aF∧JT.up=es.up∧JT.dev=es.dev∧JT.rg=es.rg∧JT.log=es.log.append b∧JT.bk=(es.bk.apply X).2 from by rw[←aal];exact⟨Nn.o.2.1,Nn.o.2.2.1,Nn.o.2.2.2.1,Nn.o.2.2.2.2.1,Nn.o.2.2.2.2.2,rfl⟩);have ag2:w4.cell? ⟨e,4,none⟩=some (.pointer (some ⟨q.bk,0,none⟩))∧w4.rangeAt xa 0 (fA X).toList:=⟨RM.o.own.cell 4,fun j u hj=>by rw[gX,pA.o.cell j];simpa using hj⟩;have aiL:=aa ag2;clear CM hb4 no3 ag2 ajy Zy RG EE Km aal ag9;go_wp2_with fail;refine hK.out _ _ (by exact aiL.o) (fun jt=>?_);clear hK K hHeld jt;try simp only[aY]
   refine bO ?_;clear gi aiL;go_upto_region 9 with fail
   have ajh:=aa (show({JT with aF:=JT.aF++ [Y]}:Es)=es.after rq from by
    rw[←aji.o,←ajj.o];unfold Es.after;rw[HYE.o,HXE.o,←ie.o,HXE.o])
   obtain⟨j0,hj,hz0,hz1,hz2⟩:=info_parts qo;obtain⟨n,pq⟩:=ae JT.aF.length;have Sq:=aa pq;have HNL:=aa (show n≤1000 from by rw[←pq,ajt.o.1];exact HNN.o);obtain⟨A,cp,hwt⟩:=RM.o.aF.any;rw[pq] at hwt;subst hwt;clear pq;obtain⟨wd,hwd⟩:=ae w4.drew;have gQ:Below w4.heap.size w4 wd:=mS;have EE:=aa (RM.o.ak gQ);have RG:=aa (Nc.o.ai gQ);have Km:=aa (nX.o.ak gQ);clear gQ pA;go_cut [4] from 57 to 66 (fun s4 wx=>s4= .slice none 0 0∧∃ tZ wt5,bC tZ wx e q wt5 (es.after rq)∧(∀ k,tZ k≠0→aB k≠0∨w.heap.size≤k)∧aI (fun k=>aB k≠0) w wx)
   case first=>
    have HSP:=aa (show ∀ W,aG W xp 108 (iW Y)→W.rangeAt xp 0 [.int .u32 Y.tag,.int .i64 Y.ay,.int .i64 Y.err,.int .u32 Y.id,.int .i64 Y.aw,.int .i64 Y.aS,.int .i64 Y.count] from fun W hP=>fun j u hj=>by rw[gX,hP.cell j];simpa[iW] using hj);have Sm:=aa (show ∀ (v5 w6:World) (v:Value),bC (grow DO v5 w6 4) (w6.setCell ⟨e,5,none⟩ v) e q v {JT with aF:=JT.aF++ [Y]}→aI (fun k=>DO k=4∨k=e) v5 (w6.setCell ⟨e,5,none⟩ v)→v5.heap.size≤w6.heap.size→aI (fun k=>aB k≠0) w v5→(∃ tZ wt5,bC tZ (w6.setCell ⟨e,5,none⟩ v) e q wt5 (es.after rq)∧(∀ k,tZ k≠0→aB k≠0∨w.heap.size≤k)∧aI (fun k=>aB k≠0) w (w6.setCell ⟨e,5,none⟩ v))from fun v5 w6 v a1 a2 a3 a4=>by
     rw[ajh.o] at a1;refine⟨_,_,a1,fun k hk=>?_,a4.new (a2.mono fun k _ hk=>?_)⟩
     ·rcases iP k hk with h|h
      ·exact HS4.o k h
      exact .inr (aT a4.size h)
     rcases hk with hk|hk
     ·exact HS4.o k (by rw[hk];decide)
     subst hk;exact HS4.o k (by rw[RM.o.rest.r5];decide))
    refine wp_region_held_drew (S:=(fun W=>W.rangeAt xp 0 [.int .u32 Y.tag,.int .i64 Y.ay,.int .i64 Y.err,.int .u32 Y.id,.int .i64 Y.aw,.int .i64 Y.aS,.int .i64 Y.count])) br (by rw[hwd];exact HSP.o _ RG.o) (fun hHeld=>?_);rw[hwd] at hHeld ⊢;clear hwd;refine lu 0 1 2 3 ?_;refine eZ 5 (some 62) hHeld 108 (.tmp 6) xp 0 [.int .u32 Y.tag,.int .i64 Y.ay,.int .i64 Y.err,.int .u32 Y.id,.int .i64 Y.aw,.int .i64 Y.aS,.int .i64 Y.count] _ (fun w' h=>h) Tryz.underlying108 rfl aR ?_;try simp only[aY]
    refine qp 4 6 (fun K hK=>?_) fun K hK=>?_
    ·have x5:wd.cell? ⟨e,5,none⟩=some (.slice A n cp):=EE.o.own.cell 5;go_simp;go_wp2_with fail;clear x5;refine bW hK (by exact HSP.o _ RG.o) fun Q3=>?_
     clear hK K;refine cG 6 fun K hK=>?_
     obtain⟨v5,OV⟩:=ae (wd.alloc (.cells #[.int .u32 Y.tag,.int .i64 Y.ay,.int .i64 Y.err,.int .u32 Y.id,.int .i64 Y.aw,.int .i64 Y.aS,.int .i64 Y.count] 108));have dX:=aL OV;have Yn:=aa (EE.o.ak dX);have Dx:=aa (RG.o.ai dX);have px:=aa (Km.o.ak dX);have qL:=aa (show aM (fun k=>DO k=4) v5 108 7 (.slice A n cp) n (oY JT.aF)from by have h1:=Yn.o.aF;rw[Sq.o] at h1;exact h1);have Zq:=aa (show ∀ (j:Nat) (u:Value),[.int .u32 Y.tag,.int .i64 Y.ay,.int .i64 Y.err,.int .u32 Y.id,.int .i64 Y.aw,.int .i64 Y.aS,.int .i64 Y.count][j]? =some u→v5.cell? ((⟨wd.heap.size,0,none⟩:Addr).add j)=some u by rw[←OV];exact iN wd _ _);clear dX;go_simp;go_wp2_with fail;try rw[OV]
     clear OV;exact acT
    obtain⟨v5,OV⟩:=ae (wd.alloc (.cells #[.int .u32 Y.tag,.int .i64 Y.ay,.int .i64 Y.err,.int .u32 Y.id,.int .i64 Y.aw,.int .i64 Y.aS,.int .i64 Y.count] 108));have dX:=aL OV;have Yn:=aa (EE.o.ak dX);have Dx:=aa (RG.o.ai dX);have px:=aa (Km.o.ak dX);have qL:=aa (show aM (fun k=>DO k=4) v5 108 7 (.slice A n cp) n (oY JT.aF)from by have h1:=Yn.o.aF;rw[Sq.o] at h1;exact h1);have Zq:=aa (show ∀ (j:Nat) (u:Value),[.int .u32 Y.tag,.int .i64 Y.ay,.int .i64 Y.err,.int .u32 Y.id,.int .i64 Y.aw,.int .i64 Y.aS,.int .i64 Y.count][j]? =some u→v5.cell? ((⟨wd.heap.size,0,none⟩:Addr).add j)=some u by rw[←OV];exact iN wd _ _);clear dX;go_simp;go_wp2_with fail;try rw[OV]
    clear OV;refine bW hK (by exact HSP.o _ Dx.o) fun KJ=>?_
    clear hK K;have x5:v5.cell? ⟨e,5,none⟩=some (.slice A n cp):=Yn.o.own.cell 5;refine cG 4 fun K hK=>?_
    go_simp;go_wp2_with fail;clear x5;exact acT
   case rest=>
    obtain⟨rfl,tZ,wt5,hE5,hs5,oG⟩:=hcut;obtain⟨jd,he3⟩:=ae (es.after rq);have pB:=aa he3;rw[he3] at hE5;have M5:=aa (show jd.bk.aA=es.bk.aA∧jd.dev=es.dev∧jd.rg=es.rg∧jd.log=es.log.append b from by
     rw[←he3];exact⟨(sI es.bk (bB es.bk rq)).1,rfl,rfl,by show es.log.append (ja (bB es.bk rq))=_;rw[←HXE.o,ie.o]⟩)
    have afW:=aa (show es.change rq=if jd.aF.length<es.bk.aA then([],jd)else if(jd.log.flush jd.rg jd.dev).1≠0 then([],jd.down (jd.log.flush jd.rg jd.dev).2.2 (jd.log.flush jd.rg jd.dev).2.1)else(jd.aF,{jd with dev:=(jd.log.flush jd.rg jd.dev).2.2,log:=(jd.log.flush jd.rg jd.dev).2.1,aF:=[]})from by
     unfold Es.change;rw[if_neg (by rw[HC0.o];exact fun h=>h rfl),if_neg kR.o,←he3];rfl)
    obtain⟨n5,hn5⟩:=ae jd.aF.length;have HN5:=aa hn5;obtain⟨A5,c5,iX⟩:=hE5.aF.any;rw[hn5] at iX;subst iX;have Yn:=aa hE5;have Yb:=aa hs5;have px:=aa oG;clear hE5 hs5 oG he3 hn5 EE RG Km RM nX Nc ajt Nn aji ajj ajh Ze Ie HS4 HS3 hwd wd hj hz0 hz1 hz2 j0;have Pu:=aa (show ∀ W,bC tZ W e q (.slice A5 n5 c5) jd→Calls af 38 #[.pointer (some ⟨q.bk,0,none⟩)] W fun e w'=>e= .returned (.agg #[.int .i64 jd.bk.n,.int .i64 jd.bk.ar,.int .i64 jd.bk.aA])∧Below W.heap.size W w' from fun W hW=>by obtain⟨x,hx⟩:=hW.rest.book;exact Bk.gB hx.bf);have gi:=aa (show ∀ W,bC tZ W e q (.slice A5 n5 c5) jd→(W.cell? ⟨e,5,none⟩=some (.slice A5 n5 c5)∧W.cell? ⟨e,4,none⟩=some (.pointer (some ⟨q.bk,0,none⟩)))from fun W hE=>⟨hE.own.cell 5,hE.own.cell 4⟩);have lM:=Bk.akS (jd.bk.n:Int) (jd.bk.ar:Int) (jd.bk.aA:Int);obtain⟨wd,hwd⟩:=ae wc.drew;have gQ:Below wc.heap.size wc wd:=mS;have EE:=aa (Yn.o.ak gQ);have Km:=aa (px.o.ak gQ);clear gQ;obtain⟨lt,hlt⟩:=ae (decide (n5<jd.bk.aA));have F3:decide ((n5:Int)<(jd.bk.aA:Int))=lt:=by rw[←hlt];simp
    have iY:=aa hlt;clear hlt;go_upto_region 10 with fail
    refine wp_region_held_drew (S:=(fun W=>W.cell? ⟨e,5,none⟩=some (.slice A5 n5 c5)∧W.cell? ⟨e,4,none⟩=some (.pointer (some ⟨q.bk,0,none⟩)))) br (by rw[hwd];exact gi.o _ EE.o) (fun hHeld=>?_);rw[hwd] at hHeld ⊢;clear hwd Yn px;refine ov 0 1 2 3 4 5 6 7 ?_;refine ty 8 ?_;refine cG 9 fun K hK=>?_
    go_simp;refine(Pu.o _ EE.o).mono ?_;rintro en w8 ⟨rfl,mX⟩;have HE8:=aa (EE.o.ak mX);have X9:=aa (Km.o.ak mX);clear mX;go_wp2_with fail;refine bW hK (by exact gi.o _ HE8.o) fun hh9=>?_
    clear hK K;refine tX 10 11 ?_;refine bO ?_;clear hh9 hHeld EE Km gi Pu;cases lt with
    | true=>
     have hl:n5<jd.bk.aA:=of_decide_eq_true iY.o;have hl2:(n5:Int)<(jd.bk.aA:Int):=aj;have hl3:decide (n5<jd.bk.aA)=true:=iY.o;have Gu:=aa (show es.change rq=([],jd)from by rw[afW.o,if_pos (by rw[HN5.o,←M5.o.1];exact hl)]);have HF:=aa (show eX aB e q (es.change rq).1 (es.change rq).2 w (.returned (.slice none 0 0)) w8 from by
      rw[Gu.o];exact⟨tZ,_,none,0,rfl,fun h=>absurd rfl h,HE8.o,Yb.o,X9.o⟩)
     go_wp2_with fail;go_ret;exact HF.o
    | false=>
     have hl: ¬n5<jd.bk.aA:=of_decide_eq_false iY.o;have hl2: ¬(n5:Int)<(jd.bk.aA:Int):=aj;have hl3:decide (n5<jd.bk.aA)=false:=iY.o;have afX:=aa (show es.change rq=if(jd.log.flush jd.rg jd.dev).1≠0 then([],jd.down (jd.log.flush jd.rg jd.dev).2.2 (jd.log.flush jd.rg jd.dev).2.1)else(jd.aF,{jd with dev:=(jd.log.flush jd.rg jd.dev).2.2,log:=(jd.log.flush jd.rg jd.dev).2.1,aF:=[]})from by rw[afW.o,if_neg (by rw[HN5.o,←M5.o.1];exact hl)]);obtain⟨a1,a2,a3,a4,a5,a6⟩:=es.log.sJ b ai4.o.1.done;have Gs:=aa (HE8.o.B2 (by
      rw[M5.o.2.1,M5.o.2.2.2,a2,dh,qD];have:=uq.o;have:=vd.o.1;omega) (by rw[M5.o.2.1];exact RD.o))
     obtain⟨R,hR⟩:=ae (jd.log.flush jd.rg jd.dev);have sO:=aa hR;rw[hR] at Gs afX;have x2:w8.cell? ⟨e,2,none⟩=some (.pointer (some ⟨q.lq,0,none⟩)):=HE8.o.own.cell 2;clear a1 a2 a3 a4 a5 a6 hR afW;by_cases c:R.1=0
     ·have hc1:(R.1 != 0)=false:=by rw[c];rfl
      have Gu:=aa (show es.change rq=(jd.aF,{jd with dev:=R.2.2,log:=R.2.1,aF:=[]})from by rw[afX.o,if_neg (by rw[c];exact fun h=>h rfl)]);clear c;go_wp2_with fail;refine Gs.o.mono ?_;rintro en w9 ⟨rfl,hE9,hT9⟩;have HE9:=aa hE9;have EB:=aa hT9;clear hE9 hT9 Gs x2;go_wp2_with fail;refine(Bu HE9.o).mono ?_;rintro en wa ⟨rfl,hEa,hRa,JM⟩;have HF:=aa (show eX aB e q (es.change rq).1 (es.change rq).2 w (.returned (.slice A5 n5 c5)) wa from by
       rw[Gu.o];have Jv:aM (fun k=>grow tZ w8 w9 2 k=4) wa 108 7 (.slice A5 jd.aF.length c5) jd.aF.length (oY jd.aF):=by rw[HN5.o] at hRa ⊢;exact hRa
       refine⟨_,_,A5,c5,by rw[HN5.o],Uu Jv,hEa,fun k hk=>?_,?_⟩
       ·rcases iP k hk with h|h
        ·exact Yb.o k h
        exact .inr (aT X9.o.size h)
       have h1:=X9.o.new (EB.o.mono fun k _ hk=>Yb.o k (by rcases hk with hk|hk <;>rw[hk] <;>decide));exact h1.new (JM.mono fun k _ hk=>by
        subst hk;exact Yb.o k (by rw[HE8.o.rest.r5];decide)))
      clear hEa hRa JM;go_wp2_with fail;go_ret;exact HF.o
     have hc1:(R.1 != 0)=true:=bne_iff_ne.2 c;have Gu:=aa (show es.change rq=([],jd.down R.2.2 R.2.1)from by rw[afX.o,if_pos c]);clear c;go_wp2_with fail;refine Gs.o.mono ?_;rintro en w9 ⟨rfl,hE9,hT9⟩;have HE9:=aa hE9;have EB:=aa hT9;clear hE9 hT9 Gs x2;go_wp2_with fail;refine(Ge HE9.o).mono ?_;rintro en wa ⟨⟨u,rfl⟩,hEa,JM⟩;have HF:=aa (show eX aB e q (es.change rq).1 (es.change rq).2 w (.returned (.slice none 0 0)) wa from by
      rw[Gu.o];refine⟨_,_,none,0,rfl,fun h=>absurd rfl h,hEa,fun k hk=>?_,?_⟩
      ·rcases iP k hk with h|h
       ·exact Yb.o k h
       exact .inr (aT X9.o.size h)
      have h1:=X9.o.new (EB.o.mono fun k _ hk=>Yb.o k (by rcases hk with hk|hk <;>rw[hk] <;>decide));exact h1.new (JM.mono fun k _ hk=>by
       subst hk;exact Yb.o k (by rw[HE8.o.rest.r5];decide)))
     clear hEa JM;go_wp2_with fail;go_ret;exact HF.o
  have HC0:=aa c0;have HYE:=aa hY;have Gu:=aa (show es.change rq=([Y],es)from by unfold Es.change;rw[if_pos c0,hY]);clear c0 hX hY;have HF:=aa (show ∀ g c,g=wc.heap.size→eX aB e q (es.change rq).1 (es.change rq).2 w (.returned (.slice (some ⟨g,0,none⟩) 1 c)) (wc.alloc (.cells (iW Y) 108))from fun g c hg=>by
   rw[Gu.o];refine eX.one HE.o (fun k hk=>.inl hk) HT.o (fun _=>⟨g,0,rfl,by rw[hg];simp,fun i hi j u hj=>?_⟩) (ax (au _ _) _);have h0:i=0:=AK;subst h0;have:=(aG.fresh wc 108 (iW Y)).cell j;simp only[Nat.zero_mul,gX];rw[hg];refine this.trans ?_;simpa using hj)
  go_wp2_with (refine aC rfl 108 (.tmp 6) rfl xp 108 #[.int .u32 Y.tag,.int .i64 Y.ay,.int .i64 Y.err,.int .u32 Y.id,.int .i64 Y.aw,.int .i64 Y.aS,.int .i64 Y.count] HP.o rfl _ Tryz.underlying108 rfl aR ?_);go_ret;exact HF.o _ _ rfl
