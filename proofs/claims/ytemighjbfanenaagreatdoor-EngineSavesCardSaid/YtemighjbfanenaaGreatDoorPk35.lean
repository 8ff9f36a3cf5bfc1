import Derived.Test.YtemighjbfanenaaGreatDoorPk34
import Derived.Test.YtemighjbfanenaaGreatDoorPk32
import Derived.Test.YtemighjbfanenaaGreatDoorPk36
set_option linter.all false
set_option maxRecDepth 100000
set_option maxHeartbeats 16000000
namespace Go.Proofs.YtemighjbfanenaaGreatDoor
open RowKit
open Oc (il Bs fZ fR ej cY lQ eM eG le bF rh cI val)
open Eg (ik ju pX jC Mf)
open Bk (GD fK bm GB YI)
open Go.Proofs.Tryz renaming prog→af,underlying41→cA
open Go.Value renaming oneCell'→fw
open List renaming getElem?_eq_getElem→bY,getD_eq_getElem?_getD→bN,length_append→dh
open Nat renaming le_trans→aT
open RowKit.Below renaming refl→au
theorem Vg{p:Prop}(h:p:=by
 refine cG 15 fun K hK=>?_
 refine cT 129 _ _ rfl xh 129 _ (oc R.2.1) Yy.o rfl rfl rfl JG (by simp[oc,fw]) ?_;intro v4 dE hg gJ;have ajx:=aa dE;have mQ:=aa (eh.o.other ((aI.refl (· =xh) v3).grown hg (fun k e=>ID)) (fun k hk=>aed));have nZ:=aa (fG.o.bw hg (fun e=>abO));have oN:=aa (vH eV.o hg HXH.o);clear dE hg gJ;refine bW hK ad0 fun Q3=>?_
 clear hK K;refine ty 16 ?_;refine bO ?_;go_wp2_with fail;go_meet;exact⟨xh,_,rfl,rfl,ajx.o,nZ.o,mQ.o,oN.o,ze.o,zZ.o.1,zZ.o.2⟩):p:=h
theorem Vc{p:Prop}(h:p:=by
 rintro e wn ⟨⟨u,rfl⟩,h1,ht9⟩;have zw:=aa (CX.o wn h1 wd Sy.o ht9);clear h1 ht9;go_wp2_with fail;refine bW hK ad9 fun hh5=>?_
 clear hK K;refine bO ?_;go_wp2_with fail;go_roundw
 case rel=>exact⟨j+1,by have:=HJ.o;omega,by go_num,zw.o⟩
 case measure=>simp[intOf];have:=HJ.o;omega):p:=h
theorem S7{p:Prop}(h:p:=by have c':aB xq=2:=c;have:=(HN.o _ vx.o.1).1;rw[this] at c';exact absurd c' (by decide)):p:=h
theorem SZ{p:Prop}(h:p:=by have:=(HN.o _ Sv.o.1).1;rw[this] at c;exact absurd c (by decide)):p:=h
theorem Ua{p:Prop}(h:p:=by have c':aB xh=2:=c;have:=(HN.o _ HXH.o).1;rw[this] at c';exact absurd c' (by decide)):p:=h
theorem LK{p:Prop}(h:p:=by have Hz:aB k=2:=hk;show aB k≠0;rw[Hz];decide):p:=h
theorem aed{p:Prop}(h:p:=by subst hk;exact⟨zZ.o.2,(HN.o _ HXH.o).2⟩):p:=h
theorem ad9{p:Prop}(h:p:=by exact gi.o _ zw.o.2.1 zw.o.2.2.2.1):p:=h
theorem Lx{p:Prop}(h:p:=by rw[hwd];exact gi.o _ HFd.o Zl.o):p:=h
theorem Ls{p:Prop}(h:p:=by have:=Sm.o;have:=EG.o;omega):p:=h
theorem Lf{p:Prop}(h:p:=by exact gi.o _ _ _ eh.o):p:=h
theorem ad0{p:Prop}(h:p:=by exact gi.o _ _ _ mQ.o):p:=h
theorem K8{p:Prop}(h:p:=by unfold ku;rw[hi];rfl):p:=h
theorem K7{p:Prop}(h:p:=by have:=hq.good.aw;omega):p:=h
theorem ET{p:Prop}(h:p:=by rw[hi.up];decide):p:=h
section
namespace En
section
variable {aB:Nat→Nat}{w w':World}{e:Nat}{q:sQ}{wt:Value}{es:Es}
theorem dK.Ok.afq{b:dK}(h:b.Ok): GD b.n b.ar b.aA b.next b.aq b.L:=
 ⟨by unfold tR.CL;have:=h.n;have:=h.ar;have:=h.aA;exact decide_eq_true aj,h.next,h.aq,h.len,h.Uw,h.ids,h.fW,h.alone,h.aS⟩
theorem OT(b:dK): jS b=Im.jS b.n b.ar b.next.toNat b.aq.toNat b.L:=rfl
theorem Jh(b:dK): (jS b).length=20+14*b.L.length:=by
 rw[OT];unfold Im.jS;rw[dh,Im.Ea,Im.wA]
theorem bC.Mk(h:bC aB w e q wt es)(hb:es.bk.Ok): Calls af 213 #[.pointer (some ⟨q.bk,0,none⟩)] w (Im.XJ (jS es.bk) w):=by
 obtain⟨x,hx⟩:=h.rest.book;have h1:=hb.next;have h2:=hb.aq;rw[OT];have e1:es.bk.next=(es.bk.next.toNat:Int):=(Int.toNat_of_nonneg aj).symm;have e2:es.bk.aq=(es.bk.aq.toNat:Int):=(Int.toNat_of_nonneg aj).symm;have hk:=hb.afq;rw[e1,e2] at hx hk;exact Im.afE hx hk
theorem Qn(s:Sl)(d:bK)(body:By)(l8:Nat)(hs:1≤d.dk.size): (s.save d body l8).2.2.dk.size=d.dk.size:=by
 have hp: ∀ (r:Rg) (x:bK) (at_:Nat) (b:By),1≤x.dk.size→(dB r x at_ b).2.dk.size=x.dk.size:=fun r x at_ b hx=>by
  unfold dB;have h1:=(Rg.pC r x at_ b hx).1;split
  ·exact(bK.FA (r.write x at_ b).2).1.trans h1
  exact h1
 have hl:=OJ s d;have hl2:(s.load d).dev.dk.size=d.dk.size:=mo;unfold Sl.save;by_cases c1:s.bytes d.dk.size<body.length
 ·rw[if_pos c1]
 rw[if_neg c1];by_cases c2:(s.load d).err≠0
 ·rw[if_pos c2];exact hl2
 rw[if_neg c2];by_cases c3:(s.load d).hd.gen=18446744073709551615
 ·rw[if_pos c3];exact hl2
 rw[if_neg c3];simp only;generalize(if(s.load d).at_=0 then s.b else s.a)=r;have h1:=hp r (s.load d).dev d.dk.size body (by rw[hl2];exact hs);generalize hP:dB r (s.load d).dev d.dk.size body=P at h1 ⊢;by_cases c4:P.1≠0
 ·rw[if_pos c4];exact h1.trans hl2
 rw[if_neg c4];have h2:=hp r P.2 0 (H7 ⟨(s.load d).hd.gen+1,l8,body.length,Cr.ic 0 body⟩++List.replicate (d.dk.size - 32) 0) (by rw[h1,hl2];exact hs);generalize hQ:dB r P.2 0 _=Q at h2 ⊢;by_cases c5:Q.1≠0
 ·rw[if_pos c5];exact h2.trans (h1.trans hl2)
 rw[if_neg c5];exact h2.trans (h1.trans hl2)
theorem bC.xP(h:bC aB w e q wt es)(body:By)(A:Option Addr)(c:Nat)(hB:Bs w A body)(hA: ∀ g off,A=some ⟨g,off,none⟩→g<w.heap.size∧aB g≠2)(hc:body.length≤c)(hr:es.dev.dk.row.length+body.length≤1000000)(Ib:32≤es.dev.dk.size):
  Calls af 214 #[.pointer (some ⟨q.sl,0,none⟩),.slice A body.length c,.int .u64 (es.log.last:Nat)] w fun en w1=>en= .returned (.tuple #[.agg (oc (es.sl.save es.dev body es.log.last).2.1),.int .i64 (es.sl.save es.dev body es.log.last).1])∧bC (grow aB w w1 2) w1 e q wt {es with dev:=(es.sl.save es.dev body es.log.last).2.2}∧aI (fun k=>aB k=2) w w1:=by
 have no: ∀ {k r:Nat},aB k=r→r≠2→¬(aB k=2):=fun h a c=>a (h.symm.trans c)
 obtain⟨lv,hlv⟩:=h.rest.log;refine(Xs h.rest.slots h.rest.dev (no h.rest.r7.1 aN) (no h.rest.r7.2.1 aN) (no h.rest.r7.2.2 aN) h.rest.ic (no h.rest.kT.1 aN) Ib body A c es.log.last hB (fun g off e=>hA g off e) hc hlv.ok.last hr).mono ?_;rintro en w1 ⟨rfl,h2,h3⟩;exact⟨rfl,h.keeps (h.rest.save (Qn _ _ _ _ aj) h2 h3) rfl rfl h3 (fun k hk=>by have Hz:aB k=2:=hk;rw[Hz];exact⟨aN,aN⟩) (nA h.rest.lt),h3⟩
theorem bC.DV(h:bC aB w e q wt es): Calls af 80 #[.pointer (some ⟨q.lq,0,none⟩)] w fun en w'=>en= .returned (.int .u64 (es.log.last:Nat))∧w'=w:=by
 obtain⟨v,hv⟩:=h.rest.log;exact XT hv
theorem bC.L8(h:bC aB w e q wt es)(gen:Nat)(hg:gen<18446744073709551616): Calls af 215 #[.pointer (some ⟨q.lq,0,none⟩),.int .u64 gen] w fun en w1=>en= .returned (.int .i64 0)∧bC aB w1 e q wt {es with log:=es.log.reset gen}∧aI (· =q.lq) w w1∧aB q.lq=1:=by
 obtain⟨v,hv⟩:=h.rest.log;have hq:aB q.lq=1:=hv.bA.1;refine(Rx hv gen hg).mono ?_;rintro en w1 ⟨rfl,h2,h3⟩;exact⟨rfl,h.keeps (h.rest.reset h2 h3) rfl rfl h3 (fun k hk=>by subst hk;rw[hq];exact⟨aN,aN⟩) (fun _ h=>h),h3,hq⟩
theorem JG: (af.info? 129).map (·.size)=some 4:=br
def aik(aB:Nat→Nat)(w:World)(e:Nat)(q:sQ)(wt:Value)(es:Es)(rq:Rq)(xq:Nat)(R:Int × Hd × bK)(s7 s8:Value)(wc:World): Prop:=
 ∃ xh mN,s7= .pointer (some ⟨xh,0,none⟩)∧s8= .int .i64 R.1∧aG wc xh 129 (oc R.2.1)∧aG wc xq 41 (cZ rq)∧bC mN wc e q wt {es with dev:=R.2.2}∧aI (fun k=>aB k≠0) w wc∧(∀ k,mN k≠0→aB k≠0∨w.heap.size≤k)∧mN xq=0∧mN xh=0
theorem ZN(h:bC aB w e q wt es)(rq:Rq)(hb:es.bk.Ok)(hn:es.aF.length≤1000)(hr:es.dev.dk.row.length≤900000)(Ib:32≤es.dev.dk.size):
  Calls af 100 #[.pointer (some ⟨e,0,none⟩),.agg (cZ rq)] w (eX aB e q (es.save rq).1 (es.save rq).2 w):=by
 obtain⟨xq,iO⟩:=ae w.heap.size;obtain⟨w1,aZ⟩:=ae (w.alloc (.cells (cZ rq) 41));have bz:=aa (aL aZ);have vz:=aa (aK aZ iO);have vA:=aa (h.ak bz.o);have HN:=aa h.news;have vx:=aa (show w.heap.size≤xq∧xq<w1.heap.size from⟨aj,vz.o.lt⟩);have HIM:=aa (show ∀ W,bC aB W e q wt es→_ from fun W hW=>hW.Mk hb);obtain⟨body,JI⟩:=ae (jS es.bk);have EG:=aa (show body.length≤60000 from by rw[←JI,Jh];have:=hb.len;have:=hb.ar;omega);have kV:=aa (show body≠ [] from fun c=>by have:=Jh es.bk;rw[JI,c] at this;simp at this;omega);obtain⟨R,hR⟩:=ae (es.sl.save es.dev body es.log.last);have X':=aa (show es.save rq=if R.1=0 then(counted es rq,{es with dev:=R.2.2,log:=es.log.reset R.2.1.gen,aF:=[]})else if R.1=60 then([bZ rq 230],es.down R.2.2 es.log)else([bZ rq R.1],{es with dev:=R.2.2})from by unfold Es.save;rw[JI,hR]);have alx:=aa (show R.2.1.gen<18446744073709551616 from by rw[←hR];exact IW _ _ _ _);have sO:=aa hR;have Sm:=aa hr;have SA:=aa Ib;have HNN:=aa hn;rw[JI] at HIM;clear h hb hn hr Ib JI hR;have x4:w1.cell? ⟨e,4,none⟩=some (.pointer (some ⟨q.bk,0,none⟩)):=vA.o.own.cell 4;go_enter Tryz.func100,Tryz.ntmps100;go_wp2_with fail;clear aZ iO;refine(HIM.o _ vA.o).mono ?_;rintro en w2 ⟨BA,BC,rfl,cL,Q6,hb2⟩;obtain⟨gb,rfl,hgb,hblk⟩:=cL kV.o;have wW:=aa (vA.o.ak hb2);have rI:=vz.js hb2;have cu:=bz.dP hb2;have CB:=aa hblk;have Sv:=aa (show w.heap.size≤gb∧body.length≤BC from⟨by have:=bz.o.size;omega,Q6⟩);clear cL hgb hblk Q6 hb2 vA vz bz HIM x4;go_upto_region 2 with fail
 go_cut [7,8] from 17 to 30 (fun s7 s8 wc=>aik aB w e q wt es rq xq R s7 s8 wc)
 case first=>
  have gi:=aa (show ∀ W (f:Nat→Nat) (es':Es),bC f W e q wt es'→(W.cell? ⟨e,3,none⟩=some (.pointer (some ⟨q.sl,0,none⟩))∧W.cell? ⟨e,2,none⟩=some (.pointer (some ⟨q.lq,0,none⟩)))from fun W f es' hE=>⟨hE.own.cell 3,hE.own.cell 2⟩);obtain⟨wd,hwd⟩:=ae w2.drew;have gQ:Below w2.heap.size w2 wd:=mS;have ma:=aa (wW.o.ak gQ);have kG:=rI.js gQ;have kj:=aa (show aI (fun k=>aB k≠0) w wd from aI.aU (av cu.o gQ));have ED:=aa (jN.same CB.o (gQ.block _ (jN.lt CB.o)));clear gQ;refine wp_region_held_drew (S:=(fun W=>W.cell? ⟨e,3,none⟩=some (.pointer (some ⟨q.sl,0,none⟩))∧W.cell? ⟨e,2,none⟩=some (.pointer (some ⟨q.lq,0,none⟩)))) br (by rw[hwd];exact gi.o _ _ _ ma.o) (fun hHeld=>?_);rw[hwd] at hHeld ⊢;clear hwd wW rI;refine ov 0 1 2 3 4 5 6 7 ?_;refine ty 8 ?_;refine qp 9 14 (fun K hK=>?_) fun K hK=>?_
  ·go_simp;refine ag ma.o.DV ?_;go_wp2_with fail;refine bW hK (by exact gi.o _ _ _ ma.o) fun hh1=>?_
   clear hK K;refine qp 10 14 (fun K hK=>?_) fun K hK=>?_
   ·go_simp;have Di:=ma.o.xP body (some ⟨gb,0,none⟩) BC ED.o.bsx (fun g off e=>by injection e with e;injection e with e1 e2;subst e1;exact⟨jN.lt ED.o,fun c=>SZ⟩) Sv.o.2 Ls SA.o;rw[sO.o] at Di;refine Di.mono ?_;rintro en v2 ⟨rfl,hE,ht⟩;clear Di;have eI:=aa hE;have fY:=aa (ht.arr kG.o (fun c=>S7));have eW:=aa (kj.o.trans (ht.mono fun k _ hk=>LK));have ze:=aa (show ∀ k,grow aB wd v2 2 k≠0→aB k≠0∨w.heap.size≤k from fun k hk=>by rcases iP k hk with h|h;exact .inl h;exact .inr (aT kj.o.size h));have zz:=aa (show grow aB wd v2 2 xq=0 from(dG kG.o.lt).trans (HN.o _ vx.o.1).1);have Zs:=aa (show ∀ k,v2.heap.size≤k→grow aB wd v2 2 k=0∧k≠1∧k≠0 from hE.news);clear hE ht;obtain⟨Oh,Jt⟩:=ae (grow aB wd v2 2);rw[Jt] at eI ze zz Zs;clear Jt;go_wp2_with fail;refine bW hK (by exact gi.o _ _ _ eI.o) fun Q4=>?_
    clear hK K;refine SX 11 12 13 ?_;refine cG 14 fun K hK=>?_
    obtain⟨v3,hv3⟩:=ae (v2.alloc (.cells #[.int .u64 0,.int .u64 0,.int .i64 0,.int .u32 0] 129));obtain⟨xh,Ht⟩:=ae v2.heap.size;have hb:=aL hv3;have eh:=aa (eI.o.ak hb);have fG:=aa (fY.o.ai hb);have eV:=aa (eW.o.ak hb);have Yy:=aa (aK hv3 Ht);have HXH:=aa (show w.heap.size≤xh from by rw[←Ht];exact eW.o.size);have qK:=aa (show xq<xh from uD);have zZ:=aa (show Oh xq=0∧Oh xh=0 from⟨zz.o,(Zs.o xh aj).1⟩);clear hb;go_simp;go_wp2_with fail;try rw[hv3]
    try rw[Ht]
    clear hv3 Ht;refine bW hK Lf fun KL=>?_
    clear hK K;exact Vg
   obtain⟨v2,hv2⟩:=ae (wd.alloc (.cells #[.int .u64 0,.int .u64 0,.int .i64 0,.int .u32 0] 129));obtain⟨xh,Ht⟩:=ae wd.heap.size;have hb:=aL hv2;have eI:=aa (ma.o.ak hb);have fY:=kG.js hb;have eW:=aa (kj.o.ak hb);have adA:=aa (jN.same ED.o (hb.block _ (jN.lt ED.o)));have adH:=aa (aK hv2 Ht);have HXH:=aa (show w.heap.size≤xh from by rw[←Ht];exact kj.o.size);have qK:=aa (show xq<xh from AV);clear hb;go_simp;go_wp2_with fail;try rw[hv2]
   try rw[Ht]
   clear hv2 Ht;refine bW hK (by exact gi.o _ _ _ eI.o) fun Q4=>?_
   clear hK K;refine cG 10 fun K hK=>?_
   go_simp;have Di:=eI.o.xP body (some ⟨gb,0,none⟩) BC adA.o.bsx (fun g off e=>by injection e with e;injection e with e1 e2;subst e1;exact⟨jN.lt adA.o,fun c=>SZ⟩) Sv.o.2 Ls SA.o;rw[sO.o] at Di;refine Di.mono ?_;rintro en v3 ⟨rfl,hE,ht⟩;clear Di;have eh:=aa hE;have fG:=aa (ht.arr fY.o (fun c=>S7));have eV:=aa (eW.o.trans (ht.mono fun k _ hk=>LK));have Yy:=aa (ht.arr adH.o (fun c=>Ua));have ze:=aa (show ∀ k,grow aB v2 v3 2 k≠0→aB k≠0∨w.heap.size≤k from fun k hk=>by rcases iP k hk with h|h;exact .inl h;exact .inr (aT eW.o.size h));have zz:=aa (show grow aB v2 v3 2 xq=0 from(dG fY.o.lt).trans (HN.o _ vx.o.1).1);have zZ:=aa (show grow aB v2 v3 2 xq=0∧grow aB v2 v3 2 xh=0 from⟨zz.o,(dG adH.o.lt).trans (HN.o _ HXH.o).1⟩);have Zs:=aa (show ∀ k,v3.heap.size≤k→grow aB v2 v3 2 k=0∧k≠1∧k≠0 from hE.news);clear hE ht;obtain⟨Oh,Jt⟩:=ae (grow aB v2 v3 2);rw[Jt] at eh ze zz Zs zZ;clear Jt;go_wp2_with fail;refine bW hK Lf fun KL=>?_
   clear hK K;refine SX 11 12 13 ?_;exact Vg
  obtain⟨v1,ko⟩:=ae (wd.alloc (.cells #[.int .u64 0,.int .u64 0,.int .i64 0,.int .u32 0] 129));obtain⟨xh,Ht⟩:=ae wd.heap.size;have hb:=aL ko;have iU:=aa (ma.o.ak hb);have kY:=kG.js hb;have iK:=aa (kj.o.ak hb);have adB:=aa (jN.same ED.o (hb.block _ (jN.lt ED.o)));have adI:=aa (aK ko Ht);have HXH:=aa (show w.heap.size≤xh from by rw[←Ht];exact kj.o.size);have qK:=aa (show xq<xh from AV);clear hb;go_simp;go_wp2_with fail;try rw[ko]
  try rw[Ht]
  clear ko Ht;refine bW hK (by exact gi.o _ _ _ iU.o) fun hh1=>?_
  clear hK K;refine cG 9 fun K hK=>?_
  go_simp;refine ag iU.o.DV ?_;go_wp2_with fail;refine bW hK (by exact gi.o _ _ _ iU.o) fun Q4=>?_
  clear hK K;refine cG 10 fun K hK=>?_
  go_simp;have Di:=iU.o.xP body (some ⟨gb,0,none⟩) BC adB.o.bsx (fun g off e=>by injection e with e;injection e with e1 e2;subst e1;exact⟨jN.lt adB.o,fun c=>SZ⟩) Sv.o.2 Ls SA.o;rw[sO.o] at Di;refine Di.mono ?_;rintro en v3 ⟨rfl,hE,ht⟩;clear Di;have eh:=aa hE;have fG:=aa (ht.arr kY.o (fun c=>S7));have eV:=aa (iK.o.trans (ht.mono fun k _ hk=>LK));have Yy:=aa (ht.arr adI.o (fun c=>Ua));have ze:=aa (show ∀ k,grow aB v1 v3 2 k≠0→aB k≠0∨w.heap.size≤k from fun k hk=>by rcases iP k hk with h|h;exact .inl h;exact .inr (aT iK.o.size h));have zz:=aa (show grow aB v1 v3 2 xq=0 from(dG kY.o.lt).trans (HN.o _ vx.o.1).1);have zZ:=aa (show grow aB v1 v3 2 xq=0∧grow aB v1 v3 2 xh=0 from⟨zz.o,(dG adI.o.lt).trans (HN.o _ HXH.o).1⟩);have Zs:=aa (show ∀ k,v3.heap.size≤k→grow aB v1 v3 2 k=0∧k≠1∧k≠0 from hE.news);clear hE ht;obtain⟨Oh,Jt⟩:=ae (grow aB v1 v3 2);rw[Jt] at eh ze zz Zs zZ;clear Jt;go_wp2_with fail;refine bW hK Lf fun KL=>?_
  clear hK K;refine SX 11 12 13 ?_;exact Vg
 case rest=>
  obtain⟨xh,mN,rfl,rfl,hA,hQ,hE,hT,hs,hx1,hx2⟩:=hcut;have HA:=aa hA;have HQ:=aa hQ;have HE:=aa hE;have HT:=aa hT;have HS:=aa hs;have HX:=aa (show mN xq=0∧mN xh=0 from⟨hx1,hx2⟩);clear hA hQ hE hT hs hx1 hx2 wW rI CB Sv cu;by_cases c0:R.1=0
  ·have hc0:(R.1==0)=true:=beq_iff_eq.2 c0;have Gu:=aa (show es.save rq=(counted es rq,{es with dev:=R.2.2,log:=es.log.reset R.2.1.gen,aF:=[]})from by rw[X'.o,if_pos c0]);have Y2: ∀ W,bC mN W e q wt {es with dev:=R.2.2}→_:=fun W hW=>hW.L8 R.2.1.gen alx.o
   have HRC:=aa Y2;clear c0 Y2;go_upto_region 5 with fail
   have gi:=aa (show ∀ W (es':Es),bC mN W e q wt es'→aG W xh 129 (oc R.2.1)→(W.cell? ⟨e,2,none⟩=some (.pointer (some ⟨q.lq,0,none⟩))∧W.cell? ⟨xh,0,none⟩=some (.int .u64 (R.2.1.gen:Nat)))from fun W es' hE hH=>⟨hE.own.cell 2,hH.cell 0⟩);obtain⟨wd,hwd⟩:=ae wc.drew;have gQ:Below wc.heap.size wc wd:=mS;have EE:=aa (HE.o.ak gQ);have Zy:=aa (HA.o.ai gQ);have Zl:=aa (HQ.o.ai gQ);have Km:=aa (HT.o.ak gQ);clear gQ;refine wp_region_held_drew (S:=(fun W=>W.cell? ⟨e,2,none⟩=some (.pointer (some ⟨q.lq,0,none⟩))∧W.cell? ⟨xh,0,none⟩=some (.int .u64 (R.2.1.gen:Nat)))) br (by rw[hwd];exact gi.o _ _ EE.o Zy.o) (fun hHeld=>?_);rw[hwd] at hHeld ⊢;clear hwd HE HA HQ HT;refine Qd 0 1 2 3 4 5 ?_;refine cG 6 fun K hK=>?_
   go_simp;refine(HRC.o _ EE.o).mono ?_;rintro en w4 ⟨rfl,hE4,jJ,hlq⟩;have RM:=aa hE4;have pA:=aa (jJ.arr Zy.o (fun c=>by have c':xh=q.lq:=c;rw[←c',HX.o.2] at hlq;exact absurd hlq aN));have tQ:=aa (jJ.arr Zl.o (fun c=>by have c':xq=q.lq:=c;rw[←c',HX.o.1] at hlq;exact absurd hlq aN));have nX:=aa (Km.o.new (jJ.mono fun k _ hk=>HS.o k (by subst hk;rw[hlq];decide)));clear hE4 jJ hlq EE Zy Zl Km HRC;go_wp2_with fail;refine bW hK (by exact gi.o _ _ RM.o pA.o) fun KJ=>?_
   clear hK K;refine bO ?_;clear KJ hHeld gi pA;go_wp2_with (refine aC rfl 41 (.tmp 3) rfl xq 41 _ tQ.o rfl _ cA rfl aH ?_);refine(B9 RM.o rq HNN.o).mono ?_;rintro en w5 h5;have h6:eX aB e q (es.save rq).1 (es.save rq).2 w en w5:=by rw[Gu.o];exact eX.trans nX.o HS.o h5
   obtain⟨eL,vC,A,cp,rfl,b2,b3,b4,b5⟩:=h6;have HF:=aa (show eX aB e q (es.save rq).1 (es.save rq).2 w (.returned (.slice A (es.save rq).1.length cp)) w5 from⟨eL,vC,A,cp,rfl,b2,b3,b4,b5⟩);clear h5 b2 b3 b4 b5;go_wp2_with fail;go_ret;exact HF.o
  have hc0:(R.1==0)=false:=beq_eq_false_iff_ne.2 c0;by_cases c1:R.1=60
  ·have hc1:(R.1==60)=true:=beq_iff_eq.2 c1;have Gu:=aa (show es.save rq=([bZ rq 230],es.down R.2.2 es.log)from by rw[X'.o,if_neg c0,if_pos c1]);clear c0 c1;go_wp2_with fail;refine(Ge HE.o).mono ?_;rintro en w4 ⟨⟨u,rfl⟩,hE4,jJ⟩;have RM:=aa hE4;have tQ:=aa (jJ.arr HQ.o (fun c=>by have c':xq=e:=c;have:=HE.o.rest.r5;rw[←c',HX.o.1] at this;exact absurd this aN));have nX:=aa (HT.o.new (jJ.mono fun k _ hk=>HS.o k (by subst hk;rw[HE.o.rest.r5];decide)));clear hE4 jJ;go_wp2_with (refine aC rfl 41 (.tmp 3) rfl xq 41 _ tQ.o rfl _ cA rfl aH ?_);refine(lz rq 230 w4).mono ?_;rintro en w5 ⟨A,cp,rfl,su,dX⟩;have HF:=aa (show eX aB e q (es.save rq).1 (es.save rq).2 w (.returned (.slice A 1 cp)) w5 from by
    rw[Gu.o];exact eX.one RM.o HS.o nX.o su dX)
   clear su dX;go_wp2_with fail;go_ret;exact HF.o
  have hc1:(R.1==60)=false:=beq_eq_false_iff_ne.2 c1;have Gu:=aa (show es.save rq=([bZ rq R.1],{es with dev:=R.2.2})from by rw[X'.o,if_neg c0,if_neg c1]);clear c0 c1;go_wp2_with (refine aC rfl 41 (.tmp 3) rfl xq 41 _ HQ.o rfl _ cA rfl aH ?_);refine(lz rq R.1 wc).mono ?_;rintro en w5 ⟨A,cp,rfl,su,dX⟩;have HF:=aa (show eX aB e q (es.save rq).1 (es.save rq).2 w (.returned (.slice A 1 cp)) w5 from by
   rw[Gu.o];exact eX.one HE.o HS.o HT.o su dX)
  clear su dX;go_wp2_with fail;go_ret;exact HF.o
end
end En
end
section
namespace En
theorem Rq.qc.ok{q:Rq}(h:q.qc): zv q:=by
 have hk:=h.good.ay;have hs:=h.good.aw;have ht:=h.good.bT;have i1:=h.idf;have i2:=h.IV;have i3:=h.SY;have p8:q.ay=1∨q.ay=2∨q.ay=3∨q.ay=4∨q.ay=5∨q.ay=6∨q.ay=7∨q.ay=8∨q.ay=9∨q.ay=10:=aj;refine⟨by simp only[jr,Bool.and_eq_true,decide_eq_true_eq];omega,hs,ht,?_,?_,?_⟩
 ·rcases p8 with e|e|e|e|e|e|e|e|e|e <;>rw[e] at i1 ⊢ <;>first|exact .inl (i1 rfl)|(right;simp[cz])
 ·rcases p8 with e|e|e|e|e|e|e|e|e|e <;>rw[e] at i2 ⊢ <;>first|exact .inl (i2 rfl)|(right;simp[cz])
 rcases p8 with e|e|e|e|e|e|e|e|e|e <;>rw[e] at i3 ⊢ <;>first|exact .inl (i3 rfl)|(right;simp[cz])
def Es.Ic(e:Es)(b:By): List Rp × Es:=if(bL b).2=0 then e.rep (bL b).1 else([⟨0,0,200,0,0,0,0⟩],e)
theorem aaJ: (⟨0,0,200,0,0,0,0⟩:Rp).qc:=by
 show yo _ _
 exact⟨rfl,⟨aN,aN⟩,⟨aN,aN⟩,fun _=>⟨rfl,rfl⟩,⟨aN,aN⟩,⟨aN,aN⟩,.inl rfl,⟨aN,aN⟩,.inl rfl,.inl rfl,.inl rfl⟩
theorem rJ.short{e:Es}{q:Rq}{r:List Rp × Es}(h:rJ e q r)(hw:e.aF.length≤64): r.1.length≤65:=by
 cases h with
 | told x e'=>simp
 | aF x e'=>simp
 | full x e'=>show(e.aF++ [x]).length≤65;rw[dh];simp;omega
 | all x e'=>show(e.aF++ [x]).length≤65;rw[dh];simp;omega
section
variable {aB:Nat→Nat}{w:World}{e:Nat}{q:sQ}{wt:Value}{es:Es}
def EgR(aB:Nat→Nat)(e:Nat)(q:sQ)(es':Es)(w w':World): Prop:=∃ eL vC,bC eL w' e q vC es'∧(∀ k,eL k≠0→aB k≠0∨w.heap.size≤k)∧aI (fun k=>aB k≠0) w w'
theorem eX.ds{W:World}{l:List Rp}{es':Es}{en:Ending}{W':World}(h:bC aB w e q wt es)(hb:Below w.heap.size w W)(ho:eX aB e q l es' W en W'): adK l (EgR aB e q es' w) w e q.mb W en W':=by
 obtain⟨eL,vC,A,c,rfl,a2,a3,a4,a5⟩:=ho;exact⟨⟨A,c,rfl,a2⟩,⟨eL,vC,a3,fun k hk=>by rcases a4 k hk with h|h;exact .inl h;exact .inr (aT hb.size h),(aI.aU (S:=fun k=>aB k≠0) hb).trans a5⟩,⟨_,a5,h.rest.lt⟩,a3.own.cell 6,a3.rest.does⟩
theorem Me{e:Nat}{k:Int}(h:bI k=true): Mf (jC e) k=some (.func (.func 101) #[.pointer (some ⟨e,0,none⟩)] #[]):=by rcases cx h with rfl|rfl|rfl|rfl|rfl <;>rfl
theorem abq(h:bC aB w e q wt es)(hi:es.Inv)(hm: ∀ r∈es.aF,r.qc)(hby:es.rg.bytes es.dev.dk.size≤900000)(b:By)(A:Option Addr)(c:Nat)(hB:Bs w A b)(hA:rh A)(hl:b.length≤70368744177664)(BO:(bL b).2=0→(bL b).1.qc):
  Calls af 12 #[.pointer (some ⟨e,0,none⟩),.slice A b.length c] w (Nr ((es.Ic b).1.map cJ) (EgR aB e q (es.Ic b).2 w) w):=by
 have Hu:es.aF.length≤64:=by have:=hi.full;have:=hi.bk.aA;omega
 have hR: ∀ es' W W',EgR aB e q es' w W→Below W.heap.size W W'→EgR aB e q es' w W':=fun es' W W' h hb=>by
  obtain⟨eL,vC,a1,a2,a3⟩:=h;exact⟨eL,vC,a1.ak hb,a2,a3.ak hb⟩
 have hT: ∀ es' W,EgR aB e q es' w W→fk W:=fun es' W h=>by obtain⟨_,_,a1,_,_⟩:=h;exact a1.rest.rep
 have hs: ∀ es' W,EgR aB e q es' w W→w.heap.size≤W.heap.size:=fun es' W h=>by obtain⟨_,_,_,_,a3⟩:=h;exact a3.size
 have h0: ∀ W,Below w.heap.size w W→EgR aB e q es w W:=fun W hb=>⟨aB,wt,h.ak hb,fun k hk=>.inl hk,aI.aU hb⟩
 by_cases hg:(bL b).2=0
 ·have hq:=BO hg;have hd:es.Ic b=es.rep (bL b).1:=if_pos hg;rw[hd];obtain⟨m1,m2⟩:=hi.FK hm hq.good;have uL:=(hi.zu hq.good).short Hu;refine YG h.own b A c hB hA hl (es.rep (bL b).1).1 _ (hR _) (hT _) (hs _) m1 aj ?_;have hlw:es.log.aF.length≤es.rg.bytes es.dev.dk.size:=by have:=es.log.uw hi.log.done;have:=hi.fit;omega
  have hrow:es.dev.dk.row.length=0:=by rw[hi.row];rfl
  have h1:1≤es.dev.dk.size:=by have:=hi.size;omega
  obtain⟨rq,Js⟩:=ae ((bL b).1);rw[Js] at hq m1 m2 uL ⊢;have hk:=hq.good.ay;by_cases c1:rq.ay=5∨rq.ay=6∨rq.ay=10
  ·have Mo:es.rep rq=([dZ es.bk rq],es):=by unfold Es.rep;rw[if_neg ET,if_pos c1];rfl
   rw[Mo];refine .does hg hi.up q.mb 98 rfl h.rest.does (by rw[Js];rcases c1 with c|c|c <;>rw[c] <;>rfl) (fun W hW=>?_);rw[Js];exact(afw (h.ak hW) rq hi.bk hq.good hq.ok c1).mono fun en W' ho=>ho.ds h hW
  by_cases c2:rq.ay=8
  ·have Mo:es.rep rq=es.flush rq:=by unfold Es.rep;rw[if_neg ET,if_neg c1,if_pos c2]
   rw[Mo];refine .does hg hi.up q.mb 99 rfl h.rest.does (by rw[Js,c2];rfl) (fun W hW=>?_);rw[Js];exact(WO (h.ak hW) rq aj aj h1).mono fun en W' ho=>ho.ds h hW
  by_cases c3:rq.ay=9
  ·have Mo:es.rep rq=es.save rq:=by unfold Es.rep;rw[if_neg ET,if_neg c1,if_neg c2,if_pos c3]
   rw[Mo];refine .does hg hi.up q.mb 100 rfl h.rest.does (by rw[Js,c3];rfl) (fun W hW=>?_);rw[Js];exact(ZN (h.ak hW) rq hi.bk aj aj hi.size).mono fun en W' ho=>ho.ds h hW
  have hc:bI rq.ay=true:=S6;have Mo:es.rep rq=es.change rq:=by unfold Es.rep;rw[if_neg ET,if_neg c1,if_neg c2,if_neg c3]
  rw[Mo];refine .does hg hi.up q.mb 101 rfl h.rest.does (by rw[Js];exact Me hc) (fun W hW=>?_);rw[Js];exact(yi (h.ak hW) rq hi.bk hq.good hq.ok hc aj aj h1).mono fun en W' ho=>ho.ds h hW
 ·have hd:es.Ic b=([⟨0,0,200,0,0,0,0⟩],es):=if_neg hg;rw[hd];exact YG h.own b A c hB hA hl [⟨0,0,200,0,0,0,0⟩] _ (hR _) (hT _) (hs _) (fun r hr=>by rw[List.mem_singleton] at hr;subst hr;exact aaJ) aN (.bad hg rfl h0)
end
end En
end
section
namespace En
section
variable {aB:Nat→Nat}{w:World}{e:Nat}{q:sQ}{wt:Value}{es:Es}
theorem uV(h:bC aB w e q wt es)(hu:es.up=true): Calls af 24 #[.pointer (some ⟨e,0,none⟩)] w fun en w'=>en= .returned (.int .i64 es.aF.length)∧w'=w:=by
 obtain⟨A,c,hv⟩:=h.aF.any;have x5:w.cell? ⟨e,5,none⟩=some (.slice A es.aF.length c):=by have:=h.own.cell 5;rw[hv] at this;exact this
 have HR:=aa (pX h.own);rw[hu] at HR;clear h hv;go_enter Tryz.func24,Tryz.ntmps24;go_wp2_with fail;refine ag HR.o ?_;go_wp2_with fail;go_ret;exact⟨rfl,rfl⟩
theorem CE(h:bC aB w e q wt es)(hu:es.up=true): Calls af 25 #[.pointer (some ⟨e,0,none⟩)] w fun en w'=>en= .returned (.int .u64 (es.log.dx:Nat))∧w'=w:=by
 have x2:w.cell? ⟨e,2,none⟩=some (.pointer (some ⟨q.lq,0,none⟩)):=h.own.cell 2;have HR:=aa (pX h.own);have HL:=aa (show Calls af 79 #[.pointer (some ⟨q.lq,0,none⟩)] w fun en w'=>en= .returned (.int .u64 (es.log.dx:Nat))∧w'=w from by obtain⟨v,hv⟩:=h.rest.log;exact Kj hv);rw[hu] at HR;clear h;go_enter Tryz.func25,Tryz.ntmps25;go_wp2_with fail;refine ag HR.o ?_;go_wp2_with fail;refine ag HL.o ?_;go_wp2_with fail;go_ret;exact⟨rfl,rfl⟩
def Ku(bk:dK)(w:World)(en:Ending)(w':World): Prop:=∃ b S,en= .returned (.pointer (some ⟨b,0,none⟩))∧fK S w' b bk∧(∀ k,S k→w.heap.size≤k)∧Below w.heap.size w w'
theorem sR(h:bC aB w e q wt es)(hu:es.up=true)(hk:es.bk.Ok): Calls af 14 #[.pointer (some ⟨e,0,none⟩)] w (Ku es.bk w):=by
 have x4:w.cell? ⟨e,4,none⟩=some (.pointer (some ⟨q.bk,0,none⟩)):=h.own.cell 4;have HR:=aa (pX h.own);obtain⟨x,hx⟩:=h.rest.book;have HC:=aa (GB hx hk.afq);rw[hu] at HR;clear h hx;go_enter Tryz.func14,Tryz.ntmps14;go_wp2_with fail;refine ag HR.o ?_;go_wp2_with fail;refine HC.o.mono ?_;rintro en w1 ⟨b,S,q',rfl,h1,h2,h3⟩;have HF:=aa (show Ku es.bk w (.returned (.pointer (some ⟨b,0,none⟩))) w1 from⟨b,S,rfl,⟨q',h1⟩,h2,h3⟩);clear h1 h2 h3;go_wp2_with fail;go_ret;exact HF.o
end
end En
end
section
namespace En
structure Live(base:Nat)(aB:Nat→Nat)(w:World)(e:Nat)(q:sQ)(wt:Value)(es:Es): Prop where
 cQ:bC aB w e q wt es
 inv:es.Inv
 may: ∀ r∈es.aF,r.qc
 bytes:es.rg.bytes es.dev.dk.size≤900000
 news: ∀ k,aB k≠0→base≤k
variable{aB:Nat→Nat}{w:World}{e:Nat}{wt:Value}
theorem Live.ak{base:Nat}{w':World} {q:sQ}{es:Es}(h:Live base aB w e q wt es)(hb:Below w.heap.size w w'): Live base aB w' e q wt es:=⟨h.cQ.ak hb,h.inv,h.may,h.bytes,h.news⟩
def Ez(base:Nat)(aB:Nat→Nat)(e:Nat)(q:sQ)(l:List Rp)(es':Es)(w:World)(en:Ending)(w':World): Prop:=
 ∃ v G C z eL vC,en= .returned v∧kD z w' v (l.map cJ) G C∧w.heap.size≤z∧Live base eL w' e q vC es'∧(∀ k,eL k≠0→k<z)∧(∀ k,eL k≠0→aB k≠0∨w.heap.size≤k)∧aI (fun k=>aB k≠0) w w'
theorem Es.Gf(e:Es){rq:Rq}(h:rq.qc): e.Ic (kW rq)=e.rep rq:=by unfold Es.Ic;rw[xQ h];rfl
theorem Live.next{es:Es}(hi:es.Inv)(hm: ∀ r∈es.aF,r.qc)(b:By)(BO:(bL b).2=0→(bL b).1.qc): (es.Ic b).2.Inv∧(∀ r∈(es.Ic b).2.aF,r.qc)∧es.Kin (es.Ic b).2:=by
 unfold Es.Ic;by_cases hg:(bL b).2=0
 ·rw[if_pos hg];have hq:=(BO hg).good;exact⟨(hi.zu hq).inv,(hi.FK hm hq).2,hi.kin hq⟩
 rw[if_neg hg];exact⟨hi,hm,Es.Kin.refl _⟩
theorem Live.JU{base:Nat}{q:sQ}{es:Es}(h:Live base aB w e q wt es)(hb:base≤w.heap.size)(b:By)(A:Option Addr)(c:Nat)(hB:Bs w A b)(hA:rh A)(hl:b.length≤70368744177664)(BO:(bL b).2=0→(bL b).1.qc):
  Calls af 12 #[.pointer (some ⟨e,0,none⟩),.slice A b.length c] w (Ez base aB e q (es.Ic b).1 (es.Ic b).2 w):=by
 refine(abq h.cQ h.inv h.may h.bytes b A c hB hA hl BO).mono ?_;rintro en w' ⟨v,G,C,wc,rfl,hO,hz,⟨eL,vC,a1,a2,a3⟩,hbw⟩;obtain⟨n1,n2,n3⟩:=Live.next h.inv h.may b BO;refine⟨v,G,C,wc.heap.size,eL,vC,rfl,hO,hz,⟨a1.ak hbw,n1,n2,by rw[n3.size,n3.rg];exact h.bytes,fun k hk=>?_⟩,a1.rest.lt,a2,a3.ak hbw⟩;rcases a2 k hk with h1|h1
 ·exact h.news k h1
 ·omega
theorem Live.ask{base:Nat}{q:sQ}{es:Es}(h:Live base aB w e q wt es)(hb:base≤w.heap.size){rq:Rq}(hq:rq.qc)(A:Option Addr)(c:Nat)(hB:Bs w A (kW rq))(hA:rh A):
  Calls af 12 #[.pointer (some ⟨e,0,none⟩),.slice A (kW rq).length c] w (Ez base aB e q (es.rep rq).1 (es.rep rq).2 w):=by
 have:=h.JU hb (kW rq) A c hB hA (by have:=(sY (q:=rq)).2;omega) (fun _=>by rw[xQ hq];exact hq)
 rwa [es.Gf hq] at this
theorem Ez.base{base:Nat}{w0 w':World} {q:sQ}{es:Es}(h:Live base aB w e q wt es)(hb:Below w0.heap.size w0 w)(h0:w0.heap.size≤base)(ht:aI (fun k=>aB k≠0) w w'): Below w0.heap.size w0 w':=
 aI.fresh ht hb fun k hk=>aT h0 (h.news k hk)
end En
end
section
namespace En
def ku(q:Rq): Nat→By
 | 0=>le q.id.toNat 4
 | 1=>le q.aw.toNat 2
 | _=>le q.bT.toNat 8
def gm(q:Rq)(l:List Nat): By:=(l.map (ku q)).flatten
theorem FF(q:Rq)(l:List Nat)(f:Nat): gm q (l++ [f])=gm q l++ku q f:=by simp[gm]
theorem Qp{q:Rq}(hk:1≤q.ay∧q.ay≤10): kW q=le q.ay.toNat 1++le q.tag.toNat 4++gm q (cz q.ay):=by
 obtain⟨k,tg,id,aw,bT⟩:=q;have p8:k=1∨k=2∨k=3∨k=4∨k=5∨k=6∨k=7∨k=8∨k=9∨k=10:=by simp only at hk;omega
 rcases p8 with rfl|rfl|rfl|rfl|rfl|rfl|rfl|rfl|rfl|rfl <;>simp[kW,dt,gm,cz,ku]
theorem LY(q:Rq)(f:Nat): (ku q f).length≤8:=by unfold ku;split <;>simp[bF]
theorem yN(q:Rq): ∀ l:List Nat,(gm q l).length≤8*l.length
 | []=>by simp[gm]
 | f::l=>by
  have h1:=yN q l;have h2:=LY q f;unfold gm at h1 ⊢;rw[List.map_cons,List.flatten_cons,dh,List.length_cons];omega
theorem WN(p:Nat)(q:Rq)(hq:q.qc)(bs:By)(w:World)(h:eG w p bs)(hl:bs.length≤1000): Calls af 134 #[.pointer (some ⟨p,0,none⟩),.agg (cZ q)] w (il p (bs++ku q 0) w):=by
 obtain⟨i,hi⟩: ∃ i:Nat,q.id=i:=⟨q.id.toNat,by have:=hq.good.id;omega⟩;have hb:i<4294967296:=by have:=hq.good.id;have:=hq.Xd;omega
 have hp:ku q 0=le i 4:=K8;rw[hp];obtain⟨xq,iO⟩:=ae w.heap.size;obtain⟨w1,aZ⟩:=ae (w.alloc (.cells (cZ q) 41));have hb1:=aL aZ;have c0:w1.cell? ⟨xq,2,none⟩=some (.int .u32 (i:Int)):=by
  have hA:=aK aZ iO;rw[←hi];exact hA.cell 2
 have HW:=aa (cY p i bs w1 (h.ai hb1) aj hb);have HT:=aa hb1;clear h hb1 hi hp hb hq;go_enter Tryz.func134,Tryz.ntmps134;go_wp2_with fail;refine HW.o.mono ?_;rintro e w2 ⟨⟨u,rfl⟩,h2,h3⟩;have HF:=aa (fun u=>(show il p (bs++le i 4) w (.returned u) w2 from⟨⟨u,rfl⟩,h2,(aI.aU (S:=(· =p)) HT.o).trans h3⟩));clear h2 h3;go_wp2_with fail;exact bodyPost_end (results_none Tryz.results134 _ _ _) rfl (HF.o _)
theorem WM(p:Nat)(q:Rq)(hq:q.qc)(bs:By)(w:World)(h:eG w p bs)(hl:bs.length≤1000): Calls af 138 #[.pointer (some ⟨p,0,none⟩),.agg (cZ q)] w (il p (bs++ku q 1) w):=by
 obtain⟨i,hi⟩: ∃ i:Nat,q.aw=i:=⟨q.aw.toNat,K7⟩;have hb:i<65536:=by have:=hq.good.aw;have:=hq.Xd;omega
 have hp:ku q 1=le i 2:=K8;rw[hp];obtain⟨xq,iO⟩:=ae w.heap.size;obtain⟨w1,aZ⟩:=ae (w.alloc (.cells (cZ q) 41));have hb1:=aL aZ;have c0:w1.cell? ⟨xq,3,none⟩=some (.int .i64 (i:Int)):=by
  have hA:=aK aZ iO;rw[←hi];exact hA.cell 3
 have hcv:IntKind.u16.wrap (i:Int)=(i:Int):=by rw[IntKind.wrap_u16];omega
 have HW:=aa (eM p i bs w1 (h.ai hb1) aj hb);have HT:=aa hb1;clear h hb1 hi hp hb hq;go_enter Tryz.func138,Tryz.ntmps138;go_wp2_with fail;refine HW.o.mono ?_;rintro e w2 ⟨⟨u,rfl⟩,h2,h3⟩;have HF:=aa (fun u=>(show il p (bs++le i 2) w (.returned u) w2 from⟨⟨u,rfl⟩,h2,(aI.aU (S:=(· =p)) HT.o).trans h3⟩));clear h2 h3;go_wp2_with fail;exact bodyPost_end (results_none Tryz.results138 _ _ _) rfl (HF.o _)
theorem WL(p:Nat)(q:Rq)(hq:q.qc)(bs:By)(w:World)(h:eG w p bs)(hl:bs.length≤1000): Calls af 143 #[.pointer (some ⟨p,0,none⟩),.agg (cZ q)] w (il p (bs++ku q 2) w):=by
 obtain⟨i,hi⟩: ∃ i:Nat,q.bT=i:=⟨q.bT.toNat,by have:=hq.good.bT;omega⟩;have hb:i<18446744073709551616:=by have:=hq.good.bT;have:=hq.Xd;omega
 have hp:ku q 2=le i 8:=K8;rw[hp];obtain⟨xq,iO⟩:=ae w.heap.size;obtain⟨w1,aZ⟩:=ae (w.alloc (.cells (cZ q) 41));have hb1:=aL aZ;have c0:w1.cell? ⟨xq,4,none⟩=some (.int .i64 (i:Int)):=by
  have hA:=aK aZ iO;rw[←hi];exact hA.cell 4
 have hcv:IntKind.u64.wrap (i:Int)=(i:Int):=by rw[IntKind.wrap_u64];omega
 have HW:=aa (ej p i bs w1 (h.ai hb1) aj hb);have HT:=aa hb1;clear h hb1 hi hp hb hq;go_enter Tryz.func143,Tryz.ntmps143;go_wp2_with fail;refine HW.o.mono ?_;rintro e w2 ⟨⟨u,rfl⟩,h2,h3⟩;have HF:=aa (fun u=>(show il p (bs++le i 8) w (.returned u) w2 from⟨⟨u,rfl⟩,h2,(aI.aU (S:=(· =p)) HT.o).trans h3⟩));clear h2 h3;go_wp2_with fail;exact bodyPost_end (results_none Tryz.results143 _ _ _) rfl (HF.o _)
theorem FW{W:World}{g:Nat}{l:List Nat}(h:aG W g 3 (j9 l)){j:Nat}(hj:j<l.length){f:Nat}(hf:l[j]=f): W.cell? ⟨g,j,none⟩=some (.int .i64 (f:Int)):=by rw[h.cell,←hf];simp[j9,hj]
def Xx(bs:By)(w:World)(e:Ending)(w':World): Prop:=∃ g c,e= .returned (.tuple #[.slice (some ⟨g,0,none⟩) bs.length c,.int .i64 0])∧jN w' 5 g bs∧bs.length≤c∧w.heap.size≤g∧Below w.heap.size w w'
theorem J9(q:Rq)(hq:q.qc)(w:World): Calls af 11 #[.agg (cZ q)] w (Xx (kW q) w):=by
 have Hy:=hq.good.ay;have Mm:=hq.good.tag;obtain⟨k,hk⟩: ∃ k:Nat,q.ay=k:=⟨q.ay.toNat,aj⟩;obtain⟨tg,ht⟩: ∃ i:Nat,q.tag=i:=⟨q.tag.toNat,aj⟩;have aku:k≤10:=aj;have OW:tg<4294967296:=aj;have HP:=aa (show kW q=le k 1++le tg 4++gm q (cz k)from by rw[Qp Hy,hk,ht];rfl);have hcv:IntKind.u8.wrap (k:Int)=(k:Int):=by rw[IntKind.wrap_u8];omega
 have HM:=aa hq;have jy:=aa hq.ok;have Cw:=aa (fun W=>FE (k:Int) W);have aht:=B0 (k:Int);obtain⟨xq,iO⟩:=ae w.heap.size;obtain⟨w1,aZ⟩:=ae (w.alloc (.cells (cZ q) 41));have vz:=aa (aK aZ iO);have bz:=aa (aL aZ);have vx:=aa (show xq=w.heap.size from iO.symm);clear hq Hy Mm;go_enter Tryz.func11,Tryz.ntmps11;go_wp2_with (refine aC rfl 41 (.tmp 1) rfl xq 41 _ vz.o rfl _ cA rfl aH ?_);clear aZ iO;refine(jT q w1 jy.o).mono ?_;rintro e w2 ⟨rfl,hb⟩;have rI:=vz.js hb;have cu:=bz.dP hb;clear hb vz bz;obtain⟨xw,hxw⟩:=ae w2.heap.size;obtain⟨w3,hw3⟩:=ae (w2.alloc (.cells #[.slice none 0 0] 150));have hb:=aL hw3;have jx:=rI.js hb;have dV:=cu.dP hb;have M5:=aa (show eG w3 xw [] by rw[←hw3,←hxw];exact eG.fresh w2);have kV:=aa (show xq<xw∧w.heap.size≤xw from⟨by have:=rI.o.lt;omega,by have:=cu.o.size;omega⟩);have c0:w3.cell? ⟨xq,0,none⟩=some (.int .i64 (k:Int)):=by rw[←hk];exact jx.o.cell 0
 clear hb rI cu;go_wp2_with fail;clear hw3 hxw;refine(fR xw k [] w3 M5.o dR aj).mono ?_;rintro e w4 ⟨⟨u,rfl⟩,hw,CM⟩;have Zf:=aa hw;have tQ:=aa (CM.arr jx.o (by have:=kV.o;omega));have gH:=aa (aI.fresh CM dV.o (fun j hj=>by have D7:j=xw:=hj;have:=kV.o;omega));have c1:w4.cell? ⟨xq,1,none⟩=some (.int .u32 (tg:Int)):=by rw[←ht];exact tQ.o.cell 1
 clear hw CM c0 M5 jx dV;go_wp2_with fail;refine(cY xw tg ([]++le k 1) w4 Zf.o (by simp[bF]) OW).mono ?_;rintro e w5 ⟨⟨u,rfl⟩,hw,QU⟩;have RB:=aa hw;have Ye:=aa (QU.arr tQ.o (by have:=kV.o;omega));have eA:=aa (aI.fresh QU gH.o (fun j hj=>by have D7:j=xw:=hj;have:=kV.o;omega));have c0:w5.cell? ⟨xq,0,none⟩=some (.int .i64 (k:Int)):=by rw[←hk];exact Ye.o.cell 0
 clear hw QU c1 Zf tQ gH;go_wp2_with fail;refine(Cw.o w5).mono ?_;rintro e w6 ⟨B,rfl,hG,hb⟩;have Kr:=aa hG;have KT:=aa (Ye.o.ai hb);have ij:=eA.dP hb;have HW6:=aa (RB.o.ai hb);have HLW:=aa (show xw<w5.heap.size from by obtain⟨A,c,h1,_⟩:=RB.o.ex;exact h1.lt);clear hG hb c0 Ye eA RB;go_wp2_with fail;refine(yf w6).mono ?_;rintro e w7 ⟨rfl,hb⟩;have HG7:=aa (show cz k≠ []→∃ g,B=some ⟨g,0,none⟩∧w5.heap.size≤g∧aG w7 g 3 (j9 (cz k))from fun h=>by obtain⟨g,h1,h2,h3⟩:=Kr.o h;exact⟨g,h1,h2,h3.ai hb⟩);have zf:=aa (KT.o.ai hb);have lI:=ij.dP hb;have Pp:=aa (HW6.o.ai hb);clear hb Kr KT ij HW6;obtain⟨xf,Z9⟩:=ae w7.heap.size;obtain⟨w8,hw8⟩:=ae (w7.alloc (.cells #[.nilFunc,.nilFunc,.nilFunc,.nilFunc,.nilFunc,.nilFunc,.nilFunc,.nilFunc,.nilFunc] 161));have zE:=aa (aK hw8 Z9);have py:=aa (aL hw8);have HXF:=aa Z9;go_upto_region 9 with(refine ah rfl 161 _ _ rfl xf 161 _ gp zE.o rfl rfl rfl oH (by simp[gp,fw]) ?_;intro w9 dE dC gJ;have zD:=aa (show Below w7.heap.size w7 w9 from bn py.o dC (Nat.le_of_eq HXF.o));have HF9:=aa dE;clear dE dC gJ)
 have qd:=aa (show cz k≠ []→∃ g,B=some ⟨g,0,none⟩∧w5.heap.size≤g∧aG w9 g 3 (j9 (cz k))from fun h=>by obtain⟨g,h1,h2,h3⟩:=HG7.o h;exact⟨g,h1,h2,h3.ai zD.o⟩);have HQ9:=aa (zf.o.ai zD.o);have ie:=aa (av lI.o zD.o);have HW9:=aa (Pp.o.ai zD.o);have HNF:=aa (show xw<xf from by have:=HLW.o;have:=HXF.o;obtain⟨A,c,h1,_⟩:=Pp.o.ex;have:=h1.lt;omega);clear hw8 Z9 zE py HG7 zf lI Pp zD HXF;go_wp2_with fail;go_loopw [32] (fun i wr=>∃ j:Nat,j≤(cz k).length∧i= .int .i64 j∧eG wr xw (le k 1++le tg 4++gm q ((cz k).take j))∧aG wr xf 161 gp∧(cz k≠ []→∃ g,B=some ⟨g,0,none⟩∧w5.heap.size≤g∧aG wr g 3 (j9 (cz k)))∧aG wr xq 41 (cZ q)∧Below w.heap.size w wr) (fun i _=>((cz k).length - intOf i).toNat)
 case atStart=>exact⟨0,Nat.zero_le _,rfl,by have:=HW9.o;simpa[gm] using this,HF9.o,qd.o,HQ9.o,ie.o⟩
 case round=>
  obtain⟨j,hj,rfl,hi,hf,hg,hr,hb⟩:=hrel;by_cases h2:j<(cz k).length
  ·obtain⟨g,hB',eC,KM⟩:=hg (fun h0=>by rw[h0] at h2;simp at h2);subst hB';have Q8:(j:Int)<(cz k).length:=aj;obtain⟨f,Y'⟩:=ae ((cz k)[j]);have c1:=FW KM h2 Y';have hfm:=O2 k f (by rw[←Y'];exact List.getElem_mem h2);have HST:=aa (show gm q ((cz k).take (j+1))=gm q ((cz k).take j)++ku q f from by rw[List.take_add_one,bY h2,Y'];exact FF _ _ _);have HL:=aa (show(le k 1++le tg 4++gm q ((cz k).take j)).length≤1000 from by
    have:=yN q ((cz k).take j);simp only[dh,bF,List.length_take] at this ⊢;omega)
   have Su:=aa hi;have Nh:=aa hf;have HGG:=aa KM;have uq:=aa hr;have HBr:=aa hb;have Yk:=aa eC;have HJ:=aa h2;clear hi hf hg KM hr hb eC Y';have CX:=aa (show ∀ W',eG W' xw (le k 1++le tg 4++gm q ((cz k).take j)++ku q f)→∀ Wd,Below wr.heap.size wr Wd→aI (· =xw) Wd W'→eG W' xw (le k 1++le tg 4++gm q ((cz k).take (j+1)))∧aG W' xf 161 gp∧(cz k≠ []→∃ g',some (⟨g,0,none⟩:Addr)=some ⟨g',0,none⟩∧w5.heap.size≤g'∧aG W' g' 3 (j9 (cz k)))∧aG W' xq 41 (cZ q)∧Below w.heap.size w W' from fun W' h1 Wd gQ h2=>by
    have hn:=kV.o;have hnf:=HNF.o;have hz:=Yk.o;have hlw:=HLW.o;exact⟨by rw[HST.o,←List.append_assoc];exact h1,h2.arr (Nh.o.ai gQ) aj,fun _=>⟨g,rfl,hz,h2.arr (HGG.o.ai gQ) aj⟩,h2.arr (uq.o.ai gQ) aj,aI.fresh h2 (av HBr.o gQ) (fun j hj=>by have D7:j=xw:=hj;omega)⟩)
   go_upto_region 12 with fail
   clear c1;obtain⟨wd,hwd⟩:=ae wr.drew;have gQ:Below wr.heap.size wr wd:=mS;have Sy:=aa gQ;have gi:=aa (show ∀ W,aG W xf 161 gp→aG W xq 41 (cZ q)→(W.cell? ⟨xf,0,none⟩=some (.func (.func 134) #[] #[])∧W.cell? ⟨xf,3,none⟩=some (.func (.func 138) #[] #[])∧W.cell? ⟨xf,6,none⟩=some (.func (.func 143) #[] #[])∧W.rangeAt xq 0 (cZ q).toList)from fun W h1 h2=>⟨h1.cell 0,h1.cell 3,h1.cell 6,fun i u hi=>by rw[Nat.zero_add,h2.cell i];simpa using hi⟩);have HWd:=aa (Su.o.ai gQ);have HFd:=aa (Nh.o.ai gQ);have Zl:=aa (uq.o.ai gQ);clear gQ;rcases hfm with rfl|rfl|rfl
   ·refine wp_region_held_drew (S:=(fun W=>W.cell? ⟨xf,0,none⟩=some (.func (.func 134) #[] #[])∧W.cell? ⟨xf,3,none⟩=some (.func (.func 138) #[] #[])∧W.cell? ⟨xf,6,none⟩=some (.func (.func 143) #[] #[])∧W.rangeAt xq 0 (cZ q).toList)) br Lx (fun hHeld=>?_);rw[hwd] at hHeld ⊢;clear hwd;refine lu 0 1 2 3 ?_;refine eZ 4 (some 40) hHeld 41 (.tmp 1) xq 0 (cZ q).toList _ (fun w' h=>h.2.2.2) cA rfl aH ?_;try simp only[aY]
    refine cG 5 fun K hK=>?_
    go_simp;refine(WN xw q HM.o _ wd HWd.o HL.o).mono ?_;exact Vc
   ·refine wp_region_held_drew (S:=(fun W=>W.cell? ⟨xf,0,none⟩=some (.func (.func 134) #[] #[])∧W.cell? ⟨xf,3,none⟩=some (.func (.func 138) #[] #[])∧W.cell? ⟨xf,6,none⟩=some (.func (.func 143) #[] #[])∧W.rangeAt xq 0 (cZ q).toList)) br Lx (fun hHeld=>?_);rw[hwd] at hHeld ⊢;clear hwd;refine lu 0 1 2 3 ?_;refine eZ 4 (some 40) hHeld 41 (.tmp 1) xq 0 (cZ q).toList _ (fun w' h=>h.2.2.2) cA rfl aH ?_;try simp only[aY]
    refine cG 5 fun K hK=>?_
    go_simp;refine(WM xw q HM.o _ wd HWd.o HL.o).mono ?_;exact Vc
   refine wp_region_held_drew (S:=(fun W=>W.cell? ⟨xf,0,none⟩=some (.func (.func 134) #[] #[])∧W.cell? ⟨xf,3,none⟩=some (.func (.func 138) #[] #[])∧W.cell? ⟨xf,6,none⟩=some (.func (.func 143) #[] #[])∧W.rangeAt xq 0 (cZ q).toList)) br Lx (fun hHeld=>?_);rw[hwd] at hHeld ⊢;clear hwd;refine lu 0 1 2 3 ?_;refine eZ 4 (some 40) hHeld 41 (.tmp 1) xq 0 (cZ q).toList _ (fun w' h=>h.2.2.2) cA rfl aH ?_;try simp only[aY]
   refine cG 5 fun K hK=>?_
   go_simp;refine(WL xw q HM.o _ wd HWd.o HL.o).mono ?_;exact Vc
  obtain rfl:j=(cz k).length:=aj;rw[List.take_length,←HP.o] at hi;have Su:=aa hi;have HBr:=aa hb;have hlB:=@sY q;obtain⟨bs,tO⟩:=ae (kW q);rw[tO] at hlB hi Su;have KW:=aa tO;clear hi hf hg hr hb tO;go_wp2_with fail;refine(lQ xw bs wr Su.o aj).mono ?_;rintro e wz ⟨A,c,rfl,h1,h3,h4,h5,h6⟩;obtain⟨g,rfl,kX,hg2⟩:=h1 (fun c=>by rw[c] at hlB;simp at hlB);have HF:=aa (show Xx (kW q) w (.returned (.tuple #[.slice (some ⟨g,0,none⟩) bs.length c,.int .i64 0])) wz from by
   rw[KW.o];exact⟨g,c,rfl,hg2,h3,aT HBr.o.size kX,av HBr.o h6⟩)
  clear h1 h3 h4 h5 h6 kX hg2;go_wp2_with fail;go_ret2;exact HF.o
end En
end
section
namespace En
def adP(base:Nat)(aB:Nat→Nat)(e:Nat)(q:sQ)(l:List Rp)(es':Es)(w:World)(en:Ending)(w':World): Prop:=
 ∃ v eL vC,en= .returned (.tuple #[v,.bool true])∧aM (fun k=>w.heap.size≤k∧eL k=0) w' 108 7 v l.length (oY l)∧Live base eL w' e q vC es'∧(∀ k,eL k≠0→aB k≠0∨w.heap.size≤k)∧aI (fun k=>aB k≠0) w w'
theorem yz{base x e:Nat}{aB:Nat→Nat}{w:World}{t:TypeId}{cs:Array Value}{q:sQ}{wt:Value}{es:Es}(h:Live base aB w e q wt es)(hb:base≤w.heap.size)(hx:aG w x t cs)(hx0:aB x=0)(hc:cs[1]? =some (.pointer (some ⟨e,0,none⟩))){rq:Rq}(hq:rq.qc):
  Calls af 35 #[.pointer (some ⟨x,0,none⟩),.agg (cZ rq)] w (adP base aB e q (es.rep rq).1 (es.rep rq).2 w):=by
 obtain⟨j0,hj,hz0,hz1,hz2⟩:=info_parts qo;obtain⟨xq,iO⟩:=ae w.heap.size;obtain⟨w1,aZ⟩:=ae (w.alloc (.cells (cZ rq) 41));have dz:=aa (aK aZ iO);have hb1:=aL aZ;have Yj:=aa (h.ak hb1);have Dv:=aa (hx.ai hb1);have bz:=aa hb1;have HQ:=aa hq;have HC:=aa hc;have HX0:=aa hx0;have HB:=aa hb;obtain⟨hm1,vt⟩:=h.inv.FK h.may hq.good;have HM:=aa hm1;have HS:=aa (show(es.rep rq).1.length≤65 from(h.inv.zu hq.good).short (by have:=h.inv.full;have:=h.inv.bk.aA;omega));clear h hb hx hx0 hc hq hb1 hm1 vt;go_enter Tryz.func35,Tryz.ntmps35;go_wp2_with (refine aC rfl 41 (.tmp 3) rfl xq 41 _ dz.o rfl _ cA rfl aH ?_);refine(J9 rq HQ.o w1).mono ?_;rintro en w2 ⟨g,cb,rfl,hblk,sx,hg,hb2⟩;have Ss:=aa (Yj.o.ak hb2);have CW:=aa (Dv.o.ai hb2);have cu:=bz.dP hb2;have fC:=aa hblk;have x1:w2.cell? ⟨x,1,none⟩=some (.pointer (some ⟨e,0,none⟩)):=(CW.o.cell 1).trans HC.o;clear hblk sx hg hb2 dz Yj Dv bz aZ iO;go_wp2_with fail;refine(Ss.o.ask (aT HB.o cu.o.size) HQ.o (some ⟨g,0,none⟩) cb (jN.bs fC.o) (cI _ _)).mono ?_;rintro en w3 ⟨v',G,D,z,eL,vC,rfl,hO,hz,hLv,hrz,vr,ht⟩;obtain⟨A',c',rfl⟩:=hO.row.any;have hml:((es.rep rq).1.map cJ).length=(es.rep rq).1.length:=List.length_map ..;obtain⟨l,hl⟩:=ae ((es.rep rq).1);have HLE:=aa hl;rw[hl] at hml hO HM HS;have HO:=aa hO;have HZ:=aa hz;have HLV:=aa hLv;have HRZ:=aa hrz;have HT:=aa (show aI (fun k=>aB k≠0) w w3 from(aI.aU cu.o).trans ht);have uq:=aa (show ∀ k,eL k≠0→aB k≠0∨w.heap.size≤k from fun k hk=>(vr k hk).imp_right fun h=>aT cu.o.size h);have HML:=aa hml;rw[hl,hml];clear hO hz hLv hrz vr ht x1 CW Ss fC hml hl;go_wp2_with fail;go_loopw [8,10,11] (fun u8 v10 i wr=>∃ j:Nat,j≤l.length∧i= .int .i64 j∧v10= .bool true∧aM (fun k=>w3.heap.size≤k) wr 108 7 u8 j (oY l)∧Below w3.heap.size w3 wr) (fun _ _ i _=>(l.length - intOf i).toNat)
 case atStart=>exact⟨0,Nat.zero_le _,rfl,rfl,aM.nil _ _ _ _ _,au _ _⟩
 case round=>
  obtain⟨j,Y6,rfl,rfl,hR,hbr⟩:=hrel;by_cases h2:j<l.length
  ·have Q8:(j:Int)<(l.length:Int):=by omega
   have hs:=HS.o;have amp:j<65:=aj;obtain⟨r,hr⟩:=ae (l[j]);have hlm:j<(l.map cJ).length:=by rw[List.length_map];exact h2
   have hrm:r.qc:=HM.o r (by rw[←hr];exact List.getElem_mem h2);have hgd:(l.map cJ).getD j []=cJ r:=by rw[bN,bY hlm];simp[hr]
   obtain⟨g7,amT,hv,_,_,_,_⟩:=HO.o.row.form aj;injection hv with e1 _ e2
   subst e1 e2;have hk:=HO.o.ai hbr;have hcell:=hk.row.range (fun _=>rfl) hlm 0 _ rfl;have Wl:=(hk.each j hlm).1;rw[hgd] at hcell Wl;have c1:wr.cell? ⟨g7,j,none⟩=some (.slice (some ⟨G j,0,none⟩) (cJ r).length (D j)):=by simpa using hcell
   have HE:=aa Wl.blk;have HRP:=aa (HLV.o.cQ.rest.rep.ai hbr);have M7:=aa hrm;have HRC:=aa (show oY l j= [.int .u32 r.tag,.int .i64 r.ay,.int .i64 r.err,.int .u32 r.id,.int .i64 r.aw,.int .i64 r.aS,.int .i64 r.count] by unfold oY;rw[bN,bY h2];show(iW l[j]).toList=_;rw[hr];rfl);have HR:=aa hR;have Yu:=aa hbr;have HJ:=aa Y6;clear hk hcell Wl hrm hgd hlm hr hR hbr hs Y6;go_wp2_with fail;refine(XC r (some ⟨G j,0,none⟩) (D j) wr (jN.bs HE.o) (cI _ _) HRP.o M7.o).mono ?_;rintro en w5 ⟨rfl,dX⟩;have eA:=aa dX;obtain⟨xb,zm⟩:=ae w5.heap.size;obtain⟨w6,og⟩:=ae (w5.alloc (.cells #[.int .u32 0,.int .i64 0,.int .i64 0,.int .u32 0,.int .i64 0,.int .i64 0,.int .i64 0] 108));have tC:=aa (show aG w6 xb 108 (iW Rp.none)by rw[←og,←zm];exact aG.fresh w5 _ _);have ij:=aa (dU eA.o og);have qK:=aa (show wr.heap.size≤xb by rw[←zm];exact dX.size);clear dX c1;go_upto_region 9 with(refine ah rfl 108 (.tmp 12) _ rfl xb 108 _ (iW r) tC.o rfl rfl rfl aR pH ?_;intro w7 Ek JC hs7;have lI:=aa (show Below wr.heap.size wr w7 from bn ij.o JC qK.o);have yt:=aa (show aG w7 xb 108 #[.int .u32 r.tag,.int .i64 r.ay,.int .i64 r.err,.int .u32 r.id,.int .i64 r.aw,.int .i64 r.aS,.int .i64 r.count] from Ek);clear Ek JC hs7)
   clear og zm;go_upto_region 10 with fail
   have py:=aa (ax lI.o (.cells #[.int .u32 r.tag,.int .i64 r.ay,.int .i64 r.err,.int .u32 r.id,.int .i64 r.aw,.int .i64 r.aS,.int .i64 r.count] 108));have KS:=aa (HR.o.ai py.o);have Zq:=aa (iN w7 [.int .u32 r.tag,.int .i64 r.ay,.int .i64 r.err,.int .u32 r.id,.int .i64 r.aw,.int .i64 r.aS,.int .i64 r.count] 108);go_wp2_with (first|(refine aC rfl 108 (.tmp 12) rfl xb 108 _ yt.o rfl _ Tryz.underlying108 rfl aR ?_)|(at_builtin;refine gN _ rfl (.tmp 46) (.tmp 48) 65 rfl 108 j0 (.agg #[.int .u32 0,.int .i64 0,.int .i64 0,.int .u32 0,.int .i64 0,.int .i64 0,.int .i64 0]) 7 56 Tryz.underlying65 hj hz0 hz1 hz2 rfl aN _ j _ rfl KS.o ⟨w7.heap.size,0,none⟩ 1 [.int .u32 r.tag,.int .i64 r.ay,.int .i64 r.err,.int .u32 r.id,.int .i64 r.aw,.int .i64 r.aS,.int .i64 r.count] rfl rfl Zq.o S8 km aj ?_;intro ga ca w9 DZ dC;have Sm:=aa DZ;have qd:=aa dC;clear DZ dC));go_roundw
   case rel=>
    have hz8:=lI.o.size;have wP:=Yu.o.size;refine⟨j+1,h2,by go_num,rfl,?_,(av Yu.o py.o).grown qd.o (av Yu.o py.o).size (fun k e=>HR.o.block k e)⟩;have he:cH (oY l) j [.int .u32 r.tag,.int .i64 r.ay,.int .i64 r.err,.int .u32 r.id,.int .i64 r.aw,.int .i64 r.aS,.int .i64 r.count]=oY l:=by
     funext i;unfold cH;by_cases h:i=j
     ·rw[if_pos h,h,HRC.o]
     rw[if_neg h]
    have h9:=Sm.o;rw[he] at h9;exact h9.mono fun k hk _=>by
     rcases hk with hk|hk
     ·exact hk
     have h7:(w7.alloc (.cells #[.int .u32 r.tag,.int .i64 r.ay,.int .i64 r.err,.int .u32 r.id,.int .i64 r.aw,.int .i64 r.aS,.int .i64 r.count] 108)).heap.size=w7.heap.size+1:=dR;omega
   case measure=>simp[intOf];omega
  obtain rfl:j=l.length:=aj;have HF:=aa (show adP base aB e q l (es.rep rq).2 w (.returned (.tuple #[u8,.bool true])) wr from⟨u8,eL,vC,rfl,hR.mono fun k hk _=>⟨aT HT.o.size hk,Classical.byContradiction fun hne=>by have:=HLV.o.cQ.rest.lt k hne;omega⟩,HLV.o.ak hbr,uq.o,HT.o.trans (aI.aU hbr)⟩);clear hR hbr h2 Y6;go_wp2_with fail;go_ret2;rw[HLE.o];exact HF.o
