import Derived.Test.YtemighjbfanenaaGreatDoorQk34
import Derived.Test.YtemighjbfanenaaGreatDoorQk32
import Derived.Test.YtemighjbfanenaaGreatDoorQk36
set_option linter.all false
set_option maxRecDepth 100000
set_option maxHeartbeats 16000000
namespace Go.Proofs.YtemighjbfanenaaGreatDoor
open RowKit
open Oc (ib Bs gl fS ed df lV eO eF le bG qV cM val)
open Eg (ia jv kE jF LR)
open Bk (Gm fL bo Gk YA)
open Go.Proofs.Tryz renaming prog→af,underlying41→cD
open Go.Value renaming oneCell'→fY
open List renaming getD_eq_getElem?_getD→bR,length_append→bZ,getElem?_eq_getElem→bY
open Nat renaming le_trans→aV
open RowKit.Below renaming refl→ar
theorem U7{p:Prop}(h:p:=by
 refine cJ 15 fun K hK=>?_
 refine cW 129 _ _ rfl xh 129 _ (n9 R.2.1) Yr.o rfl rfl rfl Ji (by simp[n9,fY]) ?_;intro v4 dG hg gJ;have ajv:=aa dG;have mR:=aa (dY.o.other ((aI.refl (· =xh) v3).grown hg (fun k e=>Ib)) (fun k hk=>ad2));have nW:=aa (fH.o.bz hg (fun e=>abI));have oQ:=aa (vy eX.o hg HXH.o);clear dG hg gJ;refine bW hK adO fun QN=>?_
 clear hK K;refine ty 16 ?_;refine bM ?_;go_wp2_with fail;go_meet;exact⟨xh,_,rfl,rfl,ajv.o,nW.o,mR.o,oQ.o,yO.o,Ca.o.1,Ca.o.2⟩):p:=h
theorem U3{p:Prop}(h:p:=by
 rintro e wn ⟨⟨u,rfl⟩,h1,ht9⟩;have ze:=aa (F7.o wn h1 wd Sh.o ht9);clear h1 ht9;go_wp2_with fail;refine bW hK adY fun hh5=>?_
 clear hK K;refine bM ?_;go_wp2_with fail;go_roundw
 case rel=>exact⟨j+1,by have:=HJ.o;omega,by go_num,ze.o⟩
 case measure=>simp[intOf];have:=HJ.o;omega):p:=h
theorem abV{p:Prop}(h:p:=by
 go_wp2_with fail;refine ag HR.o ?_;go_wp2_with fail;refine ag HL.o ?_;go_wp2_with fail;go_ret;exact⟨rfl,rfl⟩):p:=h
theorem SS{p:Prop}(h:p:=by have c':aB xq=2:=c;have:=(HN.o _ tj.o.1).1;rw[this] at c';exact absurd c' (by decide)):p:=h
theorem SJ{p:Prop}(h:p:=by have:=(HN.o _ Sd.o.1).1;rw[this] at c;exact absurd c (by decide)):p:=h
theorem TX{p:Prop}(h:p:=by have c':aB xh=2:=c;have:=(HN.o _ HXH.o).1;rw[this] at c';exact absurd c' (by decide)):p:=h
theorem Lp{p:Prop}(h:p:=by have Hb:aB k=2:=hk;show aB k≠0;rw[Hb];decide):p:=h
theorem ad2{p:Prop}(h:p:=by subst hk;exact⟨Ca.o.2,(HN.o _ HXH.o).2⟩):p:=h
theorem adY{p:Prop}(h:p:=by exact fX.o _ ze.o.2.1 ze.o.2.2.2.1):p:=h
theorem Le{p:Prop}(h:p:=by rw[hwd];exact fX.o _ HFd.o Ze.o):p:=h
theorem K9{p:Prop}(h:p:=by have:=R7.o;have:=El.o;omega):p:=h
theorem KX{p:Prop}(h:p:=by exact fX.o _ _ _ dY.o):p:=h
theorem adO{p:Prop}(h:p:=by exact fX.o _ _ _ mR.o):p:=h
theorem KR{p:Prop}(h:p:=by unfold kx;rw[hi];rfl):p:=h
theorem KQ{p:Prop}(h:p:=by have:=hq.good.aw;omega):p:=h
theorem EB{p:Prop}(h:p:=by rw[hi.up];decide):p:=h
section
namespace En
section
variable {aB:Nat→Nat}{w w':World}{e:Nat}{q:rB}{wt:Value}{es:Es}
theorem dI.Ok.afi{b:dI}(h:b.Ok): Gm b.n b.au b.aA b.next b.aq b.L:=
 ⟨by unfold tP.Ct;have:=h.n;have:=h.au;have:=h.aA;exact decide_eq_true ai,h.next,h.aq,h.len,h.Uj,h.ids,h.gh,h.alone,h.aR⟩
theorem Oz(b:dI): jT b=Im.jT b.n b.au b.next.toNat b.aq.toNat b.L:=rfl
theorem IW(b:dI): (jT b).length=20+14*b.L.length:=by
 rw[Oz];unfold Im.jT;rw[bZ,Im.DT,Im.vU]
theorem bD.LX(h:bD aB w e q wt es)(hb:es.bk.Ok): Calls af 213 #[.pointer (some ⟨q.bk,0,none⟩)] w (Im.XB (jT es.bk) w):=by
 obtain⟨x,hx⟩:=h.rest.book;have h1:=hb.next;have h2:=hb.aq;rw[Oz];have e1:es.bk.next=(es.bk.next.toNat:Int):=(Int.toNat_of_nonneg ai).symm;have e2:es.bk.aq=(es.bk.aq.toNat:Int):=(Int.toNat_of_nonneg ai).symm;have hk:=hb.afi;rw[e1,e2] at hx hk;exact Im.afv hx hk
theorem Qb(s:Sl)(d:bJ)(body:By)(mh:Nat)(hs:1≤d.dk.size): (s.save d body mh).2.2.dk.size=d.dk.size:=by
 have hp: ∀ (r:Rg) (x:bJ) (at_:Nat) (b:By),1≤x.dk.size→(dC r x at_ b).2.dk.size=x.dk.size:=fun r x at_ b hx=>by
  unfold dC;have h1:=(Rg.pD r x at_ b hx).1;split
  ·exact(bJ.Ff (r.write x at_ b).2).1.trans h1
  exact h1
 have hl:=Oo s d;have hl2:(s.load d).dev.dk.size=d.dk.size:=mB;unfold Sl.save;by_cases c1:s.bytes d.dk.size<body.length
 ·rw[if_pos c1]
 rw[if_neg c1];by_cases c2:(s.load d).err≠0
 ·rw[if_pos c2];exact hl2
 rw[if_neg c2];by_cases c3:(s.load d).hd.gen=18446744073709551615
 ·rw[if_pos c3];exact hl2
 rw[if_neg c3];simp only;generalize(if(s.load d).at_=0 then s.b else s.a)=r;have h1:=hp r (s.load d).dev d.dk.size body (by rw[hl2];exact hs);generalize hP:dC r (s.load d).dev d.dk.size body=P at h1 ⊢;by_cases c4:P.1≠0
 ·rw[if_pos c4];exact h1.trans hl2
 rw[if_neg c4];have h2:=hp r P.2 0 (Hc ⟨(s.load d).hd.gen+1,mh,body.length,Cr.ij 0 body⟩++List.replicate (d.dk.size - 32) 0) (by rw[h1,hl2];exact hs);generalize hQ:dC r P.2 0 _=Q at h2 ⊢;by_cases c5:Q.1≠0
 ·rw[if_pos c5];exact h2.trans (h1.trans hl2)
 rw[if_neg c5];exact h2.trans (h1.trans hl2)
theorem bD.xF(h:bD aB w e q wt es)(body:By)(A:Option Addr)(c:Nat)(hB:Bs w A body)(hA: ∀ g off,A=some ⟨g,off,none⟩→g<w.heap.size∧aB g≠2)(hc:body.length≤c)(hr:es.dev.dk.row.length+body.length≤1000000)(Hh:32≤es.dev.dk.size):
  Calls af 214 #[.pointer (some ⟨q.sl,0,none⟩),.slice A body.length c,.int .u64 (es.log.last:Nat)] w fun en w1=>en= .returned (.tuple #[.agg (n9 (es.sl.save es.dev body es.log.last).2.1),.int .i64 (es.sl.save es.dev body es.log.last).1])∧bD (grow aB w w1 2) w1 e q wt {es with dev:=(es.sl.save es.dev body es.log.last).2.2}∧aI (fun k=>aB k=2) w w1:=by
 have no: ∀ {k r:Nat},aB k=r→r≠2→¬(aB k=2):=fun h a c=>a (h.symm.trans c)
 obtain⟨lv,hlv⟩:=h.rest.log;refine(Xk h.rest.slots h.rest.dev (no h.rest.r7.1 aM) (no h.rest.r7.2.1 aM) (no h.rest.r7.2.2 aM) h.rest.ij (no h.rest.kW.1 aM) Hh body A c es.log.last hB (fun g off e=>hA g off e) hc hlv.ok.last hr).mono ?_;rintro en w1 ⟨rfl,h2,h3⟩;exact⟨rfl,h.keeps (h.rest.save (Qb _ _ _ _ ai) h2 h3) rfl rfl h3 (fun k hk=>by have Hb:aB k=2:=hk;rw[Hb];exact⟨aM,aM⟩) (nt h.rest.lt),h3⟩
theorem bD.xN(h:bD aB w e q wt es): Calls af 80 #[.pointer (some ⟨q.lq,0,none⟩)] w fun en w'=>en= .returned (.int .u64 (es.log.last:Nat))∧w'=w:=by
 obtain⟨v,hv⟩:=h.rest.log;exact XL hv
theorem bD.LJ(h:bD aB w e q wt es)(gen:Nat)(hg:gen<18446744073709551616): Calls af 215 #[.pointer (some ⟨q.lq,0,none⟩),.int .u64 gen] w fun en w1=>en= .returned (.int .i64 0)∧bD aB w1 e q wt {es with log:=es.log.reset gen}∧aI (· =q.lq) w w1∧aB q.lq=1:=by
 obtain⟨v,hv⟩:=h.rest.log;have hq:aB q.lq=1:=hv.bB.1;refine(Rc hv gen hg).mono ?_;rintro en w1 ⟨rfl,h2,h3⟩;exact⟨rfl,h.keeps (h.rest.reset h2 h3) rfl rfl h3 (fun k hk=>by subst hk;rw[hq];exact⟨aM,aM⟩) (fun _ h=>h),h3,hq⟩
theorem Ji: (af.info? 129).map (·.size)=some 4:=bh
def aie(aB:Nat→Nat)(w:World)(e:Nat)(q:rB)(wt:Value)(es:Es)(rq:Rq)(xq:Nat)(R:Int × Hd × bJ)(s7 s8:Value)(wc:World): Prop:=
 ∃ xh lh,s7= .pointer (some ⟨xh,0,none⟩)∧s8= .int .i64 R.1∧aG wc xh 129 (n9 R.2.1)∧aG wc xq 41 (cS rq)∧bD lh wc e q wt {es with dev:=R.2.2}∧aI (fun k=>aB k≠0) w wc∧(∀ k,lh k≠0→aB k≠0∨w.heap.size≤k)∧lh xq=0∧lh xh=0
theorem ZE(h:bD aB w e q wt es)(rq:Rq)(hb:es.bk.Ok)(hn:es.aD.length≤1000)(hr:es.dev.dk.row.length≤900000)(Hh:32≤es.dev.dk.size):
  Calls af 100 #[.pointer (some ⟨e,0,none⟩),.agg (cS rq)] w (eZ aB e q (es.save rq).1 (es.save rq).2 w):=by
 obtain⟨xq,il⟩:=ae w.heap.size;obtain⟨w1,a8⟩:=ae (w.alloc (.cells (cS rq) 41));have bA:=aa (aK a8);have vo:=aa (aJ a8 il);have vp:=aa (h.ak bA.o);have HN:=aa h.news;have tj:=aa (show w.heap.size≤xq∧xq<w1.heap.size from⟨ai,vo.o.lt⟩);have HIM:=aa (show ∀ W,bD aB W e q wt es→_ from fun W hW=>hW.LX hb);obtain⟨body,Jl⟩:=ae (jT es.bk);have El:=aa (show body.length≤60000 from by rw[←Jl,IW];have:=hb.len;have:=hb.au;omega);have kX:=aa (show body≠ [] from fun c=>by have:=IW es.bk;rw[Jl,c] at this;simp at this;omega);obtain⟨R,hR⟩:=ae (es.sl.save es.dev body es.log.last);have X2:=aa (show es.save rq=if R.1=0 then(counted es rq,{es with dev:=R.2.2,log:=es.log.reset R.2.1.gen,aD:=[]})else if R.1=60 then([cf rq 230],es.down R.2.2 es.log)else([cf rq R.1],{es with dev:=R.2.2})from by unfold Es.save;rw[Jl,hR]);have als:=aa (show R.2.1.gen<18446744073709551616 from by rw[←hR];exact Iv _ _ _ _);have wj:=aa hR;have R7:=aa hr;have Sj:=aa Hh;have HNN:=aa hn;rw[Jl] at HIM;clear h hb hn hr Hh Jl hR;have x4:w1.cell? ⟨e,4,none⟩=some (.pointer (some ⟨q.bk,0,none⟩)):=vp.o.own.cell 4;go_enter Tryz.func100,Tryz.ntmps100;go_wp2_with fail;clear a8 il;refine(HIM.o _ vp.o).mono ?_;rintro en w2 ⟨BA,BC,rfl,cL,QP,hb2⟩;obtain⟨gb,rfl,hgb,hblk⟩:=cL kX.o;have wL:=aa (vp.o.ak hb2);have rH:=vo.jC hb2;have cu:=bA.dQ hb2;have Ci:=aa hblk;have Sd:=aa (show w.heap.size≤gb∧body.length≤BC from⟨by have:=bA.o.size;omega,QP⟩);clear cL hgb hblk QP hb2 vp vo bA HIM x4;go_upto_region 2 with fail
 go_cut [7,8] from 17 to 30 (fun s7 s8 wc=>aie aB w e q wt es rq xq R s7 s8 wc)
 case first=>
  have fX:=aa (show ∀ W (f:Nat→Nat) (es':Es),bD f W e q wt es'→(W.cell? ⟨e,3,none⟩=some (.pointer (some ⟨q.sl,0,none⟩))∧W.cell? ⟨e,2,none⟩=some (.pointer (some ⟨q.lq,0,none⟩)))from fun W f es' hE=>⟨hE.own.cell 3,hE.own.cell 2⟩);obtain⟨wd,hwd⟩:=ae w2.drew;have gO:Below w2.heap.size w2 wd:=mU;have mm:=aa (wL.o.ak gO);have kJ:=rH.jC gO;have ko:=aa (show aI (fun k=>aB k≠0) w wd from aI.aW (av cu.o gO));have Ei:=aa (jO.same Ci.o (gO.block _ (jO.lt Ci.o)));clear gO;refine wp_region_held_drew (S:=(fun W=>W.cell? ⟨e,3,none⟩=some (.pointer (some ⟨q.sl,0,none⟩))∧W.cell? ⟨e,2,none⟩=some (.pointer (some ⟨q.lq,0,none⟩)))) bh (by rw[hwd];exact fX.o _ _ _ mm.o) (fun hHeld=>?_);rw[hwd] at hHeld ⊢;clear hwd wL rH;refine ov 0 1 2 3 4 5 6 7 ?_;refine ty 8 ?_;refine qh 9 14 (fun K hK=>?_) fun K hK=>?_
  ·go_simp;refine ag mm.o.xN ?_;go_wp2_with fail;refine bW hK (by exact fX.o _ _ _ mm.o) fun hh1=>?_
   clear hK K;refine qh 10 14 (fun K hK=>?_) fun K hK=>?_
   ·go_simp;have CY:=mm.o.xF body (some ⟨gb,0,none⟩) BC Ei.o.bsx (fun g off e=>by injection e with e;injection e with e1 e2;subst e1;exact⟨jO.lt Ei.o,fun c=>SJ⟩) Sd.o.2 K9 Sj.o;rw[wj.o] at CY;refine CY.mono ?_;rintro en v2 ⟨rfl,hE,ht⟩;clear CY;have eH:=aa hE;have gi:=aa (ht.arr kJ.o (fun c=>SS));have eY:=aa (ko.o.trans (ht.mono fun k _ hk=>Lp));have yO:=aa (show ∀ k,grow aB wd v2 2 k≠0→aB k≠0∨w.heap.size≤k from fun k hk=>by rcases iR k hk with h|h;exact .inl h;exact .inr (aV ko.o.size h));have F5:=aa (show grow aB wd v2 2 xq=0 from(dH kJ.o.lt).trans (HN.o _ tj.o.1).1);have Sc:=aa (show ∀ k,v2.heap.size≤k→grow aB wd v2 2 k=0∧k≠1∧k≠0 from hE.news);clear hE ht;obtain⟨NX,I7⟩:=ae (grow aB wd v2 2);rw[I7] at eH yO F5 Sc;clear I7;go_wp2_with fail;refine bW hK (by exact fX.o _ _ _ eH.o) fun QO=>?_
    clear hK K;refine SH 11 12 13 ?_;refine cJ 14 fun K hK=>?_
    obtain⟨v3,hv3⟩:=ae (v2.alloc (.cells #[.int .u64 0,.int .u64 0,.int .i64 0,.int .u32 0] 129));obtain⟨xh,G9⟩:=ae v2.heap.size;have hb:=aK hv3;have dY:=aa (eH.o.ak hb);have fH:=aa (gi.o.ah hb);have eX:=aa (eY.o.ak hb);have Yr:=aa (aJ hv3 G9);have HXH:=aa (show w.heap.size≤xh from by rw[←G9];exact eY.o.size);have qF:=aa (show xq<xh from ux);have Ca:=aa (show NX xq=0∧NX xh=0 from⟨F5.o,(Sc.o xh ai).1⟩);clear hb;go_simp;go_wp2_with fail;try rw[hv3]
    try rw[G9]
    clear hv3 G9;refine bW hK KX fun Ko=>?_
    clear hK K;exact U7
   obtain⟨v2,hv2⟩:=ae (wd.alloc (.cells #[.int .u64 0,.int .u64 0,.int .i64 0,.int .u32 0] 129));obtain⟨xh,G9⟩:=ae wd.heap.size;have hb:=aK hv2;have eH:=aa (mm.o.ak hb);have gi:=kJ.jC hb;have eY:=aa (ko.o.ak hb);have adr:=aa (jO.same Ei.o (hb.block _ (jO.lt Ei.o)));have ady:=aa (aJ hv2 G9);have HXH:=aa (show w.heap.size≤xh from by rw[←G9];exact ko.o.size);have qF:=aa (show xq<xh from Ax);clear hb;go_simp;go_wp2_with fail;try rw[hv2]
   try rw[G9]
   clear hv2 G9;refine bW hK (by exact fX.o _ _ _ eH.o) fun QO=>?_
   clear hK K;refine cJ 10 fun K hK=>?_
   go_simp;have CY:=eH.o.xF body (some ⟨gb,0,none⟩) BC adr.o.bsx (fun g off e=>by injection e with e;injection e with e1 e2;subst e1;exact⟨jO.lt adr.o,fun c=>SJ⟩) Sd.o.2 K9 Sj.o;rw[wj.o] at CY;refine CY.mono ?_;rintro en v3 ⟨rfl,hE,ht⟩;clear CY;have dY:=aa hE;have fH:=aa (ht.arr gi.o (fun c=>SS));have eX:=aa (eY.o.trans (ht.mono fun k _ hk=>Lp));have Yr:=aa (ht.arr ady.o (fun c=>TX));have yO:=aa (show ∀ k,grow aB v2 v3 2 k≠0→aB k≠0∨w.heap.size≤k from fun k hk=>by rcases iR k hk with h|h;exact .inl h;exact .inr (aV eY.o.size h));have F5:=aa (show grow aB v2 v3 2 xq=0 from(dH gi.o.lt).trans (HN.o _ tj.o.1).1);have Ca:=aa (show grow aB v2 v3 2 xq=0∧grow aB v2 v3 2 xh=0 from⟨F5.o,(dH ady.o.lt).trans (HN.o _ HXH.o).1⟩);have Sc:=aa (show ∀ k,v3.heap.size≤k→grow aB v2 v3 2 k=0∧k≠1∧k≠0 from hE.news);clear hE ht;obtain⟨NX,I7⟩:=ae (grow aB v2 v3 2);rw[I7] at dY yO F5 Sc Ca;clear I7;go_wp2_with fail;refine bW hK KX fun Ko=>?_
   clear hK K;refine SH 11 12 13 ?_;exact U7
  obtain⟨v1,kq⟩:=ae (wd.alloc (.cells #[.int .u64 0,.int .u64 0,.int .i64 0,.int .u32 0] 129));obtain⟨xh,G9⟩:=ae wd.heap.size;have hb:=aK kq;have iV:=aa (mm.o.ak hb);have lj:=kJ.jC hb;have iE:=aa (ko.o.ak hb);have ads:=aa (jO.same Ei.o (hb.block _ (jO.lt Ei.o)));have adz:=aa (aJ kq G9);have HXH:=aa (show w.heap.size≤xh from by rw[←G9];exact ko.o.size);have qF:=aa (show xq<xh from Ax);clear hb;go_simp;go_wp2_with fail;try rw[kq]
  try rw[G9]
  clear kq G9;refine bW hK (by exact fX.o _ _ _ iV.o) fun hh1=>?_
  clear hK K;refine cJ 9 fun K hK=>?_
  go_simp;refine ag iV.o.xN ?_;go_wp2_with fail;refine bW hK (by exact fX.o _ _ _ iV.o) fun QO=>?_
  clear hK K;refine cJ 10 fun K hK=>?_
  go_simp;have CY:=iV.o.xF body (some ⟨gb,0,none⟩) BC ads.o.bsx (fun g off e=>by injection e with e;injection e with e1 e2;subst e1;exact⟨jO.lt ads.o,fun c=>SJ⟩) Sd.o.2 K9 Sj.o;rw[wj.o] at CY;refine CY.mono ?_;rintro en v3 ⟨rfl,hE,ht⟩;clear CY;have dY:=aa hE;have fH:=aa (ht.arr lj.o (fun c=>SS));have eX:=aa (iE.o.trans (ht.mono fun k _ hk=>Lp));have Yr:=aa (ht.arr adz.o (fun c=>TX));have yO:=aa (show ∀ k,grow aB v1 v3 2 k≠0→aB k≠0∨w.heap.size≤k from fun k hk=>by rcases iR k hk with h|h;exact .inl h;exact .inr (aV iE.o.size h));have F5:=aa (show grow aB v1 v3 2 xq=0 from(dH lj.o.lt).trans (HN.o _ tj.o.1).1);have Ca:=aa (show grow aB v1 v3 2 xq=0∧grow aB v1 v3 2 xh=0 from⟨F5.o,(dH adz.o.lt).trans (HN.o _ HXH.o).1⟩);have Sc:=aa (show ∀ k,v3.heap.size≤k→grow aB v1 v3 2 k=0∧k≠1∧k≠0 from hE.news);clear hE ht;obtain⟨NX,I7⟩:=ae (grow aB v1 v3 2);rw[I7] at dY yO F5 Sc Ca;clear I7;go_wp2_with fail;refine bW hK KX fun Ko=>?_
  clear hK K;refine SH 11 12 13 ?_;exact U7
 case rest=>
  obtain⟨xh,lh,rfl,rfl,hA,hQ,hE,hT,hs,hx1,hx2⟩:=hcut;have HA:=aa hA;have HQ:=aa hQ;have HE:=aa hE;have HT:=aa hT;have HS:=aa hs;have HX:=aa (show lh xq=0∧lh xh=0 from⟨hx1,hx2⟩);clear hA hQ hE hT hs hx1 hx2 wL rH Ci Sd cu;by_cases c0:R.1=0
  ·have hc0:(R.1==0)=true:=beq_iff_eq.2 c0;have Gc:=aa (show es.save rq=(counted es rq,{es with dev:=R.2.2,log:=es.log.reset R.2.1.gen,aD:=[]})from by rw[X2.o,if_pos c0]);have YZ: ∀ W,bD lh W e q wt {es with dev:=R.2.2}→_:=fun W hW=>hW.LJ R.2.1.gen als.o
   have HRC:=aa YZ;clear c0 YZ;go_upto_region 5 with fail
   have fX:=aa (show ∀ W (es':Es),bD lh W e q wt es'→aG W xh 129 (n9 R.2.1)→(W.cell? ⟨e,2,none⟩=some (.pointer (some ⟨q.lq,0,none⟩))∧W.cell? ⟨xh,0,none⟩=some (.int .u64 (R.2.1.gen:Nat)))from fun W es' hE hH=>⟨hE.own.cell 2,hH.cell 0⟩);obtain⟨wd,hwd⟩:=ae wc.drew;have gO:Below wc.heap.size wc wd:=mU;have Ej:=aa (HE.o.ak gO);have Zo:=aa (HA.o.ah gO);have Ze:=aa (HQ.o.ah gO);have J4:=aa (HT.o.ak gO);clear gO;refine wp_region_held_drew (S:=(fun W=>W.cell? ⟨e,2,none⟩=some (.pointer (some ⟨q.lq,0,none⟩))∧W.cell? ⟨xh,0,none⟩=some (.int .u64 (R.2.1.gen:Nat)))) bh (by rw[hwd];exact fX.o _ _ Ej.o Zo.o) (fun hHeld=>?_);rw[hwd] at hHeld ⊢;clear hwd HE HA HQ HT;refine P2 0 1 2 3 4 5 ?_;refine cJ 6 fun K hK=>?_
   go_simp;refine(HRC.o _ Ej.o).mono ?_;rintro en w4 ⟨rfl,hE4,jK,hlq⟩;have Rw:=aa hE4;have pB:=aa (jK.arr Zo.o (fun c=>by have c':xh=q.lq:=c;rw[←c',HX.o.2] at hlq;exact absurd hlq aM));have tO:=aa (jK.arr Ze.o (fun c=>by have c':xq=q.lq:=c;rw[←c',HX.o.1] at hlq;exact absurd hlq aM));have nU:=aa (J4.o.new (jK.mono fun k _ hk=>HS.o k (by subst hk;rw[hlq];decide)));clear hE4 jK hlq Ej Zo Ze J4 HRC;go_wp2_with fail;refine bW hK (by exact fX.o _ _ Rw.o pB.o) fun Kn=>?_
   clear hK K;refine bM ?_;clear Kn hHeld fX pB;go_wp2_with (refine aC rfl 41 (.tmp 3) rfl xq 41 _ tO.o rfl _ cD rfl aH ?_);refine(BN Rw.o rq HNN.o).mono ?_;rintro en w5 h5;have h6:eZ aB e q (es.save rq).1 (es.save rq).2 w en w5:=by rw[Gc.o];exact eZ.trans nU.o HS.o h5
   obtain⟨eN,rC,A,cp,rfl,b2,b3,b4,b5⟩:=h6;have HF:=aa (show eZ aB e q (es.save rq).1 (es.save rq).2 w (.returned (.slice A (es.save rq).1.length cp)) w5 from⟨eN,rC,A,cp,rfl,b2,b3,b4,b5⟩);clear h5 b2 b3 b4 b5;go_wp2_with fail;go_ret;exact HF.o
  have hc0:(R.1==0)=false:=beq_eq_false_iff_ne.2 c0;by_cases c1:R.1=60
  ·have hc1:(R.1==60)=true:=beq_iff_eq.2 c1;have Gc:=aa (show es.save rq=([cf rq 230],es.down R.2.2 es.log)from by rw[X2.o,if_neg c0,if_pos c1]);clear c0 c1;go_wp2_with fail;refine(FU HE.o).mono ?_;rintro en w4 ⟨⟨u,rfl⟩,hE4,jK⟩;have Rw:=aa hE4;have tO:=aa (jK.arr HQ.o (fun c=>by have c':xq=e:=c;have:=HE.o.rest.r5;rw[←c',HX.o.1] at this;exact absurd this aM));have nU:=aa (HT.o.new (jK.mono fun k _ hk=>HS.o k (by subst hk;rw[HE.o.rest.r5];decide)));clear hE4 jK;go_wp2_with (refine aC rfl 41 (.tmp 3) rfl xq 41 _ tO.o rfl _ cD rfl aH ?_);refine(lB rq 230 w4).mono ?_;rintro en w5 ⟨A,cp,rfl,sk,dU⟩;have HF:=aa (show eZ aB e q (es.save rq).1 (es.save rq).2 w (.returned (.slice A 1 cp)) w5 from by
    rw[Gc.o];exact eZ.one Rw.o HS.o nU.o sk dU)
   clear sk dU;go_wp2_with fail;go_ret;exact HF.o
  have hc1:(R.1==60)=false:=beq_eq_false_iff_ne.2 c1;have Gc:=aa (show es.save rq=([cf rq R.1],{es with dev:=R.2.2})from by rw[X2.o,if_neg c0,if_neg c1]);clear c0 c1;go_wp2_with (refine aC rfl 41 (.tmp 3) rfl xq 41 _ HQ.o rfl _ cD rfl aH ?_);refine(lB rq R.1 wc).mono ?_;rintro en w5 ⟨A,cp,rfl,sk,dU⟩;have HF:=aa (show eZ aB e q (es.save rq).1 (es.save rq).2 w (.returned (.slice A 1 cp)) w5 from by
   rw[Gc.o];exact eZ.one HE.o HS.o HT.o sk dU)
  clear sk dU;go_wp2_with fail;go_ret;exact HF.o
end
end En
end
section
namespace En
theorem Rq.ry.ok{q:Rq}(h:q.ry): zb q:=by
 have hk:=h.good.ax;have hs:=h.good.aw;have ht:=h.good.bV;have i1:=h.idf;have i2:=h.Iu;have i3:=h.SI;have p5:q.ax=1∨q.ax=2∨q.ax=3∨q.ax=4∨q.ax=5∨q.ax=6∨q.ax=7∨q.ax=8∨q.ax=9∨q.ax=10:=ai;refine⟨by simp only[jt,Bool.and_eq_true,decide_eq_true_eq];omega,hs,ht,?_,?_,?_⟩
 ·rcases p5 with e|e|e|e|e|e|e|e|e|e <;>rw[e] at i1 ⊢ <;>first|exact .inl (i1 rfl)|(right;simp[cC])
 ·rcases p5 with e|e|e|e|e|e|e|e|e|e <;>rw[e] at i2 ⊢ <;>first|exact .inl (i2 rfl)|(right;simp[cC])
 rcases p5 with e|e|e|e|e|e|e|e|e|e <;>rw[e] at i3 ⊢ <;>first|exact .inl (i3 rfl)|(right;simp[cC])
def Es.Hi(e:Es)(b:By): List Rp × Es:=if(bK b).2=0 then e.rep (bK b).1 else([⟨0,0,200,0,0,0,0⟩],e)
theorem aaC: (⟨0,0,200,0,0,0,0⟩:Rp).ry:=by
 show yb _ _
 exact⟨rfl,⟨aM,aM⟩,⟨aM,aM⟩,fun _=>⟨rfl,rfl⟩,⟨aM,aM⟩,⟨aM,aM⟩,.inl rfl,⟨aM,aM⟩,.inl rfl,.inl rfl,.inl rfl⟩
theorem rI.short{e:Es}{q:Rq}{r:List Rp × Es}(h:rI e q r)(hw:e.aD.length≤64): r.1.length≤65:=by
 cases h with
 | told x e'=>simp
 | aD x e'=>simp
 | full x e'=>show(e.aD++ [x]).length≤65;rw[bZ];simp;omega
 | all x e'=>show(e.aD++ [x]).length≤65;rw[bZ];simp;omega
section
variable {aB:Nat→Nat}{w:World}{e:Nat}{q:rB}{wt:Value}{es:Es}
def EgR(aB:Nat→Nat)(e:Nat)(q:rB)(es':Es)(w w':World): Prop:=∃ eN rC,bD eN w' e q rC es'∧(∀ k,eN k≠0→aB k≠0∨w.heap.size≤k)∧aI (fun k=>aB k≠0) w w'
theorem eZ.ds{W:World}{l:List Rp}{es':Es}{en:Ending}{W':World}(h:bD aB w e q wt es)(hb:Below w.heap.size w W)(ho:eZ aB e q l es' W en W'): adB l (EgR aB e q es' w) w e q.mb W en W':=by
 obtain⟨eN,rC,A,c,rfl,a2,a3,a4,a5⟩:=ho;exact⟨⟨A,c,rfl,a2⟩,⟨eN,rC,a3,fun k hk=>by rcases a4 k hk with h|h;exact .inl h;exact .inr (aV hb.size h),(aI.aW (S:=fun k=>aB k≠0) hb).trans a5⟩,⟨_,a5,h.rest.lt⟩,a3.own.cell 6,a3.rest.does⟩
theorem LQ{e:Nat}{k:Int}(h:bt k=true): LR (jF e) k=some (.func (.func 101) #[.pointer (some ⟨e,0,none⟩)] #[]):=by rcases cA h with rfl|rfl|rfl|rfl|rfl <;>rfl
theorem abj(h:bD aB w e q wt es)(hi:es.Inv)(hm: ∀ r∈es.aD,r.ry)(hby:es.rg.bytes es.dev.dk.size≤900000)(b:By)(A:Option Addr)(c:Nat)(hB:Bs w A b)(hA:qV A)(hl:b.length≤70368744177664)(Bo:(bK b).2=0→(bK b).1.ry):
  Calls af 12 #[.pointer (some ⟨e,0,none⟩),.slice A b.length c] w (M8 ((es.Hi b).1.map cN) (EgR aB e q (es.Hi b).2 w) w):=by
 have CW:es.aD.length≤64:=by have:=hi.full;have:=hi.bk.aA;omega
 have hR: ∀ es' W W',EgR aB e q es' w W→Below W.heap.size W W'→EgR aB e q es' w W':=fun es' W W' h hb=>by
  obtain⟨eN,rC,a1,a2,a3⟩:=h;exact⟨eN,rC,a1.ak hb,a2,a3.ak hb⟩
 have hT: ∀ es' W,EgR aB e q es' w W→fp W:=fun es' W h=>by obtain⟨_,_,a1,_,_⟩:=h;exact a1.rest.rep
 have hs: ∀ es' W,EgR aB e q es' w W→w.heap.size≤W.heap.size:=fun es' W h=>by obtain⟨_,_,_,_,a3⟩:=h;exact a3.size
 have h0: ∀ W,Below w.heap.size w W→EgR aB e q es w W:=fun W hb=>⟨aB,wt,h.ak hb,fun k hk=>.inl hk,aI.aW hb⟩
 by_cases hg:(bK b).2=0
 ·have hq:=Bo hg;have hd:es.Hi b=es.rep (bK b).1:=if_pos hg;rw[hd];obtain⟨m1,m2⟩:=hi.Fq hm hq.good;have uI:=(hi.Mv hq.good).short CW;refine Yy h.own b A c hB hA hl (es.rep (bK b).1).1 _ (hR _) (hT _) (hs _) m1 ai ?_;have hlw:es.log.aD.length≤es.rg.bytes es.dev.dk.size:=by have:=es.log.uo hi.log.done;have:=hi.fit;omega
  have hrow:es.dev.dk.row.length=0:=by rw[hi.row];rfl
  have h1:1≤es.dev.dk.size:=by have:=hi.size;omega
  obtain⟨rq,I6⟩:=ae ((bK b).1);rw[I6] at hq m1 m2 uI ⊢;have hk:=hq.good.ax;by_cases c1:rq.ax=5∨rq.ax=6∨rq.ax=10
  ·have L8:es.rep rq=([dW es.bk rq],es):=by unfold Es.rep;rw[if_neg EB,if_pos c1];rfl
   rw[L8];refine .does hg hi.up q.mb 98 rfl h.rest.does (by rw[I6];rcases c1 with c|c|c <;>rw[c] <;>rfl) (fun W hW=>?_);rw[I6];exact(afo (h.ak hW) rq hi.bk hq.good hq.ok c1).mono fun en W' ho=>ho.ds h hW
  by_cases c2:rq.ax=8
  ·have L8:es.rep rq=es.flush rq:=by unfold Es.rep;rw[if_neg EB,if_neg c1,if_pos c2]
   rw[L8];refine .does hg hi.up q.mb 99 rfl h.rest.does (by rw[I6,c2];rfl) (fun W hW=>?_);rw[I6];exact(WG (h.ak hW) rq ai ai h1).mono fun en W' ho=>ho.ds h hW
  by_cases c3:rq.ax=9
  ·have L8:es.rep rq=es.save rq:=by unfold Es.rep;rw[if_neg EB,if_neg c1,if_neg c2,if_pos c3]
   rw[L8];refine .does hg hi.up q.mb 100 rfl h.rest.does (by rw[I6,c3];rfl) (fun W hW=>?_);rw[I6];exact(ZE (h.ak hW) rq hi.bk ai ai hi.size).mono fun en W' ho=>ho.ds h hW
  have hc:bt rq.ax=true:=SR;have L8:es.rep rq=es.change rq:=by unfold Es.rep;rw[if_neg EB,if_neg c1,if_neg c2,if_neg c3]
  rw[L8];refine .does hg hi.up q.mb 101 rfl h.rest.does (by rw[I6];exact LQ hc) (fun W hW=>?_);rw[I6];exact(xW (h.ak hW) rq hi.bk hq.good hq.ok hc ai ai h1).mono fun en W' ho=>ho.ds h hW
 ·have hd:es.Hi b=([⟨0,0,200,0,0,0,0⟩],es):=if_neg hg;rw[hd];exact Yy h.own b A c hB hA hl [⟨0,0,200,0,0,0,0⟩] _ (hR _) (hT _) (hs _) (fun r hr=>by rw[List.mem_singleton] at hr;subst hr;exact aaC) aM (.bad hg rfl h0)
end
end En
end
section
namespace En
section
variable {aB:Nat→Nat}{w:World}{e:Nat}{q:rB}{wt:Value}{es:Es}
theorem lL(h:bD aB w e q wt es)(hu:es.up=true): Calls af 24 #[.pointer (some ⟨e,0,none⟩)] w fun en w'=>en= .returned (.int .i64 es.aD.length)∧w'=w:=by
 obtain⟨A,c,hv⟩:=h.aD.any;have x5:w.cell? ⟨e,5,none⟩=some (.slice A es.aD.length c):=by have:=h.own.cell 5;rw[hv] at this;exact this
 have HR:=aa (kE h.own);rw[hu] at HR;clear h hv;go_enter Tryz.func24,Tryz.ntmps24;go_wp2_with fail;refine ag HR.o ?_;go_wp2_with fail;go_ret;exact⟨rfl,rfl⟩
theorem iW(h:bD aB w e q wt es)(hu:es.up=true): Calls af 25 #[.pointer (some ⟨e,0,none⟩)] w fun en w'=>en= .returned (.int .u64 (es.log.cm:Nat))∧w'=w:=by
 have x2:w.cell? ⟨e,2,none⟩=some (.pointer (some ⟨q.lq,0,none⟩)):=h.own.cell 2;have HR:=aa (kE h.own);have HL:=aa (show Calls af 79 #[.pointer (some ⟨q.lq,0,none⟩)] w fun en w'=>en= .returned (.int .u64 (es.log.cm:Nat))∧w'=w from by obtain⟨v,hv⟩:=h.rest.log;exact J0 hv);rw[hu] at HR;clear h;go_enter Tryz.func25,Tryz.ntmps25;exact abV
theorem nX(h:bD aB w e q wt es)(hu:es.up=true): Calls af 26 #[.pointer (some ⟨e,0,none⟩)] w fun en w'=>en= .returned (.int .u64 (es.log.last:Nat))∧w'=w:=by
 have x2:w.cell? ⟨e,2,none⟩=some (.pointer (some ⟨q.lq,0,none⟩)):=h.own.cell 2;have HR:=aa (kE h.own);have HL:=aa h.xN;rw[hu] at HR;clear h;go_enter Tryz.func26,Tryz.ntmps26;exact abV
def Ka(bk:dI)(w:World)(en:Ending)(w':World): Prop:=∃ b S,en= .returned (.pointer (some ⟨b,0,none⟩))∧fL S w' b bk∧(∀ k,S k→w.heap.size≤k)∧Below w.heap.size w w'
theorem p4(h:bD aB w e q wt es)(hu:es.up=true)(hk:es.bk.Ok): Calls af 14 #[.pointer (some ⟨e,0,none⟩)] w (Ka es.bk w):=by
 have x4:w.cell? ⟨e,4,none⟩=some (.pointer (some ⟨q.bk,0,none⟩)):=h.own.cell 4;have HR:=aa (kE h.own);obtain⟨x,hx⟩:=h.rest.book;have HC:=aa (Gk hx hk.afi);rw[hu] at HR;clear h hx;go_enter Tryz.func14,Tryz.ntmps14;go_wp2_with fail;refine ag HR.o ?_;go_wp2_with fail;refine HC.o.mono ?_;rintro en w1 ⟨b,S,q',rfl,h1,h2,h3⟩;have HF:=aa (show Ka es.bk w (.returned (.pointer (some ⟨b,0,none⟩))) w1 from⟨b,S,rfl,⟨q',h1⟩,h2,h3⟩);clear h1 h2 h3;go_wp2_with fail;go_ret;exact HF.o
end
end En
end
section
namespace En
structure Live(base:Nat)(aB:Nat→Nat)(w:World)(e:Nat)(q:rB)(wt:Value)(es:Es): Prop where
 cw:bD aB w e q wt es
 inv:es.Inv
 may: ∀ r∈es.aD,r.ry
 bytes:es.rg.bytes es.dev.dk.size≤900000
 news: ∀ k,aB k≠0→base≤k
variable{aB:Nat→Nat}{w:World}{e:Nat}{wt:Value}
theorem Live.ak{base:Nat}{w':World} {q:rB}{es:Es}(h:Live base aB w e q wt es)(hb:Below w.heap.size w w'): Live base aB w' e q wt es:=⟨h.cw.ak hb,h.inv,h.may,h.bytes,h.news⟩
def Ee(base:Nat)(aB:Nat→Nat)(e:Nat)(q:rB)(l:List Rp)(es':Es)(w:World)(en:Ending)(w':World): Prop:=
 ∃ v G C z eN rC,en= .returned v∧kG z w' v (l.map cN) G C∧w.heap.size≤z∧Live base eN w' e q rC es'∧(∀ k,eN k≠0→k<z)∧(∀ k,eN k≠0→aB k≠0∨w.heap.size≤k)∧aI (fun k=>aB k≠0) w w'
theorem Es.FV(e:Es){rq:Rq}(h:rq.ry): e.Hi (kZ rq)=e.rep rq:=by unfold Es.Hi;rw[xG h];rfl
theorem Live.next{es:Es}(hi:es.Inv)(hm: ∀ r∈es.aD,r.ry)(b:By)(Bo:(bK b).2=0→(bK b).1.ry): (es.Hi b).2.Inv∧(∀ r∈(es.Hi b).2.aD,r.ry)∧es.Kin (es.Hi b).2:=by
 unfold Es.Hi;by_cases hg:(bK b).2=0
 ·rw[if_pos hg];have hq:=(Bo hg).good;exact⟨(hi.Mv hq).inv,(hi.Fq hm hq).2,hi.kin hq⟩
 rw[if_neg hg];exact⟨hi,hm,Es.Kin.refl _⟩
theorem Live.Jy{base:Nat}{q:rB}{es:Es}(h:Live base aB w e q wt es)(hb:base≤w.heap.size)(b:By)(A:Option Addr)(c:Nat)(hB:Bs w A b)(hA:qV A)(hl:b.length≤70368744177664)(Bo:(bK b).2=0→(bK b).1.ry):
  Calls af 12 #[.pointer (some ⟨e,0,none⟩),.slice A b.length c] w (Ee base aB e q (es.Hi b).1 (es.Hi b).2 w):=by
 refine(abj h.cw h.inv h.may h.bytes b A c hB hA hl Bo).mono ?_;rintro en w' ⟨v,G,C,wc,rfl,hO,hz,⟨eN,rC,a1,a2,a3⟩,hbw⟩;obtain⟨n1,n2,n3⟩:=Live.next h.inv h.may b Bo;refine⟨v,G,C,wc.heap.size,eN,rC,rfl,hO,hz,⟨a1.ak hbw,n1,n2,by rw[n3.size,n3.rg];exact h.bytes,fun k hk=>?_⟩,a1.rest.lt,a2,a3.ak hbw⟩;rcases a2 k hk with h1|h1
 ·exact h.news k h1
 ·omega
theorem Live.ask{base:Nat}{q:rB}{es:Es}(h:Live base aB w e q wt es)(hb:base≤w.heap.size){rq:Rq}(hq:rq.ry)(A:Option Addr)(c:Nat)(hB:Bs w A (kZ rq))(hA:qV A):
  Calls af 12 #[.pointer (some ⟨e,0,none⟩),.slice A (kZ rq).length c] w (Ee base aB e q (es.rep rq).1 (es.rep rq).2 w):=by
 have:=h.Jy hb (kZ rq) A c hB hA (by have:=(sT (q:=rq)).2;omega) (fun _=>by rw[xG hq];exact hq)
 rwa [es.FV hq] at this
theorem Ee.base{base:Nat}{w0 w':World} {q:rB}{es:Es}(h:Live base aB w e q wt es)(hb:Below w0.heap.size w0 w)(h0:w0.heap.size≤base)(ht:aI (fun k=>aB k≠0) w w'): Below w0.heap.size w0 w':=
 aI.fresh ht hb fun k hk=>aV h0 (h.news k hk)
end En
end
section
namespace En
def kx(q:Rq): Nat→By
 | 0=>le q.id.toNat 4
 | 1=>le q.aw.toNat 2
 | _=>le q.bV.toNat 8
def gu(q:Rq)(l:List Nat): By:=(l.map (kx q)).flatten
theorem Fj(q:Rq)(l:List Nat)(f:Nat): gu q (l++ [f])=gu q l++kx q f:=by simp[gu]
theorem Qd{q:Rq}(hk:1≤q.ax∧q.ax≤10): kZ q=le q.ax.toNat 1++le q.tag.toNat 4++gu q (cC q.ax):=by
 obtain⟨k,tg,id,aw,bV⟩:=q;have p5:k=1∨k=2∨k=3∨k=4∨k=5∨k=6∨k=7∨k=8∨k=9∨k=10:=by simp only at hk;omega
 rcases p5 with rfl|rfl|rfl|rfl|rfl|rfl|rfl|rfl|rfl|rfl <;>simp[kZ,dx,gu,cC,kx]
theorem LF(q:Rq)(f:Nat): (kx q f).length≤8:=by unfold kx;split <;>simp[bG]
theorem yz(q:Rq): ∀ l:List Nat,(gu q l).length≤8*l.length
 | []=>by simp[gu]
 | f::l=>by
  have h1:=yz q l;have h2:=LF q f;unfold gu at h1 ⊢;rw[List.map_cons,List.flatten_cons,bZ,List.length_cons];omega
theorem WE(p:Nat)(q:Rq)(hq:q.ry)(bs:By)(w:World)(h:eF w p bs)(hl:bs.length≤1000): Calls af 134 #[.pointer (some ⟨p,0,none⟩),.agg (cS q)] w (ib p (bs++kx q 0) w):=by
 obtain⟨i,hi⟩: ∃ i:Nat,q.id=i:=⟨q.id.toNat,by have:=hq.good.id;omega⟩;have hb:i<4294967296:=by have:=hq.good.id;have:=hq.WY;omega
 have hp:kx q 0=le i 4:=KR;rw[hp];obtain⟨xq,il⟩:=ae w.heap.size;obtain⟨w1,a8⟩:=ae (w.alloc (.cells (cS q) 41));have hb1:=aK a8;have c0:w1.cell? ⟨xq,2,none⟩=some (.int .u32 (i:Int)):=by
  have hA:=aJ a8 il;rw[←hi];exact hA.cell 2
 have HW:=aa (df p i bs w1 (h.ah hb1) ai hb);have HT:=aa hb1;clear h hb1 hi hp hb hq;go_enter Tryz.func134,Tryz.ntmps134;go_wp2_with fail;refine HW.o.mono ?_;rintro e w2 ⟨⟨u,rfl⟩,h2,h3⟩;have HF:=aa (fun u=>(show ib p (bs++le i 4) w (.returned u) w2 from⟨⟨u,rfl⟩,h2,(aI.aW (S:=(· =p)) HT.o).trans h3⟩));clear h2 h3;go_wp2_with fail;exact bodyPost_end (results_none Tryz.results134 _ _ _) rfl (HF.o _)
theorem WD(p:Nat)(q:Rq)(hq:q.ry)(bs:By)(w:World)(h:eF w p bs)(hl:bs.length≤1000): Calls af 138 #[.pointer (some ⟨p,0,none⟩),.agg (cS q)] w (ib p (bs++kx q 1) w):=by
 obtain⟨i,hi⟩: ∃ i:Nat,q.aw=i:=⟨q.aw.toNat,KQ⟩;have hb:i<65536:=by have:=hq.good.aw;have:=hq.WY;omega
 have hp:kx q 1=le i 2:=KR;rw[hp];obtain⟨xq,il⟩:=ae w.heap.size;obtain⟨w1,a8⟩:=ae (w.alloc (.cells (cS q) 41));have hb1:=aK a8;have c0:w1.cell? ⟨xq,3,none⟩=some (.int .i64 (i:Int)):=by
  have hA:=aJ a8 il;rw[←hi];exact hA.cell 3
 have hcv:IntKind.u16.wrap (i:Int)=(i:Int):=by rw[IntKind.wrap_u16];omega
 have HW:=aa (eO p i bs w1 (h.ah hb1) ai hb);have HT:=aa hb1;clear h hb1 hi hp hb hq;go_enter Tryz.func138,Tryz.ntmps138;go_wp2_with fail;refine HW.o.mono ?_;rintro e w2 ⟨⟨u,rfl⟩,h2,h3⟩;have HF:=aa (fun u=>(show ib p (bs++le i 2) w (.returned u) w2 from⟨⟨u,rfl⟩,h2,(aI.aW (S:=(· =p)) HT.o).trans h3⟩));clear h2 h3;go_wp2_with fail;exact bodyPost_end (results_none Tryz.results138 _ _ _) rfl (HF.o _)
theorem WC(p:Nat)(q:Rq)(hq:q.ry)(bs:By)(w:World)(h:eF w p bs)(hl:bs.length≤1000): Calls af 143 #[.pointer (some ⟨p,0,none⟩),.agg (cS q)] w (ib p (bs++kx q 2) w):=by
 obtain⟨i,hi⟩: ∃ i:Nat,q.bV=i:=⟨q.bV.toNat,by have:=hq.good.bV;omega⟩;have hb:i<18446744073709551616:=by have:=hq.good.bV;have:=hq.WY;omega
 have hp:kx q 2=le i 8:=KR;rw[hp];obtain⟨xq,il⟩:=ae w.heap.size;obtain⟨w1,a8⟩:=ae (w.alloc (.cells (cS q) 41));have hb1:=aK a8;have c0:w1.cell? ⟨xq,4,none⟩=some (.int .i64 (i:Int)):=by
  have hA:=aJ a8 il;rw[←hi];exact hA.cell 4
 have hcv:IntKind.u64.wrap (i:Int)=(i:Int):=by rw[IntKind.wrap_u64];omega
 have HW:=aa (ed p i bs w1 (h.ah hb1) ai hb);have HT:=aa hb1;clear h hb1 hi hp hb hq;go_enter Tryz.func143,Tryz.ntmps143;go_wp2_with fail;refine HW.o.mono ?_;rintro e w2 ⟨⟨u,rfl⟩,h2,h3⟩;have HF:=aa (fun u=>(show ib p (bs++le i 8) w (.returned u) w2 from⟨⟨u,rfl⟩,h2,(aI.aW (S:=(· =p)) HT.o).trans h3⟩));clear h2 h3;go_wp2_with fail;exact bodyPost_end (results_none Tryz.results143 _ _ _) rfl (HF.o _)
theorem FD{W:World}{g:Nat}{l:List Nat}(h:aG W g 3 (ke l)){j:Nat}(hj:j<l.length){f:Nat}(hf:l[j]=f): W.cell? ⟨g,j,none⟩=some (.int .i64 (f:Int)):=by rw[h.cell,←hf];simp[ke,hj]
def Xp(bs:By)(w:World)(e:Ending)(w':World): Prop:=∃ g c,e= .returned (.tuple #[.slice (some ⟨g,0,none⟩) bs.length c,.int .i64 0])∧jO w' 5 g bs∧bs.length≤c∧w.heap.size≤g∧Below w.heap.size w w'
theorem JP(q:Rq)(hq:q.ry)(w:World): Calls af 11 #[.agg (cS q)] w (Xp (kZ q) w):=by
 have DM:=hq.good.ax;have L5:=hq.good.tag;obtain⟨k,hk⟩: ∃ k:Nat,q.ax=k:=⟨q.ax.toNat,ai⟩;obtain⟨tg,ht⟩: ∃ i:Nat,q.tag=i:=⟨q.tag.toNat,ai⟩;have akr:k≤10:=ai;have LY:tg<4294967296:=ai;have HP:=aa (show kZ q=le k 1++le tg 4++gu q (cC k)from by rw[Qd DM,hk,ht];rfl);have hcv:IntKind.u8.wrap (k:Int)=(k:Int):=by rw[IntKind.wrap_u8];omega
 have HM:=aa hq;have jz:=aa hq.ok;have Cc:=aa (fun W=>Fi (k:Int) W);have ahm:=Bx (k:Int);obtain⟨xq,il⟩:=ae w.heap.size;obtain⟨w1,a8⟩:=ae (w.alloc (.cells (cS q) 41));have vo:=aa (aJ a8 il);have bA:=aa (aK a8);have tj:=aa (show xq=w.heap.size from il.symm);clear hq DM L5;go_enter Tryz.func11,Tryz.ntmps11;go_wp2_with (refine aC rfl 41 (.tmp 1) rfl xq 41 _ vo.o rfl _ cD rfl aH ?_);clear a8 il;refine(jU q w1 jz.o).mono ?_;rintro e w2 ⟨rfl,hb⟩;have rH:=vo.jC hb;have cu:=bA.dQ hb;clear hb vo bA;obtain⟨xw,hxw⟩:=ae w2.heap.size;obtain⟨w3,hw3⟩:=ae (w2.alloc (.cells #[.slice none 0 0] 150));have hb:=aK hw3;have jy:=rH.jC hb;have dV:=cu.dQ hb;have MO:=aa (show eF w3 xw [] by rw[←hw3,←hxw];exact eF.fresh w2);have kX:=aa (show xq<xw∧w.heap.size≤xw from⟨by have:=rH.o.lt;omega,by have:=cu.o.size;omega⟩);have c0:w3.cell? ⟨xq,0,none⟩=some (.int .i64 (k:Int)):=by rw[←hk];exact jy.o.cell 0
 clear hb rH cu;go_wp2_with fail;clear hw3 hxw;refine(fS xw k [] w3 MO.o dM ai).mono ?_;rintro e w4 ⟨⟨u,rfl⟩,hw,Cv⟩;have Za:=aa hw;have tO:=aa (Cv.arr jy.o (by have:=kX.o;omega));have gj:=aa (aI.fresh Cv dV.o (fun j hj=>by have DO:j=xw:=hj;have:=kX.o;omega));have c1:w4.cell? ⟨xq,1,none⟩=some (.int .u32 (tg:Int)):=by rw[←ht];exact tO.o.cell 1
 clear hw Cv c0 MO jy dV;go_wp2_with fail;refine(df xw tg ([]++le k 1) w4 Za.o (by simp[bG]) LY).mono ?_;rintro e w5 ⟨⟨u,rfl⟩,hw,QI⟩;have Rj:=aa hw;have X7:=aa (QI.arr tO.o (by have:=kX.o;omega));have eu:=aa (aI.fresh QI gj.o (fun j hj=>by have DO:j=xw:=hj;have:=kX.o;omega));have c0:w5.cell? ⟨xq,0,none⟩=some (.int .i64 (k:Int)):=by rw[←hk];exact X7.o.cell 0
 clear hw QI c1 Za tO gj;go_wp2_with fail;refine(Cc.o w5).mono ?_;rintro e w6 ⟨B,rfl,hG,hb⟩;have J9:=aa hG;have KA:=aa (X7.o.ah hb);have iL:=eu.dQ hb;have HW6:=aa (Rj.o.ah hb);have HLW:=aa (show xw<w5.heap.size from by obtain⟨A,c,h1,_⟩:=Rj.o.ex;exact h1.lt);clear hG hb c0 X7 eu Rj;go_wp2_with fail;refine(xT w6).mono ?_;rintro e w7 ⟨rfl,hb⟩;have HG7:=aa (show cC k≠ []→∃ g,B=some ⟨g,0,none⟩∧w5.heap.size≤g∧aG w7 g 3 (ke (cC k))from fun h=>by obtain⟨g,h1,h2,h3⟩:=J9.o h;exact⟨g,h1,h2,h3.ah hb⟩);have yP:=aa (KA.o.ah hb);have nc:=iL.dQ hb;have O':=aa (HW6.o.ah hb);clear hb J9 KA iL HW6;obtain⟨xf,ZZ⟩:=ae w7.heap.size;obtain⟨w8,hw8⟩:=ae (w7.alloc (.cells #[.nilFunc,.nilFunc,.nilFunc,.nilFunc,.nilFunc,.nilFunc,.nilFunc,.nilFunc,.nilFunc] 161));have wM:=aa (aJ hw8 ZZ);have ou:=aa (aK hw8);have HXF:=aa ZZ;go_upto_region 9 with(refine aj rfl 161 _ _ rfl xf 161 _ gv wM.o rfl rfl rfl oI (by simp[gv,fY]) ?_;intro w9 dG dD gJ;have CF:=aa (show Below w7.heap.size w7 w9 from br ou.o dD (Nat.le_of_eq HXF.o));have HF9:=aa dG;clear dG dD gJ)
 have p8:=aa (show cC k≠ []→∃ g,B=some ⟨g,0,none⟩∧w5.heap.size≤g∧aG w9 g 3 (ke (cC k))from fun h=>by obtain⟨g,h1,h2,h3⟩:=HG7.o h;exact⟨g,h1,h2,h3.ah CF.o⟩);have HQ9:=aa (yP.o.ah CF.o);have kS:=aa (av nc.o CF.o);have HW9:=aa (O'.o.ah CF.o);have HNF:=aa (show xw<xf from by have:=HLW.o;have:=HXF.o;obtain⟨A,c,h1,_⟩:=O'.o.ex;have:=h1.lt;omega);clear hw8 ZZ wM ou HG7 yP nc O' CF HXF;go_wp2_with fail;go_loopw [32] (fun i wr=>∃ j:Nat,j≤(cC k).length∧i= .int .i64 j∧eF wr xw (le k 1++le tg 4++gu q ((cC k).take j))∧aG wr xf 161 gv∧(cC k≠ []→∃ g,B=some ⟨g,0,none⟩∧w5.heap.size≤g∧aG wr g 3 (ke (cC k)))∧aG wr xq 41 (cS q)∧Below w.heap.size w wr) (fun i _=>((cC k).length - intOf i).toNat)
 case atStart=>exact⟨0,Nat.zero_le _,rfl,by have:=HW9.o;simpa[gu] using this,HF9.o,p8.o,HQ9.o,kS.o⟩
 case round=>
  obtain⟨j,hj,rfl,hi,hf,hg,hr,hb⟩:=hrel;by_cases h2:j<(cC k).length
  ·obtain⟨g,hB',eM,Kq⟩:=hg (fun h0=>by rw[h0] at h2;simp at h2);subst hB';have Y9:(j:Int)<(cC k).length:=ai;obtain⟨f,Y4⟩:=ae ((cC k)[j]);have c1:=FD Kq h2 Y4;have hfm:=OM k f (by rw[←Y4];exact List.getElem_mem h2);have HST:=aa (show gu q ((cC k).take (j+1))=gu q ((cC k).take j)++kx q f from by rw[List.take_add_one,bY h2,Y4];exact Fj _ _ _);have HL:=aa (show(le k 1++le tg 4++gu q ((cC k).take j)).length≤1000 from by
    have:=yz q ((cC k).take j);simp only[bZ,bG,List.length_take] at this ⊢;omega)
   have Sa:=aa hi;have MZ:=aa hf;have HGG:=aa Kq;have uj:=aa hr;have HBr:=aa hb;have Yc:=aa eM;have HJ:=aa h2;clear hi hf hg Kq hr hb eM Y4;have F7:=aa (show ∀ W',eF W' xw (le k 1++le tg 4++gu q ((cC k).take j)++kx q f)→∀ Wd,Below wr.heap.size wr Wd→aI (· =xw) Wd W'→eF W' xw (le k 1++le tg 4++gu q ((cC k).take (j+1)))∧aG W' xf 161 gv∧(cC k≠ []→∃ g',some (⟨g,0,none⟩:Addr)=some ⟨g',0,none⟩∧w5.heap.size≤g'∧aG W' g' 3 (ke (cC k)))∧aG W' xq 41 (cS q)∧Below w.heap.size w W' from fun W' h1 Wd gO h2=>by
    have hn:=kX.o;have hnf:=HNF.o;have hz:=Yc.o;have hlw:=HLW.o;exact⟨by rw[HST.o,←List.append_assoc];exact h1,h2.arr (MZ.o.ah gO) ai,fun _=>⟨g,rfl,hz,h2.arr (HGG.o.ah gO) ai⟩,h2.arr (uj.o.ah gO) ai,aI.fresh h2 (av HBr.o gO) (fun j hj=>by have DO:j=xw:=hj;omega)⟩)
   go_upto_region 12 with fail
   clear c1;obtain⟨wd,hwd⟩:=ae wr.drew;have gO:Below wr.heap.size wr wd:=mU;have Sh:=aa gO;have fX:=aa (show ∀ W,aG W xf 161 gv→aG W xq 41 (cS q)→(W.cell? ⟨xf,0,none⟩=some (.func (.func 134) #[] #[])∧W.cell? ⟨xf,3,none⟩=some (.func (.func 138) #[] #[])∧W.cell? ⟨xf,6,none⟩=some (.func (.func 143) #[] #[])∧W.rangeAt xq 0 (cS q).toList)from fun W h1 h2=>⟨h1.cell 0,h1.cell 3,h1.cell 6,fun i u hi=>by rw[Nat.zero_add,h2.cell i];simpa using hi⟩);have HWd:=aa (Sa.o.ah gO);have HFd:=aa (MZ.o.ah gO);have Ze:=aa (uj.o.ah gO);clear gO;rcases hfm with rfl|rfl|rfl
   ·refine wp_region_held_drew (S:=(fun W=>W.cell? ⟨xf,0,none⟩=some (.func (.func 134) #[] #[])∧W.cell? ⟨xf,3,none⟩=some (.func (.func 138) #[] #[])∧W.cell? ⟨xf,6,none⟩=some (.func (.func 143) #[] #[])∧W.rangeAt xq 0 (cS q).toList)) bh Le (fun hHeld=>?_);rw[hwd] at hHeld ⊢;clear hwd;refine lA 0 1 2 3 ?_;refine fc 4 (some 40) hHeld 41 (.tmp 1) xq 0 (cS q).toList _ (fun w' h=>h.2.2.2) cD rfl aH ?_;try simp only[aZ]
    refine cJ 5 fun K hK=>?_
    go_simp;refine(WE xw q HM.o _ wd HWd.o HL.o).mono ?_;exact U3
   ·refine wp_region_held_drew (S:=(fun W=>W.cell? ⟨xf,0,none⟩=some (.func (.func 134) #[] #[])∧W.cell? ⟨xf,3,none⟩=some (.func (.func 138) #[] #[])∧W.cell? ⟨xf,6,none⟩=some (.func (.func 143) #[] #[])∧W.rangeAt xq 0 (cS q).toList)) bh Le (fun hHeld=>?_);rw[hwd] at hHeld ⊢;clear hwd;refine lA 0 1 2 3 ?_;refine fc 4 (some 40) hHeld 41 (.tmp 1) xq 0 (cS q).toList _ (fun w' h=>h.2.2.2) cD rfl aH ?_;try simp only[aZ]
    refine cJ 5 fun K hK=>?_
    go_simp;refine(WD xw q HM.o _ wd HWd.o HL.o).mono ?_;exact U3
   refine wp_region_held_drew (S:=(fun W=>W.cell? ⟨xf,0,none⟩=some (.func (.func 134) #[] #[])∧W.cell? ⟨xf,3,none⟩=some (.func (.func 138) #[] #[])∧W.cell? ⟨xf,6,none⟩=some (.func (.func 143) #[] #[])∧W.rangeAt xq 0 (cS q).toList)) bh Le (fun hHeld=>?_);rw[hwd] at hHeld ⊢;clear hwd;refine lA 0 1 2 3 ?_;refine fc 4 (some 40) hHeld 41 (.tmp 1) xq 0 (cS q).toList _ (fun w' h=>h.2.2.2) cD rfl aH ?_;try simp only[aZ]
   refine cJ 5 fun K hK=>?_
   go_simp;refine(WC xw q HM.o _ wd HWd.o HL.o).mono ?_;exact U3
  obtain rfl:j=(cC k).length:=ai;rw[List.take_length,←HP.o] at hi;have Sa:=aa hi;have HBr:=aa hb;have hlB:=@sT q;obtain⟨bs,tM⟩:=ae (kZ q);rw[tM] at hlB hi Sa;have KE:=aa tM;clear hi hf hg hr hb tM;go_wp2_with fail;refine(lV xw bs wr Sa.o ai).mono ?_;rintro e wz ⟨A,c,rfl,h1,h3,h4,h5,h6⟩;obtain⟨g,rfl,kB,hg2⟩:=h1 (fun c=>by rw[c] at hlB;simp at hlB);have HF:=aa (show Xp (kZ q) w (.returned (.tuple #[.slice (some ⟨g,0,none⟩) bs.length c,.int .i64 0])) wz from by
   rw[KE.o];exact⟨g,c,rfl,hg2,h3,aV HBr.o.size kB,av HBr.o h6⟩)
  clear h1 h3 h4 h5 h6 kB hg2;go_wp2_with fail;go_ret2;exact HF.o
end En
end
section
namespace En
def adG(base:Nat)(aB:Nat→Nat)(e:Nat)(q:rB)(l:List Rp)(es':Es)(w:World)(en:Ending)(w':World): Prop:=
 ∃ v eN rC,en= .returned (.tuple #[v,.bool true])∧aP (fun k=>w.heap.size≤k∧eN k=0) w' 108 7 v l.length (yU l)∧Live base eN w' e q rC es'∧(∀ k,eN k≠0→aB k≠0∨w.heap.size≤k)∧aI (fun k=>aB k≠0) w w'
theorem YC{base x e:Nat}{aB:Nat→Nat}{w:World}{t:TypeId}{cs:Array Value}{q:rB}{wt:Value}{es:Es}(h:Live base aB w e q wt es)(hb:base≤w.heap.size)(hx:aG w x t cs)(hx0:aB x=0)(hc:cs[1]? =some (.pointer (some ⟨e,0,none⟩))){rq:Rq}(hq:rq.ry):
  Calls af 35 #[.pointer (some ⟨x,0,none⟩),.agg (cS rq)] w (adG base aB e q (es.rep rq).1 (es.rep rq).2 w):=by
 obtain⟨j0,hj,hz0,hz1,hz2⟩:=info_parts uB;obtain⟨xq,il⟩:=ae w.heap.size;obtain⟨w1,a8⟩:=ae (w.alloc (.cells (cS rq) 41));have dF:=aa (aJ a8 il);have hb1:=aK a8;have Yb:=aa (h.ak hb1);have Dd:=aa (hx.ah hb1);have bA:=aa hb1;have HQ:=aa hq;have HC:=aa hc;have HX0:=aa hx0;have HB:=aa hb;obtain⟨hm1,Jb⟩:=h.inv.Fq h.may hq.good;have HM:=aa hm1;have HS:=aa (show(es.rep rq).1.length≤65 from(h.inv.Mv hq.good).short (by have:=h.inv.full;have:=h.inv.bk.aA;omega));clear h hb hx hx0 hc hq hb1 hm1 Jb;go_enter Tryz.func35,Tryz.ntmps35;go_wp2_with (refine aC rfl 41 (.tmp 3) rfl xq 41 _ dF.o rfl _ cD rfl aH ?_);refine(JP rq HQ.o w1).mono ?_;rintro en w2 ⟨g,cb,rfl,hblk,sr,hg,hb2⟩;have R9:=aa (Yb.o.ak hb2);have Dc:=aa (Dd.o.ah hb2);have cu:=bA.dQ hb2;have fC:=aa hblk;have x1:w2.cell? ⟨x,1,none⟩=some (.pointer (some ⟨e,0,none⟩)):=(Dc.o.cell 1).trans HC.o;clear hblk sr hg hb2 dF Yb Dd bA a8 il;go_wp2_with fail;refine(R9.o.ask (aV HB.o cu.o.size) HQ.o (some ⟨g,0,none⟩) cb (jO.bs fC.o) (cM _ _)).mono ?_;rintro en w3 ⟨v',G,D,z,eN,rC,rfl,hO,hz,hLv,hrz,vh,ht⟩;obtain⟨A',c',rfl⟩:=hO.row.any;have hml:((es.rep rq).1.map cN).length=(es.rep rq).1.length:=List.length_map ..;obtain⟨l,hl⟩:=ae ((es.rep rq).1);have HLE:=aa hl;rw[hl] at hml hO HM HS;have HO:=aa hO;have HZ:=aa hz;have HLV:=aa hLv;have HRZ:=aa hrz;have HT:=aa (show aI (fun k=>aB k≠0) w w3 from(aI.aW cu.o).trans ht);have uj:=aa (show ∀ k,eN k≠0→aB k≠0∨w.heap.size≤k from fun k hk=>(vh k hk).imp_right fun h=>aV cu.o.size h);have HML:=aa hml;rw[hl,hml];clear hO hz hLv hrz vh ht x1 Dc R9 fC hml hl;go_wp2_with fail;go_loopw [8,10,11] (fun u8 v10 i wr=>∃ j:Nat,j≤l.length∧i= .int .i64 j∧v10= .bool true∧aP (fun k=>w3.heap.size≤k) wr 108 7 u8 j (yU l)∧Below w3.heap.size w3 wr) (fun _ _ i _=>(l.length - intOf i).toNat)
 case atStart=>exact⟨0,Nat.zero_le _,rfl,rfl,aP.nil _ _ _ _ _,ar _ _⟩
 case round=>
  obtain⟨j,RU,rfl,rfl,hR,hbr⟩:=hrel;by_cases h2:j<l.length
  ·have Y9:(j:Int)<(l.length:Int):=by omega
   have hs:=HS.o;have amk:j<65:=ai;obtain⟨r,hr⟩:=ae (l[j]);have hlm:j<(l.map cN).length:=by rw[List.length_map];exact h2
   have hrm:r.ry:=HM.o r (by rw[←hr];exact List.getElem_mem h2);have hgd:(l.map cN).getD j []=cN r:=by rw[bR,bY hlm];simp[hr]
   obtain⟨g7,amM,hv,_,_,_,_⟩:=HO.o.row.form ai;injection hv with e1 _ e2
   subst e1 e2;have hk:=HO.o.ah hbr;have hcell:=hk.row.range (fun _=>rfl) hlm 0 _ rfl;have V8:=(hk.each j hlm).1;rw[hgd] at hcell V8;have c1:wr.cell? ⟨g7,j,none⟩=some (.slice (some ⟨G j,0,none⟩) (cN r).length (D j)):=by simpa using hcell
   have HE:=aa V8.blk;have HRP:=aa (HLV.o.cw.rest.rep.ah hbr);have MQ:=aa hrm;have HRC:=aa (show yU l j= [.int .u32 r.tag,.int .i64 r.ax,.int .i64 r.err,.int .u32 r.id,.int .i64 r.aw,.int .i64 r.aR,.int .i64 r.count] by unfold yU;rw[bR,bY h2];show(lf l[j]).toList=_;rw[hr];rfl);have HR:=aa hR;have Yn:=aa hbr;have HJ:=aa RU;clear hk hcell V8 hrm hgd hlm hr hR hbr hs RU;go_wp2_with fail;refine(Xu r (some ⟨G j,0,none⟩) (D j) wr (jO.bs HE.o) (cM _ _) HRP.o MQ.o).mono ?_;rintro en w5 ⟨rfl,dU⟩;have eu:=aa dU;obtain⟨xb,yX⟩:=ae w5.heap.size;obtain⟨w6,og⟩:=ae (w5.alloc (.cells #[.int .u32 0,.int .i64 0,.int .i64 0,.int .u32 0,.int .i64 0,.int .i64 0,.int .i64 0] 108));have tx:=aa (show aG w6 xb 108 (lf Rp.none)by rw[←og,←yX];exact aG.fresh w5 _ _);have iL:=aa (ek eu.o og);have qF:=aa (show wr.heap.size≤xb by rw[←yX];exact dU.size);clear dU c1;go_upto_region 9 with(refine aj rfl 108 (.tmp 12) _ rfl xb 108 _ (lf r) tx.o rfl rfl rfl aS vu ?_;intro w7 D4 Je hs7;have nc:=aa (show Below wr.heap.size wr w7 from br iL.o Je qF.o);have vq:=aa (show aG w7 xb 108 #[.int .u32 r.tag,.int .i64 r.ax,.int .i64 r.err,.int .u32 r.id,.int .i64 r.aw,.int .i64 r.aR,.int .i64 r.count] from D4);clear D4 Je hs7)
   clear og yX;go_upto_region 10 with fail
   have ou:=aa (ay nc.o (.cells #[.int .u32 r.tag,.int .i64 r.ax,.int .i64 r.err,.int .u32 r.id,.int .i64 r.aw,.int .i64 r.aR,.int .i64 r.count] 108));have Kz:=aa (HR.o.ah ou.o);have Zj:=aa (iQ w7 [.int .u32 r.tag,.int .i64 r.ax,.int .i64 r.err,.int .u32 r.id,.int .i64 r.aw,.int .i64 r.aR,.int .i64 r.count] 108);go_wp2_with (first|(refine aC rfl 108 (.tmp 12) rfl xb 108 _ vq.o rfl _ Tryz.underlying108 rfl aS ?_)|(at_builtin;refine gM _ rfl (.tmp 46) (.tmp 48) 65 rfl 108 j0 (.agg #[.int .u32 0,.int .i64 0,.int .i64 0,.int .u32 0,.int .i64 0,.int .i64 0,.int .i64 0]) 7 56 Tryz.underlying65 hj hz0 hz1 hz2 rfl aM _ j _ rfl Kz.o ⟨w7.heap.size,0,none⟩ 1 [.int .u32 r.tag,.int .i64 r.ax,.int .i64 r.err,.int .u32 r.id,.int .i64 r.aw,.int .i64 r.aR,.int .i64 r.count] rfl rfl Zj.o SU jR ai ?_;intro ga ca w9 DI dD;have R7:=aa DI;have p8:=aa dD;clear DI dD));go_roundw
   case rel=>
    have hz8:=nc.o.size;have uH:=Yn.o.size;refine⟨j+1,h2,by go_num,rfl,?_,(av Yn.o ou.o).grown p8.o (av Yn.o ou.o).size (fun k e=>HR.o.block k e)⟩;have he:cK (yU l) j [.int .u32 r.tag,.int .i64 r.ax,.int .i64 r.err,.int .u32 r.id,.int .i64 r.aw,.int .i64 r.aR,.int .i64 r.count]=yU l:=by
     funext i;unfold cK;by_cases h:i=j
     ·rw[if_pos h,h,HRC.o]
     rw[if_neg h]
    have h9:=R7.o;rw[he] at h9;exact h9.mono fun k hk _=>by
     rcases hk with hk|hk
     ·exact hk
     have h7:(w7.alloc (.cells #[.int .u32 r.tag,.int .i64 r.ax,.int .i64 r.err,.int .u32 r.id,.int .i64 r.aw,.int .i64 r.aR,.int .i64 r.count] 108)).heap.size=w7.heap.size+1:=dM;omega
   case measure=>simp[intOf];omega
  obtain rfl:j=l.length:=ai;have HF:=aa (show adG base aB e q l (es.rep rq).2 w (.returned (.tuple #[u8,.bool true])) wr from⟨u8,eN,rC,rfl,hR.mono fun k hk _=>⟨aV HT.o.size hk,Classical.byContradiction fun hne=>by have:=HLV.o.cw.rest.lt k hne;omega⟩,HLV.o.ak hbr,uj.o,HT.o.trans (aI.aW hbr)⟩);clear hR hbr h2 RU;go_wp2_with fail;go_ret2;rw[HLE.o];exact HF.o
