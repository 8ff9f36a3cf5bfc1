import Derived.Test.YtemighjbfanenaaGreatDoorPk41
import Derived.Test.YtemighjbfanenaaGreatDoorPk39
set_option linter.all false
set_option maxRecDepth 100000
set_option maxHeartbeats 16000000
namespace Go.Proofs.YtemighjbfanenaaGreatDoor
open RowKit
open Oc (iq Bs gj fS ej cY lQ eV eL fJ aN eh bn le bM rU eZ dm dX val)
open Eg (im jB jM KW)
open Bk (KQ fQ)
open En (By aF lj sX dw dc)
open Go.IntKind renaming wrap_u64→mH,u64→cL,u8→zK,wrap_u8→acd
open Go.Value renaming oneCell'→eA
open List renaming length_append→dz
open Nat renaming le_trans→bf
open RowKit.Below renaming refl→aq
open Tryz renaming prog→af,underlying34→ey,underlying41→cq
theorem V9{p:Prop}(h:p:=by
 refine cD 15 fun K hK=>?_
 refine cT 129 _ _ rfl xh 129 _ (od R.2.1) ZG.o rfl rfl rfl JM Ub ?_;intro v4 dE hg gL;have akO:=aa dE;have mO:=aa (ei.o.other ((aG.refl (· =xh) v3).grown hg (fun k e=>IP)) (fun k hk=>aeY));have nV:=aa (fK.o.bo hg (fun e=>T4));have oG:=aa (vC fe.o hg HXH.o);clear dE hg gL;refine bW hK aeL fun RP=>?_
 clear hK K;refine ty 16 ?_;refine bF ?_;go_wp2_with fail;go_meet;exact⟨xh,_,rfl,rfl,akO.o,nV.o,mO.o,oG.o,yO.o,Du.o.1,Du.o.2⟩):p:=h
theorem yF{p:Prop}(h:p:=by
 clear h1 h2 h3;go_enter Tryz.func185,Tryz.ntmps185;go_wp2_with fail;refine ah (HHS.o w1) ?_;go_wp2_with fail;go_ret;exact⟨rfl,HB.o⟩):p:=h
theorem V5{p:Prop}(h:p:=by
 rintro e wn ⟨⟨u,rfl⟩,h1,WV⟩;have Cf:=aa (GF.o wn h1 wd Tw.o WV);clear h1 WV;go_wp2_with fail;refine bW hK aeU fun hh5=>?_
 clear hK K;refine bF ?_;go_wp2_with fail;go_roundw
 case rel=>exact⟨j+1,by have:=HJ.o;omega,by go_num,Cf.o⟩
 case measure=>simp[intOf];have:=HJ.o;omega):p:=h
theorem pD{p:Prop}(h:p:=by have:=wJ.o.lt;have:=yM.o;have:=jl.o;omega):p:=h
theorem pB{p:Prop}(h:p:=by have:=jl.o;have:=yM.o;omega):p:=h
theorem ju{p:Prop}(h:p:=by have:=jl.o;omega):p:=h
theorem pz{p:Prop}(h:p:=by rw[bn,bM]):p:=h
theorem T6{p:Prop}(h:p:=by have c':aA xq=2:=c;have:=(HN.o _ yM.o.1).1;rw[this] at c';exact absurd c' (by decide)):p:=h
theorem TW{p:Prop}(h:p:=by have:=(HN.o _ GH.o.1).1;rw[this] at c;exact absurd c (by decide)):p:=h
theorem U5{p:Prop}(h:p:=by have c':aA xh=2:=c;have:=(HN.o _ HXH.o).1;rw[this] at c';exact absurd c' (by decide)):p:=h
theorem rM{p:Prop}(h:p:=by rw[HE.o];simp[bM]):p:=h
theorem L'{p:Prop}(h:p:=by have Ie:aA k=2:=hk;show aA k≠0;rw[Ie];decide):p:=h
theorem aeY{p:Prop}(h:p:=by subst hk;exact⟨Du.o.2,(HN.o _ HXH.o).2⟩):p:=h
theorem rJ{p:Prop}(h:p:=by rw[tP.o];simp):p:=h
theorem aeU{p:Prop}(h:p:=by exact ic.o _ Cf.o.2.1 Cf.o.2.2.2.1):p:=h
theorem LS{p:Prop}(h:p:=by rw[hwd];exact ic.o _ HFd.o HQd.o):p:=h
theorem LP{p:Prop}(h:p:=by have:=HR9.o;have:=vd.o;omega):p:=h
theorem LC{p:Prop}(h:p:=by exact ic.o _ _ _ ei.o):p:=h
theorem aeL{p:Prop}(h:p:=by exact ic.o _ _ _ mO.o):p:=h
theorem Lu{p:Prop}(h:p:=by unfold kE;rw[hi];rfl):p:=h
theorem Lt{p:Prop}(h:p:=by have:=hq.good.av;omega):p:=h
theorem E9{p:Prop}(h:p:=by rw[acd];omega):p:=h
theorem E7{p:Prop}(h:p:=by rw[hi.up];decide):p:=h
section
namespace En
section
variable {aA:Nat→Nat}{w w':World}{e:Nat}{q:sM}{wt:Value}{es:Es}
theorem dJ.Ok.ajy{b:dJ}(h:b.Ok): KQ b.n b.au b.az b.next b.ak b.L:=
 ⟨by unfold tS.CF;have:=h.n;have:=h.au;have:=h.az;exact decide_eq_true ag,h.next,h.ak,h.len,h.Vn,h.ids,h.fZ,h.alone,h.aR⟩
theorem Pw(b:dJ): kh b=Im.kh b.n b.au b.next.toNat b.ak.toNat b.L:=rfl
theorem Jo(b:dJ): (kh b).length=20+14*b.L.length:=by
 rw[Pw];unfold Im.kh;rw[dz,Im.Em,Im.vY]
theorem bw.MQ(h:bw aA w e q wt es)(hb:es.bk.Ok): Calls af 213 #[.pointer (some ⟨q.bk,0,none⟩)] w (Im.YL (kh es.bk) w):=by
 obtain⟨x,hx⟩:=h.rest.book;have h1:=hb.next;have h2:=hb.ak;rw[Pw];have e1:es.bk.next=(es.bk.next.toNat:Int):=(Int.toNat_of_nonneg ag).symm;have e2:es.bk.ak=(es.bk.ak.toNat:Int):=(Int.toNat_of_nonneg ag).symm;have hk:=hb.ajy;rw[e1,e2] at hx hk;exact Im.agK hx hk
theorem QX(s:Sl)(d:bG)(body:By)(lZ:Nat)(hs:1≤d.dk.size): (s.save d body lZ).2.2.dk.size=d.dk.size:=by
 have hp:∀(r:Rg) (x:bG) (at_:Nat) (b:By),1≤x.dk.size→(dG r x at_ b).2.dk.size=x.dk.size:=fun r x at_ b hx=>by
  unfold dG;have h1:=(Rg.pw r x at_ b hx).1;split
  ·exact(bG.FN (r.write x at_ b).2).1.trans h1
  exact h1
 have hl:=Pm s d;have hl2:(s.load d).dev.dk.size=d.dk.size:=mm;unfold Sl.save;by_cases c1:s.bytes d.dk.size<body.length
 ·rw[if_pos c1]
 rw[if_neg c1];by_cases c2:(s.load d).err≠0
 ·rw[if_pos c2];exact hl2
 rw[if_neg c2];by_cases c3:(s.load d).hd.gen=18446744073709551615
 ·rw[if_pos c3];exact hl2
 rw[if_neg c3];simp only;generalize(if(s.load d).at_=0 then s.b else s.a)=r;have h1:=hp r (s.load d).dev d.dk.size body (by rw[hl2];exact hs);generalize hP:dG r (s.load d).dev d.dk.size body=P at h1 ⊢;by_cases c4:P.1≠0
 ·rw[if_pos c4];exact h1.trans hl2
 rw[if_neg c4];have h2:=hp r P.2 0 (Ig ⟨(s.load d).hd.gen+1,lZ,body.length,Cr.iy 0 body⟩++List.replicate (d.dk.size-32) 0) (by rw[h1,hl2];exact hs);generalize hQ:dG r P.2 0 _=Q at h2 ⊢;by_cases c5:Q.1≠0
 ·rw[if_pos c5];exact h2.trans (h1.trans hl2)
 rw[if_neg c5];exact h2.trans (h1.trans hl2)
theorem bw.xD(h:bw aA w e q wt es)(body:By)(A:Option Addr)(c:Nat)(hB:Bs w A body)(hA:∀g off,A=some ⟨g,off,none⟩→g<w.heap.size∧aA g≠2)(hc:body.length≤c)(hr:es.dev.dk.row.length+body.length≤1000000)(Il:32≤es.dev.dk.size):
  Calls af 214 #[.pointer (some ⟨q.sl,0,none⟩),.slice A body.length c,.int .u64 (es.log.last:Nat)] w fun en w1=>en=.returned (.tuple #[.agg (od (es.sl.save es.dev body es.log.last).2.1),.int .i64 (es.sl.save es.dev body es.log.last).1])∧bw (grow aA w w1 2) w1 e q wt {es with dev:=(es.sl.save es.dev body es.log.last).2.2}∧aG (fun k=>aA k=2) w w1:=by
 have no:∀ {k r:Nat},aA k=r→r≠2→¬(aA k=2):=fun h a c=>a (h.symm.trans c)
 obtain⟨lv,hlv⟩:=h.rest.log;refine(Yv h.rest.slots h.rest.dev (no h.rest.r7.1 aM) (no h.rest.r7.2.1 aM) (no h.rest.r7.2.2 aM) h.rest.iy (no h.rest.lh.1 aM) Il body A c es.log.last hB (fun g off e=>hA g off e) hc hlv.ok.last hr).mono ?_;rintro en w1 ⟨rfl,h2,h3⟩;exact⟨rfl,h.keeps (h.rest.save (QX _ _ _ _ ag) h2 h3) rfl rfl h3 (fun k hk=>by have Ie:aA k=2:=hk;rw[Ie];exact⟨aM,aM⟩) (np h.rest.lt),h3⟩
theorem bw.Ea(h:bw aA w e q wt es): Calls af 80 #[.pointer (some ⟨q.lq,0,none⟩)] w fun en w'=>en=.returned (.int .u64 (es.log.last:Nat))∧w'=w:=by
 obtain⟨v,hv⟩:=h.rest.log;exact YV hv
theorem bw.Mt(h:bw aA w e q wt es)(gen:Nat)(hg:gen<18446744073709551616): Calls af 215 #[.pointer (some ⟨q.lq,0,none⟩),.int .u64 gen] w fun en w1=>en=.returned (.int .i64 0)∧bw aA w1 e q wt {es with log:=es.log.reset gen}∧aG (· =q.lq) w w1∧aA q.lq=1:=by
 obtain⟨v,hv⟩:=h.rest.log;have hq:aA q.lq=1:=hv.bt.1;refine(Sh hv gen hg).mono ?_;rintro en w1 ⟨rfl,h2,h3⟩;exact⟨rfl,h.keeps (h.rest.reset h2 h3) rfl rfl h3 (fun k hk=>by subst hk;rw[hq];exact⟨aM,aM⟩) (fun _ h=>h),h3,hq⟩
theorem JM: (af.info? 129).map (·.size)=some 4:=aW
def ajA(aA:Nat→Nat)(w:World)(e:Nat)(q:sM)(wt:Value)(es:Es)(rq:Rq)(xq:Nat)(R:Int × Hd × bG)(s7 s8:Value)(wc:World): Prop:=
 ∃xh mL,s7=.pointer (some ⟨xh,0,none⟩)∧s8=.int .i64 R.1∧aD wc xh 129 (od R.2.1)∧aD wc xq 41 (dc rq)∧bw mL wc e q wt {es with dev:=R.2.2}∧aG (fun k=>aA k≠0) w wc∧(∀k,mL k≠0→aA k≠0∨w.heap.size≤k)∧mL xq=0∧mL xh=0
theorem aan(h:bw aA w e q wt es)(rq:Rq)(hb:es.bk.Ok)(hn:es.aK.length≤1000)(hr:es.dev.dk.row.length≤900000)(Il:32≤es.dev.dk.size):
  Calls af 100 #[.pointer (some ⟨e,0,none⟩),.agg (dc rq)] w (fh aA e q (es.save rq).1 (es.save rq).2 w):=by
 obtain⟨xq,jw⟩:=ae w.heap.size;obtain⟨w1,aX⟩:=ae (w.alloc (.cells (dc rq) 41));have bu:=aa (aJ aX);have vx:=aa (aH aX jw);have vy:=aa (h.ai bu.o);have HN:=aa h.news;have yM:=aa (show w.heap.size≤xq∧xq<w1.heap.size from⟨ag,vx.o.lt⟩);have HIM:=aa (show ∀W,bw aA W e q wt es→_ from fun W hW=>hW.MQ hb);obtain⟨body,JP⟩:=ae (kh es.bk);have vd:=aa (show body.length≤60000 from by rw[←JP,Jo];have:=hb.len;have:=hb.au;omega);have jV:=aa (show body≠ [] from fun c=>by have:=Jo es.bk;rw[JP,c] at this;simp at this;omega);obtain⟨R,hR⟩:=ae (es.sl.save es.dev body es.log.last);have Zb:=aa (show es.save rq=if R.1=0 then(counted es rq,{es with dev:=R.2.2,log:=es.log.reset R.2.1.gen,aK:=[]})else if R.1=60 then([cy rq 230],es.down R.2.2 es.log)else([cy rq R.1],{es with dev:=R.2.2})from by unfold Es.save;rw[JP,hR]);have anf:=aa (show R.2.1.gen<18446744073709551616 from by rw[←hR];exact I3 _ _ _ _);have vw:=aa hR;have HR9:=aa hr;have Tz:=aa Il;have HNN:=aa hn;rw[JP] at HIM;clear h hb hn hr Il JP hR;have x4:w1.cell? ⟨e,4,none⟩=some (.pointer (some ⟨q.bk,0,none⟩)):=vy.o.own.cell 4;go_enter Tryz.func100,Tryz.ntmps100;go_wp2_with fail;clear aX jw;refine(HIM.o _ vy.o).mono ?_;rintro en w2 ⟨BA,BC,rfl,cK,RS,hb2⟩;obtain⟨gb,rfl,hgb,hblk⟩:=cK jV.o;have wL:=aa (vy.o.ai hb2);have rC:=vx.jS hb2;have cx:=bu.eo hb2;have Cs:=aa hblk;have GH:=aa (show w.heap.size≤gb∧body.length≤BC from⟨by have:=bu.o.size;omega,RS⟩);clear cK hgb hblk RS hb2 vy vx bu HIM x4;go_upto_region 2 with fail
 go_cut [7,8] from 17 to 30 (fun s7 s8 wc=>ajA aA w e q wt es rq xq R s7 s8 wc)
 case first=>
  have ic:=aa (show ∀W (f:Nat→Nat) (es':Es),bw f W e q wt es'→(W.cell? ⟨e,3,none⟩=some (.pointer (some ⟨q.sl,0,none⟩))∧W.cell? ⟨e,2,none⟩=some (.pointer (some ⟨q.lq,0,none⟩)))from fun W f es' hE=>⟨hE.own.cell 3,hE.own.cell 2⟩);obtain⟨wd,hwd⟩:=ae w2.drew;have gQ:Below w2.heap.size w2 wd:=mR;have l9:=aa (wL.o.ai gQ);have kM:=rC.jS gQ;have kz:=aa (show aG (fun k=>aA k≠0) w wd from aG.aU (ar cx.o gQ));have EM:=aa (eC.same Cs.o (gQ.block _ (eC.lt Cs.o)));clear gQ;refine wp_region_held_drew (S:=(fun W=>W.cell? ⟨e,3,none⟩=some (.pointer (some ⟨q.sl,0,none⟩))∧W.cell? ⟨e,2,none⟩=some (.pointer (some ⟨q.lq,0,none⟩)))) aW (by rw[hwd];exact ic.o _ _ _ l9.o) (fun hHeld=>?_);rw[hwd] at hHeld ⊢;clear hwd wL rC;refine nZ 0 1 2 3 4 5 6 7 ?_;refine ty 8 ?_;refine qc 9 14 (fun K hK=>?_) fun K hK=>?_
  ·go_simp;refine ah l9.o.Ea ?_;go_wp2_with fail;refine bW hK (by exact ic.o _ _ _ l9.o) fun hh1=>?_
   clear hK K;refine qc 10 14 (fun K hK=>?_) fun K hK=>?_
   ·go_simp;have Di:=l9.o.xD body (some ⟨gb,0,none⟩) BC EM.o.bsx (fun g off e=>by injection e with e;injection e with e1 e2;subst e1;exact⟨eC.lt EM.o,fun c=>TW⟩) GH.o.2 LP Tz.o;rw[vw.o] at Di;refine Di.mono ?_;rintro en v2 ⟨rfl,hE,ht⟩;clear Di;have eN:=aa hE;have gi:=aa (ht.arr kM.o (fun c=>T6));have fg:=aa (kz.o.trans (ht.mono fun k _ hk=>L'));have yO:=aa (show ∀k,grow aA wd v2 2 k≠0→aA k≠0∨w.heap.size≤k from fun k hk=>by rcases iR k hk with h|h;exact .inl h;exact .inr (bf kz.o.size h));have GB:=aa (show grow aA wd v2 2 xq=0 from(dM kM.o.lt).trans (HN.o _ yM.o.1).1);have Ts:=aa (show ∀k,v2.heap.size≤k→grow aA wd v2 2 k=0∧k≠1∧k≠0 from hE.news);clear hE ht;obtain⟨OX,JA⟩:=ae (grow aA wd v2 2);rw[JA] at eN yO GB Ts;clear JA;go_wp2_with fail;refine bW hK (by exact ic.o _ _ _ eN.o) fun RQ=>?_
    clear hK K;refine QN 11 12 13 ?_;refine cD 14 fun K hK=>?_
    obtain⟨v3,hv3⟩:=ae (v2.alloc (.cells #[.int .u64 0,.int .u64 0,.int .i64 0,.int .u32 0] 129));obtain⟨xh,H8⟩:=ae v2.heap.size;have hb:=aJ hv3;have ei:=aa (eN.o.ai hb);have fK:=aa (gi.o.keep hb);have fe:=aa (fg.o.ai hb);have ZG:=aa (aH hv3 H8);have HXH:=aa (show w.heap.size≤xh from by rw[←H8];exact fg.o.size);have rE:=aa (show xq<xh from uA);have Du:=aa (show OX xq=0∧OX xh=0 from⟨GB.o,(Ts.o xh ag).1⟩);clear hb;go_simp;go_wp2_with fail;try rw[hv3]
    try rw[H8]
    clear hv3 H8;refine bW hK LC fun K3=>?_
    exact V9
   obtain⟨v2,hv2⟩:=ae (wd.alloc (.cells #[.int .u64 0,.int .u64 0,.int .i64 0,.int .u32 0] 129));obtain⟨xh,H8⟩:=ae wd.heap.size;have hb:=aJ hv2;have eN:=aa (l9.o.ai hb);have gi:=kM.jS hb;have fg:=aa (kz.o.ai hb);have aeo:=aa (eC.same EM.o (hb.block _ (eC.lt EM.o)));have aev:=aa (aH hv2 H8);have HXH:=aa (show w.heap.size≤xh from by rw[←H8];exact kz.o.size);have rE:=aa (show xq<xh from AA);clear hb;go_simp;go_wp2_with fail;try rw[hv2]
   try rw[H8]
   clear hv2 H8;refine bW hK (by exact ic.o _ _ _ eN.o) fun RQ=>?_
   clear hK K;refine cD 10 fun K hK=>?_
   go_simp;have Di:=eN.o.xD body (some ⟨gb,0,none⟩) BC aeo.o.bsx (fun g off e=>by injection e with e;injection e with e1 e2;subst e1;exact⟨eC.lt aeo.o,fun c=>TW⟩) GH.o.2 LP Tz.o;rw[vw.o] at Di;refine Di.mono ?_;rintro en v3 ⟨rfl,hE,ht⟩;clear Di;have ei:=aa hE;have fK:=aa (ht.arr gi.o (fun c=>T6));have fe:=aa (fg.o.trans (ht.mono fun k _ hk=>L'));have ZG:=aa (ht.arr aev.o (fun c=>U5));have yO:=aa (show ∀k,grow aA v2 v3 2 k≠0→aA k≠0∨w.heap.size≤k from fun k hk=>by rcases iR k hk with h|h;exact .inl h;exact .inr (bf fg.o.size h));have GB:=aa (show grow aA v2 v3 2 xq=0 from(dM gi.o.lt).trans (HN.o _ yM.o.1).1);have Du:=aa (show grow aA v2 v3 2 xq=0∧grow aA v2 v3 2 xh=0 from⟨GB.o,(dM aev.o.lt).trans (HN.o _ HXH.o).1⟩);have Ts:=aa (show ∀k,v3.heap.size≤k→grow aA v2 v3 2 k=0∧k≠1∧k≠0 from hE.news);clear hE ht;obtain⟨OX,JA⟩:=ae (grow aA v2 v3 2);rw[JA] at ei yO GB Ts Du;clear JA;go_wp2_with fail;refine bW hK LC fun K3=>?_
   clear hK K;refine QN 11 12 13 ?_;exact V9
  obtain⟨v1,kA⟩:=ae (wd.alloc (.cells #[.int .u64 0,.int .u64 0,.int .i64 0,.int .u32 0] 129));obtain⟨xh,H8⟩:=ae wd.heap.size;have hb:=aJ kA;have iW:=aa (l9.o.ai hb);have ll:=kM.jS hb;have iJ:=aa (kz.o.ai hb);have aep:=aa (eC.same EM.o (hb.block _ (eC.lt EM.o)));have aew:=aa (aH kA H8);have HXH:=aa (show w.heap.size≤xh from by rw[←H8];exact kz.o.size);have rE:=aa (show xq<xh from AA);clear hb;go_simp;go_wp2_with fail;try rw[kA]
  try rw[H8]
  clear kA H8;refine bW hK (by exact ic.o _ _ _ iW.o) fun hh1=>?_
  clear hK K;refine cD 9 fun K hK=>?_
  go_simp;refine ah iW.o.Ea ?_;go_wp2_with fail;refine bW hK (by exact ic.o _ _ _ iW.o) fun RQ=>?_
  clear hK K;refine cD 10 fun K hK=>?_
  go_simp;have Di:=iW.o.xD body (some ⟨gb,0,none⟩) BC aep.o.bsx (fun g off e=>by injection e with e;injection e with e1 e2;subst e1;exact⟨eC.lt aep.o,fun c=>TW⟩) GH.o.2 LP Tz.o;rw[vw.o] at Di;refine Di.mono ?_;rintro en v3 ⟨rfl,hE,ht⟩;clear Di;have ei:=aa hE;have fK:=aa (ht.arr ll.o (fun c=>T6));have fe:=aa (iJ.o.trans (ht.mono fun k _ hk=>L'));have ZG:=aa (ht.arr aew.o (fun c=>U5));have yO:=aa (show ∀k,grow aA v1 v3 2 k≠0→aA k≠0∨w.heap.size≤k from fun k hk=>by rcases iR k hk with h|h;exact .inl h;exact .inr (bf iJ.o.size h));have GB:=aa (show grow aA v1 v3 2 xq=0 from(dM ll.o.lt).trans (HN.o _ yM.o.1).1);have Du:=aa (show grow aA v1 v3 2 xq=0∧grow aA v1 v3 2 xh=0 from⟨GB.o,(dM aew.o.lt).trans (HN.o _ HXH.o).1⟩);have Ts:=aa (show ∀k,v3.heap.size≤k→grow aA v1 v3 2 k=0∧k≠1∧k≠0 from hE.news);clear hE ht;obtain⟨OX,JA⟩:=ae (grow aA v1 v3 2);rw[JA] at ei yO GB Ts Du;clear JA;go_wp2_with fail;refine bW hK LC fun K3=>?_
  clear hK K;refine QN 11 12 13 ?_;exact V9
 case rest=>
  obtain⟨xh,mL,rfl,rfl,hA,hQ,hE,hT,hs,hx1,hx2⟩:=hcut;have HA:=aa hA;have HQ:=aa hQ;have HE:=aa hE;have HT:=aa hT;have HS:=aa hs;have HX:=aa (show mL xq=0∧mL xh=0 from⟨hx1,hx2⟩);clear hA hQ hE hT hs hx1 hx2 wL rC Cs GH cx;by_cases c0:R.1=0
  ·have hc0:(R.1==0)=true:=beq_iff_eq.2 c0;have GK:=aa (show es.save rq=(counted es rq,{es with dev:=R.2.2,log:=es.log.reset R.2.1.gen,aK:=[]})from by rw[Zb.o,if_pos c0]);have Z9:∀W,bw mL W e q wt {es with dev:=R.2.2}→_:=fun W hW=>hW.Mt R.2.1.gen anf.o
   have HRC:=aa Z9;clear c0 Z9;go_upto_region 5 with fail
   have ic:=aa (show ∀W (es':Es),bw mL W e q wt es'→aD W xh 129 (od R.2.1)→(W.cell? ⟨e,2,none⟩=some (.pointer (some ⟨q.lq,0,none⟩))∧W.cell? ⟨xh,0,none⟩=some (.int .u64 (R.2.1.gen:Nat)))from fun W es' hE hH=>⟨hE.own.cell 2,hH.cell 0⟩);obtain⟨wd,hwd⟩:=ae wc.drew;have gQ:Below wc.heap.size wc wd:=mR;have EO:=aa (HE.o.ai gQ);have HAd:=aa (HA.o.keep gQ);have HQd:=aa (HQ.o.keep gQ);have KD:=aa (HT.o.ai gQ);clear gQ;refine wp_region_held_drew (S:=(fun W=>W.cell? ⟨e,2,none⟩=some (.pointer (some ⟨q.lq,0,none⟩))∧W.cell? ⟨xh,0,none⟩=some (.int .u64 (R.2.1.gen:Nat)))) aW (by rw[hwd];exact ic.o _ _ EO.o HAd.o) (fun hHeld=>?_);rw[hwd] at hHeld ⊢;clear hwd HE HA HQ HT;refine OC 0 1 2 3 4 5 ?_;refine cD 6 fun K hK=>?_
   go_simp;refine(HRC.o _ EO.o).mono ?_;rintro en w4 ⟨rfl,hE4,jU,hlq⟩;have SF:=aa hE4;have po:=aa (jU.arr HAd.o (fun c=>by have c':xh=q.lq:=c;rw[←c',HX.o.2] at hlq;exact absurd hlq aM));have tQ:=aa (jU.arr HQd.o (fun c=>by have c':xq=q.lq:=c;rw[←c',HX.o.1] at hlq;exact absurd hlq aM));have nU:=aa (KD.o.new (jU.mono fun k _ hk=>HS.o k (by subst hk;rw[hlq];decide)));clear hE4 jU hlq EO HAd HQd KD HRC;go_wp2_with fail;refine bW hK (by exact ic.o _ _ SF.o po.o) fun K2=>?_
   clear hK K;refine bF ?_;clear K2 hHeld ic po;go_wp2_with (refine aB rfl 41 (.tmp 3) rfl xq 41 _ tQ.o rfl _ cq rfl aF ?_);refine(BW SF.o rq HNN.o).mono ?_;rintro en w5 h5;have h6:fh aA e q (es.save rq).1 (es.save rq).2 w en w5:=by rw[GK.o];exact fh.trans nU.o HS.o h5
   obtain⟨eI,wF,A,cp,rfl,b2,b3,b4,b5⟩:=h6;have HF:=aa (show fh aA e q (es.save rq).1 (es.save rq).2 w (.returned (.slice A (es.save rq).1.length cp)) w5 from⟨eI,wF,A,cp,rfl,b2,b3,b4,b5⟩);clear h5 b2 b3 b4 b5;go_wp2_with fail;go_ret;exact HF.o
  have hc0:(R.1==0)=false:=beq_eq_false_iff_ne.2 c0;by_cases c1:R.1=60
  ·have hc1:(R.1==60)=true:=beq_iff_eq.2 c1;have GK:=aa (show es.save rq=([cy rq 230],es.down R.2.2 es.log)from by rw[Zb.o,if_neg c0,if_pos c1]);clear c0 c1;go_wp2_with fail;refine(Gn HE.o).mono ?_;rintro en w4 ⟨⟨u,rfl⟩,hE4,jU⟩;have SF:=aa hE4;have tQ:=aa (jU.arr HQ.o (fun c=>by have c':xq=e:=c;have:=HE.o.rest.r5;rw[←c',HX.o.1] at this;exact absurd this aM));have nU:=aa (HT.o.new (jU.mono fun k _ hk=>HS.o k (by subst hk;rw[HE.o.rest.r5];decide)));clear hE4 jU;go_wp2_with (refine aB rfl 41 (.tmp 3) rfl xq 41 _ tQ.o rfl _ cq rfl aF ?_);refine(lz rq 230 w4).mono ?_;rintro en w5 ⟨A,cp,rfl,sf,dR⟩;have HF:=aa (show fh aA e q (es.save rq).1 (es.save rq).2 w (.returned (.slice A 1 cp)) w5 from by
    rw[GK.o];exact fh.one SF.o HS.o nU.o sf dR)
   clear sf dR;go_wp2_with fail;go_ret;exact HF.o
  have hc1:(R.1==60)=false:=beq_eq_false_iff_ne.2 c1;have GK:=aa (show es.save rq=([cy rq R.1],{es with dev:=R.2.2})from by rw[Zb.o,if_neg c0,if_neg c1]);clear c0 c1;go_wp2_with (refine aB rfl 41 (.tmp 3) rfl xq 41 _ HQ.o rfl _ cq rfl aF ?_);refine(lz rq R.1 wc).mono ?_;rintro en w5 ⟨A,cp,rfl,sf,dR⟩;have HF:=aa (show fh aA e q (es.save rq).1 (es.save rq).2 w (.returned (.slice A 1 cp)) w5 from by
   rw[GK.o];exact fh.one HE.o HS.o HT.o sf dR)
  clear sf dR;go_wp2_with fail;go_ret;exact HF.o
end
end En
end
section
namespace En
theorem Rq.sJ.ok{q:Rq}(h:q.sJ): za q:=by
 have hk:=h.good.ax;have hs:=h.good.av;have ht:=h.good.bS;have i1:=h.idf;have i2:=h.I2;have i3:=h.TV;have pX:q.ax=1∨q.ax=2∨q.ax=3∨q.ax=4∨q.ax=5∨q.ax=6∨q.ax=7∨q.ax=8∨q.ax=9∨q.ax=10:=ag;refine⟨by simp only[jz,Bool.and_eq_true,decide_eq_true_eq];omega,hs,ht,?_,?_,?_⟩
 ·rcases pX with e|e|e|e|e|e|e|e|e|e <;>rw[e] at i1 ⊢ <;>first|exact .inl (i1 rfl)|(right;simp[cw])
 ·rcases pX with e|e|e|e|e|e|e|e|e|e <;>rw[e] at i2 ⊢ <;>first|exact .inl (i2 rfl)|(right;simp[cw])
 rcases pX with e|e|e|e|e|e|e|e|e|e <;>rw[e] at i3 ⊢ <;>first|exact .inl (i3 rfl)|(right;simp[cw])
def Es.Io(e:Es)(b:By): List Rp × Es:=if(bI b).2=0 then e.rep (bI b).1 else([⟨0,0,200,0,0,0,0⟩],e)
theorem abq: (⟨0,0,200,0,0,0,0⟩:Rp).sJ:=by
 show zb _ _
 exact⟨rfl,⟨aM,aM⟩,⟨aM,aM⟩,fun _=>⟨rfl,rfl⟩,⟨aM,aM⟩,⟨aM,aM⟩,.inl rfl,⟨aM,aM⟩,.inl rfl,.inl rfl,.inl rfl⟩
theorem wB.short{e:Es}{q:Rq}{r:List Rp × Es}(h:wB e q r)(hw:e.aK.length≤64): r.1.length≤65:=by
 cases h with
 | told x e'=>simp
 | aK x e'=>simp
 | full x e'=>show(e.aK++[x]).length≤65;rw[dz];simp;omega
 | all x e'=>show(e.aK++[x]).length≤65;rw[dz];simp;omega
section
variable {aA:Nat→Nat}{w:World}{e:Nat}{q:sM}{wt:Value}{es:Es}
def EgR(aA:Nat→Nat)(e:Nat)(q:sM)(es':Es)(w w':World): Prop:=∃eI wF,bw eI w' e q wF es'∧(∀k,eI k≠0→aA k≠0∨w.heap.size≤k)∧aG (fun k=>aA k≠0) w w'
theorem fh.ds{W:World}{l:List Rp}{es':Es}{en:Ending}{W':World}(h:bw aA w e q wt es)(hb:Below w.heap.size w W)(ho:fh aA e q l es' W en W'): aey l (EgR aA e q es' w) w e q.mb W en W':=by
 obtain⟨eI,wF,A,c,rfl,a2,a3,a4,a5⟩:=ho;exact⟨⟨A,c,rfl,a2⟩,⟨eI,wF,a3,fun k hk=>by rcases a4 k hk with h|h;exact .inl h;exact .inr (bf hb.size h),(aG.aU (S:=fun k=>aA k≠0) hb).trans a5⟩,⟨_,a5,h.rest.lt⟩,a3.own.cell 6,a3.rest.does⟩
theorem MA{e:Nat}{k:Int}(h:bE k=true): KW (jM e) k=some (.func (.func 101) #[.pointer (some ⟨e,0,none⟩)] #[]):=by rcases dg h with rfl|rfl|rfl|rfl|rfl <;>rfl
theorem ab9(h:bw aA w e q wt es)(hi:es.Inv)(hm:∀r∈es.aK,r.sJ)(hby:es.rg.bytes es.dev.dk.size≤900000)(b:By)(A:Option Addr)(c:Nat)(hB:Bs w A b)(hA:rU A)(hl:b.length≤70368744177664)(Bz:(bI b).2=0→(bI b).1.sJ):
  Calls af 12 #[.pointer (some ⟨e,0,none⟩),.slice A b.length c] w (N6 ((es.Io b).1.map cV) (EgR aA e q (es.Io b).2 w) w):=by
 have H9:es.aK.length≤64:=by have:=hi.full;have:=hi.bk.az;omega
 have hR:∀es' W W',EgR aA e q es' w W→Below W.heap.size W W'→EgR aA e q es' w W':=fun es' W W' h hb=>by
  obtain⟨eI,wF,a1,a2,a3⟩:=h;exact⟨eI,wF,a1.ai hb,a2,a3.ai hb⟩
 have hT:∀es' W,EgR aA e q es' w W→gh W:=fun es' W h=>by obtain⟨_,_,a1,_,_⟩:=h;exact a1.rest.rep
 have hs:∀es' W,EgR aA e q es' w W→w.heap.size≤W.heap.size:=fun es' W h=>by obtain⟨_,_,_,_,a3⟩:=h;exact a3.size
 have h0:∀W,Below w.heap.size w W→EgR aA e q es w W:=fun W hb=>⟨aA,wt,h.ai hb,fun k hk=>.inl hk,aG.aU hb⟩
 by_cases hg:(bI b).2=0
 ·have hq:=Bz hg;have hd:es.Io b=es.rep (bI b).1:=if_pos hg;rw[hd];obtain⟨m1,m2⟩:=hi.OY hm hq.good;have uJ:=(hi.abn hq.good).short H9;refine ZN h.own b A c hB hA hl (es.rep (bI b).1).1 _ (hR _) (hT _) (hs _) m1 ag ?_;have hlw:es.log.aK.length≤es.rg.bytes es.dev.dk.size:=by have:=es.log.uv hi.log.done;have:=hi.fit;omega
  have hrow:es.dev.dk.row.length=0:=by rw[hi.row];rfl
  have h1:1≤es.dev.dk.size:=by have:=hi.size;omega
  obtain⟨rq,Jz⟩:=ae ((bI b).1);rw[Jz] at hq m1 m2 uJ ⊢;have hk:=hq.good.ax;by_cases c1:rq.ax=5∨rq.ax=6∨rq.ax=10
  ·have MT:es.rep rq=([ed es.bk rq],es):=by unfold Es.rep;rw[if_neg E7,if_pos c1];rfl
   rw[MT];refine .does hg hi.up q.mb 98 rfl h.rest.does (by rw[Jz];rcases c1 with c|c|c <;>rw[c] <;>rfl) (fun W hW=>?_);rw[Jz];exact(agD (h.ai hW) rq hi.bk hq.good hq.ok c1).mono fun en W' ho=>ho.ds h hW
  by_cases c2:rq.ax=8
  ·have MT:es.rep rq=es.flush rq:=by unfold Es.rep;rw[if_neg E7,if_neg c1,if_pos c2]
   rw[MT];refine .does hg hi.up q.mb 99 rfl h.rest.does (by rw[Jz,c2];rfl) (fun W hW=>?_);rw[Jz];exact(XX (h.ai hW) rq ag ag h1).mono fun en W' ho=>ho.ds h hW
  by_cases c3:rq.ax=9
  ·have MT:es.rep rq=es.save rq:=by unfold Es.rep;rw[if_neg E7,if_neg c1,if_neg c2,if_pos c3]
   rw[MT];refine .does hg hi.up q.mb 100 rfl h.rest.does (by rw[Jz,c3];rfl) (fun W hW=>?_);rw[Jz];exact(aan (h.ai hW) rq hi.bk ag ag hi.size).mono fun en W' ho=>ho.ds h hW
  have hc:bE rq.ax=true:=T5;have MT:es.rep rq=es.change rq:=by unfold Es.rep;rw[if_neg E7,if_neg c1,if_neg c2,if_neg c3]
  rw[MT];refine .does hg hi.up q.mb 101 rfl h.rest.does (by rw[Jz];exact MA hc) (fun W hW=>?_);rw[Jz];exact(xV (h.ai hW) rq hi.bk hq.good hq.ok hc ag ag h1).mono fun en W' ho=>ho.ds h hW
 ·have hd:es.Io b=([⟨0,0,200,0,0,0,0⟩],es):=if_neg hg;rw[hd];exact ZN h.own b A c hB hA hl [⟨0,0,200,0,0,0,0⟩] _ (hR _) (hT _) (hs _) (fun r hr=>by rw[List.mem_singleton] at hr;subst hr;exact abq) aM (.bad hg rfl h0)
end
end En
end
section
namespace En
def kE(q:Rq): Nat→By
 | 0=>le q.id.toNat 4
 | 1=>le q.av.toNat 2
 | _=>le q.bS.toNat 8
def gu(q:Rq)(l:List Nat): By:=(l.map (kE q)).flatten
theorem FR(q:Rq)(l:List Nat)(f:Nat): gu q (l++[f])=gu q l++kE q f:=by simp[gu]
theorem QZ{q:Rq}(hk:1≤q.ax∧q.ax≤10): lj q=le q.ax.toNat 1++le q.tag.toNat 4++gu q (cw q.ax):=by
 obtain⟨k,tg,id,av,bS⟩:=q;have pX:k=1∨k=2∨k=3∨k=4∨k=5∨k=6∨k=7∨k=8∨k=9∨k=10:=by simp only at hk;omega
 rcases pX with rfl|rfl|rfl|rfl|rfl|rfl|rfl|rfl|rfl|rfl <;>simp[lj,dw,gu,cw,kE]
theorem Mn(q:Rq)(f:Nat): (kE q f).length≤8:=by unfold kE;split <;>simp[bM]
theorem yA(q:Rq):∀l:List Nat,(gu q l).length≤8*l.length
 | []=>by simp[gu]
 | f::l=>by
  have h1:=yA q l;have h2:=Mn q f;unfold gu at h1 ⊢;rw[List.map_cons,List.flatten_cons,dz,List.length_cons];omega
theorem XW(p:Nat)(q:Rq)(hq:q.sJ)(bs:By)(w:World)(h:eL w p bs)(hl:bs.length≤1000): Calls af 134 #[.pointer (some ⟨p,0,none⟩),.agg (dc q)] w (iq p (bs++kE q 0) w):=by
 obtain⟨i,hi⟩:∃i:Nat,q.id=i:=⟨q.id.toNat,by have:=hq.good.id;omega⟩;have hb:i<4294967296:=by have:=hq.good.id;have:=hq.Yf;omega
 have hp:kE q 0=le i 4:=Lu;rw[hp];obtain⟨xq,jw⟩:=ae w.heap.size;obtain⟨w1,aX⟩:=ae (w.alloc (.cells (dc q) 41));have hb1:=aJ aX;have c0:w1.cell? ⟨xq,2,none⟩=some (.int .u32 (i:Int)):=by
  have hA:=aH aX jw;rw[←hi];exact hA.cell 2
 have HW:=aa (cY p i bs w1 (h.keep hb1) ag hb);have HT:=aa hb1;clear h hb1 hi hp hb hq;go_enter Tryz.func134,Tryz.ntmps134;go_wp2_with fail;refine HW.o.mono ?_;rintro e w2 ⟨⟨u,rfl⟩,h2,h3⟩;have HF:=aa (fun u=>(show iq p (bs++le i 4) w (.returned u) w2 from⟨⟨u,rfl⟩,h2,(aG.aU (S:=(· =p)) HT.o).trans h3⟩));clear h2 h3;go_wp2_with fail;exact bodyPost_end (results_none Tryz.results134 _ _ _) rfl (HF.o _)
theorem XV(p:Nat)(q:Rq)(hq:q.sJ)(bs:By)(w:World)(h:eL w p bs)(hl:bs.length≤1000): Calls af 138 #[.pointer (some ⟨p,0,none⟩),.agg (dc q)] w (iq p (bs++kE q 1) w):=by
 obtain⟨i,hi⟩:∃i:Nat,q.av=i:=⟨q.av.toNat,Lt⟩;have hb:i<65536:=by have:=hq.good.av;have:=hq.Yf;omega
 have hp:kE q 1=le i 2:=Lu;rw[hp];obtain⟨xq,jw⟩:=ae w.heap.size;obtain⟨w1,aX⟩:=ae (w.alloc (.cells (dc q) 41));have hb1:=aJ aX;have c0:w1.cell? ⟨xq,3,none⟩=some (.int .i64 (i:Int)):=by
  have hA:=aH aX jw;rw[←hi];exact hA.cell 3
 have hcv:IntKind.u16.wrap (i:Int)=(i:Int):=by rw[IntKind.wrap_u16];omega
 have HW:=aa (eV p i bs w1 (h.keep hb1) ag hb);have HT:=aa hb1;clear h hb1 hi hp hb hq;go_enter Tryz.func138,Tryz.ntmps138;go_wp2_with fail;refine HW.o.mono ?_;rintro e w2 ⟨⟨u,rfl⟩,h2,h3⟩;have HF:=aa (fun u=>(show iq p (bs++le i 2) w (.returned u) w2 from⟨⟨u,rfl⟩,h2,(aG.aU (S:=(· =p)) HT.o).trans h3⟩));clear h2 h3;go_wp2_with fail;exact bodyPost_end (results_none Tryz.results138 _ _ _) rfl (HF.o _)
theorem XU(p:Nat)(q:Rq)(hq:q.sJ)(bs:By)(w:World)(h:eL w p bs)(hl:bs.length≤1000): Calls af 143 #[.pointer (some ⟨p,0,none⟩),.agg (dc q)] w (iq p (bs++kE q 2) w):=by
 obtain⟨i,hi⟩:∃i:Nat,q.bS=i:=⟨q.bS.toNat,by have:=hq.good.bS;omega⟩;have hb:i<18446744073709551616:=by have:=hq.good.bS;have:=hq.Yf;omega
 have hp:kE q 2=le i 8:=Lu;rw[hp];obtain⟨xq,jw⟩:=ae w.heap.size;obtain⟨w1,aX⟩:=ae (w.alloc (.cells (dc q) 41));have hb1:=aJ aX;have c0:w1.cell? ⟨xq,4,none⟩=some (.int .i64 (i:Int)):=by
  have hA:=aH aX jw;rw[←hi];exact hA.cell 4
 have hcv:cL.wrap (i:Int)=(i:Int):=py;have HW:=aa (ej p i bs w1 (h.keep hb1) ag hb);have HT:=aa hb1;clear h hb1 hi hp hb hq;go_enter Tryz.func143,Tryz.ntmps143;go_wp2_with fail;refine HW.o.mono ?_;rintro e w2 ⟨⟨u,rfl⟩,h2,h3⟩;have HF:=aa (fun u=>(show iq p (bs++le i 8) w (.returned u) w2 from⟨⟨u,rfl⟩,h2,(aG.aU (S:=(· =p)) HT.o).trans h3⟩));clear h2 h3;go_wp2_with fail;exact bodyPost_end (results_none Tryz.results143 _ _ _) rfl (HF.o _)
theorem F7{W:World}{g:Nat}{l:List Nat}(h:aD W g 3 (ks l)){j:Nat}(hj:j<l.length){f:Nat}(hf:l[j]=f): W.cell? ⟨g,j,none⟩=some (.int .i64 (f:Int)):=by rw[h.cell,←hf];simp[ks,hj]
def YB(bs:By)(w:World)(e:Ending)(w':World): Prop:=∃g c,e=.returned (.tuple #[.slice (some ⟨g,0,none⟩) bs.length c,.int .i64 0])∧eC w' 5 g bs∧bs.length≤c∧w.heap.size≤g∧Below w.heap.size w w'
theorem Kk(q:Rq)(hq:q.sJ)(w:World): Calls af 11 #[.agg (dc q)] w (YB (lj q) w):=by
 have Ic:=hq.good.ax;have S7:=hq.good.tag;obtain⟨k,hk⟩:∃k:Nat,q.ax=k:=⟨q.ax.toNat,ag⟩;obtain⟨tg,ht⟩:∃i:Nat,q.tag=i:=⟨q.tag.toNat,ag⟩;have alX:k≤10:=ag;have htl:tg<4294967296:=ag;have HP:=aa (show lj q=le k 1++le tg 4++gu q (cw k)from by rw[QZ Ic,hk,ht];rfl);have hcv:zK.wrap (k:Int)=(k:Int):=E9;have HM:=aa hq;have jH:=aa hq.ok;have GD:=aa (fun W=>FQ (k:Int) W);have aiH:=BK (k:Int);obtain⟨xq,jw⟩:=ae w.heap.size;obtain⟨w1,aX⟩:=ae (w.alloc (.cells (dc q) 41));have vx:=aa (aH aX jw);have bu:=aa (aJ aX);have yM:=aa (show xq=w.heap.size from jw.symm);clear hq Ic S7;go_enter Tryz.func11,Tryz.ntmps11;go_wp2_with (refine aB rfl 41 (.tmp 1) rfl xq 41 _ vx.o rfl _ cq rfl aF ?_);clear aX jw;refine(ki q w1 jH.o).mono ?_;rintro e w2 ⟨rfl,hb⟩;have rC:=vx.jS hb;have cx:=bu.eo hb;clear hb vx bu;obtain⟨xw,hxw⟩:=ae w2.heap.size;obtain⟨w3,hw3⟩:=ae (w2.alloc (.cells #[.slice none 0 0] 150));have hb:=aJ hw3;have jE:=rC.jS hb;have ek:=cx.eo hb;have Ir:=aa (show eL w3 xw [] by rw[←hw3,←hxw];exact eL.fresh w2);have jV:=aa (show xq<xw∧w.heap.size≤xw from⟨by have:=rC.o.lt;omega,by have:=cx.o.size;omega⟩);have c0:w3.cell? ⟨xq,0,none⟩=some (.int .i64 (k:Int)):=by rw[←hk];exact jE.o.cell 0
 clear hb rC cx;go_wp2_with fail;clear hw3 hxw;refine(fS xw k [] w3 Ir.o dA ag).mono ?_;rintro e w4 ⟨⟨u,rfl⟩,hw,CG⟩;have HW4:=aa hw;have tQ:=aa (CG.arr jE.o (by have:=jV.o;omega));have gI:=aa (aG.fresh CG ek.o (fun j hj=>by have Ei:j=xw:=hj;have:=jV.o;omega));have c1:w4.cell? ⟨xq,1,none⟩=some (.int .u32 (tg:Int)):=by rw[←ht];exact tQ.o.cell 1
 clear hw CG c0 Ir jE ek;go_wp2_with fail;refine(cY xw tg ([]++le k 1) w4 HW4.o (by simp[bM]) htl).mono ?_;rintro e w5 ⟨⟨u,rfl⟩,hw,Bu⟩;have Sn:=aa hw;have Zh:=aa (Bu.arr tQ.o (by have:=jV.o;omega));have eQ:=aa (aG.fresh Bu gI.o (fun j hj=>by have Ei:j=xw:=hj;have:=jV.o;omega));have c0:w5.cell? ⟨xq,0,none⟩=some (.int .i64 (k:Int)):=by rw[←hk];exact Zh.o.cell 0
 clear hw Bu c1 HW4 tQ gI;go_wp2_with fail;refine(GD.o w5).mono ?_;rintro e w6 ⟨B,rfl,hG,hb⟩;have GI:=aa hG;have Lb:=aa (Zh.o.keep hb);have jy:=eQ.eo hb;have Y8:=aa (Sn.o.keep hb);have HLW:=aa (show xw<w5.heap.size from by obtain⟨A,c,h1,_⟩:=Sn.o.ex;exact h1.lt);clear hG hb c0 Zh eQ Sn;go_wp2_with fail;refine(xS w6).mono ?_;rintro e w7 ⟨rfl,hb⟩;have HG7:=aa (show cw k≠ []→∃g,B=some ⟨g,0,none⟩∧w5.heap.size≤g∧aD w7 g 3 (ks (cw k))from fun h=>by obtain⟨g,h1,h2,h3⟩:=GI.o h;exact⟨g,h1,h2,h3.keep hb⟩);have Dv:=aa (Lb.o.keep hb);have pj:=jy.eo hb;have P1:=aa (Y8.o.keep hb);clear hb GI Lb jy Y8;obtain⟨xf,hxf⟩:=ae w7.heap.size;obtain⟨w8,hw8⟩:=ae (w7.alloc (.cells #[.nilFunc,.nilFunc,.nilFunc,.nilFunc,.nilFunc,.nilFunc,.nilFunc,.nilFunc,.nilFunc] 161));have zg:=aa (aH hw8 hxf);have ru:=aa (aJ hw8);have HXF:=aa hxf;go_upto_region 9 with(refine aj rfl 161 _ _ rfl xf 161 _ gv zg.o rfl rfl rfl oA (by simp[gv,eA]) ?_;intro w9 dE dL gL;have CT:=aa (show Below w7.heap.size w7 w9 from br ru.o dL (Nat.le_of_eq HXF.o));have HF9:=aa dE;clear dE dL gL)
 have rp:=aa (show cw k≠ []→∃g,B=some ⟨g,0,none⟩∧w5.heap.size≤g∧aD w9 g 3 (ks (cw k))from fun h=>by obtain⟨g,h1,h2,h3⟩:=HG7.o h;exact⟨g,h1,h2,h3.keep CT.o⟩);have HQ9:=aa (Dv.o.keep CT.o);have jl:=aa (ar pj.o CT.o);have HW9:=aa (P1.o.keep CT.o);have HNF:=aa (show xw<xf from by have:=HLW.o;have:=HXF.o;obtain⟨A,c,h1,_⟩:=P1.o.ex;have:=h1.lt;omega);clear hw8 hxf zg ru HG7 Dv pj P1 CT HXF;go_wp2_with fail;go_loopw [32] (fun i wr=>∃j:Nat,j≤(cw k).length∧i=.int .i64 j∧eL wr xw (le k 1++le tg 4++gu q ((cw k).take j))∧aD wr xf 161 gv∧(cw k≠ []→∃g,B=some ⟨g,0,none⟩∧w5.heap.size≤g∧aD wr g 3 (ks (cw k)))∧aD wr xq 41 (dc q)∧Below w.heap.size w wr) (fun i _=>((cw k).length-intOf i).toNat)
 case atStart=>exact⟨0,Nat.zero_le _,rfl,by have:=HW9.o;simpa[gu] using this,HF9.o,rp.o,HQ9.o,jl.o⟩
 case round=>
  obtain⟨j,hj,rfl,hi,hf,hg,hr,hb⟩:=hrel;by_cases h2:j<(cw k).length
  ·obtain⟨g,hB',eT,Dn⟩:=hg (fun h0=>Fi);subst hB';have h2':(j:Int)<(cw k).length:=ag;obtain⟨f,hfe⟩:=ae ((cw k)[j]);have c1:=F7 Dn h2 hfe;have hfm:=PE k f (by rw[←hfe];exact List.getElem_mem h2);have HST:=aa (show gu q ((cw k).take (j+1))=gu q ((cw k).take j)++kE q f from by rw[List.take_add_one,List.getElem?_eq_getElem h2,hfe];exact FR _ _ _);have HL:=aa (show(le k 1++le tg 4++gu q ((cw k).take j)).length≤1000 from by
    have:=yA q ((cw k).take j);simp only[dz,bM,List.length_take] at this ⊢;omega)
   have Tq:=aa hi;have HFF:=aa hf;have HGG:=aa Dn;have CQ:=aa hr;have HBr:=aa hb;have Zp:=aa eT;have HJ:=aa h2;clear hi hf hg Dn hr hb eT hfe;have GF:=aa (show ∀W',eL W' xw (le k 1++le tg 4++gu q ((cw k).take j)++kE q f)→∀Wd,Below wr.heap.size wr Wd→aG (· =xw) Wd W'→eL W' xw (le k 1++le tg 4++gu q ((cw k).take (j+1)))∧aD W' xf 161 gv∧(cw k≠ []→∃g',some (⟨g,0,none⟩:Addr)=some ⟨g',0,none⟩∧w5.heap.size≤g'∧aD W' g' 3 (ks (cw k)))∧aD W' xq 41 (dc q)∧Below w.heap.size w W' from fun W' h1 Wd gQ h2=>by
    have hn:=jV.o;have hnf:=HNF.o;have hz:=Zp.o;have hlw:=HLW.o;exact⟨by rw[HST.o,←List.append_assoc];exact h1,h2.arr (HFF.o.keep gQ) ag,fun _=>⟨g,rfl,hz,h2.arr (HGG.o.keep gQ) ag⟩,h2.arr (CQ.o.keep gQ) ag,aG.fresh h2 (ar HBr.o gQ) (fun j hj=>by have Ei:j=xw:=hj;omega)⟩)
   go_upto_region 12 with fail
   clear c1;obtain⟨wd,hwd⟩:=ae wr.drew;have gQ:Below wr.heap.size wr wd:=mR;have Tw:=aa gQ;have ic:=aa (show ∀W,aD W xf 161 gv→aD W xq 41 (dc q)→(W.cell? ⟨xf,0,none⟩=some (.func (.func 134) #[] #[])∧W.cell? ⟨xf,3,none⟩=some (.func (.func 138) #[] #[])∧W.cell? ⟨xf,6,none⟩=some (.func (.func 143) #[] #[])∧W.rangeAt xq 0 (dc q).toList)from fun W h1 h2=>⟨h1.cell 0,h1.cell 3,h1.cell 6,fun i u hi=>by rw[Nat.zero_add,h2.cell i];simpa using hi⟩);have HWd:=aa (Tq.o.keep gQ);have HFd:=aa (HFF.o.keep gQ);have HQd:=aa (CQ.o.keep gQ);clear gQ;rcases hfm with rfl|rfl|rfl
   ·refine wp_region_held_drew (S:=(fun W=>W.cell? ⟨xf,0,none⟩=some (.func (.func 134) #[] #[])∧W.cell? ⟨xf,3,none⟩=some (.func (.func 138) #[] #[])∧W.cell? ⟨xf,6,none⟩=some (.func (.func 143) #[] #[])∧W.rangeAt xq 0 (dc q).toList)) aW LS (fun hHeld=>?_);rw[hwd] at hHeld ⊢;clear hwd;refine kW 0 1 2 3 ?_;refine fj 4 (some 40) hHeld 41 (.tmp 1) xq 0 (dc q).toList _ (fun w' h=>h.2.2.2) cq rfl aF ?_;try simp only[aQ]
    refine cD 5 fun K hK=>?_
    go_simp;refine(XW xw q HM.o _ wd HWd.o HL.o).mono ?_;exact V5
   ·refine wp_region_held_drew (S:=(fun W=>W.cell? ⟨xf,0,none⟩=some (.func (.func 134) #[] #[])∧W.cell? ⟨xf,3,none⟩=some (.func (.func 138) #[] #[])∧W.cell? ⟨xf,6,none⟩=some (.func (.func 143) #[] #[])∧W.rangeAt xq 0 (dc q).toList)) aW LS (fun hHeld=>?_);rw[hwd] at hHeld ⊢;clear hwd;refine kW 0 1 2 3 ?_;refine fj 4 (some 40) hHeld 41 (.tmp 1) xq 0 (dc q).toList _ (fun w' h=>h.2.2.2) cq rfl aF ?_;try simp only[aQ]
    refine cD 5 fun K hK=>?_
    go_simp;refine(XV xw q HM.o _ wd HWd.o HL.o).mono ?_;exact V5
   refine wp_region_held_drew (S:=(fun W=>W.cell? ⟨xf,0,none⟩=some (.func (.func 134) #[] #[])∧W.cell? ⟨xf,3,none⟩=some (.func (.func 138) #[] #[])∧W.cell? ⟨xf,6,none⟩=some (.func (.func 143) #[] #[])∧W.rangeAt xq 0 (dc q).toList)) aW LS (fun hHeld=>?_);rw[hwd] at hHeld ⊢;clear hwd;refine kW 0 1 2 3 ?_;refine fj 4 (some 40) hHeld 41 (.tmp 1) xq 0 (dc q).toList _ (fun w' h=>h.2.2.2) cq rfl aF ?_;try simp only[aQ]
   refine cD 5 fun K hK=>?_
   go_simp;refine(XU xw q HM.o _ wd HWd.o HL.o).mono ?_;exact V5
  obtain rfl:j=(cw k).length:=ag;rw[List.take_length,←HP.o] at hi;have Tq:=aa hi;have HBr:=aa hb;have hlB:=@sX q;obtain⟨bs,tN⟩:=ae (lj q);rw[tN] at hlB hi Tq;have Lj:=aa tN;clear hi hf hg hr hb tN;go_wp2_with fail;refine(lQ xw bs wr Tq.o ag).mono ?_;rintro e wz ⟨A,c,rfl,h1,h3,h4,h5,h6⟩;obtain⟨g,rfl,kY,hg2⟩:=h1 (fun c=>by rw[c] at hlB;simp at hlB);have HF:=aa (show YB (lj q) w (.returned (.tuple #[.slice (some ⟨g,0,none⟩) bs.length c,.int .i64 0])) wz from by
   rw[Lj.o];exact⟨g,c,rfl,hg2,h3,bf HBr.o.size kY,ar HBr.o h6⟩)
  clear h1 h3 h4 h5 h6 kY hg2;go_wp2_with fail;go_ret2;exact HF.o
end En
end
section
namespace Rf
open En (Rq)
def YP(n k:Nat)(w:World)(e:Ending)(w':World): Prop:=∃A c,e=.returned (.slice A k c)∧w'.ownsRow w.heap.size 5 1 (.slice A k c) k (aN (le n k))∧Below w.heap.size w w'
theorem tv(n k:Nat)(hn:n<18446744073709551616)(hk:k≤8)(w:World): Calls af 119 #[.int .u64 n,.int .i64 k] w (YP n k w):=by
 obtain⟨i0,hi,hz0,hz1,hz2⟩:=info_parts dX;obtain⟨B,hB⟩:=ae w.heap.size;have jl:=aa hB;go_enter Tryz.func119,Tryz.ntmps119;go_wp2_with fail;go_loopw [0,5,6] (fun v0 v5 v6 wr=>∃(i:Nat) (A:Option Addr) (c:Nat),i≤k∧v6=.int .i64 i∧v0=.int .u64 (n/256^i:Nat)∧v5=.slice A i c∧wr.ownsRow B 5 1 (.slice A i c) i (aN (le n i))∧Below w.heap.size w wr) (fun _ _ v6 _=>(k-intOf v6).toNat)
 case atStart=>exact⟨0,none,0,Nat.zero_le _,rfl,dA,rfl,qd _ _ _ _,aq _ _⟩
 case round=>
  obtain⟨i,A,c,hik,rfl,rfl,rfl,ho,hb⟩:=hrel;by_cases h2:i<k
  ·have h2':(i:Int)<(k:Int):=by omega
   obtain⟨x,hx⟩:=ae (n/256^i);have ahV:x<18446744073709551616:=by rw[←hx];exact Nat.lt_of_le_of_lt (Nat.div_le_self _ _) hn
   have Ef:x/256=n/256^(i+1):=by rw[←hx,Nat.div_div_eq_div_mul,Nat.pow_succ]
   have hbt:aN (le n (i+1))=aN (le n i)++[.int .u8 ((x%256:Nat):Int)]:=by
    rw[le,eh,hx];simp[aN,fJ]
   have hcv:zK.wrap ((x:Int)%256)=(x:Int)%256:=E9;have amo:zK.wrap ((x%256:Nat):Int)=((x%256:Nat):Int):=E9;have amO:=aa ahV;have GF:=aa Ef;have HBT:=aa hbt;rw[hx];obtain⟨y,hy⟩:=ae (x%256:Nat);obtain⟨w1,aX⟩:=ae (wr.alloc (.cells #[.int .u8 ((x%256:Nat):Int)] 5));have hb1:=aJ aX;have Q1:=aa (show w1.ownsRow B 5 1 (.slice A i c) i (aN (le n i))from fB ho hb1);have Q2:=aa (show ∀(j:Nat) (u:Value),[Value.int .u8 ((x%256:Nat):Int)][j]? =some u→w1.cell? ((⟨wr.heap.size,0,none⟩:Addr).add j)=some u by rw[←aX];exact cell_one_new wr _ _);have Q5:=aa (show B≤w1.heap.size from by have:=hb.size;have:=hb1.size;omega);have bu:=aa (ar hb hb1);have anO:wr.alloc (.cells #[.int .u8 ((x:Int)%256)] 5)=w1:=by rw[←aX];rfl
   clear ho hb hb1 hx ahV Ef hbt hy;go_wp2_with (refine wpList_append_own _ rfl (.tmp 12) (.tmp 16) 34 rfl B 5 i0 (.int .u8 0) 1 1 ey hi hz0 hz1 hz2 rfl aM (.slice A i c) i _ rfl Q1.o ⟨wr.heap.size,0,none⟩ 1 1 [.int .u8 ((x%256:Nat):Int)] rfl rfl Q2.o AU iM ag Q5.o ?_;intro v' w2 gM hg2 mW;obtain⟨A2,c2,rfl⟩:=cg gM;have Sy:=aa gM;have tR:=aa hg2;clear gM hg2 mW);go_roundw
   case rel=>
    refine⟨i+1,A2,c2,ag,by go_num,?_,rfl,?_,?_⟩
    ·rw[←GF.o];congr 1;rw[mH];have:=amO.o;omega
    ·rw[HBT.o];exact Sy.o
    exact iG bu.o Q1.o tR.o ju
   case measure=>simp[intOf];omega
  obtain rfl:i=k:=ag;have HF:=aa (show YP n i w (.returned (.slice A i c)) wr from⟨A,c,rfl,by rw[jl.o];exact ho,hb⟩);clear ho hb;go_wp2_with fail;go_ret;exact HF.o
theorem Ob(q:Rq)(hq:q.sJ)(w:World): Calls af 185 #[.agg (dc q)] w fun e w'=>e=.returned (.int .i64 0)∧Below w.heap.size w w':=by
 have HHS:=aa (fun W=>oY q.ax W);have h1:=hq.idf;have h2:=hq.I2;have h3:=hq.TV;obtain⟨b1,b2,b3,hb⟩:∃x y z,dw q.ax=(x,y,z):=⟨_,_,_,rfl⟩;rw[hb] at HHS h1 h2 h3;have k1:decide (q.ax<1)=false:=decide_eq_false (by have:=hq.good.ax;omega);have k2:decide ((10:Int)<q.ax)=false:=decide_eq_false (by have:=hq.good.ax;omega);have k3:decide (q.av<0)=false:=decide_eq_false Lt;have k4:decide ((65535:Int)<q.av)=false:=decide_eq_false Lt;have k5:decide (q.bS<0)=false:=decide_eq_false (by have:=hq.good.bS;omega);clear hb hq;obtain⟨xq,jw⟩:=ae w.heap.size;obtain⟨w1,aX⟩:=ae (w.alloc (.cells (dc q) 41));have hA:=aH aX jw;have HB:=aa (aJ aX);have c0:w1.cell? ⟨xq,0,none⟩=some (.int .i64 q.ax):=hA.cell 0;have c2:w1.cell? ⟨xq,2,none⟩=some (.int .u32 q.id):=hA.cell 2;have c3:w1.cell? ⟨xq,3,none⟩=some (.int .i64 q.av):=hA.cell 3;have c4:w1.cell? ⟨xq,4,none⟩=some (.int .i64 q.bS):=hA.cell 4;clear hA;cases b1 <;>cases b2 <;>cases b3
 ·have z1:(q.id==0)=true:=beq_iff_eq.2 (h1 rfl);have y1:(q.id != 0)=false:=by rw[h1 rfl];rfl
  have z2:(q.av==0)=true:=beq_iff_eq.2 (h2 rfl);have y2:(q.av != 0)=false:=by rw[h2 rfl];rfl
  have z3:(q.bS==0)=true:=beq_iff_eq.2 (h3 rfl);have y3:(q.bS != 0)=false:=by rw[h3 rfl];rfl
  exact yF
 ·have z1:(q.id==0)=true:=beq_iff_eq.2 (h1 rfl);have y1:(q.id != 0)=false:=by rw[h1 rfl];rfl
  have z2:(q.av==0)=true:=beq_iff_eq.2 (h2 rfl);have y2:(q.av != 0)=false:=by rw[h2 rfl];rfl
  exact yF
 ·have z1:(q.id==0)=true:=beq_iff_eq.2 (h1 rfl);have y1:(q.id != 0)=false:=by rw[h1 rfl];rfl
  have z3:(q.bS==0)=true:=beq_iff_eq.2 (h3 rfl);have y3:(q.bS != 0)=false:=by rw[h3 rfl];rfl
  exact yF
 ·have z1:(q.id==0)=true:=beq_iff_eq.2 (h1 rfl);have y1:(q.id != 0)=false:=by rw[h1 rfl];rfl
  exact yF
 ·have z2:(q.av==0)=true:=beq_iff_eq.2 (h2 rfl);have y2:(q.av != 0)=false:=by rw[h2 rfl];rfl
  have z3:(q.bS==0)=true:=beq_iff_eq.2 (h3 rfl);have y3:(q.bS != 0)=false:=by rw[h3 rfl];rfl
  exact yF
 ·have z2:(q.av==0)=true:=beq_iff_eq.2 (h2 rfl);have y2:(q.av != 0)=false:=by rw[h2 rfl];rfl
  exact yF
 ·have z3:(q.bS==0)=true:=beq_iff_eq.2 (h3 rfl);have y3:(q.bS != 0)=false:=by rw[h3 rfl];rfl
  exact yF
 exact yF
theorem jg{W:World}{B:Nat}{v:Value}{n m:Nat}{a b:By}(h:W.ownsRow B 5 1 v (n+m) (aN a++aN b)): W.ownsRow B 5 1 v (n+m) (aN (a++b)):=by rw[eh];exact h
theorem Mx(w:World)(x:Value)(B:Nat)(hB:B≤w.heap.size)(hx:x.oneCell'=true): (w.alloc (.cells #[x] 5)).ownsRow B 5 1 (.slice (some ⟨w.heap.size,0,none⟩) 1 1) 1 [x]:=by refine⟨dA,.inr ⟨w.heap.size,1,#[x],rfl,hB,aD.fresh w _ _,aM,aM,rfl,rfl⟩⟩
def qF(bs:By)(w:World)(e:Ending)(w':World): Prop:=∃A c,e=.returned (.tuple #[.slice A bs.length c,.int .i64 0])∧w'.ownsRow w.heap.size 5 1 (.slice A bs.length c) bs.length (aN bs)∧Below w.heap.size w w'
theorem lA{W:World}{B:Nat}{A:Option Addr}{k c:Nat}{bs:By}(h:W.ownsRow B 5 1 (.slice A k c) k (aN bs))(hk:bs.length=k)(hp:0<k):∃g,A=some ⟨g,0,none⟩∧B≤g∧g<W.heap.size∧∀j u,(aN bs)[j]? =some u→W.cell? ((⟨g,0,none⟩:Addr).add j)=some u:=by
 obtain⟨n,rfl⟩:∃n,k=n+1:=⟨k-1,ag⟩;obtain⟨g,cap,hv⟩:=vK h;injection hv with e1 e2 e3
 subst e1;have hl:=dP h (g:=g) rfl;have hb:Bs W (some ⟨g,0,none⟩) bs:=Bs.own (by rw[←hk] at h;exact h);exact⟨g,rfl,hl.2,hl.1,fun j u hu=>hb.read j u hu⟩
theorem YK(q:Rq)(hq:q.sJ)(w:World): Calls af 78 #[.agg (dc q)] w (qF (lj q) w):=by
 obtain⟨i0,hi,hz0,hz1,hz2⟩:=info_parts dX;have HHS:=aa (fun W=>oY q.ax W);have jH:=aa (fun W=>Ob q hq W);have Ic:=hq.good.ax;have S7:=hq.good.tag;have hid:=hq.good.id;have hst:=hq.good.av;have htt:=hq.good.bS;have hbg:=hq.Yf;obtain⟨k,hk⟩:∃k:Nat,q.ax=k:=⟨q.ax.toNat,ag⟩;obtain⟨tg,ht⟩:∃i:Nat,q.tag=i:=⟨q.tag.toNat,ag⟩;obtain⟨id,hi2⟩:∃i:Nat,q.id=i:=⟨q.id.toNat,ag⟩;obtain⟨st,hs2⟩:∃i:Nat,q.av=i:=⟨q.av.toNat,ag⟩;obtain⟨tt,ug⟩:∃i:Nat,q.bS=i:=⟨q.bS.toNat,ag⟩;obtain⟨b1,b2,b3,hb⟩:∃x y z,dw q.ax=(x,y,z):=⟨_,_,_,rfl⟩;have tP:=aa (show lj q=le k 1++le tg 4++(if b1=true then le id 4 else [])++(if b2=true then le st 2 else [])++(if b3=true then le tt 8 else [])from by unfold lj;rw[hb,hk,ht,hi2,hs2,ug];rfl);rw[hb,hk] at HHS;have alX:k≤10:=ag;have htl:tg<4294967296:=ag;have aod:id<4294967296:=ag;have anU:st<65536:=ag;have anQ:tt<9223372036854775808:=ag;have hc1:zK.wrap (k:Int)=(k:Int):=E9;have hc2:cL.wrap (tg:Int)=(tg:Int):=py;have hc3:cL.wrap (id:Int)=(id:Int):=py;have K5:cL.wrap (st:Int)=(st:Int):=py;have CN:cL.wrap (tt:Int)=(tt:Int):=py;have HN4:=aa (fun W=>tv tg 4 ag ag W);have HNI:=aa (fun W=>tv id 4 ag ag W);have oJ:=aa (fun W=>tv st 2 ag ag W);have HNT:=aa (fun W=>tv tt 8 ag ag W);obtain⟨xq,jw⟩:=ae w.heap.size;obtain⟨w1,aX⟩:=ae (w.alloc (.cells (dc q) 41));have vx:=aa (show aD w1 xq 41 #[.int .i64 (k:Int),.int .u32 (tg:Int),.int .u32 (id:Int),.int .i64 (st:Int),.int .i64 (tt:Int)] by rw[←aX,←jw,←hk,←ht,←hi2,←hs2,←ug];exact aD.fresh w _ _);have bu:=aa (aJ aX);have yM:=aa (show xq=w.heap.size from jw.symm);have CJ:dc q= #[.int .i64 (k:Int),.int .u32 (tg:Int),.int .u32 (id:Int),.int .i64 (st:Int),.int .i64 (tt:Int)]:=by unfold dc;rw[hk,ht,hi2,hs2,ug]
 rw[CJ] at jH aX ⊢;obtain⟨B,hB⟩:=ae (w.heap.size+1);have jl:=aa hB;clear Ic S7 hid hst htt hbg hb hk ht hi2 hs2 ug hq CJ hB;go_enter Tryz.func78,Tryz.ntmps78;go_wp2_with (refine aB rfl 41 (.tmp 1) rfl xq 41 #[.int .i64 (k:Int),.int .u32 (tg:Int),.int .u32 (id:Int),.int .i64 (st:Int),.int .i64 (tt:Int)] vx.o rfl _ cq rfl aF ?_);clear aX jw;refine(jH.o w1).mono ?_;rintro e w2 ⟨rfl,hb⟩;have rC:=vx.jS hb;have cx:=bu.eo hb;clear hb vx bu;have c0:=rC.o.cl 0;have c1:=rC.o.cl 1;go_wp2_with fail;refine ah (HHS.o w2) ?_;obtain⟨w3,hw3⟩:=ae (w2.alloc (.cells #[.int .u8 (k:Int)] 5));have hb3:=aJ hw3;have jE:=rC.jS hb3;have ek:=cx.eo hb3;have HO3:=aa (show w3.ownsRow B 5 1 (.slice (some ⟨w2.heap.size,0,none⟩) 1 1) 1 (aN (le k 1))from by
  have h9:aN (le k 1)= [.int .u8 (k:Int)]:=by simp[le,aN,fJ];omega
  rw[h9,←hw3];exact Mx w2 _ _ (by have:=rC.o.lt;have:=yM.o;have:=jl.o;omega) rfl)
 obtain⟨g2,hg2⟩:=ae w2.heap.size;rw[hg2] at HO3;have c1':=jE.o.cl 1;clear hb3;go_wp2_with fail;clear hw3 hg2 c0 c1 c1';have HQ:=jE;have HB:=ek;have HO:=HO3;clear rC cx jE ek HO3;refine(HN4.o w3).mono ?_;rintro e wn ⟨A',c',rfl,pM,hb⟩;obtain⟨g',rfl,kY,hg3,et⟩:=lA pM (bM _ _) aM;have wJ:=aa (HQ.o.keep hb);have zf:=HB.eo hb;have mF:=aa (fB HO.o hb);have oH:=aa et;have mi:=aa (show B≤wn.heap.size from pD);clear pM hb kY hg3 et HQ HB HO;go_upto_region 7 with(refine wpList_append_own _ rfl (.tmp 25) (.tmp 29) 34 rfl B 5 i0 (.int .u8 0) 1 1 ey hi hz0 hz1 hz2 rfl aM _ 1 _ rfl mF.o ⟨g',0,none⟩ 4 c' (aN (le tg 4)) rfl pz oH.o (Oc.bO _) iM ag mi.o ?_;intro v' w5 gM hg2 mW;obtain⟨A2,c2,rfl⟩:=cg gM;have HO:=aa (jg gM);have HB:=aa (iG zf.o mF.o hg2 ju);have HQ:=aa (aD.app wJ.o mF.o hg2 pB);clear gM hg2 mW)
 cases b1 <;>cases b2 <;>cases b3
 ·have HE:=aa (show lj q=le k 1++le tg 4 from rJ);have HF:=aa (show ∀A c,w5.ownsRow B 5 1 (.slice A 5 c) 5 (aN (le k 1++le tg 4))→qF (lj q) w (.returned (.tuple #[.slice A 5 c,.int .i64 0])) w5 from fun A c h=>by
   have hl:(lj q).length=5:=rM;refine⟨A,c,mm,?_,HB.o⟩;rw[hl,HE.o];exact eJ h ju)
  go_wp2_with fail;go_ret2;exact HF.o _ _ HO.o
 ·have d4:w5.cell? ⟨xq,4,none⟩=some (.int .i64 (tt:Int)):=HQ.o.cell 4;go_wp2_with fail;clear d4;refine(HNT.o w5).mono ?_;rintro e wn ⟨A',c',rfl,pM,hb⟩;obtain⟨g',rfl,kY,hg3,et⟩:=lA pM (bM _ _) aM;have wJ:=aa (HQ.o.keep hb);have zf:=HB.eo hb;have mF:=aa (fB HO.o hb);have oH:=aa et;have mi:=aa (show B≤wn.heap.size from pD);clear pM hb kY hg3 et HQ HB HO;go_upto_region 13 with(refine wpList_append_own _ rfl (.tmp 46) (.tmp 50) 34 rfl B 5 i0 (.int .u8 0) 1 1 ey hi hz0 hz1 hz2 rfl aM _ 5 _ rfl mF.o ⟨g',0,none⟩ 8 c' (aN (le tt 8)) rfl pz oH.o (Oc.bO _) iM ag mi.o ?_;intro v' w6 gM hg2 mW;obtain⟨A2,c2,rfl⟩:=cg gM;have HO:=aa (jg gM);have HB:=aa (iG zf.o mF.o hg2 ju);have HQ:=aa (aD.app wJ.o mF.o hg2 pB);clear gM hg2 mW)
  have HE:=aa (show lj q=le k 1++le tg 4++le tt 8 from rJ);have HF:=aa (show ∀A c,w6.ownsRow B 5 1 (.slice A 13 c) 13 (aN (le k 1++le tg 4++le tt 8))→qF (lj q) w (.returned (.tuple #[.slice A 13 c,.int .i64 0])) w6 from fun A c h=>by
   have hl:(lj q).length=13:=rM;refine⟨A,c,mm,?_,HB.o⟩;rw[hl,HE.o];exact eJ h ju)
  go_wp2_with fail;go_ret2;exact HF.o _ _ HO.o
 ·have d3:w5.cell? ⟨xq,3,none⟩=some (.int .i64 (st:Int)):=HQ.o.cell 3;go_wp2_with fail;clear d3;refine(oJ.o w5).mono ?_;rintro e wn ⟨A',c',rfl,pM,hb⟩;obtain⟨g',rfl,kY,hg3,et⟩:=lA pM (bM _ _) aM;have wJ:=aa (HQ.o.keep hb);have zf:=HB.eo hb;have mF:=aa (fB HO.o hb);have oH:=aa et;have mi:=aa (show B≤wn.heap.size from pD);clear pM hb kY hg3 et HQ HB HO;go_upto_region 11 with(refine wpList_append_own _ rfl (.tmp 39) (.tmp 43) 34 rfl B 5 i0 (.int .u8 0) 1 1 ey hi hz0 hz1 hz2 rfl aM _ 5 _ rfl mF.o ⟨g',0,none⟩ 2 c' (aN (le st 2)) rfl pz oH.o (Oc.bO _) iM ag mi.o ?_;intro v' w6 gM hg2 mW;obtain⟨A2,c2,rfl⟩:=cg gM;have HO:=aa (jg gM);have HB:=aa (iG zf.o mF.o hg2 ju);have HQ:=aa (aD.app wJ.o mF.o hg2 pB);clear gM hg2 mW)
  have HE:=aa (show lj q=le k 1++le tg 4++le st 2 from rJ);have HF:=aa (show ∀A c,w6.ownsRow B 5 1 (.slice A 7 c) 7 (aN (le k 1++le tg 4++le st 2))→qF (lj q) w (.returned (.tuple #[.slice A 7 c,.int .i64 0])) w6 from fun A c h=>by
   have hl:(lj q).length=7:=rM;refine⟨A,c,mm,?_,HB.o⟩;rw[hl,HE.o];exact eJ h ju)
  go_wp2_with fail;go_ret2;exact HF.o _ _ HO.o
 ·have d3:w5.cell? ⟨xq,3,none⟩=some (.int .i64 (st:Int)):=HQ.o.cell 3;go_wp2_with fail;clear d3;refine(oJ.o w5).mono ?_;rintro e wn ⟨A',c',rfl,pM,hb⟩;obtain⟨g',rfl,kY,hg3,et⟩:=lA pM (bM _ _) aM;have wJ:=aa (HQ.o.keep hb);have zf:=HB.eo hb;have mF:=aa (fB HO.o hb);have oH:=aa et;have mi:=aa (show B≤wn.heap.size from pD);clear pM hb kY hg3 et HQ HB HO;go_upto_region 11 with(refine wpList_append_own _ rfl (.tmp 39) (.tmp 43) 34 rfl B 5 i0 (.int .u8 0) 1 1 ey hi hz0 hz1 hz2 rfl aM _ 5 _ rfl mF.o ⟨g',0,none⟩ 2 c' (aN (le st 2)) rfl pz oH.o (Oc.bO _) iM ag mi.o ?_;intro v' w6 gM hg2 mW;obtain⟨A2,c2,rfl⟩:=cg gM;have HO:=aa (jg gM);have HB:=aa (iG zf.o mF.o hg2 ju);have HQ:=aa (aD.app wJ.o mF.o hg2 pB);clear gM hg2 mW)
  have d4:=HQ.o.cl 4;go_wp2_with fail;clear d4;refine(HNT.o w6).mono ?_;rintro e wn ⟨A',c',rfl,pM,hb⟩;obtain⟨g',rfl,kY,hg3,et⟩:=lA pM (bM _ _) aM;have wJ:=aa (HQ.o.keep hb);have zf:=HB.eo hb;have mF:=aa (fB HO.o hb);have oH:=aa et;have mi:=aa (show B≤wn.heap.size from pD);clear pM hb kY hg3 et HQ HB HO;go_upto_region 13 with(refine wpList_append_own _ rfl (.tmp 46) (.tmp 50) 34 rfl B 5 i0 (.int .u8 0) 1 1 ey hi hz0 hz1 hz2 rfl aM _ 7 _ rfl mF.o ⟨g',0,none⟩ 8 c' (aN (le tt 8)) rfl pz oH.o (Oc.bO _) iM ag mi.o ?_;intro v' w7 gM hg2 mW;obtain⟨A2,c2,rfl⟩:=cg gM;have HO:=aa (jg gM);have HB:=aa (iG zf.o mF.o hg2 ju);have HQ:=aa (aD.app wJ.o mF.o hg2 pB);clear gM hg2 mW)
  have HE:=aa (show lj q=le k 1++le tg 4++le st 2++le tt 8 from rJ);have HF:=aa (show ∀A c,w7.ownsRow B 5 1 (.slice A 15 c) 15 (aN (le k 1++le tg 4++le st 2++le tt 8))→qF (lj q) w (.returned (.tuple #[.slice A 15 c,.int .i64 0])) w7 from fun A c h=>by
   have hl:(lj q).length=15:=rM;refine⟨A,c,mm,?_,HB.o⟩;rw[hl,HE.o];exact eJ h ju)
  go_wp2_with fail;go_ret2;exact HF.o _ _ HO.o
 ·have d2:w5.cell? ⟨xq,2,none⟩=some (.int .u32 (id:Int)):=HQ.o.cell 2;go_wp2_with fail;clear d2;refine(HNI.o w5).mono ?_;rintro e wn ⟨A',c',rfl,pM,hb⟩;obtain⟨g',rfl,kY,hg3,et⟩:=lA pM (bM _ _) aM;have wJ:=aa (HQ.o.keep hb);have zf:=HB.eo hb;have mF:=aa (fB HO.o hb);have oH:=aa et;have mi:=aa (show B≤wn.heap.size from pD);clear pM hb kY hg3 et HQ HB HO;go_upto_region 9 with(refine wpList_append_own _ rfl (.tmp 32) (.tmp 36) 34 rfl B 5 i0 (.int .u8 0) 1 1 ey hi hz0 hz1 hz2 rfl aM _ 5 _ rfl mF.o ⟨g',0,none⟩ 4 c' (aN (le id 4)) rfl pz oH.o (Oc.bO _) iM ag mi.o ?_;intro v' w6 gM hg2 mW;obtain⟨A2,c2,rfl⟩:=cg gM;have HO:=aa (jg gM);have HB:=aa (iG zf.o mF.o hg2 ju);have HQ:=aa (aD.app wJ.o mF.o hg2 pB);clear gM hg2 mW)
  have HE:=aa (show lj q=le k 1++le tg 4++le id 4 from rJ);have HF:=aa (show ∀A c,w6.ownsRow B 5 1 (.slice A 9 c) 9 (aN (le k 1++le tg 4++le id 4))→qF (lj q) w (.returned (.tuple #[.slice A 9 c,.int .i64 0])) w6 from fun A c h=>by
   have hl:(lj q).length=9:=rM;refine⟨A,c,mm,?_,HB.o⟩;rw[hl,HE.o];exact eJ h ju)
  go_wp2_with fail;go_ret2;exact HF.o _ _ HO.o
 ·have d2:w5.cell? ⟨xq,2,none⟩=some (.int .u32 (id:Int)):=HQ.o.cell 2;go_wp2_with fail;clear d2;refine(HNI.o w5).mono ?_;rintro e wn ⟨A',c',rfl,pM,hb⟩;obtain⟨g',rfl,kY,hg3,et⟩:=lA pM (bM _ _) aM;have wJ:=aa (HQ.o.keep hb);have zf:=HB.eo hb;have mF:=aa (fB HO.o hb);have oH:=aa et;have mi:=aa (show B≤wn.heap.size from pD);clear pM hb kY hg3 et HQ HB HO;go_upto_region 9 with(refine wpList_append_own _ rfl (.tmp 32) (.tmp 36) 34 rfl B 5 i0 (.int .u8 0) 1 1 ey hi hz0 hz1 hz2 rfl aM _ 5 _ rfl mF.o ⟨g',0,none⟩ 4 c' (aN (le id 4)) rfl pz oH.o (Oc.bO _) iM ag mi.o ?_;intro v' w6 gM hg2 mW;obtain⟨A2,c2,rfl⟩:=cg gM;have HO:=aa (jg gM);have HB:=aa (iG zf.o mF.o hg2 ju);have HQ:=aa (aD.app wJ.o mF.o hg2 pB);clear gM hg2 mW)
  have d4:=HQ.o.cl 4;go_wp2_with fail;clear d4;refine(HNT.o w6).mono ?_;rintro e wn ⟨A',c',rfl,pM,hb⟩;obtain⟨g',rfl,kY,hg3,et⟩:=lA pM (bM _ _) aM;have wJ:=aa (HQ.o.keep hb);have zf:=HB.eo hb;have mF:=aa (fB HO.o hb);have oH:=aa et;have mi:=aa (show B≤wn.heap.size from pD);clear pM hb kY hg3 et HQ HB HO;go_upto_region 13 with(refine wpList_append_own _ rfl (.tmp 46) (.tmp 50) 34 rfl B 5 i0 (.int .u8 0) 1 1 ey hi hz0 hz1 hz2 rfl aM _ 9 _ rfl mF.o ⟨g',0,none⟩ 8 c' (aN (le tt 8)) rfl pz oH.o (Oc.bO _) iM ag mi.o ?_;intro v' w7 gM hg2 mW;obtain⟨A2,c2,rfl⟩:=cg gM;have HO:=aa (jg gM);have HB:=aa (iG zf.o mF.o hg2 ju);have HQ:=aa (aD.app wJ.o mF.o hg2 pB);clear gM hg2 mW)
  have HE:=aa (show lj q=le k 1++le tg 4++le id 4++le tt 8 from rJ);have HF:=aa (show ∀A c,w7.ownsRow B 5 1 (.slice A 17 c) 17 (aN (le k 1++le tg 4++le id 4++le tt 8))→qF (lj q) w (.returned (.tuple #[.slice A 17 c,.int .i64 0])) w7 from fun A c h=>by
   have hl:(lj q).length=17:=rM;refine⟨A,c,mm,?_,HB.o⟩;rw[hl,HE.o];exact eJ h ju)
  go_wp2_with fail;go_ret2;exact HF.o _ _ HO.o
 ·have d2:w5.cell? ⟨xq,2,none⟩=some (.int .u32 (id:Int)):=HQ.o.cell 2;go_wp2_with fail;clear d2;refine(HNI.o w5).mono ?_;rintro e wn ⟨A',c',rfl,pM,hb⟩;obtain⟨g',rfl,kY,hg3,et⟩:=lA pM (bM _ _) aM;have wJ:=aa (HQ.o.keep hb);have zf:=HB.eo hb;have mF:=aa (fB HO.o hb);have oH:=aa et;have mi:=aa (show B≤wn.heap.size from pD);clear pM hb kY hg3 et HQ HB HO;go_upto_region 9 with(refine wpList_append_own _ rfl (.tmp 32) (.tmp 36) 34 rfl B 5 i0 (.int .u8 0) 1 1 ey hi hz0 hz1 hz2 rfl aM _ 5 _ rfl mF.o ⟨g',0,none⟩ 4 c' (aN (le id 4)) rfl pz oH.o (Oc.bO _) iM ag mi.o ?_;intro v' w6 gM hg2 mW;obtain⟨A2,c2,rfl⟩:=cg gM;have HO:=aa (jg gM);have HB:=aa (iG zf.o mF.o hg2 ju);have HQ:=aa (aD.app wJ.o mF.o hg2 pB);clear gM hg2 mW)
  have d3:=HQ.o.cl 3;go_wp2_with fail;clear d3;refine(oJ.o w6).mono ?_;rintro e wn ⟨A',c',rfl,pM,hb⟩;obtain⟨g',rfl,kY,hg3,et⟩:=lA pM (bM _ _) aM;have wJ:=aa (HQ.o.keep hb);have zf:=HB.eo hb;have mF:=aa (fB HO.o hb);have oH:=aa et;have mi:=aa (show B≤wn.heap.size from pD);clear pM hb kY hg3 et HQ HB HO;go_upto_region 11 with(refine wpList_append_own _ rfl (.tmp 39) (.tmp 43) 34 rfl B 5 i0 (.int .u8 0) 1 1 ey hi hz0 hz1 hz2 rfl aM _ 9 _ rfl mF.o ⟨g',0,none⟩ 2 c' (aN (le st 2)) rfl pz oH.o (Oc.bO _) iM ag mi.o ?_;intro v' w7 gM hg2 mW;obtain⟨A2,c2,rfl⟩:=cg gM;have HO:=aa (jg gM);have HB:=aa (iG zf.o mF.o hg2 ju);have HQ:=aa (aD.app wJ.o mF.o hg2 pB);clear gM hg2 mW)
  have HE:=aa (show lj q=le k 1++le tg 4++le id 4++le st 2 from rJ);have HF:=aa (show ∀A c,w7.ownsRow B 5 1 (.slice A 11 c) 11 (aN (le k 1++le tg 4++le id 4++le st 2))→qF (lj q) w (.returned (.tuple #[.slice A 11 c,.int .i64 0])) w7 from fun A c h=>by
   have hl:(lj q).length=11:=rM;refine⟨A,c,mm,?_,HB.o⟩;rw[hl,HE.o];exact eJ h ju)
  go_wp2_with fail;go_ret2;exact HF.o _ _ HO.o
 have d2:=HQ.o.cl 2;go_wp2_with fail;clear d2;refine(HNI.o w5).mono ?_;rintro e wn ⟨A',c',rfl,pM,hb⟩;obtain⟨g',rfl,kY,hg3,et⟩:=lA pM (bM _ _) aM;have wJ:=aa (HQ.o.keep hb);have zf:=HB.eo hb;have mF:=aa (fB HO.o hb);have oH:=aa et;have mi:=aa (show B≤wn.heap.size from pD);clear pM hb kY hg3 et HQ HB HO;go_upto_region 9 with(refine wpList_append_own _ rfl (.tmp 32) (.tmp 36) 34 rfl B 5 i0 (.int .u8 0) 1 1 ey hi hz0 hz1 hz2 rfl aM _ 5 _ rfl mF.o ⟨g',0,none⟩ 4 c' (aN (le id 4)) rfl pz oH.o (Oc.bO _) iM ag mi.o ?_;intro v' w6 gM hg2 mW;obtain⟨A2,c2,rfl⟩:=cg gM;have HO:=aa (jg gM);have HB:=aa (iG zf.o mF.o hg2 ju);have HQ:=aa (aD.app wJ.o mF.o hg2 pB);clear gM hg2 mW)
 have d3:=HQ.o.cl 3;go_wp2_with fail;clear d3;refine(oJ.o w6).mono ?_;rintro e wn ⟨A',c',rfl,pM,hb⟩;obtain⟨g',rfl,kY,hg3,et⟩:=lA pM (bM _ _) aM;have wJ:=aa (HQ.o.keep hb);have zf:=HB.eo hb;have mF:=aa (fB HO.o hb);have oH:=aa et;have mi:=aa (show B≤wn.heap.size from pD);clear pM hb kY hg3 et HQ HB HO;go_upto_region 11 with(refine wpList_append_own _ rfl (.tmp 39) (.tmp 43) 34 rfl B 5 i0 (.int .u8 0) 1 1 ey hi hz0 hz1 hz2 rfl aM _ 9 _ rfl mF.o ⟨g',0,none⟩ 2 c' (aN (le st 2)) rfl pz oH.o (Oc.bO _) iM ag mi.o ?_;intro v' w7 gM hg2 mW;obtain⟨A2,c2,rfl⟩:=cg gM;have HO:=aa (jg gM);have HB:=aa (iG zf.o mF.o hg2 ju);have HQ:=aa (aD.app wJ.o mF.o hg2 pB);clear gM hg2 mW)
 have d4:=HQ.o.cl 4;go_wp2_with fail;clear d4;refine(HNT.o w7).mono ?_;rintro e wn ⟨A',c',rfl,pM,hb⟩;obtain⟨g',rfl,kY,hg3,et⟩:=lA pM (bM _ _) aM;have wJ:=aa (HQ.o.keep hb);have zf:=HB.eo hb;have mF:=aa (fB HO.o hb);have oH:=aa et;have mi:=aa (show B≤wn.heap.size from pD);clear pM hb kY hg3 et HQ HB HO;go_upto_region 13 with(refine wpList_append_own _ rfl (.tmp 46) (.tmp 50) 34 rfl B 5 i0 (.int .u8 0) 1 1 ey hi hz0 hz1 hz2 rfl aM _ 11 _ rfl mF.o ⟨g',0,none⟩ 8 c' (aN (le tt 8)) rfl pz oH.o (Oc.bO _) iM ag mi.o ?_;intro v' w8 gM hg2 mW;obtain⟨A2,c2,rfl⟩:=cg gM;have HO:=aa (jg gM);have HB:=aa (iG zf.o mF.o hg2 ju);have HQ:=aa (aD.app wJ.o mF.o hg2 pB);clear gM hg2 mW)
 have HE:=aa (show lj q=le k 1++le tg 4++le id 4++le st 2++le tt 8 from rJ);have HF:=aa (show ∀A c,w8.ownsRow B 5 1 (.slice A 19 c) 19 (aN (le k 1++le tg 4++le id 4++le st 2++le tt 8))→qF (lj q) w (.returned (.tuple #[.slice A 19 c,.int .i64 0])) w8 from fun A c h=>by
  have hl:(lj q).length=19:=rM;refine⟨A,c,mm,?_,HB.o⟩;rw[hl,HE.o];exact eJ h ju)
 go_wp2_with fail;go_ret2;exact HF.o _ _ HO.o
end Rf
end
section
namespace Rf
open En (Rq)
def aeH(bs:By)(w:World)(e:Ending)(w':World): Prop:=∃A c,e=.returned (.slice A bs.length c)∧w'.ownsRow w.heap.size 5 1 (.slice A bs.length c) bs.length (aN bs)∧Below w.heap.size w w'
theorem KP(a:iX)(ha:a.Ok)(w:World): Calls af 22 #[.agg (jO a)] w (aeH (lj a.rq) w):=by
 have HQ:=aa (fun W=>B7 a ha W);have HP:=aa (fun W=>YK a.rq ha.may W);obtain⟨xa,jb⟩:=ae w.heap.size;obtain⟨w1,aX⟩:=ae (w.alloc (.cells (jO a) 63));have HX:=aa (aH aX jb);have HB:=aa (aJ aX);go_enter Tryz.func22,Tryz.ntmps22;go_wp2_with (refine aB rfl 63 (.tmp 1) rfl xa 63 (jO a) HX.o rfl _ Tryz.underlying63 rfl ask_size ?_);clear aX jb;refine(HQ.o w1).mono ?_;rintro e w2 ⟨rfl,hb⟩;have cx:=HB.eo hb;clear hb HB;go_wp2_with fail;refine(HP.o w2).mono ?_;rintro e w3 ⟨A,c,rfl,ho,hb⟩;have HF:=aa (show aeH (lj a.rq) w (.returned (.slice A (lj a.rq).length c)) w3 from⟨A,c,rfl,eJ ho (by have:=cx.o.size;omega),ar cx.o hb⟩);clear ho hb cx;go_wp2_with fail;go_ret;exact HF.o
