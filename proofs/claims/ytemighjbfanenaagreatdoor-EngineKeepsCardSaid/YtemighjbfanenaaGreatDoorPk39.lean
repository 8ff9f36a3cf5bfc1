import Derived.Test.YtemighjbfanenaaGreatDoorPk37
set_option linter.all false
set_option maxRecDepth 100000
set_option maxHeartbeats 16000000
namespace Go.Proofs.YtemighjbfanenaaGreatDoor
open RowKit
open Oc (Bs le rU val)
open Eg (im jB jM KW)
open Bk (mG Cz fQ aeC yh aas)
open Go.AllReadyH renaming cons→o8
open Go.Value renaming oneCell'→eA
open List renaming length_append→dz
open Nat renaming le_trans→bf,zero_add→gY
open RowKit.Below renaming refl→aq
open Tryz renaming prog→af
theorem yT{p:Prop}(h:p:=by
 refine cD 18 fun K hK=>?_
 refine cT 58 _ _ rfl xa 58 _ (fF X) jY.o rfl rfl rfl bC TZ ?_;intro v5 dE hg gL;have jT:=Ci.o;have aer:=aa (show bw aA v5 e q wt es from mO.o.grown hg jT HN.o);have aek:=aa (show aD v5 xq 41 (dc rq)from nV.o.bo hg (fun e=>ahA));have ajX:=aa (show aG (fun k=>aA k≠0) w v5 from vC oG.o hg jT);have ab1:=aa (jX.o.bo hg (fun e=>ahC));have ab3:=aa dE;clear dE hg gL jT;refine bW hK ahy fun hh5=>?_
 clear hK K;refine cD 19 fun K hK=>?_
 refine cT 108 _ _ rfl xp 108 _ (pW Y) ab1.o rfl rfl rfl aV T7 ?_;intro v6 dE hg gL;have jT:=Ch.o;have aeq:=aa (show bw aA v6 e q wt es from aer.o.grown hg jT HN.o);have aej:=aa (show aD v6 xq 41 (dc rq)from aek.o.bo hg (fun e=>ahz));have ajW:=aa (show aG (fun k=>aA k≠0) w v6 from vC ajX.o hg jT);have ab2:=aa (ab3.o.bo hg (fun e=>ahC));have ab0:=aa dE;clear dE hg gL jT;refine bW hK ahx fun K2=>?_
 clear hK K;refine uw 20 21 ?_;refine bF ?_;go_wp2_with fail;go_meet;exact⟨rfl,xa,xp,rfl,rfl,ab2.o,ab0.o,aej.o,aeq.o,ajW.o,Ci.o,Ch.o,yM.o.1⟩):p:=h
theorem adF{p:Prop}(h:p:=by
 refine bW hK (by exact HSP.o _ Dx.o) fun K2=>?_
 clear hK K;refine cD 7 fun K hK=>?_
 refine fA _ (.tmp 61) (.tmp 63) 65 rfl 108 j0 (.agg #[.int .u32 0,.int .i64 0,.int .i64 0,.int .u32 0,.int .i64 0,.int .i64 0,.int .i64 0]) 7 56 Tryz.underlying65 hj hz0 hz1 hz2 rfl aM (.slice A n cp) n _ rfl rF.o ⟨wd.heap.size,0,none⟩ 1 [.int .u32 Y.tag,.int .i64 Y.ax,.int .i64 Y.err,.int .u32 Y.id,.int .i64 Y.av,.int .i64 Y.aR,.int .i64 Y.count] rfl rfl Lc.o acx (by have:=HNL.o;unfold maxLen;omega) (by have:=HNL.o;omega) ?_;intro ga ca w6 CK jG;have h9:=Zs.o.waited (x:=Y) (v:=.slice (some ⟨ga,0,none⟩) (n+1) ca) (w6:=w6) afa jG;have P1:=aa (show bw (grow D4 v5 w6 4) (w6.setCell ⟨e,5,none⟩ (.slice (some ⟨ga,0,none⟩) (n+1) ca)) e q (.slice (some ⟨ga,0,none⟩) (n+1) ca) {J0 with aK:=J0.aK++[Y]}∧aG (fun k=>D4 k=4∨k=e) v5 (w6.setCell ⟨e,5,none⟩ (.slice (some ⟨ga,0,none⟩) (n+1) ca))from⟨h9.1,h9.2.1⟩);have x5:w6.cell? ⟨e,5,none⟩=some (.slice A n cp):=h9.2.2.1;have m5:w6.frozen? ⟨e,5,none⟩=false:=h9.2.2.2;have NS:=aa (Dx.o.bo jG (fun c=>ae7));have HZ6:=aa (show v5.heap.size≤w6.heap.size from jG.size);clear h9 CK jG;refine bW hK (by exact HSP.o _ NS.o) fun hh7=>?_
 clear hK K;refine uw 8 9 ?_;refine cD 10 fun K hK=>?_
 go_simp;go_wp2_with fail;refine bW hK ahw fun aoe=>?_
 clear hK K;refine bF ?_;go_wp2_with fail;go_meet;exact⟨rfl,HR9.o _ _ _ P1.o.1 P1.o.2 HZ6.o pg.o⟩):p:=h
theorem ahC{p:Prop}(h:p:=by injection e with e;have:=jW.o;omega):p:=h
theorem yx{p:Prop}(h:p:=by have:=(HN.o _ Ci.o).1;rw[this] at c;exact absurd c (by decide)):p:=h
theorem yw{p:Prop}(h:p:=by have:=(HN.o _ Ch.o).1;rw[this] at c;exact absurd c (by decide)):p:=h
theorem ahA{p:Prop}(h:p:=by injection e with e;have:=qB.o;omega):p:=h
theorem ahz{p:Prop}(h:p:=by injection e with e;have:=qA.o;omega):p:=h
theorem qN{p:Prop}(h:p:=by exact ic.o _ mO.o nV.o):p:=h
theorem ahy{p:Prop}(h:p:=by exact ic.o _ aer.o aek.o):p:=h
theorem ahx{p:Prop}(h:p:=by exact ic.o _ aeq.o aej.o):p:=h
theorem ahw{p:Prop}(h:p:=by exact HSP.o _ (NS.o.other (p:=⟨e,5,none⟩) (fun c=>by have c2:xp=e:=c;have h3:=Zs.o.rest.r5;rw[←c2,HX4.o] at h3;exact absurd h3 (by decide)) _)):p:=h
theorem afa{p:Prop}(h:p:=by have h1:=CK;have h2:=I5 J0.aK Y;rw[Tp.o] at h2;rw[←h2,dz,Tp.o];exact h1):p:=h
theorem ald{p:Prop}(h:p:=by have c2:xp=e:=c;have h3:=Zs.o.rest.r5;rw[←c2,HX4.o] at h3;exact absurd h3 (by decide)):p:=h
theorem uA{p:Prop}(h:p:=by have:=gi.o.lt;omega):p:=h
theorem ae7{p:Prop}(h:p:=by have h3:=Zs.o.aK.block xp c;rw[HX4.o] at h3;exact absurd h3 (by decide)):p:=h
theorem xd{p:Prop}(h:p:=by have:=fK.o.lt;omega):p:=h
theorem UA{p:Prop}(h:p:=by have Ie:aA k=1:=hk;rw[Ie];exact⟨by decide,by decide⟩):p:=h
theorem Uo{p:Prop}(h:p:=by have Ie:aA k=1:=hk;show aA k≠0;rw[Ie];decide):p:=h
theorem LJ{p:Prop}(h:p:=by rw[←jb];exact fg.o.size):p:=h
theorem LI{p:Prop}(h:p:=by rw[←mz];exact fe.o.size):p:=h
theorem LH{p:Prop}(h:p:=by rw[←mz];exact fg.o.size):p:=h
theorem LG{p:Prop}(h:p:=by rw[←jb];exact fe.o.size):p:=h
theorem Lx{p:Prop}(h:p:=by have:=fE.o.lt;omega):p:=h
theorem Lv{p:Prop}(h:p:=by have:=fD.o.lt;omega):p:=h
section
namespace En
theorem _root_.Go.Proofs.YtemighjbfanenaaGreatDoor.Bk.amz(a b c:Int)(W:World): (Instr.field 80 (.agg #[.int .i64 a,.int .i64 b,.int .i64 c]) 2).run af W=.ok (.int .i64 c) W:=aW
section
variable {aA:Nat→Nat}{w w':World}{e:Nat}{q:sM}{wt:Value}{es:Es}
theorem df.aff{w0:World}(h:df aA w e q es)(hlt:∀k,aA k≠0→k<w0.heap.size)(hz:w0.heap.size≤w.heap.size)(hc:1<w0.heap.size∧0<w0.heap.size): df (grow aA w0 w 4) w e q es:=by
 have o:∀ {k r:Nat},aA k=r→r≠0→grow aA w0 w 4 k=r:=fun hk hr=>(dM (hlt _ (by rw[hk];exact hr))).trans hk
 refine⟨h.does,?_,?_,?_,h.slots,o h.r5 aM,o h.r6 aM,⟨o h.r7.1 aM,o h.r7.2.1 aM,o h.r7.2.2 aM⟩,zC hlt hz,h.iy,h.rep,⟨(dM hc.1).trans h.lh.1,(dM hc.2).trans h.lh.2⟩⟩
 ·rw[gR hlt aM aM];exact h.log
 ·rw[gR hlt aM aM];exact h.dev
 rw[gR hlt aM aM];exact h.book
theorem bw.waited(h:bw aA w e q wt es){w6:World}{v:Value}{x:Rp}(hr:aO (fun k=>aA k=4∨k=w.heap.size) w6 108 7 v (es.aK++[x]).length (Mq (es.aK++[x])))(hg:w.grownBy w6 wt.ownBlock):
  bw (grow aA w w6 4) (w6.setCell ⟨e,5,none⟩ v) e q v {es with aK:=es.aK++[x]}∧aG (fun k=>aA k=4∨k=e) w (w6.setCell ⟨e,5,none⟩ v)∧w6.cell? ⟨e,5,none⟩=some wt∧w6.frozen? ⟨e,5,none⟩=false:=by
 have ht:aG (fun k=>aA k=4) w w6:=(aG.refl (fun k=>aA k=4) w).grown hg (fun k hk=>.inl (h.aK.block k hk));have hz:=ht.size;have hne:¬aA e=4:=by rw[h.rest.r5];decide
 have ho:im w6 e es.up (some ⟨q.lq,0,none⟩) (some ⟨q.sl,0,none⟩) (some ⟨q.bk,0,none⟩) wt (.map (some q.mb)):=ht.arr h.own hne;have hR:=h.rest.cG (w':=w6) (ht.mono fun k _ hk=>.inl hk);have qo:=hR.aff h.rest.lt hz ⟨h.rest.iy.lt,h.rest.rep.lt⟩;have h5:(grow aA w w6 4) e=5:=qo.r5;have hr2:aO (fun k=>grow aA w w6 4 k=4) w6 108 7 v (es.aK++[x]).length (Mq (es.aK++[x])):=hr.mono fun k hk hl=>by
  rcases hk with hk|hk
  ·exact np h.rest.lt k hk
  unfold grow;rw[if_neg ag,if_pos hl]
 refine⟨⟨(qo.ahH (aG.at w6 e 5 _)).as rfl rfl rfl rfl rfl,aD.put ho 5 _,hr2.put (q:=⟨e,5,none⟩) (fun g hg c=>?_) _⟩,(ht.mono fun k _ hk=>.inl hk).put (p:=⟨e,5,none⟩) (.inl (.inr rfl)) _,ho.cell 5,ho.mark 5⟩;have c':e=g:=c;have:=hr2.block g hg;rw[←c',h5] at this;exact absurd this aM
theorem bw.Q7(h:bw aA w e q wt es): Calls af 96 #[.pointer (some ⟨q.lq,0,none⟩)] w fun en w'=>en=.returned (.int .i64 es.a8)∧Below w.heap.size w w':=by
 obtain⟨v,hv⟩:=h.rest.log;refine(wk hv).mono ?_;rintro en w' ⟨rfl,hb⟩;refine⟨?_,hb⟩;have:=hv.fit;unfold Es.a8;congr 3;omega
def ahm(S:Nat→Prop)(b:Nat)(bk:dJ)(X:Rec)(Y:Rp)(ok:Bool)(w:World)(e:Ending)(w':World): Prop:=e=.returned (.tuple #[.agg (fF X),.agg (pW Y),.bool ok,.int .i64 0])∧fQ S w' b bk∧aG S w w'
theorem J4(S:Nat→Prop)(b:Nat)(bk:dJ)(a8:Int)(rq:Rq)(hb:bk.Ok)(hq:rq.Good)(Dl:za rq)(hc:bE rq.ax=true):
  ∃(X:Rec) (Y:Rp) (ok:Bool),(∀W,fQ S W b bk→Calls af 216 #[.pointer (some ⟨b,0,none⟩),.int .i64 a8,.agg (dc rq)] W (ahm S b bk X Y ok W))∧
   ((bB bk a8 rq=0∧X=bp bk rq∧Y=bN rq (bp bk rq)∧ok=true)∨(bB bk a8 rq≠0∧X=aas∧Y=cy rq (bB bk a8 rq)∧ok=false)):=by
 by_cases c:bB bk a8 rq=0
 ·refine⟨bp bk rq,bN rq (bp bk rq),true,fun W hW=>(yh S W b bk a8 rq hW hb hq Dl hc).mono ?_,.inl ⟨c,rfl,rfl,rfl⟩⟩;rintro e w' ⟨rfl,h1,h2⟩;exact⟨by rw[if_pos c],h1,h2⟩
 ·refine⟨aas,cy rq (bB bk a8 rq),false,fun W hW=>(yh S W b bk a8 rq hW hb hq Dl hc).mono ?_,.inr ⟨c,rfl,rfl,rfl⟩⟩;rintro e w' ⟨rfl,h1,h2⟩;exact⟨by rw[if_neg c],h1,h2⟩
def akX(aA:Nat→Nat)(w:World)(e:Nat)(q:sM)(wt:Value)(es:Es)(rq:Rq)(xq:Nat)(X:Rec)(Y:Rp)(s5 s6:Value)(wc:World): Prop:=
 ∃xa xp,s5=.pointer (some ⟨xa,0,none⟩)∧s6=.pointer (some ⟨xp,0,none⟩)∧aD wc xa 58 (fF X)∧aD wc xp 108 (pW Y)∧aD wc xq 41 (dc rq)∧bw aA wc e q wt es∧aG (fun k=>aA k≠0) w wc∧w.heap.size≤xa∧w.heap.size≤xp∧w.heap.size≤xq
theorem xV(h:bw aA w e q wt es)(rq:Rq)(hb:es.bk.Ok)(hq:rq.Good)(Dl:za rq)(hc:bE rq.ax=true)(hn:es.aK.length≤1000)(hr:es.dev.dk.row.length+es.log.aK.length+54≤1000000)(hs:1≤es.dev.dk.size):
  Calls af 101 #[.pointer (some ⟨e,0,none⟩),.agg (dc rq)] w (fh aA e q (es.change rq).1 (es.change rq).2 w):=by
 obtain⟨xq,jw⟩:=ae w.heap.size;obtain⟨w1,aX⟩:=ae (w.alloc (.cells (dc rq) 41));have bu:=aa (aJ aX);have vx:=aa (aH aX jw);have vy:=aa (h.ai bu.o);have HN:=aa h.news;have yM:=aa (show w.heap.size≤xq∧xq<w1.heap.size from⟨ag,vx.o.lt⟩);have Sq:=aa (show ∀W,bw aA W e q wt es→_ from fun W hW=>hW.Q7);obtain⟨X,Y,ok,hdc,hdd⟩:=J4 (fun k=>aA k=3) q.bk es.bk es.a8 rq hb hq Dl hc;have SI:=aa hdc;have Zu:=aa hdd;have nW:=aa hb;have HGO:=aa hq;have HCH:=aa hc;have HNN:=aa hn;have CQ:=aa hr;have NN:=aa hs;obtain⟨a8,hroom⟩:=ae es.a8;have HRO:=aa hroom;rw[hroom] at Sq SI;clear h hb hq Dl hc hdd hdc hroom hn hr hs;go_enter Tryz.func101,Tryz.ntmps101;go_upto_region 1 with fail
 clear aX jw;go_cut [5,6,7,8] from 13 to 28 (fun s5 s6 s7 s8 wc=>s7=.bool ok∧akX aA w e q wt es rq xq X Y s5 s6 wc)
 case first=>
  have ic:=aa (show ∀W,bw aA W e q wt es→aD W xq 41 (dc rq)→(W.cell? ⟨e,4,none⟩=some (.pointer (some ⟨q.bk,0,none⟩))∧W.cell? ⟨e,2,none⟩=some (.pointer (some ⟨q.lq,0,none⟩))∧W.rangeAt xq 0 (dc rq).toList)from fun W hE hQ=>⟨hE.own.cell 4,hE.own.cell 2,fun j u hj=>by rw[gY,hQ.cell j];simpa using hj⟩);obtain⟨wd,hwd⟩:=ae w1.drew;have gQ:Below w1.heap.size w1 wd:=mR;have l9:=aa (vy.o.ai gQ);have kM:=vx.jS gQ;have kz:=aa (show aG (fun k=>aA k≠0) w wd from aG.aU (ar bu.o gQ));clear gQ;refine wp_region_held_drew (S:=(fun W=>W.cell? ⟨e,4,none⟩=some (.pointer (some ⟨q.bk,0,none⟩))∧W.cell? ⟨e,2,none⟩=some (.pointer (some ⟨q.lq,0,none⟩))∧W.rangeAt xq 0 (dc rq).toList)) aW (by rw[hwd];exact ic.o _ l9.o kM.o) (fun hHeld=>?_);rw[hwd] at hHeld ⊢;clear hwd vy vx;refine nZ 0 1 2 3 4 5 6 7 ?_;refine fj 9 (some 23) hHeld 41 (.tmp 3) xq 0 (dc rq).toList _ (fun w' h=>h.2.2) Tryz.underlying41 rfl aF ?_;try simp only[aQ]
  refine wpAnyH_ready (rs:=[8,16,17]) aW dA ?_;refine o8 rfl (fun K hK=>?_) (o8 rfl (fun K hK=>?_) (o8 rfl (fun K hK=>?_) (AllReadyH.nil)))
  ·go_simp;refine(Sq.o _ l9.o).mono ?_;rintro en v1 ⟨rfl,hb⟩;have iW:=aa (show bw aA v1 e q wt es from l9.o.ai hb);have ll:=aa (show aD v1 xq 41 (dc rq)from kM.o.keep hb);have iJ:=aa (show aG (fun k=>aA k≠0) w v1 from kz.o.ai hb);clear hb;go_wp2_with fail;refine bW hK AM fun hh1=>?_
   clear hK K;refine wpAnyH_ready (rs:=[10,16,17]) aW dA ?_;refine o8 rfl (fun K hK=>?_) (o8 rfl (fun K hK=>?_) (o8 rfl (fun K hK=>?_) (AllReadyH.nil)))
   ·go_simp;refine(SI.o _ iW.o.rest.book).mono ?_;rintro en v2 ⟨rfl,cK,ht⟩;have eN:=aa (iW.o.asked cK ht);have gi:=aa (ht.arr ll.o (fun c=>wQ));have fg:=aa (iJ.o.trans (ht.mono fun k _ hk=>oo));clear cK ht;go_wp2_with fail;refine bW hK vA fun RQ=>?_
    clear hK K;refine kW 11 12 13 14 ?_;refine ty 15 ?_;refine qc 16 17 (fun K hK=>?_) fun K hK=>?_
    ·obtain⟨v3,hv3⟩:=ae (v2.alloc (.cells #[.int .i64 0,.int .u32 0,.int .i64 0,.int .i64 0,.int .i64 0] 58));obtain⟨xa,jb⟩:=ae v2.heap.size;have hb:Below v2.heap.size v2 v3:=by rw[←hv3];exact aw (aq _ _) _
     have ei:=aa (show bw aA v3 e q wt es from eN.o.ai hb);have fK:=aa (show aD v3 xq 41 (dc rq)from gi.o.keep hb);have fe:=aa (show aG (fun k=>aA k≠0) w v3 from fg.o.ai hb);have fE:=aa (show aD v3 xa 58 #[.int .i64 0,.int .u32 0,.int .i64 0,.int .i64 0,.int .i64 0] by rw[←hv3,←jb];exact aD.fresh v2 _ _);have Ci:=aa (show w.heap.size≤xa from LJ);have qB:=aa (show xq<xa from uA);clear hb;go_simp;go_wp2_with fail;try rw[hv3]
     try rw[jb]
     clear hv3 jb;refine bW hK pC fun K3=>?_
     clear hK K;refine cD 17 fun K hK=>?_
     obtain⟨v4,hv4⟩:=ae (v3.alloc (.cells #[.int .u32 0,.int .i64 0,.int .i64 0,.int .u32 0,.int .i64 0,.int .i64 0,.int .i64 0] 108));obtain⟨xp,mz⟩:=ae v3.heap.size;have hb:=aJ hv4;have mO:=aa (show bw aA v4 e q wt es from ei.o.ai hb);have nV:=aa (show aD v4 xq 41 (dc rq)from fK.o.keep hb);have oG:=aa (show aG (fun k=>aA k≠0) w v4 from fe.o.ai hb);have jY:=aa (show aD v4 xa 58 #[.int .i64 0,.int .u32 0,.int .i64 0,.int .i64 0,.int .i64 0] from fE.o.keep hb);have jX:=aa (aH hv4 mz);have Ch:=aa (show w.heap.size≤xp from LI);have qA:=aa (show xq<xp from xd);have jW:=aa (show xa≠xp from Lx);clear hb;go_simp;go_wp2_with fail;try rw[hv4]
     try rw[mz]
     clear hv4 mz;refine bW hK qN fun RP=>?_
     exact yT
    obtain⟨v3,hv3⟩:=ae (v2.alloc (.cells #[.int .u32 0,.int .i64 0,.int .i64 0,.int .u32 0,.int .i64 0,.int .i64 0,.int .i64 0] 108));obtain⟨xp,mz⟩:=ae v2.heap.size;have hb:=aJ hv3;have ei:=aa (show bw aA v3 e q wt es from eN.o.ai hb);have fK:=aa (show aD v3 xq 41 (dc rq)from gi.o.keep hb);have fe:=aa (show aG (fun k=>aA k≠0) w v3 from fg.o.ai hb);have fD:=aa (aH hv3 mz);have Ch:=aa (show w.heap.size≤xp from LH);have qA:=aa (show xq<xp from uA);clear hb;go_simp;go_wp2_with fail;try rw[hv3]
    try rw[mz]
    clear hv3 mz;refine bW hK pC fun K3=>?_
    clear hK K;refine cD 16 fun K hK=>?_
    obtain⟨v4,hv4⟩:=ae (v3.alloc (.cells #[.int .i64 0,.int .u32 0,.int .i64 0,.int .i64 0,.int .i64 0] 58));obtain⟨xa,jb⟩:=ae v3.heap.size;have hb:=aJ hv4;have mO:=aa (show bw aA v4 e q wt es from ei.o.ai hb);have nV:=aa (show aD v4 xq 41 (dc rq)from fK.o.keep hb);have oG:=aa (show aG (fun k=>aA k≠0) w v4 from fe.o.ai hb);have jX:=aa (show aD v4 xp 108 #[.int .u32 0,.int .i64 0,.int .i64 0,.int .u32 0,.int .i64 0,.int .i64 0,.int .i64 0] from fD.o.keep hb);have jY:=aa (aH hv4 jb);have Ci:=aa (show w.heap.size≤xa from LG);have qB:=aa (show xq<xa from xd);have jW:=aa (show xp≠xa from Lv);clear hb;go_simp;go_wp2_with fail;try rw[hv4]
    try rw[jb]
    clear hv4 jb;refine bW hK qN fun RP=>?_
    exact yT
   ·obtain⟨v2,hv2⟩:=ae (v1.alloc (.cells #[.int .i64 0,.int .u32 0,.int .i64 0,.int .i64 0,.int .i64 0] 58));obtain⟨xa,jb⟩:=ae v1.heap.size;have hb:Below v1.heap.size v1 v2:=by rw[←hv2];exact aw (aq _ _) _
    have eN:=aa (show bw aA v2 e q wt es from iW.o.ai hb);have gi:=aa (show aD v2 xq 41 (dc rq)from ll.o.keep hb);have fg:=aa (show aG (fun k=>aA k≠0) w v2 from iJ.o.ai hb);have kO:=aa (show aD v2 xa 58 #[.int .i64 0,.int .u32 0,.int .i64 0,.int .i64 0,.int .i64 0] by rw[←hv2,←jb];exact aD.fresh v1 _ _);have Ci:=aa (show w.heap.size≤xa from LK);have qB:=aa (show xq<xa from AB);clear hb;go_simp;go_wp2_with fail;try rw[hv2]
    try rw[jb]
    clear hv2 jb;refine bW hK vA fun RQ=>?_
    clear hK K;refine qc 10 17 (fun K hK=>?_) fun K hK=>?_
    ·go_simp;refine(SI.o _ eN.o.rest.book).mono ?_;rintro en v3 ⟨rfl,cK,ht⟩;have ei:=aa (eN.o.asked cK ht);have fK:=aa (ht.arr gi.o (fun c=>wQ));have fe:=aa (fg.o.trans (ht.mono fun k _ hk=>oo));have fE:=aa (ht.arr kO.o (fun c=>yx));clear cK ht;go_wp2_with fail;refine bW hK pC fun K3=>?_
     clear hK K;refine kW 11 12 13 14 ?_;refine ty 15 ?_;refine cD 17 fun K hK=>?_
     obtain⟨v4,hv4⟩:=ae (v3.alloc (.cells #[.int .u32 0,.int .i64 0,.int .i64 0,.int .u32 0,.int .i64 0,.int .i64 0,.int .i64 0] 108));obtain⟨xp,mz⟩:=ae v3.heap.size;have hb:=aJ hv4;have mO:=aa (show bw aA v4 e q wt es from ei.o.ai hb);have nV:=aa (show aD v4 xq 41 (dc rq)from fK.o.keep hb);have oG:=aa (show aG (fun k=>aA k≠0) w v4 from fe.o.ai hb);have jY:=aa (show aD v4 xa 58 #[.int .i64 0,.int .u32 0,.int .i64 0,.int .i64 0,.int .i64 0] from fE.o.keep hb);have jX:=aa (aH hv4 mz);have Ch:=aa (show w.heap.size≤xp from LI);have qA:=aa (show xq<xp from xd);have jW:=aa (show xa≠xp from Lx);clear hb;go_simp;go_wp2_with fail;try rw[hv4]
     try rw[mz]
     clear hv4 mz;refine bW hK qN fun RP=>?_
     exact yT
    obtain⟨v3,hv3⟩:=ae (v2.alloc (.cells #[.int .u32 0,.int .i64 0,.int .i64 0,.int .u32 0,.int .i64 0,.int .i64 0,.int .i64 0] 108));obtain⟨xp,mz⟩:=ae v2.heap.size;have hb:=aJ hv3;have ei:=aa (show bw aA v3 e q wt es from eN.o.ai hb);have fK:=aa (show aD v3 xq 41 (dc rq)from gi.o.keep hb);have fe:=aa (show aG (fun k=>aA k≠0) w v3 from fg.o.ai hb);have fE:=aa (show aD v3 xa 58 #[.int .i64 0,.int .u32 0,.int .i64 0,.int .i64 0,.int .i64 0] from kO.o.keep hb);have fD:=aa (aH hv3 mz);have Ch:=aa (show w.heap.size≤xp from LH);have qA:=aa (show xq<xp from uA);have jW:=aa (show xa≠xp from by have:=kO.o.lt;omega);clear hb;go_simp;go_wp2_with fail;try rw[hv3]
    try rw[mz]
    clear hv3 mz;refine bW hK pC fun K3=>?_
    clear hK K;refine cD 10 fun K hK=>?_
    go_simp;refine(SI.o _ ei.o.rest.book).mono ?_;rintro en v4 ⟨rfl,cK,ht⟩;have mO:=aa (ei.o.asked cK ht);have nV:=aa (ht.arr fK.o (fun c=>wQ));have oG:=aa (fe.o.trans (ht.mono fun k _ hk=>oo));have jY:=aa (ht.arr fE.o (fun c=>yx));have jX:=aa (ht.arr fD.o (fun c=>yw));clear cK ht;go_wp2_with fail;refine bW hK qN fun RP=>?_
    clear hK K;refine kW 11 12 13 14 ?_;refine ty 15 ?_;exact yT
   obtain⟨v2,hv2⟩:=ae (v1.alloc (.cells #[.int .u32 0,.int .i64 0,.int .i64 0,.int .u32 0,.int .i64 0,.int .i64 0,.int .i64 0] 108));obtain⟨xp,mz⟩:=ae v1.heap.size;have hb:=aJ hv2;have eN:=aa (show bw aA v2 e q wt es from iW.o.ai hb);have gi:=aa (show aD v2 xq 41 (dc rq)from ll.o.keep hb);have fg:=aa (show aG (fun k=>aA k≠0) w v2 from iJ.o.ai hb);have kN:=aa (aH hv2 mz);have Ch:=aa (show w.heap.size≤xp from by rw[←mz];exact iJ.o.size);have qA:=aa (show xq<xp from AB);clear hb;go_simp;go_wp2_with fail;try rw[hv2]
   try rw[mz]
   clear hv2 mz;refine bW hK vA fun RQ=>?_
   clear hK K;refine qc 10 16 (fun K hK=>?_) fun K hK=>?_
   ·go_simp;refine(SI.o _ eN.o.rest.book).mono ?_;rintro en v3 ⟨rfl,cK,ht⟩;have ei:=aa (eN.o.asked cK ht);have fK:=aa (ht.arr gi.o (fun c=>wQ));have fe:=aa (fg.o.trans (ht.mono fun k _ hk=>oo));have fD:=aa (ht.arr kN.o (fun c=>yw));clear cK ht;go_wp2_with fail;refine bW hK pC fun K3=>?_
    clear hK K;refine kW 11 12 13 14 ?_;refine ty 15 ?_;refine cD 16 fun K hK=>?_
    obtain⟨v4,hv4⟩:=ae (v3.alloc (.cells #[.int .i64 0,.int .u32 0,.int .i64 0,.int .i64 0,.int .i64 0] 58));obtain⟨xa,jb⟩:=ae v3.heap.size;have hb:=aJ hv4;have mO:=aa (show bw aA v4 e q wt es from ei.o.ai hb);have nV:=aa (show aD v4 xq 41 (dc rq)from fK.o.keep hb);have oG:=aa (show aG (fun k=>aA k≠0) w v4 from fe.o.ai hb);have jX:=aa (show aD v4 xp 108 #[.int .u32 0,.int .i64 0,.int .i64 0,.int .u32 0,.int .i64 0,.int .i64 0,.int .i64 0] from fD.o.keep hb);have jY:=aa (aH hv4 jb);have Ci:=aa (show w.heap.size≤xa from LG);have qB:=aa (show xq<xa from xd);have jW:=aa (show xp≠xa from Lv);clear hb;go_simp;go_wp2_with fail;try rw[hv4]
    try rw[jb]
    clear hv4 jb;refine bW hK qN fun RP=>?_
    exact yT
   obtain⟨v3,hv3⟩:=ae (v2.alloc (.cells #[.int .i64 0,.int .u32 0,.int .i64 0,.int .i64 0,.int .i64 0] 58));obtain⟨xa,jb⟩:=ae v2.heap.size;have hb:=aJ hv3;have ei:=aa (show bw aA v3 e q wt es from eN.o.ai hb);have fK:=aa (show aD v3 xq 41 (dc rq)from gi.o.keep hb);have fe:=aa (show aG (fun k=>aA k≠0) w v3 from fg.o.ai hb);have fD:=aa (show aD v3 xp 108 #[.int .u32 0,.int .i64 0,.int .i64 0,.int .u32 0,.int .i64 0,.int .i64 0,.int .i64 0] from kN.o.keep hb);have fE:=aa (aH hv3 jb);have Ci:=aa (show w.heap.size≤xa from LJ);have qB:=aa (show xq<xa from uA);have jW:=aa (show xp≠xa from by have:=kN.o.lt;omega);clear hb;go_simp;go_wp2_with fail;try rw[hv3]
   try rw[jb]
   clear hv3 jb;refine bW hK pC fun K3=>?_
   clear hK K;refine cD 10 fun K hK=>?_
   go_simp;refine(SI.o _ ei.o.rest.book).mono ?_;rintro en v4 ⟨rfl,cK,ht⟩;have mO:=aa (ei.o.asked cK ht);have nV:=aa (ht.arr fK.o (fun c=>wQ));have oG:=aa (fe.o.trans (ht.mono fun k _ hk=>oo));have jX:=aa (ht.arr fD.o (fun c=>yw));have jY:=aa (ht.arr fE.o (fun c=>yx));clear cK ht;go_wp2_with fail;refine bW hK qN fun RP=>?_
   clear hK K;refine kW 11 12 13 14 ?_;refine ty 15 ?_;exact yT
  ·obtain⟨v1,kA⟩:=ae (wd.alloc (.cells #[.int .i64 0,.int .u32 0,.int .i64 0,.int .i64 0,.int .i64 0] 58));obtain⟨xa,jb⟩:=ae wd.heap.size;have hb:Below wd.heap.size wd v1:=by rw[←kA];exact aw (aq _ _) _
   have iW:=aa (show bw aA v1 e q wt es from l9.o.ai hb);have ll:=aa (show aD v1 xq 41 (dc rq)from kM.o.keep hb);have iJ:=aa (show aG (fun k=>aA k≠0) w v1 from kz.o.ai hb);have GO:=aa (show aD v1 xa 58 #[.int .i64 0,.int .u32 0,.int .i64 0,.int .i64 0,.int .i64 0] by rw[←kA,←jb];exact aD.fresh wd _ _);have Ci:=aa (show w.heap.size≤xa from by rw[←jb];exact kz.o.size);have qB:=aa (show xq<xa from AA);clear hb;go_simp;go_wp2_with fail;try rw[kA]
   try rw[jb]
   clear kA jb;refine bW hK AM fun hh1=>?_
   clear hK K;refine qc 8 17 (fun K hK=>?_) fun K hK=>?_
   ·go_simp;refine(Sq.o _ iW.o).mono ?_;rintro en v2 ⟨rfl,hb⟩;have eN:=aa (show bw aA v2 e q wt es from iW.o.ai hb);have gi:=aa (show aD v2 xq 41 (dc rq)from ll.o.keep hb);have fg:=aa (show aG (fun k=>aA k≠0) w v2 from iJ.o.ai hb);have kO:=aa (show aD v2 xa 58 #[.int .i64 0,.int .u32 0,.int .i64 0,.int .i64 0,.int .i64 0] from GO.o.keep hb);clear hb;go_wp2_with fail;refine bW hK vA fun RQ=>?_
    clear hK K;refine qc 10 17 (fun K hK=>?_) fun K hK=>?_
    ·go_simp;refine(SI.o _ eN.o.rest.book).mono ?_;rintro en v3 ⟨rfl,cK,ht⟩;have ei:=aa (eN.o.asked cK ht);have fK:=aa (ht.arr gi.o (fun c=>wQ));have fe:=aa (fg.o.trans (ht.mono fun k _ hk=>oo));have fE:=aa (ht.arr kO.o (fun c=>yx));clear cK ht;go_wp2_with fail;refine bW hK pC fun K3=>?_
     clear hK K;refine kW 11 12 13 14 ?_;refine ty 15 ?_;refine cD 17 fun K hK=>?_
     obtain⟨v4,hv4⟩:=ae (v3.alloc (.cells #[.int .u32 0,.int .i64 0,.int .i64 0,.int .u32 0,.int .i64 0,.int .i64 0,.int .i64 0] 108));obtain⟨xp,mz⟩:=ae v3.heap.size;have hb:=aJ hv4;have mO:=aa (show bw aA v4 e q wt es from ei.o.ai hb);have nV:=aa (show aD v4 xq 41 (dc rq)from fK.o.keep hb);have oG:=aa (show aG (fun k=>aA k≠0) w v4 from fe.o.ai hb);have jY:=aa (show aD v4 xa 58 #[.int .i64 0,.int .u32 0,.int .i64 0,.int .i64 0,.int .i64 0] from fE.o.keep hb);have jX:=aa (aH hv4 mz);have Ch:=aa (show w.heap.size≤xp from LI);have qA:=aa (show xq<xp from xd);have jW:=aa (show xa≠xp from Lx);clear hb;go_simp;go_wp2_with fail;try rw[hv4]
     try rw[mz]
     clear hv4 mz;refine bW hK qN fun RP=>?_
     exact yT
    obtain⟨v3,hv3⟩:=ae (v2.alloc (.cells #[.int .u32 0,.int .i64 0,.int .i64 0,.int .u32 0,.int .i64 0,.int .i64 0,.int .i64 0] 108));obtain⟨xp,mz⟩:=ae v2.heap.size;have hb:=aJ hv3;have ei:=aa (show bw aA v3 e q wt es from eN.o.ai hb);have fK:=aa (show aD v3 xq 41 (dc rq)from gi.o.keep hb);have fe:=aa (show aG (fun k=>aA k≠0) w v3 from fg.o.ai hb);have fE:=aa (show aD v3 xa 58 #[.int .i64 0,.int .u32 0,.int .i64 0,.int .i64 0,.int .i64 0] from kO.o.keep hb);have fD:=aa (aH hv3 mz);have Ch:=aa (show w.heap.size≤xp from LH);have qA:=aa (show xq<xp from uA);have jW:=aa (show xa≠xp from by have:=kO.o.lt;omega);clear hb;go_simp;go_wp2_with fail;try rw[hv3]
    try rw[mz]
    clear hv3 mz;refine bW hK pC fun K3=>?_
    clear hK K;refine cD 10 fun K hK=>?_
    go_simp;refine(SI.o _ ei.o.rest.book).mono ?_;rintro en v4 ⟨rfl,cK,ht⟩;have mO:=aa (ei.o.asked cK ht);have nV:=aa (ht.arr fK.o (fun c=>wQ));have oG:=aa (fe.o.trans (ht.mono fun k _ hk=>oo));have jY:=aa (ht.arr fE.o (fun c=>yx));have jX:=aa (ht.arr fD.o (fun c=>yw));clear cK ht;go_wp2_with fail;refine bW hK qN fun RP=>?_
    clear hK K;refine kW 11 12 13 14 ?_;refine ty 15 ?_;exact yT
   obtain⟨v2,hv2⟩:=ae (v1.alloc (.cells #[.int .u32 0,.int .i64 0,.int .i64 0,.int .u32 0,.int .i64 0,.int .i64 0,.int .i64 0] 108));obtain⟨xp,mz⟩:=ae v1.heap.size;have hb:=aJ hv2;have eN:=aa (show bw aA v2 e q wt es from iW.o.ai hb);have gi:=aa (show aD v2 xq 41 (dc rq)from ll.o.keep hb);have fg:=aa (show aG (fun k=>aA k≠0) w v2 from iJ.o.ai hb);have kO:=aa (show aD v2 xa 58 #[.int .i64 0,.int .u32 0,.int .i64 0,.int .i64 0,.int .i64 0] from GO.o.keep hb);have kN:=aa (aH hv2 mz);have Ch:=aa (show w.heap.size≤xp from by rw[←mz];exact iJ.o.size);have qA:=aa (show xq<xp from AB);have jW:=aa (show xa≠xp from by have:=GO.o.lt;omega);clear hb;go_simp;go_wp2_with fail;try rw[hv2]
   try rw[mz]
   clear hv2 mz;refine bW hK vA fun RQ=>?_
   clear hK K;refine cD 8 fun K hK=>?_
   go_simp;refine(Sq.o _ eN.o).mono ?_;rintro en v3 ⟨rfl,hb⟩;have ei:=aa (show bw aA v3 e q wt es from eN.o.ai hb);have fK:=aa (show aD v3 xq 41 (dc rq)from gi.o.keep hb);have fe:=aa (show aG (fun k=>aA k≠0) w v3 from fg.o.ai hb);have fE:=aa (show aD v3 xa 58 #[.int .i64 0,.int .u32 0,.int .i64 0,.int .i64 0,.int .i64 0] from kO.o.keep hb);have fD:=aa (show aD v3 xp 108 #[.int .u32 0,.int .i64 0,.int .i64 0,.int .u32 0,.int .i64 0,.int .i64 0,.int .i64 0] from kN.o.keep hb);clear hb;go_wp2_with fail;refine bW hK pC fun K3=>?_
   clear hK K;refine cD 10 fun K hK=>?_
   go_simp;refine(SI.o _ ei.o.rest.book).mono ?_;rintro en v4 ⟨rfl,cK,ht⟩;have mO:=aa (ei.o.asked cK ht);have nV:=aa (ht.arr fK.o (fun c=>wQ));have oG:=aa (fe.o.trans (ht.mono fun k _ hk=>oo));have jY:=aa (ht.arr fE.o (fun c=>yx));have jX:=aa (ht.arr fD.o (fun c=>yw));clear cK ht;go_wp2_with fail;refine bW hK qN fun RP=>?_
   clear hK K;refine kW 11 12 13 14 ?_;refine ty 15 ?_;exact yT
  obtain⟨v1,kA⟩:=ae (wd.alloc (.cells #[.int .u32 0,.int .i64 0,.int .i64 0,.int .u32 0,.int .i64 0,.int .i64 0,.int .i64 0] 108));obtain⟨xp,mz⟩:=ae wd.heap.size;have hb:=aJ kA;have iW:=aa (show bw aA v1 e q wt es from l9.o.ai hb);have ll:=aa (show aD v1 xq 41 (dc rq)from kM.o.keep hb);have iJ:=aa (show aG (fun k=>aA k≠0) w v1 from kz.o.ai hb);have GN:=aa (aH kA mz);have Ch:=aa (show w.heap.size≤xp from by rw[←mz];exact kz.o.size);have qA:=aa (show xq<xp from AA);clear hb;go_simp;go_wp2_with fail;try rw[kA]
  try rw[mz]
  clear kA mz;refine bW hK AM fun hh1=>?_
  clear hK K;refine qc 8 16 (fun K hK=>?_) fun K hK=>?_
  ·go_simp;refine(Sq.o _ iW.o).mono ?_;rintro en v2 ⟨rfl,hb⟩;have eN:=aa (show bw aA v2 e q wt es from iW.o.ai hb);have gi:=aa (show aD v2 xq 41 (dc rq)from ll.o.keep hb);have fg:=aa (show aG (fun k=>aA k≠0) w v2 from iJ.o.ai hb);have kN:=aa (show aD v2 xp 108 #[.int .u32 0,.int .i64 0,.int .i64 0,.int .u32 0,.int .i64 0,.int .i64 0,.int .i64 0] from GN.o.keep hb);clear hb;go_wp2_with fail;refine bW hK vA fun RQ=>?_
   clear hK K;refine qc 10 16 (fun K hK=>?_) fun K hK=>?_
   ·go_simp;refine(SI.o _ eN.o.rest.book).mono ?_;rintro en v3 ⟨rfl,cK,ht⟩;have ei:=aa (eN.o.asked cK ht);have fK:=aa (ht.arr gi.o (fun c=>wQ));have fe:=aa (fg.o.trans (ht.mono fun k _ hk=>oo));have fD:=aa (ht.arr kN.o (fun c=>yw));clear cK ht;go_wp2_with fail;refine bW hK pC fun K3=>?_
    clear hK K;refine kW 11 12 13 14 ?_;refine ty 15 ?_;refine cD 16 fun K hK=>?_
    obtain⟨v4,hv4⟩:=ae (v3.alloc (.cells #[.int .i64 0,.int .u32 0,.int .i64 0,.int .i64 0,.int .i64 0] 58));obtain⟨xa,jb⟩:=ae v3.heap.size;have hb:=aJ hv4;have mO:=aa (show bw aA v4 e q wt es from ei.o.ai hb);have nV:=aa (show aD v4 xq 41 (dc rq)from fK.o.keep hb);have oG:=aa (show aG (fun k=>aA k≠0) w v4 from fe.o.ai hb);have jX:=aa (show aD v4 xp 108 #[.int .u32 0,.int .i64 0,.int .i64 0,.int .u32 0,.int .i64 0,.int .i64 0,.int .i64 0] from fD.o.keep hb);have jY:=aa (aH hv4 jb);have Ci:=aa (show w.heap.size≤xa from LG);have qB:=aa (show xq<xa from xd);have jW:=aa (show xp≠xa from Lv);clear hb;go_simp;go_wp2_with fail;try rw[hv4]
    try rw[jb]
    clear hv4 jb;refine bW hK qN fun RP=>?_
    exact yT
   obtain⟨v3,hv3⟩:=ae (v2.alloc (.cells #[.int .i64 0,.int .u32 0,.int .i64 0,.int .i64 0,.int .i64 0] 58));obtain⟨xa,jb⟩:=ae v2.heap.size;have hb:=aJ hv3;have ei:=aa (show bw aA v3 e q wt es from eN.o.ai hb);have fK:=aa (show aD v3 xq 41 (dc rq)from gi.o.keep hb);have fe:=aa (show aG (fun k=>aA k≠0) w v3 from fg.o.ai hb);have fD:=aa (show aD v3 xp 108 #[.int .u32 0,.int .i64 0,.int .i64 0,.int .u32 0,.int .i64 0,.int .i64 0,.int .i64 0] from kN.o.keep hb);have fE:=aa (aH hv3 jb);have Ci:=aa (show w.heap.size≤xa from LJ);have qB:=aa (show xq<xa from uA);have jW:=aa (show xp≠xa from by have:=kN.o.lt;omega);clear hb;go_simp;go_wp2_with fail;try rw[hv3]
   try rw[jb]
   clear hv3 jb;refine bW hK pC fun K3=>?_
   clear hK K;refine cD 10 fun K hK=>?_
   go_simp;refine(SI.o _ ei.o.rest.book).mono ?_;rintro en v4 ⟨rfl,cK,ht⟩;have mO:=aa (ei.o.asked cK ht);have nV:=aa (ht.arr fK.o (fun c=>wQ));have oG:=aa (fe.o.trans (ht.mono fun k _ hk=>oo));have jX:=aa (ht.arr fD.o (fun c=>yw));have jY:=aa (ht.arr fE.o (fun c=>yx));clear cK ht;go_wp2_with fail;refine bW hK qN fun RP=>?_
   clear hK K;refine kW 11 12 13 14 ?_;refine ty 15 ?_;exact yT
  obtain⟨v2,hv2⟩:=ae (v1.alloc (.cells #[.int .i64 0,.int .u32 0,.int .i64 0,.int .i64 0,.int .i64 0] 58));obtain⟨xa,jb⟩:=ae v1.heap.size;have hb:=aJ hv2;have eN:=aa (show bw aA v2 e q wt es from iW.o.ai hb);have gi:=aa (show aD v2 xq 41 (dc rq)from ll.o.keep hb);have fg:=aa (show aG (fun k=>aA k≠0) w v2 from iJ.o.ai hb);have kN:=aa (show aD v2 xp 108 #[.int .u32 0,.int .i64 0,.int .i64 0,.int .u32 0,.int .i64 0,.int .i64 0,.int .i64 0] from GN.o.keep hb);have kO:=aa (aH hv2 jb);have Ci:=aa (show w.heap.size≤xa from LK);have qB:=aa (show xq<xa from AB);have jW:=aa (show xp≠xa from by have:=GN.o.lt;omega);clear hb;go_simp;go_wp2_with fail;try rw[hv2]
  try rw[jb]
  clear hv2 jb;refine bW hK vA fun RQ=>?_
  clear hK K;refine cD 8 fun K hK=>?_
  go_simp;refine(Sq.o _ eN.o).mono ?_;rintro en v3 ⟨rfl,hb⟩;have ei:=aa (show bw aA v3 e q wt es from eN.o.ai hb);have fK:=aa (show aD v3 xq 41 (dc rq)from gi.o.keep hb);have fe:=aa (show aG (fun k=>aA k≠0) w v3 from fg.o.ai hb);have fD:=aa (show aD v3 xp 108 #[.int .u32 0,.int .i64 0,.int .i64 0,.int .u32 0,.int .i64 0,.int .i64 0,.int .i64 0] from kN.o.keep hb);have fE:=aa (show aD v3 xa 58 #[.int .i64 0,.int .u32 0,.int .i64 0,.int .i64 0,.int .i64 0] from kO.o.keep hb);clear hb;go_wp2_with fail;refine bW hK pC fun K3=>?_
  clear hK K;refine cD 10 fun K hK=>?_
  go_simp;refine(SI.o _ ei.o.rest.book).mono ?_;rintro en v4 ⟨rfl,cK,ht⟩;have mO:=aa (ei.o.asked cK ht);have nV:=aa (ht.arr fK.o (fun c=>wQ));have oG:=aa (fe.o.trans (ht.mono fun k _ hk=>oo));have jX:=aa (ht.arr fD.o (fun c=>yw));have jY:=aa (ht.arr fE.o (fun c=>yx));clear cK ht;go_wp2_with fail;refine bW hK qN fun RP=>?_
  clear hK K;refine kW 11 12 13 14 ?_;refine ty 15 ?_;exact yT
 case rest=>
  obtain⟨rfl,xa,xp,rfl,rfl,hA,hP,hQ,hE,hT,jb,mz,afv⟩:=hcut;have HP:=aa hP;have HE:=aa hE;have HT:=aa hT;have HA:=aa hA;have HQ:=aa hQ;have HX:=aa (show aA xa=0∧aA xp=0∧aA xq=0 from⟨(HN.o _ jb).1,(HN.o _ mz).1,(HN.o _ afv).1⟩);have HXL:=aa (show w.heap.size≤xa∧w.heap.size≤xp∧w.heap.size≤xq from⟨jb,mz,afv⟩);clear hA hP hQ hE hT vy vx jb mz afv yM bu SI Sq w1;rcases Zu.o with⟨c0,hX,hY,rfl⟩|⟨c0,hX,hY,rfl⟩
  ·have HC0:=aa c0;have HXE:=aa hX;have HYE:=aa hY;obtain⟨h1,h2⟩:=adY nW.o HGO.o HCH.o c0;have NP:=aa (show X.ok=true from by rw[hX];exact h1);obtain⟨b,hb⟩:=ae (jf X);have hlen:b.length=cM X.ax:=by rw[←hb,hX];exact I7 (Rec.FX h1)
   have uY:=aa (show b.length≤32∧b≠ []∧22+(b.length:Int)≤es.a8 from by
    have h3:recKind X.ax=true:=by rw[hX];exact Rec.FX h1
    have h4:1≤cM X.ax∧cM X.ax≤32:=by
     simp only[recKind,Bool.and_eq_true,decide_eq_true_eq] at h3;rcases(show X.ax=1∨X.ax=2∨X.ax=3∨X.ax=4∨X.ax=5 from ag)with h|h|h|h|h <;>rw[h] <;>decide
    refine⟨ag,fun e=>by rw[e] at hlen;simp at hlen;omega,by rw[hlen,hX];exact h2⟩)
   have Su:=aa (show Calls af 217 #[.agg (fF X)] wc (uo b wc)from by rw[←hb];exact abJ X wc NP.o);have jl:=aa hb;clear c0 hX hY h1 h2 hlen hb;go_wp2_with (refine aB rfl 58 (.tmp 5) rfl xa 58 _ HA.o rfl _ Tryz.underlying58 rfl bC ?_);refine Su.o.mono ?_;rintro en w2 ⟨BA,BC,rfl,tN,hb2,RS,hbg,alK⟩;obtain⟨gb,off,rfl,-,-⟩:=tN uY.o.2.1;have Lj:=aa tN;have wL:=aa (HE.o.ai hb2);have jI:=aa (HA.o.keep hb2);have Zi:=aa (HP.o.keep hb2);have rC:=aa (HQ.o.keep hb2);have gV:=aa (HT.o.ai hb2);clear tN hb2 RS hbg alK Su HE HA HP HQ HT;have x2:w2.cell? ⟨e,2,none⟩=some (.pointer (some ⟨q.lq,0,none⟩)):=wL.o.own.cell 2;obtain⟨lv,hlv⟩:=wL.o.rest.log;have N3:=aa (show Calls af 218 #[.pointer (some ⟨q.lq,0,none⟩),.slice (some ⟨gb,off,none⟩) b.length BC] w2 (Qf (fun k=>aA k=1) q.lq q.rl q.p es.log es.rg es.dev.dk.size b w2)from NK hlv b gb off BC Lj.o uY.o.2.1 uY.o.1 wL.o.rest.iy);have akm:=aa (show es.log.Ok∧es.log.used≤es.rg.bytes es.dev.dk.size from⟨hlv.ok,hlv.fit⟩);have aky:=aa (show es.log.fits (es.rg.bytes es.dev.dk.size) b.length=decide (es.log.last≠18446744073709551615)from by
    unfold Lg.fits;have h1:=uY.o;have h2:=akm.o.2;unfold Es.a8 at h1;rw[decide_eq_true (show b.length≤32 from h1.1),decide_eq_true (show 22+b.length+es.log.used≤es.rg.bytes es.dev.dk.size from ag)];simp)
   clear hlv lv Lj;by_cases c1:es.log.last=18446744073709551615
   ·have GK:=aa (show es.change rq=([cy rq 220],es)from by unfold Es.change;rw[if_neg (by rw[HC0.o];exact fun h=>h rfl),if_pos c1]);go_wp2_with fail;refine N3.o.mono ?_;rintro en w3 ⟨hap,CH⟩;rw[aky.o,if_neg (by simp[c1])] at hap;obtain⟨rfl,hl3⟩:=hap;have KI:=aa (show bw (grow aA w2 w3 1) w3 e q wt es from wL.o.keeps (wL.o.rest.append (l:=es.log) hl3 CH) rfl rfl CH (fun k hk=>UA) (np wL.o.rest.lt));have jE:=aa (CH.arr rC.o (fun c=>by have c':aA xq=1:=c;rw[HX.o.2.2] at c';exact absurd c' aM));have jR:=aa (gV.o.trans (CH.mono fun k _ hk=>Uo));clear hl3 CH c1 wL jI Zi rC x2 N3;go_wp2_with (refine aB rfl 41 (.tmp 3) rfl xq 41 _ jE.o rfl _ Tryz.underlying41 rfl aF ?_);refine(lz rq 220 w3).mono ?_;rintro en w4 ⟨A,cp,rfl,hr4,hb4⟩;have HF:=aa (show fh aA e q (es.change rq).1 (es.change rq).2 w (.returned (.slice A 1 cp)) w4 from by
     rw[GK.o];exact fh.one KI.o (fun k hk=>by
      rcases iR k hk with h|h
      ·exact .inl h
      exact .inr (bf gV.o.size h)) jR.o hr4 hb4)
    clear hr4 hb4;go_wp2_with fail;go_ret;exact HF.o
   have hf1:es.log.fits (es.rg.bytes es.dev.dk.size) b.length=true:=by rw[aky.o];exact decide_eq_true c1
   have kZ:=aa c1;go_wp2_with fail;refine N3.o.mono ?_;rintro en w3 ⟨hap,CH⟩;rw[if_pos hf1] at hap;obtain⟨rfl,hl3⟩:=hap;obtain⟨Nk,aaY⟩:=ae (({es with log:=es.log.append b}:Es));have akB:=aa aaY;have KI:=aa (show bw (grow aA w2 w3 1) w3 e q wt Nk from by rw[←aaY];exact wL.o.keeps (wL.o.rest.append (l:=es.log.append b) hl3 CH) rfl rfl CH (fun k hk=>UA) (np wL.o.rest.lt));have no1:∀x,aA x=0→¬aA x=1:=fun x h c=>by rw[h] at c;exact absurd c aM
   have pq:=aa (CH.arr jI.o (no1 _ HX.o.1));have HP3:=aa (CH.arr Zi.o (no1 _ HX.o.2.1));have jR:=aa (gV.o.trans (CH.mono fun k _ hk=>Uo));have NL:=aa (show(grow aA w2 w3 1) xa=0∧(grow aA w2 w3 1) xp=0 from⟨(dM jI.o.lt).trans HX.o.1,(dM Zi.o.lt).trans HX.o.2.1⟩);have HS3:=aa (show ∀k,(grow aA w2 w3 1) k≠0→aA k≠0∨w.heap.size≤k from fun k hk=>by
    rcases iR k hk with h|h
    ·exact .inl h
    exact .inr (bf gV.o.size h))
   obtain⟨qQ,aip⟩:=ae (grow aA w2 w3 1);rw[aip] at KI NL HS3;have NZ:=aa (show Nk.bk=es.bk∧Nk.aK=es.aK∧Nk.up=es.up∧Nk.dev=es.dev∧Nk.rg=es.rg∧Nk.log=es.log.append b from by rw[←aaY];exact⟨rfl,rfl,rfl,rfl,rfl,rfl⟩);clear hl3 CH c1 wL jI Zi rC x2 N3 no1 hf1 gV aip aaY;have x4:w3.cell? ⟨e,4,none⟩=some (.pointer (some ⟨q.bk,0,none⟩)):=KI.o.own.cell 4;have akP:=aa (show ∀W,bw qQ W e q wt Nk→Calls af 15 #[.pointer (some ⟨q.bk,0,none⟩),.agg (fF X)] W (mG (fun k=>qQ k=3) W q.bk (es.bk.apply X))from fun W hW=>Cz (fun k=>qQ k=3) q.bk es.bk W X (by rw[←NZ.o.1];exact hW.rest.book) nW.o NP.o);go_upto_region 8 with fail
   clear x4;have ic:=aa (show ∀W,bw qQ W e q wt Nk→aD W xa 58 (fF X)→(W.cell? ⟨e,4,none⟩=some (.pointer (some ⟨q.bk,0,none⟩))∧W.rangeAt xa 0 (fF X).toList)from fun W hE hA=>⟨hE.own.cell 4,fun j u hj=>by rw[gY,hA.cell j];simpa using hj⟩);obtain⟨wd,hwd⟩:=ae w3.drew;have gQ:Below w3.heap.size w3 wd:=mR;have EO:=aa (KI.o.ai gQ);have HAd:=aa (pq.o.keep gQ);have Ss:=aa (HP3.o.keep gQ);have KD:=aa (jR.o.ai gQ);clear gQ;refine wp_region_held_drew (S:=(fun W=>W.cell? ⟨e,4,none⟩=some (.pointer (some ⟨q.bk,0,none⟩))∧W.rangeAt xa 0 (fF X).toList)) aW (by rw[hwd];exact ic.o _ EO.o HAd.o) (fun hHeld=>?_);rw[hwd] at hHeld ⊢;clear hwd KI pq HP3 jR;refine kW 0 1 2 3 ?_;refine fj 4 (some 55) hHeld 58 (.tmp 5) xa 0 (fF X).toList _ (fun w' h=>h.2) Tryz.underlying58 rfl bC ?_;try simp only[aQ]
   refine cD 5 fun K hK=>?_
   go_simp;refine(akP.o _ EO.o).mono ?_;rintro en w4 ⟨rfl,CG,hb4⟩;obtain⟨J0,aaX⟩:=ae (({Nk with bk:=(es.bk.apply X).2}:Es));have akA:=aa aaX;have no3:∀x,qQ x=0→¬qQ x=3:=fun x h c=>by rw[h] at c;exact absurd c aM
   have SF:=aa (show bw (grow qQ wd w4 3) w4 e q wt J0 from by rw[←aaX];exact EO.o.keeps (EO.o.rest.apply hb4 CG) rfl rfl CG (fun k hk=>by have Ie:qQ k=3:=hk;rw[Ie];exact⟨aM,aM⟩) (np EO.o.rest.lt));have po:=aa (CG.arr HAd.o (no3 _ NL.o.1));have NT:=aa (CG.arr Ss.o (no3 _ NL.o.2));have HS4:=aa (show ∀k,(grow qQ wd w4 3) k≠0→aA k≠0∨w.heap.size≤k from fun k hk=>by
    rcases iR k hk with h|h
    ·exact HS3.o k h
    exact .inr (bf KD.o.size h))
   have nU:=aa (KD.o.new (CG.mono fun k _ hk=>HS3.o k (by have Ie:qQ k=3:=hk;rw[Ie];decide)));have HX4:=aa (show(grow qQ wd w4 3) xp=0 from(dM Ss.o.lt).trans NL.o.2);obtain⟨D4,aio⟩:=ae (grow qQ wd w4 3);rw[aio] at SF HS4 HX4;have ZD:=aa (show J0.aK=es.aK∧J0.up=es.up∧J0.dev=es.dev∧J0.rg=es.rg∧J0.log=es.log.append b∧J0.bk=(es.bk.apply X).2 from by rw[←aaX];exact⟨NZ.o.2.1,NZ.o.2.2.1,NZ.o.2.2.2.1,NZ.o.2.2.2.2.1,NZ.o.2.2.2.2.2,rfl⟩);have aif:w4.cell? ⟨e,4,none⟩=some (.pointer (some ⟨q.bk,0,none⟩))∧w4.rangeAt xa 0 (fF X).toList:=⟨SF.o.own.cell 4,fun j u hj=>by rw[gY,po.o.cell j];simpa using hj⟩;have aj1:=aa aif;clear CG hb4 no3 aif akP HAd Ss EO KD aaX aio;go_wp2_with fail;refine hK.out _ _ (by exact aj1.o) (fun jA=>?_);clear hK K hHeld jA;try simp only[aQ]
   refine bF ?_;clear ic aj1;go_upto_region 9 with fail
   have akz:=aa (show({J0 with aK:=J0.aK++[Y]}:Es)=es.after rq from by
    rw[←akA.o,←akB.o];unfold Es.after;rw[HYE.o,HXE.o,←jl.o,HXE.o])
   obtain⟨j0,hj,hz0,hz1,hz2⟩:=info_parts Bc;obtain⟨n,mW⟩:=ae J0.aK.length;have Tp:=aa mW;have HNL:=aa (show n≤1000 from by rw[←mW,ZD.o.1];exact HNN.o);obtain⟨A,cp,hwt⟩:=SF.o.aK.any;rw[mW] at hwt;subst hwt;clear mW;obtain⟨wd,hwd⟩:=ae w4.drew;have gQ:Below w4.heap.size w4 wd:=mR;have EO:=aa (SF.o.ai gQ);have Ss:=aa (NT.o.keep gQ);have KD:=aa (nU.o.ai gQ);clear gQ po;go_cut [4] from 57 to 66 (fun s4 wx=>s4=.slice none 0 0∧∃ud wt5,bw ud wx e q wt5 (es.after rq)∧(∀k,ud k≠0→aA k≠0∨w.heap.size≤k)∧aG (fun k=>aA k≠0) w wx)
   case first=>
    have HSP:=aa (show ∀W,aD W xp 108 (pW Y)→W.rangeAt xp 0 [.int .u32 Y.tag,.int .i64 Y.ax,.int .i64 Y.err,.int .u32 Y.id,.int .i64 Y.av,.int .i64 Y.aR,.int .i64 Y.count] from fun W hP=>fun j u hj=>by rw[gY,hP.cell j];simpa[pW] using hj);have HR9:=aa (show ∀(v5 w6:World) (v:Value),bw (grow D4 v5 w6 4) (w6.setCell ⟨e,5,none⟩ v) e q v {J0 with aK:=J0.aK++[Y]}→aG (fun k=>D4 k=4∨k=e) v5 (w6.setCell ⟨e,5,none⟩ v)→v5.heap.size≤w6.heap.size→aG (fun k=>aA k≠0) w v5→(∃ud wt5,bw ud (w6.setCell ⟨e,5,none⟩ v) e q wt5 (es.after rq)∧(∀k,ud k≠0→aA k≠0∨w.heap.size≤k)∧aG (fun k=>aA k≠0) w (w6.setCell ⟨e,5,none⟩ v))from fun v5 w6 v a1 a2 a3 a4=>by
     rw[akz.o] at a1;refine⟨_,_,a1,fun k hk=>?_,a4.new (a2.mono fun k _ hk=>?_)⟩
     ·rcases iR k hk with h|h
      ·exact HS4.o k h
      exact .inr (bf a4.size h)
     rcases hk with hk|hk
     ·exact HS4.o k (by rw[hk];decide)
     subst hk;exact HS4.o k (by rw[SF.o.rest.r5];decide))
    refine wp_region_held_drew (S:=(fun W=>W.rangeAt xp 0 [.int .u32 Y.tag,.int .i64 Y.ax,.int .i64 Y.err,.int .u32 Y.id,.int .i64 Y.av,.int .i64 Y.aR,.int .i64 Y.count])) aW (by rw[hwd];exact HSP.o _ Ss.o) (fun hHeld=>?_);rw[hwd] at hHeld ⊢;clear hwd;refine kW 0 1 2 3 ?_;refine fj 5 (some 62) hHeld 108 (.tmp 6) xp 0 [.int .u32 Y.tag,.int .i64 Y.ax,.int .i64 Y.err,.int .u32 Y.id,.int .i64 Y.av,.int .i64 Y.aR,.int .i64 Y.count] _ (fun w' h=>h) Tryz.underlying108 rfl aV ?_;try simp only[aQ]
    refine qc 4 6 (fun K hK=>?_) fun K hK=>?_
    ·have x5:wd.cell? ⟨e,5,none⟩=some (.slice A n cp):=EO.o.own.cell 5;go_simp;go_wp2_with fail;clear x5;refine bW hK (by exact HSP.o _ Ss.o) fun RP=>?_
     clear hK K;refine cD 6 fun K hK=>?_
     obtain⟨v5,Px⟩:=ae (wd.alloc (.cells #[.int .u32 Y.tag,.int .i64 Y.ax,.int .i64 Y.err,.int .u32 Y.id,.int .i64 Y.av,.int .i64 Y.aR,.int .i64 Y.count] 108));have dR:=aJ Px;have Zs:=aa (EO.o.ai dR);have Dx:=aa (Ss.o.keep dR);have pg:=aa (KD.o.ai dR);have rF:=aa (show aO (fun k=>D4 k=4) v5 108 7 (.slice A n cp) n (Mq J0.aK)from by have h1:=Zs.o.aK;rw[Tp.o] at h1;exact h1);have Lc:=aa (show ∀(j:Nat) (u:Value),[.int .u32 Y.tag,.int .i64 Y.ax,.int .i64 Y.err,.int .u32 Y.id,.int .i64 Y.av,.int .i64 Y.aR,.int .i64 Y.count][j]? =some u→v5.cell? ((⟨wd.heap.size,0,none⟩:Addr).add j)=some u by rw[←Px];exact ik wd _ _);clear dR;go_simp;go_wp2_with fail;try rw[Px]
     exact adF
    obtain⟨v5,Px⟩:=ae (wd.alloc (.cells #[.int .u32 Y.tag,.int .i64 Y.ax,.int .i64 Y.err,.int .u32 Y.id,.int .i64 Y.av,.int .i64 Y.aR,.int .i64 Y.count] 108));have dR:=aJ Px;have Zs:=aa (EO.o.ai dR);have Dx:=aa (Ss.o.keep dR);have pg:=aa (KD.o.ai dR);have rF:=aa (show aO (fun k=>D4 k=4) v5 108 7 (.slice A n cp) n (Mq J0.aK)from by have h1:=Zs.o.aK;rw[Tp.o] at h1;exact h1);have Lc:=aa (show ∀(j:Nat) (u:Value),[.int .u32 Y.tag,.int .i64 Y.ax,.int .i64 Y.err,.int .u32 Y.id,.int .i64 Y.av,.int .i64 Y.aR,.int .i64 Y.count][j]? =some u→v5.cell? ((⟨wd.heap.size,0,none⟩:Addr).add j)=some u by rw[←Px];exact ik wd _ _);clear dR;go_simp;go_wp2_with fail;try rw[Px]
    clear Px;refine bW hK (by exact HSP.o _ Dx.o) fun K2=>?_
    clear hK K;have x5:v5.cell? ⟨e,5,none⟩=some (.slice A n cp):=Zs.o.own.cell 5;refine cD 4 fun K hK=>?_
    go_simp;go_wp2_with fail;exact adF
   case rest=>
    obtain⟨rfl,ud,wt5,hE5,hs5,oz⟩:=hcut;obtain⟨ji,he3⟩:=ae (es.after rq);have pq:=aa he3;rw[he3] at hE5;have Ir:=aa (show ji.bk.az=es.bk.az∧ji.dev=es.dev∧ji.rg=es.rg∧ji.log=es.log.append b from by
     rw[←he3];exact⟨(sB es.bk (bp es.bk rq)).1,rfl,rfl,by show es.log.append (jf (bp es.bk rq))=_;rw[←HXE.o,jl.o]⟩)
    have ag3:=aa (show es.change rq=if ji.aK.length<es.bk.az then([],ji)else if(ji.log.flush ji.rg ji.dev).1≠0 then([],ji.down (ji.log.flush ji.rg ji.dev).2.2 (ji.log.flush ji.rg ji.dev).2.1)else(ji.aK,{ji with dev:=(ji.log.flush ji.rg ji.dev).2.2,log:=(ji.log.flush ji.rg ji.dev).2.1,aK:=[]})from by
     unfold Es.change;rw[if_neg (by rw[HC0.o];exact fun h=>h rfl),if_neg kZ.o,←he3];rfl)
    obtain⟨n5,hn5⟩:=ae ji.aK.length;have HN5:=aa hn5;obtain⟨A5,c5,jK⟩:=hE5.aK.any;rw[hn5] at jK;subst jK;have Zs:=aa hE5;have Zd:=aa hs5;have pg:=aa oz;clear hE5 hs5 oz he3 hn5 EO Ss KD SF nU NT ZD NZ akA akB akz HX4 NL HS4 HS3 hwd wd hj hz0 hz1 hz2 j0;have Ck:=aa (show ∀W,bw ud W e q (.slice A5 n5 c5) ji→Calls af 38 #[.pointer (some ⟨q.bk,0,none⟩)] W fun e w'=>e=.returned (.agg #[.int .i64 ji.bk.n,.int .i64 ji.bk.au,.int .i64 ji.bk.az])∧Below W.heap.size W w' from fun W hW=>by obtain⟨x,hx⟩:=hW.rest.book;exact Bk.fT hx.bg);have ic:=aa (show ∀W,bw ud W e q (.slice A5 n5 c5) ji→(W.cell? ⟨e,5,none⟩=some (.slice A5 n5 c5)∧W.cell? ⟨e,4,none⟩=some (.pointer (some ⟨q.bk,0,none⟩)))from fun W hE=>⟨hE.own.cell 5,hE.own.cell 4⟩);have lM:=Bk.amz (ji.bk.n:Int) (ji.bk.au:Int) (ji.bk.az:Int);obtain⟨wd,hwd⟩:=ae wc.drew;have gQ:Below wc.heap.size wc wd:=mR;have EO:=aa (Zs.o.ai gQ);have KD:=aa (pg.o.ai gQ);clear gQ;obtain⟨lt,hlt⟩:=ae (decide (n5<ji.bk.az));have Gg:decide ((n5:Int)<(ji.bk.az:Int))=lt:=by rw[←hlt];simp
    have jd:=aa hlt;clear hlt;go_upto_region 10 with fail
    refine wp_region_held_drew (S:=(fun W=>W.cell? ⟨e,5,none⟩=some (.slice A5 n5 c5)∧W.cell? ⟨e,4,none⟩=some (.pointer (some ⟨q.bk,0,none⟩)))) aW (by rw[hwd];exact ic.o _ EO.o) (fun hHeld=>?_);rw[hwd] at hHeld ⊢;clear hwd Zs pg;refine nZ 0 1 2 3 4 5 6 7 ?_;refine ty 8 ?_;refine cD 9 fun K hK=>?_
    go_simp;refine(Ck.o _ EO.o).mono ?_;rintro en w8 ⟨rfl,mC⟩;have HE8:=aa (EO.o.ai mC);have Za:=aa (KD.o.ai mC);clear mC;go_wp2_with fail;refine bW hK (by exact ic.o _ HE8.o) fun hh9=>?_
    clear hK K;refine uw 10 11 ?_;refine bF ?_;clear hh9 hHeld EO KD ic Ck;cases lt with
    | true=>
     have hl:n5<ji.bk.az:=of_decide_eq_true jd.o;have hl2:(n5:Int)<(ji.bk.az:Int):=ag;have hl3:decide (n5<ji.bk.az)=true:=jd.o;have GK:=aa (show es.change rq=([],ji)from by rw[ag3.o,if_pos (by rw[HN5.o,←Ir.o.1];exact hl)]);have HF:=aa (show fh aA e q (es.change rq).1 (es.change rq).2 w (.returned (.slice none 0 0)) w8 from by
      rw[GK.o];exact⟨ud,_,none,0,rfl,fun h=>absurd rfl h,HE8.o,Zd.o,Za.o⟩)
     go_wp2_with fail;go_ret;exact HF.o
    | false=>
     have hl:¬n5<ji.bk.az:=of_decide_eq_false jd.o;have hl2:¬(n5:Int)<(ji.bk.az:Int):=ag;have hl3:decide (n5<ji.bk.az)=false:=jd.o;have ag4:=aa (show es.change rq=if(ji.log.flush ji.rg ji.dev).1≠0 then([],ji.down (ji.log.flush ji.rg ji.dev).2.2 (ji.log.flush ji.rg ji.dev).2.1)else(ji.aK,{ji with dev:=(ji.log.flush ji.rg ji.dev).2.2,log:=(ji.log.flush ji.rg ji.dev).2.1,aK:=[]})from by rw[ag3.o,if_neg (by rw[HN5.o,←Ir.o.1];exact hl)]);obtain⟨a1,a2,a3,a4,a5,a6⟩:=es.log.sD b akm.o.1.done;have GJ:=aa (HE8.o.BM (by
      rw[Ir.o.2.1,Ir.o.2.2.2,a2,dz,qw];have:=CQ.o;have:=uY.o.1;omega) (by rw[Ir.o.2.1];exact NN.o))
     obtain⟨R,hR⟩:=ae (ji.log.flush ji.rg ji.dev);have vw:=aa hR;rw[hR] at GJ ag4;have x2:w8.cell? ⟨e,2,none⟩=some (.pointer (some ⟨q.lq,0,none⟩)):=HE8.o.own.cell 2;clear a1 a2 a3 a4 a5 a6 hR ag3;by_cases c:R.1=0
     ·have hc1:(R.1 != 0)=false:=by rw[c];rfl
      have GK:=aa (show es.change rq=(ji.aK,{ji with dev:=R.2.2,log:=R.2.1,aK:=[]})from by rw[ag4.o,if_neg (by rw[c];exact fun h=>h rfl)]);clear c;go_wp2_with fail;refine GJ.o.mono ?_;rintro en w9 ⟨rfl,hE9,hT9⟩;have HE9:=aa hE9;have EJ:=aa hT9;clear hE9 hT9 GJ x2;go_wp2_with fail;refine(Bd HE9.o).mono ?_;rintro en wa ⟨rfl,hEa,hRa,JT⟩;have HF:=aa (show fh aA e q (es.change rq).1 (es.change rq).2 w (.returned (.slice A5 n5 c5)) wa from by
       rw[GK.o];have JC:aO (fun k=>grow ud w8 w9 2 k=4) wa 108 7 (.slice A5 ji.aK.length c5) ji.aK.length (Mq ji.aK):=by rw[HN5.o] at hRa ⊢;exact hRa
       refine⟨_,_,A5,c5,by rw[HN5.o],Vl JC,hEa,fun k hk=>?_,?_⟩
       ·rcases iR k hk with h|h
        ·exact Zd.o k h
        exact .inr (bf Za.o.size h)
       have h1:=Za.o.new (EJ.o.mono fun k _ hk=>Zd.o k (by rcases hk with hk|hk <;>rw[hk] <;>decide));exact h1.new (JT.mono fun k _ hk=>by
        subst hk;exact Zd.o k (by rw[HE8.o.rest.r5];decide)))
      clear hEa hRa JT;go_wp2_with fail;go_ret;exact HF.o
     have hc1:(R.1 != 0)=true:=bne_iff_ne.2 c;have GK:=aa (show es.change rq=([],ji.down R.2.2 R.2.1)from by rw[ag4.o,if_pos c]);clear c;go_wp2_with fail;refine GJ.o.mono ?_;rintro en w9 ⟨rfl,hE9,hT9⟩;have HE9:=aa hE9;have EJ:=aa hT9;clear hE9 hT9 GJ x2;go_wp2_with fail;refine(Gn HE9.o).mono ?_;rintro en wa ⟨⟨u,rfl⟩,hEa,JT⟩;have HF:=aa (show fh aA e q (es.change rq).1 (es.change rq).2 w (.returned (.slice none 0 0)) wa from by
      rw[GK.o];refine⟨_,_,none,0,rfl,fun h=>absurd rfl h,hEa,fun k hk=>?_,?_⟩
      ·rcases iR k hk with h|h
       ·exact Zd.o k h
       exact .inr (bf Za.o.size h)
      have h1:=Za.o.new (EJ.o.mono fun k _ hk=>Zd.o k (by rcases hk with hk|hk <;>rw[hk] <;>decide));exact h1.new (JT.mono fun k _ hk=>by
       subst hk;exact Zd.o k (by rw[HE8.o.rest.r5];decide)))
     clear hEa JT;go_wp2_with fail;go_ret;exact HF.o
  have HC0:=aa c0;have HYE:=aa hY;have GK:=aa (show es.change rq=([Y],es)from by unfold Es.change;rw[if_pos c0,hY]);clear c0 hX hY;have HF:=aa (show ∀g c,g=wc.heap.size→fh aA e q (es.change rq).1 (es.change rq).2 w (.returned (.slice (some ⟨g,0,none⟩) 1 c)) (wc.alloc (.cells (pW Y) 108))from fun g c hg=>by
   rw[GK.o];refine fh.one HE.o (fun k hk=>.inl hk) HT.o (fun _=>⟨g,0,rfl,by rw[hg];simp,fun i hi j u hj=>?_⟩) (aw (aq _ _) _);have h0:i=0:=Au;subst h0;have:=(aD.fresh wc 108 (pW Y)).cell j;simp only[Nat.zero_mul,gY];rw[hg];refine this.trans ?_;simpa using hj)
  go_wp2_with (refine aB rfl 108 (.tmp 6) rfl xp 108 #[.int .u32 Y.tag,.int .i64 Y.ax,.int .i64 Y.err,.int .u32 Y.id,.int .i64 Y.av,.int .i64 Y.aR,.int .i64 Y.count] HP.o rfl _ Tryz.underlying108 rfl aV ?_);go_ret;exact HF.o _ _ rfl
