import Derived.Test.YtemighjbfanenaaGreatDoorPk33
import Derived.Test.YtemighjbfanenaaGreatDoorPk35
set_option linter.all false
set_option maxRecDepth 100000
set_option maxHeartbeats 16000000
namespace Go.Proofs.YtemighjbfanenaaGreatDoor
open RowKit
open Bk (bU B9 iu sZ)
open Oc (le)
open yj (hasB)
open En (dJ dV)
open Bool renaming or_eq_true→zM,and_eq_true→lS
open Classical renaming choose→j8,choose_spec→jZ
open Int renaming toNat_of_nonneg→G8
open Nat renaming le_refl→aL
open RowKit.Below renaming refl→aq
open Tryz renaming prog→af
theorem D9{p:Prop}(h:p:=by
 go_wp2_with fail;refine bW hK jJ fun nJ=>?_
 clear hK K;refine ty 9 ?_;refine bF ?_;go_wp2_with fail;go_ret;have HZ:=aa (ar bu.o oZ.o);exact⟨rfl,acG,aG.aU HZ.o⟩):p:=h
theorem V7{p:Prop}(h:p:=by
 refine bF ?_;go_wp2_with fail;go_ret;have HZ:=aa (ar bu.o oZ.o);exact⟨rfl,acG,aG.aU HZ.o⟩):p:=h
theorem adz{p:Prop}(h:p:=by
 rw[show(if dV bk q=true then(170:Int)else 0)=0 from oP];dsimp only[px] at HG;clear hb;go_enter Tryz.func342,Tryz.ntmps342;go_wp2_with fail;refine HG.o.mono ?_;rintro e w2 ⟨rfl,hb2⟩;have cx:=bu.eo hb2;have gK:=dH.o.keep hb2;have r3':=gK.cl 3;have hb3:=aw (aq w2.heap.size w2) (.cells #[.int .u32 0,.int .i64 0,.int .i64 0] 171);have r3:(w2.alloc (.cells #[.int .u32 0,.int .i64 0,.int .i64 0] 171)).cell? ⟨ab,3,none⟩=some (.int .u32 q.id):=(gK.keep hb3).cell 3;have ek:=cx.eo hb3;clear hb2 hb3 gK r0 r4 HG r3';go_wp2_with fail;refine ah (dh false 170 _) ?_;go_wp2_with fail;go_ret;exact⟨rfl,Mb,aG.aU ek.o⟩):p:=h
theorem VR{p:Prop}(h:p:=by
 split
 ·exact⟨rfl,rfl,rfl⟩
 split
 ·exact⟨rfl,rfl,rfl⟩
 split <;>exact⟨rfl,rfl,rfl⟩):p:=h
theorem ac6{p:Prop}(h:p:=by
 go_enter Tryz.func340,Tryz.ntmps340;go_wp2_with fail;refine ah (dh true 2 w1) ?_;go_wp2_with fail;go_ret;exact⟨rfl,H1.o,aG.aU bu.o⟩):p:=h
theorem ac5{p:Prop}(h:p:=by
 exact .told (cy q (e.sl.save e.dev (kh e.bk) e.log.last).1) _ rfl rfl rfl rfl rfl (by rw[hk];decide) (fun _=>aeZ) (hi e.log e.aK h.log h.fit h.full h.fine)):p:=h
theorem V'{p:Prop}(h:p:=by
 rintro e w' ⟨he,h1,h2⟩;exact⟨he,⟨q,h1⟩,h2.mono fun k _ hk=>by subst hk;exact hS⟩):p:=h
theorem jJ{p:Prop}(h:p:=by exact ic.o _ oZ.o):p:=h
theorem tY{p:Prop}(h:p:=by exact ic.o _ (ay (aq _ _))):p:=h
theorem acG{p:Prop}(h:p:=by obtain⟨p,hp⟩:=HH.o;exact⟨p,hp.ai HZ.o⟩):p:=h
theorem Al{p:Prop}(h:p:=by obtain⟨p,hp⟩:=h;exact⟨p,hp.ai hb1⟩):p:=h
theorem T2{p:Prop}(h:p:=by have:=Od hW hb (q.av.toNat);rw[G8 hs,if_neg c1,ho] at this;exact this):p:=h
theorem AR{p:Prop}(h:p:=by rw[c];decide):p:=h
theorem Mb{p:Prop}(h:p:=by obtain⟨p,hp⟩:=HH.o;exact⟨p,hp.ai ek.o⟩):p:=h
theorem UN{p:Prop}(h:p:=by unfold bE;simp only[zM,lS,decide_eq_true_eq];omega):p:=h
theorem aeZ{p:Prop}(h:p:=by show(e.sl.save e.dev (kh e.bk) e.log.last).1≠0;rw[c];decide):p:=h
theorem Uh{p:Prop}(h:p:=by obtain⟨p,hp⟩:=cx.o;exact⟨p,hp.ai hb3⟩):p:=h
section
namespace En
structure Rq.Good(q:Rq): Prop where
 ax:1≤q.ax∧q.ax≤10
 tag:0≤q.tag∧q.tag<4294967296
 id:0≤q.id∧q.id<4294967296
 av:0≤q.av∧q.av≤65535
 bS:0≤q.bS
structure Es.Inv(e:Es): Prop where
 up:e.up=true
 dev:e.dev.kP
 row:e.dev.dk.row= []
 size:32≤e.dev.dk.size
 rg:e.rg.In e.dev
 sl:e.sl.In e.dev
 log:e.log.Ok
 fit:e.log.used≤e.rg.bytes e.dev.dk.size
 bk:e.bk.Ok
 full:e.aK.length<e.bk.az
 fine:∀r∈e.aK,r.err=0
theorem Mv(b:dJ)(q:Rq)(hk:bE q.ax=true): cM (bp b q).ax=if q.ax=1 then 15 else if q.ax=2∨q.ax=3 then 5 else if q.ax=4 then 7 else 9:=by
 unfold bp;unfold bE at hk;simp only[zM,lS,decide_eq_true_eq] at hk;have:q.ax=1∨q.ax=2∨q.ax=3∨q.ax=4∨q.ax=7:=ag;rcases this with h|h|h|h|h <;>simp[h,cM]
theorem adY{b:dJ}(hb:b.Ok){a8:Int}{q:Rq}(hq:q.Good)(hk:bE q.ax=true)(h0:bB b a8 q=0): (bp b q).ok=true∧22+(cM (bp b q).ax:Int)≤a8:=by
 rw[Mv b q hk];unfold bE at hk;simp only[zM,lS,decide_eq_true_eq] at hk;have hn:=hb.next;have hc:=hb.ak;have hnn:=hb.n;have hs:=hq.av;have ht:=hq.bS;have pX:q.ax=1∨q.ax=2∨q.ax=3∨q.ax=4∨q.ax=7:=ag;rcases pX with h|h|h|h|h
 ·unfold bB at h0;rw[if_pos h] at h0;by_cases c1:(b.n:Int)≤q.av
  ·rw[if_pos c1] at h0;omega
  rw[if_neg c1] at h0;by_cases c2:q.bS<1∨1073741824<q.bS
  ·rw[if_pos c2] at h0;omega
  rw[if_neg c2] at h0;by_cases c3:1099511627776<b.ak+q.bS
  ·rw[if_pos c3] at h0;omega
  rw[if_neg c3] at h0;by_cases c4:dV b q=true
  ·rw[if_pos c4] at h0;omega
  rw[if_neg c4] at h0;by_cases c5:b.au≤b.L.length∨b.next=4294967295
  ·rw[if_pos c5] at h0;omega
  rw[if_neg c5] at h0;by_cases c6:a8<37
  ·rw[if_pos c6] at h0;omega
  have e:bp b q=⟨1,b.next,q.av,b.ak+q.bS,0⟩:=by unfold bp;rw[if_pos h]
  rw[e];refine⟨?_,by rw[if_pos h];omega⟩;simp[Rec.ok,recKind,dK,within];omega
 ·unfold bB at h0;rw[if_neg ag,if_pos (.inl h)] at h0;by_cases c1:(b.find q.id).isNone=true
  ·rw[if_pos c1] at h0;omega
  rw[if_neg c1] at h0;by_cases c6:a8<27
  ·rw[if_pos c6] at h0;omega
  have e:bp b q=⟨2,q.id,0,0,0⟩:=by unfold bp;rw[if_neg ag,if_pos h]
  rw[e];cases hf:b.find q.id with
  | none=>rw[hf] at c1;exact absurd rfl c1
  | some x=>
   obtain⟨hx,RD⟩:=iu hf;have hid:=hb.ids x hx;refine⟨?_,by rw[if_neg ag,if_pos (.inl h)];omega⟩;simp[Rec.ok,recKind,dK,within];omega
 ·unfold bB at h0;rw[if_neg ag,if_pos (.inr h)] at h0;by_cases c1:(b.find q.id).isNone=true
  ·rw[if_pos c1] at h0;omega
  rw[if_neg c1] at h0;by_cases c6:a8<27
  ·rw[if_pos c6] at h0;omega
  have e:bp b q=⟨3,q.id,0,0,0⟩:=by unfold bp;rw[if_neg ag,if_neg ag,if_pos h]
  rw[e];cases hf:b.find q.id with
  | none=>rw[hf] at c1;exact absurd rfl c1
  | some x=>
   obtain⟨hx,RD⟩:=iu hf;have hid:=hb.ids x hx;refine⟨?_,by rw[if_neg ag,if_pos (.inr h)];omega⟩;simp[Rec.ok,recKind,dK,within];omega
 ·unfold bB at h0;rw[if_neg ag,if_neg ag,if_pos h] at h0;by_cases c1:(b.find q.id).isNone=true
  ·rw[if_pos c1] at h0;omega
  rw[if_neg c1] at h0;by_cases c2:(b.n:Int)≤q.av
  ·rw[if_pos c2] at h0;omega
  rw[if_neg c2] at h0;by_cases c4:dV b q=true
  ·rw[if_pos c4] at h0;omega
  rw[if_neg c4] at h0;by_cases c6:a8<29
  ·rw[if_pos c6] at h0;omega
  have e:bp b q=⟨4,q.id,q.av,0,0⟩:=by unfold bp;rw[if_neg ag,if_neg ag,if_neg ag,if_pos h]
  rw[e];cases hf:b.find q.id with
  | none=>rw[hf] at c1;exact absurd rfl c1
  | some x=>
   obtain⟨hx,RD⟩:=iu hf;have hid:=hb.ids x hx;refine⟨?_,by rw[if_neg ag,if_neg ag,if_pos h];omega⟩;simp[Rec.ok,recKind,dK,within];omega
 unfold bB at h0;rw[if_neg ag,if_neg ag,if_neg ag] at h0;by_cases c2:q.bS<1∨1073741824<q.bS
 ·rw[if_pos c2] at h0;omega
 rw[if_neg c2] at h0;by_cases c3:1099511627776<b.ak+q.bS
 ·rw[if_pos c3] at h0;omega
 rw[if_neg c3] at h0;by_cases c6:a8<31
 ·rw[if_pos c6] at h0;omega
 have e:bp b q=⟨5,0,0,0,b.ak+q.bS⟩:=by unfold bp;rw[if_neg ag,if_neg ag,if_neg ag,if_neg ag]
 rw[e];refine⟨?_,by rw[if_neg ag,if_neg ag,if_neg ag];omega⟩;simp[Rec.ok,recKind,dK,within];omega
theorem I7{r:Rec}(h:recKind r.ax=true): (jf r).length=cM r.ax:=by
 obtain⟨k,id,av,aR,ak⟩:=r;have hk:k=1∨k=2∨k=3∨k=4∨k=5:=by simp only[recKind,lS,decide_eq_true_eq] at h;omega
 rcases hk with rfl|rfl|rfl|rfl|rfl <;>simp[jf,dK,cM,Oc.bM]
theorem Rec.FX{r:Rec}(h:r.ok=true): recKind r.ax=true:=by
 unfold Rec.ok at h;simp only[lS] at h;exact h.1.1.1.1
theorem BU(q:Rq)(r:Rec): (bN q r).tag=q.tag∧(bN q r).ax=q.ax∧(bN q r).err=0:=by
 unfold bN;exact VR
theorem I3(s:Sl)(d:bG)(body:By)(lZ:Nat): (s.save d body lZ).2.1.gen<18446744073709551616:=by
 have h:=Jg s d;have z:Hd.zero.gen<18446744073709551616:=aM;unfold Sl.save;by_cases c1:s.bytes d.dk.size<body.length
 ·rw[if_pos c1];exact z
 rw[if_neg c1];by_cases c2:(s.load d).err≠0
 ·rw[if_pos c2];exact z
 rw[if_neg c2];by_cases c3:(s.load d).hd.gen=18446744073709551615
 ·rw[if_pos c3];exact z
 rw[if_neg c3];simp only;generalize(if(s.load d).at_=0 then s.b else s.a)=r;generalize dG r (s.load d).dev d.dk.size body=P;by_cases c4:P.1≠0
 ·rw[if_pos c4];exact z
 rw[if_neg c4];generalize dG r P.2 0 _=Q;by_cases c5:Q.1≠0
 ·rw[if_pos c5];exact z
 rw[if_neg c5];show(s.load d).hd.gen+1<18446744073709551616
 omega
inductive wB (e:Es) (q:Rq):List Rp × Es→Prop where
 | told (x:Rp) (e':Es) (ht:x.tag=q.tag) (hk:x.ax=q.ax) (hb:e'.bk=e.bk) (hl:e'.log.last=e.log.last) (hw:e'.aK=e.aK) (h8:q.ax≠8) (hf:q.ax=9→x.err≠0) (hi:e'.Inv):wB e q ([x],e')
 | aK (x:Rp) (e':Es) (hc:bE q.ax=true) (ht:x.tag=q.tag) (hk:x.ax=q.ax) (he:x.err=0) (hl:e'.log.last=e.log.last+1) (hw:e'.aK=e.aK++[x]) (hi:e'.Inv):wB e q ([],e')
 | full (x:Rp) (e':Es) (hc:bE q.ax=true) (ht:x.tag=q.tag) (hk:x.ax=q.ax) (he:x.err=0) (hl:e'.log.last=e.log.last+1) (hd:e'.log.dO=e'.log.last) (hw:e'.aK= []) (hi:e'.Inv):wB e q (e.aK++[x],e')
 | all (x:Rp) (e':Es) (hc:q.ax=8∨q.ax=9) (ht:x.tag=q.tag) (hk:x.ax=q.ax) (he:x.err=0) (hn:x.count=e.aK.length) (hb:e'.bk=e.bk) (hl:e'.log.last=e.log.last) (hd:e'.log.dO=e'.log.last) (hw:e'.aK= []) (hi:e'.Inv):wB e q (e.aK++[x],e')
theorem J8(b:dJ)(q:Rq): (ed b q).tag=q.tag∧(ed b q).ax=q.ax:=by
 unfold ed;split
 ·split <;>exact⟨rfl,rfl⟩
 split
 ·split
  ·exact⟨rfl,rfl⟩
  split <;>exact⟨rfl,rfl⟩
 exact⟨rfl,rfl⟩
theorem Es.Inv.afp{e:Es}(h:e.Inv): ({e.log with done:=e.log.eD.length}:Lg).Ok:=⟨aL _,h.log.last,h.log.bY,h.log.short⟩
theorem Es.Inv.flush{e:Es}(h:e.Inv){q:Rq}(hk:q.ax=8): wB e q (e.flush q):=by
 obtain⟨h1,h2,h3,h4⟩:=Lg.nM h.dev h.rg h.log.done h.fit h.row;unfold Es.flush;rw[if_neg (by rw[h1];decide)];refine .all ⟨q.tag,q.ax,0,0,0,0,e.aK.length⟩ _ (.inl hk) rfl rfl rfl rfl rfl ?_ ?_ rfl ?_
 ·show(e.log.flush e.rg e.dev).2.1.last=e.log.last
  rw[h2];rfl
 ·show(e.log.flush e.rg e.dev).2.1.dO=(e.log.flush e.rg e.dev).2.1.last
  rw[h2];rfl
 refine⟨h.up,h3.free,h4,?_,h.rg.qh h3,h.sl.qh h3,?_,?_,h.bk,?_,fun r hr=>by cases hr⟩
 ·show 32≤(e.log.flush e.rg e.dev).2.2.dk.size
  rw[h3.size];exact h.size
 ·show(e.log.flush e.rg e.dev).2.1.Ok
  rw[h2];exact h.afp
 ·show(e.log.flush e.rg e.dev).2.1.used≤e.rg.bytes (e.log.flush e.rg e.dev).2.2.dk.size
  rw[h2,h3.size];exact h.fit
 show 0<e.bk.az
 have:=h.bk.az;omega
theorem Es.Inv.save{e:Es}(h:e.Inv){q:Rq}(hk:q.ax=9): wB e q (e.save q):=by
 obtain⟨h1,h2,h3⟩:=Sl.xC h.dev h.sl h.row h.size (kh e.bk) e.log.last;have hg:=I3 e.sl e.dev (kh e.bk) e.log.last;unfold Es.save;have hi:∀l w,l.Ok→l.used≤e.rg.bytes e.dev.dk.size→(w:List Rp).length<e.bk.az→(∀r∈w,r.err=0)→({e with dev:=(e.sl.save e.dev (kh e.bk) e.log.last).2.2,log:=l,aK:=w}:Es).Inv:=fun l w a1 a2 a3 a4=>
  ⟨h.up,h2.free,h3,by show 32≤(e.sl.save e.dev (kh e.bk) e.log.last).2.2.dk.size;rw[h2.size];exact h.size,h.rg.qh h2,h.sl.qh h2,a1,by show l.used≤e.rg.bytes (e.sl.save e.dev (kh e.bk) e.log.last).2.2.dk.size;rw[h2.size];exact a2,h.bk,a3,a4⟩
 have hz:0<e.bk.az:=by have:=h.bk.az;omega
 rcases h1 with c|c|c
 ·rw[if_pos c];obtain⟨r1,r2,r3,r4,r5,r6⟩:=e.log.aar (e.sl.save e.dev (kh e.bk) e.log.last).2.1.gen;refine .all ⟨q.tag,q.ax,0,0,0,0,e.aK.length⟩ _ (.inr hk) rfl rfl rfl rfl rfl r4 (r3.trans r4.symm) rfl (hi _ [] ⟨aL _,?_,hg,fun b hb=>by cases hb⟩ ?_ hz (fun r hr=>by cases hr))
  ·show e.log.last<_
   exact h.log.last
  rw[r6];exact Nat.zero_le _
 ·rw[if_neg AR,if_neg AR];exact ac5
 rw[if_neg AR,if_neg AR];exact ac5
theorem dg{k:Int}(h:bE k=true): k=1∨k=2∨k=3∨k=4∨k=7:=by
 unfold bE at h;simp only[zM,lS,decide_eq_true_eq] at h;omega
def Es.after(e:Es)(q:Rq): Es:={e with log:=e.log.append (jf (bp e.bk q)),bk:=(e.bk.apply (bp e.bk q)).2,aK:=e.aK++[bN q (bp e.bk q)]}
theorem sB(b:dJ)(r:Rec): (b.apply r).2.az=b.az∧(b.apply r).2.n=b.n∧(b.apply r).2.au=b.au:=by
 unfold dJ.apply;split
 ·exact⟨rfl,rfl,rfl⟩
 split
 ·unfold dJ.hold;split
  ·exact⟨rfl,rfl,rfl⟩
  split
  ·exact⟨rfl,rfl,rfl⟩
  exact VR
 split
 ·unfold dJ.tick;split <;>exact⟨rfl,rfl,rfl⟩
 split
 ·exact⟨rfl,rfl,rfl⟩
 split
 ·exact⟨rfl,rfl,rfl⟩
 split
 ·exact⟨rfl,rfl,rfl⟩
 exact VR
theorem Es.Inv.OP{e:Es}(h:e.Inv){q:Rq}(hq:q.Good)(hk:bE q.ax=true)(h0:bB e.bk e.a8 q=0):
  (bp e.bk q).ok=true∧(jf (bp e.bk q)).length=cM (bp e.bk q).ax∧cM (bp e.bk q).ax≤32∧22+(jf (bp e.bk q)).length+e.log.used≤e.rg.bytes e.dev.dk.size:=by
 obtain⟨h1,h2⟩:=adY h.bk hq hk h0;have h3:=I7 (Rec.FX h1);have h4:cM (bp e.bk q).ax≤32:=by unfold cM;split;omega;split;omega;split;omega;split;omega;split <;>omega
 unfold Es.a8 at h2;exact⟨h1,h3,h4,ag⟩
theorem Es.Inv.change{e:Es}(h:e.Inv){q:Rq}(hq:q.Good)(hk:bE q.ax=true): wB e q (e.change q):=by
 have h89:¬(q.ax=8∨q.ax=9):=by have:=dg hk;omega
 unfold Es.change;by_cases c0:bB e.bk e.a8 q=0
 ·rw[if_neg (by rw[c0];decide)];by_cases c1:e.log.last=18446744073709551615
  ·rw[if_pos c1];exact .told (cy q 220) e rfl rfl rfl rfl rfl (fun x=>h89 (.inl x)) (fun x=>absurd (.inr x) h89) h
  rw[if_neg c1];obtain⟨h1,h2,h3,h4⟩:=h.OP hq hk c0;obtain⟨a1,a2,a3,a4,a5,a6⟩:=e.log.sD (jf (bp e.bk q)) h.log.done;have hb:=B9 h.bk h1;obtain⟨g1,g2,g3⟩:=sB e.bk (bp e.bk q);obtain⟨r1,r2,r3⟩:=BU q (bp e.bk q);have hlo:(e.log.append (jf (bp e.bk q))).Ok:=by
   refine⟨?_,?_,h.log.bY,fun b hb=>?_⟩
   ·show e.log.done≤(e.log.eD++[_]).length
    rw[List.length_append];have:=h.log.done;omega
   ·rw[a4];have:=h.log.last;omega
   rcases List.mem_append.1 hb with hb|hb
   ·exact h.log.short b hb
   rw[List.mem_singleton] at hb;subst hb;omega
  have y6:(e.log.append (jf (bp e.bk q))).used≤e.rg.bytes e.dev.dk.size:=by rw[a6];omega
  have aiW:∀r∈e.aK++[bN q (bp e.bk q)],r.err=0:=fun r hr=>by
   rcases List.mem_append.1 hr with hr|hr
   ·exact h.fine r hr
   rw[List.mem_singleton] at hr;subst hr;exact r3
  simp only;by_cases c2:(e.aK++[bN q (bp e.bk q)]).length<e.bk.az
  ·rw[if_pos c2];exact .aK (bN q (bp e.bk q)) _ hk r1 r2 r3 a4 rfl ⟨h.up,h.dev,h.row,h.size,h.rg,h.sl,hlo,y6,hb,by rw[g1];exact c2,aiW⟩
  rw[if_neg c2];obtain⟨f1,f2,f3,f4⟩:=Lg.nM h.dev h.rg hlo.done y6 h.row;rw[if_neg (by rw[f1];decide)];refine .full (bN q (bp e.bk q)) _ hk r1 r2 r3 ?_ ?_ rfl ?_
  ·show((e.log.append (jf (bp e.bk q))).flush e.rg e.dev).2.1.last=_
   rw[f2];exact a4
  ·show((e.log.append (jf (bp e.bk q))).flush e.rg e.dev).2.1.dO=((e.log.append (jf (bp e.bk q))).flush e.rg e.dev).2.1.last
   rw[f2];rfl
  refine⟨h.up,f3.free,f4,?_,h.rg.qh f3,h.sl.qh f3,?_,?_,hb,?_,fun r hr=>by cases hr⟩
  ·show 32≤((e.log.append (jf (bp e.bk q))).flush e.rg e.dev).2.2.dk.size
   rw[f3.size];exact h.size
  ·show((e.log.append (jf (bp e.bk q))).flush e.rg e.dev).2.1.Ok
   rw[f2];exact⟨aL _,hlo.last,hlo.bY,hlo.short⟩
  ·show((e.log.append (jf (bp e.bk q))).flush e.rg e.dev).2.1.used≤e.rg.bytes ((e.log.append (jf (bp e.bk q))).flush e.rg e.dev).2.2.dk.size
   rw[f2,f3.size];exact y6
  show 0<(e.bk.apply (bp e.bk q)).2.az
  rw[g1];have:=h.bk.az;omega
 rw[if_pos c0];exact .told (cy q (bB e.bk e.a8 q)) e rfl rfl rfl rfl rfl (fun x=>h89 (.inl x)) (fun x=>absurd (.inr x) h89) h
theorem Es.Inv.abn{e:Es}(h:e.Inv){q:Rq}(hq:q.Good): wB e q (e.rep q):=by
 unfold Es.rep;rw[if_neg Aw];have hk:=hq.ax;by_cases c1:q.ax=5∨q.ax=6∨q.ax=10
 ·rw[if_pos c1];obtain⟨a1,a2⟩:=J8 e.bk q;exact .told _ e a1 a2 rfl rfl rfl ag (fun x=>ag) h
 rw[if_neg c1];by_cases c2:q.ax=8
 ·rw[if_pos c2];exact h.flush c2
 rw[if_neg c2];by_cases c3:q.ax=9
 ·rw[if_pos c3];exact h.save c3
 rw[if_neg c3];exact h.change hq UN
end En
end
section
namespace En
def Da(b:dJ)(q:Rq): Rp × dJ:=
 if bE q.ax=true then
  if bB b 1000 q≠0 then(cy q (bB b 1000 q),b)else(bN q (bp b q),(b.apply (bp b q)).2)
 else(ed b q,b)
theorem abl(b:dJ)(a8:Int)(q:Rq): bB b a8 q=220∨bB b a8 q=bB b 1000 q:=by
 unfold bB;by_cases h1:q.ax=1
 ·simp only[if_pos h1];by_cases c1:(b.n:Int)≤q.av
  ·simp only[if_pos c1];exact .inr trivial
  simp only[if_neg c1];by_cases c2:q.bS<1∨1073741824<q.bS
  ·simp only[if_pos c2];exact .inr trivial
  simp only[if_neg c2];by_cases c3:1099511627776<b.ak+q.bS
  ·simp only[if_pos c3];exact .inr trivial
  simp only[if_neg c3];by_cases c4:dV b q=true
  ·simp only[if_pos c4];exact .inr trivial
  simp only[if_neg c4];by_cases c5:b.au≤b.L.length∨b.next=4294967295
  ·simp only[if_pos c5];exact .inr trivial
  simp only[if_neg c5];by_cases c6:a8<37
  ·simp only[if_pos c6];exact .inl trivial
  simp only[if_neg c6,if_neg (show ¬(1000:Int)<37 from aM)];exact .inr trivial
 simp only[if_neg h1];by_cases h2:q.ax=2∨q.ax=3
 ·simp only[if_pos h2];by_cases c1:(b.find q.id).isNone=true
  ·simp only[if_pos c1];exact .inr trivial
  simp only[if_neg c1];by_cases c6:a8<27
  ·simp only[if_pos c6];exact .inl trivial
  simp only[if_neg c6,if_neg (show ¬(1000:Int)<27 from aM)];exact .inr trivial
 simp only[if_neg h2];by_cases h4:q.ax=4
 ·simp only[if_pos h4];by_cases c1:(b.find q.id).isNone=true
  ·simp only[if_pos c1];exact .inr trivial
  simp only[if_neg c1];by_cases c2:(b.n:Int)≤q.av
  ·simp only[if_pos c2];exact .inr trivial
  simp only[if_neg c2];by_cases c4:dV b q=true
  ·simp only[if_pos c4];exact .inr trivial
  simp only[if_neg c4];by_cases c6:a8<29
  ·simp only[if_pos c6];exact .inl trivial
  simp only[if_neg c6,if_neg (show ¬(1000:Int)<29 from aM)];exact .inr trivial
 simp only[if_neg h4];by_cases c2:q.bS<1∨1073741824<q.bS
 ·simp only[if_pos c2];exact .inr trivial
 simp only[if_neg c2];by_cases c3:1099511627776<b.ak+q.bS
 ·simp only[if_pos c3];exact .inr trivial
 simp only[if_neg c3];by_cases c6:a8<31
 ·simp only[if_pos c6];exact .inl trivial
 simp only[if_neg c6,if_neg (show ¬(1000:Int)<31 from aM)];exact .inr trivial
structure amK(e:Es)(q:Rq)(r:List Rp × Es): Prop where
 bk:r.2.bk=(Da e.bk q).2
 goes:(r.1= [(Da e.bk q).1]∧r.2.aK=e.aK)∨(r.1= []∧r.2.aK=e.aK++[(Da e.bk q).1])∨(r.1=e.aK++[(Da e.bk q).1]∧r.2.aK= [])
theorem Es.Inv.owns{e:Es}(h:e.Inv){q:Rq}(hq:q.Good)(h8:q.ax≠8)(h9:q.ax≠9): e.rep q=([cy q 220],e)∨amK e q (e.rep q):=by
 unfold Es.rep;rw[if_neg Aw];have hk:=hq.ax;by_cases c1:q.ax=5∨q.ax=6∨q.ax=10
 ·rw[if_pos c1];have hc:¬bE q.ax=true:=fun hc=>by have:=dg hc;omega
  refine .inr ⟨?_,.inl ⟨?_,rfl⟩⟩ <;>(unfold Da;rw[if_neg hc]) <;>rfl
 rw[if_neg c1,if_neg h8,if_neg h9];have hc:bE q.ax=true:=UN;unfold Es.change;rcases abl e.bk e.a8 q with c|c
 ·rw[if_pos AR,c];exact .inl rfl
 by_cases c0:bB e.bk e.a8 q=0
 ·rw[if_neg (by rw[c0];decide)];by_cases c2:e.log.last=18446744073709551615
  ·rw[if_pos c2];exact .inl rfl
  rw[if_neg c2];have ho:Da e.bk q=(bN q (bp e.bk q),(e.bk.apply (bp e.bk q)).2):=by unfold Da;rw[if_pos hc,if_neg (by rw[←c,c0];decide)]
  simp only;obtain⟨h1,h2,h3,h4⟩:=h.OP hq hc c0;by_cases c3:(e.aK++[bN q (bp e.bk q)]).length<e.bk.az
  ·rw[if_pos c3];exact .inr ⟨by rw[ho],.inr (.inl ⟨rfl,by rw[ho]⟩)⟩
  rw[if_neg c3];obtain⟨a1,a2,a3,a4,a5,a6⟩:=e.log.sD (jf (bp e.bk q)) h.log.done;obtain⟨f1,f2,f3,f4⟩:=Lg.nM (l:=e.log.append (jf (bp e.bk q))) h.dev h.rg (by show e.log.done≤(e.log.eD++[_]).length;rw[List.length_append];have:=h.log.done;omega) (by rw[a6];omega) h.row;rw[if_neg (by rw[f1];decide)];exact .inr ⟨by rw[ho],.inr (.inr ⟨by rw[ho],rfl⟩)⟩
 rw[if_pos c0];have ho:Da e.bk q=(cy q (bB e.bk e.a8 q),e.bk):=by unfold Da;rw[if_pos hc,if_pos (by rw[←c];exact c0),c]
 exact .inr ⟨by rw[ho],.inl ⟨by rw[ho],rfl⟩⟩
theorem wB.inv{e:Es}{q:Rq}{r:List Rp × Es}(h:wB e q r): r.2.Inv:=by cases h <;>assumption
theorem wB.aao{e:Es}{q:Rq}{r:List Rp × Es}(h:wB e q r)(hk:q.ax=8∨q.ax=9): r.2.bk=e.bk:=by
 cases h with
 | told x e' h1 h2 h3=>exact h3
 | aK x e' h1=>have:=dg h1;omega
 | full x e' h1=>have:=dg h1;omega
 | all x e' h1 h2 h3 h4 h5 h6=>exact h6
end En
end
section
namespace En
theorem Mm(k:Int): cM k=if recKind k=true then mq (dK k).1 (dK k).2.1 (dK k).2.2.1 (dK k).2.2.2 4 else 0:=by
 by_cases hk:1≤k∧k≤5
 ·rcases(show k=1∨k=2∨k=3∨k=4∨k=5 from ag)with rfl|rfl|rfl|rfl|rfl <;>rfl
 have h1:recKind k=false:=U';rw[h1,if_neg aM];unfold cM;rw[if_neg ag,if_neg ag,if_neg ag,if_neg ag,if_neg ag]
theorem Sd(k:Int)(w:World): Calls af 367 #[.int .i64 k] w fun e w'=>e=.returned (.int .i64 (cM k:Nat))∧Below w.heap.size w w':=by
 obtain⟨a1,a2,a3,a4,hh⟩:∃a1 a2 a3 a4,dK k=(a1,a2,a3,a4):=⟨_,_,_,_,rfl⟩;obtain⟨ok,fz⟩:=ae (recKind k);have HO:=aa (fun W=>Bg hh fz W);have HE:=aa (show cM k=if ok=true then mq a1 a2 a3 a4 4 else 0 by rw[Mm,hh,fz]);clear hh fz;go_enter Tryz.func367,Tryz.ntmps367;go_wp2_with fail;refine(HO.o _).mono ?_;rintro e w1 ⟨rfl,hb1⟩;have bu:=aa hb1;clear hb1;go_upto_region 2 with fail
 obtain⟨w2,hw2⟩:=ae (w1.alloc (.cells #[.bool a1,.bool a2,.bool a3,.bool a4] 266));obtain⟨sb,k8⟩:=ae w1.heap.size;rw[hw2,k8];have gK:=aH hw2 k8;have hb2:=eH bu.o hw2;have s0:=gK.cl 0;have s1:=gK.cl 1;have s2:=gK.cl 2;have s3:=gK.cl 3;have cx:=aa hb2;clear gK hb2 hw2;cases ok
 ·go_wp2_with fail;go_ret;exact⟨oP,cx.o⟩
 go_wp2_with fail;refine(QV a1 a2 a3 a4 w2).mono ?_;rintro e w3 ⟨rfl,hb3⟩;have ek:=cx.eo hb3;clear hb3 s0 s1 s2 s3;go_wp2_with fail;go_ret;exact⟨oP,ek.o⟩
theorem abJ(r:Rec)(w:World)(fz:r.ok=true): Calls af 217 #[.agg (fF r)] w (uo (jf r) w):=by
 rcases sZ fz with⟨id,s,t,rfl,h1,h2,h3,h4,h5⟩|⟨id,rfl,h1,h2⟩|⟨id,rfl,h1,h2⟩|⟨id,s,rfl,h1,h2,h3⟩|⟨c,rfl,h1,h2⟩
 ·obtain⟨i,rfl⟩:∃i:Nat,id=i:=⟨id.toNat,ag⟩;obtain⟨u,rfl⟩:∃u:Nat,t=u:=⟨t.toNat,ag⟩;exact ajL i s u w ag h3 ag
 ·obtain⟨i,rfl⟩:∃i:Nat,id=i:=⟨id.toNat,ag⟩;exact ajK i w ag
 ·obtain⟨i,rfl⟩:∃i:Nat,id=i:=⟨id.toNat,ag⟩;exact ajJ i w ag
 ·obtain⟨i,rfl⟩:∃i:Nat,id=i:=⟨id.toNat,ag⟩;exact ajI i s w ag h3
 obtain⟨i,rfl⟩:∃i:Nat,c=i:=⟨c.toNat,ag⟩;exact ajH i w ag
theorem dh(so:Bool)(x:Int)(w:World): Calls af 366 #[.bool so,.int .i64 x] w fun e w'=>e=.returned (.int .i64 (if so=true then x else 0))∧w'=w:=by
 cases so
 ·go_enter Tryz.func366,Tryz.ntmps366;go_wp2_with fail;go_ret;exact⟨rfl,rfl⟩
 go_enter Tryz.func366,Tryz.ntmps366;go_wp2_with fail;go_ret;exact⟨rfl,rfl⟩
end En
end
section
namespace Bk
open En (Rec)
variable{S:Nat→Prop}{w:World}{b:Nat}
theorem aho{n au:Nat} {az next ak:Int}{len:Nat}{q:bD}(h:cA S w b n au az next ak len q)(i:Nat)(hi:n≤i):
  Calls af 293 #[.pointer (some ⟨b,0,none⟩),.int .i64 i] w fun e w'=>e=.returned (.tuple #[.agg #[.int .u32 0,.int .i64 0,.int .i64 0],.int .i64 140])∧Below w.heap.size w w':=by
 have HH:=aa h;have kC:(n:Int)≤(i:Int):=ag;have yZ:(0:Int)≤(i:Int):=ag;clear h;go_enter Tryz.func293,Tryz.ntmps293;go_wp2_with fail;have hb1:Below w.heap.size w (w.alloc (.cells #[.int .u32 0,.int .i64 0,.int .i64 0] 171)):=aw (aq _ _) _;have bh:aD (w.alloc (.cells #[.int .u32 0,.int .i64 0,.int .i64 0] 171)) w.heap.size 171 #[.int .u32 0,.int .i64 0,.int .i64 0]:=aD.fresh w _ _;obtain⟨w1,aX⟩:=ae (w.alloc (.cells #[.int .u32 0,.int .i64 0,.int .i64 0] 171));obtain⟨r,hr⟩:=ae w.heap.size;rw[aX] at hb1 bh ⊢;have hc1:=HH.o.ai hb1;have bu:=aa hb1;clear hb1;rw[hr] at bh ⊢;clear aX;refine ah (dD b true w1 (hc1.own.cell 3)) ?_;have x0:w1.cell? ⟨b,0,none⟩=some (.int .i64 n):=hc1.own.cell 0;have dH:=aa bh;have HR:=aa hr;clear hc1 bh hr;go_wp2_with (refine aj rfl 171 _ _ rfl r 171 _ #[.int .u32 0,.int .i64 0,.int .i64 0] dH.o rfl rfl rfl e9 (by simp[Value.oneCell']) ?_;intro w3 dB hg3 hs3;have pq:=aa dB;have zI:=aa hg3;clear dB hg3 hs3);refine bodyPost_ret (results_cell_tmp Tryz.results293 _ iN (aI 171 pq.o _ Tryz.underlying171 rfl e9)) rfl ⟨rfl,br bu.o zI.o Ls⟩
def px(o:Option bU)(er:Int): Value:=match o with
 | some x=>.tuple #[.agg #[.int .u32 x.id,.int .i64 (x.av:Int),.int .i64 x.aR],.int .i64 0]
 | none=>.tuple #[.agg #[.int .u32 0,.int .i64 0,.int .i64 0],.int .i64 er]
theorem O9{bk:dJ}{s:Nat}{x:bU}(h:bk.on (s:Int)=some x): x∈bk.L∧x.av=s:=
 ⟨List.mem_of_find?_eq_some h,by have:decide ((x.av:Int)=(s:Int))=true:=by simpa using List.find?_some h
                                 exact Int.ofNat.inj (of_decide_eq_true this)⟩
theorem Od{bk:dJ}(h:fQ S w b bk)(hb:bk.Ok)(s:Nat):
  Calls af 293 #[.pointer (some ⟨b,0,none⟩),.int .i64 s] w fun e w'=>e=.returned (if bk.n≤s then px none 140 else px (bk.on (s:Int)) 171)∧Below w.heap.size w w':=by
 obtain⟨q,hq⟩:=h;by_cases c1:bk.n≤s
 ·rw[if_pos c1];exact aho hq.bg s c1
 ·rw[if_neg c1];have hs:s<bk.n:=ag;have pM:=hq.on hs;cases ho:bk.on (s:Int)with
  | none=>
   refine acb hq.bg s hs hb.n.2 ?_;rw[pM,←FW,ho];rfl
  | some x=>
   obtain⟨hx,Df⟩:=O9 ho;have h1:=ak1 hq.bg s hs hb.n.2 (by rw[pM,←FW,ho];rfl);have h2:q.sb s=x:=by rw[←Df];exact(hq.dQ x hx).2
   rw[h2] at h1;exact h1
theorem GV{bk:dJ}(h:fQ S w b bk)(id:Int)(hid:0≤id∧id<4294967296):
  Calls af 71 #[.pointer (some ⟨b,0,none⟩),.int .u32 id] w fun e w'=>e=.returned (px (bk.find id) 171)∧fQ S w' b bk∧aG S w w':=by
 obtain⟨q,hq⟩:=h;have hS:S q.ip:=hq.bg.bt.2.2.2.1;cases hf:bk.find id with
 | none=>
  refine(ZK hq id (Ez hf) hid).mono ?_;exact V'
 | some x=>
  obtain⟨hx,rfl⟩:=iu hf;refine(Ct hq x hx hid).mono ?_;exact V'
end Bk
end
section
namespace Bk
open En (Rec Rq dh)
def uR(b:Nat)(q:Rq)(r:Rec)(a8:Int): Array Value:=#[.pointer (some ⟨b,0,none⟩),.int .i64 q.ax,.int .u32 q.tag,.int .u32 q.id,.int .i64 q.av,.int .i64 q.bS,.int .i64 r.ax,.int .u32 r.id,.int .i64 r.av,.int .i64 r.aR,.int .i64 r.ak,.int .i64 a8]
def oC(S:Nat→Prop)(w:World)(b:Nat)(bk:dJ)(er:Int)(e:Ending)(w':World): Prop:=e=.returned (.int .i64 er)∧fQ S w' b bk∧aG S w w'
theorem aeK(S:Nat→Prop)(w:World)(b:Nat)(bk:dJ)(q:Rq)(r:Rec)(a8:Int)(h:fQ S w b bk)(hb:bk.Ok):
  Calls af 340 #[.agg (uR b q r a8)] w (oC S w b bk (if q.bS<1∨1073741824<q.bS then 2 else 0)):=by
 dsimp only[uR];obtain⟨w1,aX⟩:=ae (w.alloc (.cells #[.pointer (some ⟨b,0,none⟩),.int .i64 q.ax,.int .u32 q.tag,.int .u32 q.id,.int .i64 q.av,.int .i64 q.bS,.int .i64 r.ax,.int .u32 r.id,.int .i64 r.av,.int .i64 r.aR,.int .i64 r.ak,.int .i64 a8] 442));obtain⟨ab,hab⟩:=ae w.heap.size;have bh:=aH aX hab;have hb1:=aJ aX;have r5:=bh.cl 5;have h1:fQ S w1 b bk:=Al;have HH:=aa h;have H1:=aa h1;have dH:=aa bh;have bu:=aa hb1;have nW:=aa hb;clear h h1 bh hb1 hb;by_cases c1:q.bS<1
 ·have q1:decide (q.bS<1)=true:=decide_eq_true c1;rw[if_pos (.inl c1)];exact ac6
 ·have q1:decide (q.bS<1)=false:=decide_eq_false c1;by_cases c2:1073741824<q.bS
  ·have q2:decide (1073741824<q.bS)=true:=decide_eq_true c2;rw[if_pos (.inr c2)];exact ac6
  have q2:decide (1073741824<q.bS)=false:=decide_eq_false c2;rw[if_neg (by rintro(h|h);exact c1 h;exact c2 h)];go_enter Tryz.func340,Tryz.ntmps340;go_wp2_with fail;refine ah (dh false 2 w1) ?_;go_wp2_with fail;go_ret;exact⟨rfl,H1.o,aG.aU bu.o⟩
theorem WH(S:Nat→Prop)(w:World)(b:Nat)(bk:dJ)(q:Rq)(r:Rec)(a8:Int)(h:fQ S w b bk)(hb:bk.Ok)(hid:0≤q.id∧q.id<4294967296):
  Calls af 345 #[.agg (uR b q r a8)] w (oC S w b bk (if(bk.find q.id).isNone=true then 171 else 0)):=by
 dsimp only[uR];obtain⟨w1,aX⟩:=ae (w.alloc (.cells #[.pointer (some ⟨b,0,none⟩),.int .i64 q.ax,.int .u32 q.tag,.int .u32 q.id,.int .i64 q.av,.int .i64 q.bS,.int .i64 r.ax,.int .u32 r.id,.int .i64 r.av,.int .i64 r.aR,.int .i64 r.ak,.int .i64 a8] 442));obtain⟨ab,hab⟩:=ae w.heap.size;have bh:=aH aX hab;have hb1:=aJ aX;have r0:=bh.cl 0;have r3:=bh.cl 3;have h1:fQ S w1 b bk:=Al;have HH:=aa h;have H1:=aa h1;have dH:=aa bh;have bu:=aa hb1;have nW:=aa hb;clear h h1 bh hb1 hb;cases hf:bk.find q.id with
 | none=>
  have HG:=aa (GV H1.o q.id hid);rw[hf] at HG;have HF:=aa hf;go_enter Tryz.func345,Tryz.ntmps345;go_wp2_with fail;refine HG.o.mono ?_;rintro e w2 ⟨rfl,nL,jL⟩;have cx:=aa nL;have gV:=aa ((aG.aU (S:=S) bu.o).trans jL);dsimp only[px];clear nL jL hf HG r0 r3;go_wp2_with fail;go_ret;have hb3:=aw (aq w2.heap.size w2) (.cells #[.int .u32 0,.int .i64 0,.int .i64 0] 171);exact⟨rfl,Uh,gV.o.ai hb3⟩
 | some x=>
  have HG:=aa (GV H1.o q.id hid);rw[hf] at HG;have HF:=aa hf;go_enter Tryz.func345,Tryz.ntmps345;go_wp2_with fail;refine HG.o.mono ?_;rintro e w2 ⟨rfl,nL,jL⟩;have cx:=aa nL;have gV:=aa ((aG.aU (S:=S) bu.o).trans jL);dsimp only[px];clear nL jL hf HG r0 r3;go_wp2_with fail;go_ret;have hb3:=aw (aq w2.heap.size w2) (.cells #[.int .u32 x.id,.int .i64 (x.av:Int),.int .i64 x.aR] 171);exact⟨rfl,Uh,gV.o.ai hb3⟩
theorem afk{bk:dJ}(hb:bk.Ok){s:Nat}(h:bk.n≤s): bk.on (s:Int)=none:=by
 cases ho:bk.on (s:Int)with
 | none=>rfl
 | some x=>
  obtain⟨hx,e⟩:=O9 ho;have:=hb.fZ x hx;omega
theorem Vd(S:Nat→Prop)(w:World)(b:Nat)(bk:dJ)(q:Rq)(r:Rec)(a8:Int)(h:fQ S w b bk)(hb:bk.Ok)(hs:0≤q.av):
  Calls af 342 #[.agg (uR b q r a8)] w (oC S w b bk (if dV bk q=true then 170 else 0)):=by
 dsimp only[uR];obtain⟨w1,aX⟩:=ae (w.alloc (.cells #[.pointer (some ⟨b,0,none⟩),.int .i64 q.ax,.int .u32 q.tag,.int .u32 q.id,.int .i64 q.av,.int .i64 q.bS,.int .i64 r.ax,.int .u32 r.id,.int .i64 r.av,.int .i64 r.aR,.int .i64 r.ak,.int .i64 a8] 442));obtain⟨ab,hab⟩:=ae w.heap.size;have bh:=aH aX hab;have hb1:=aJ aX;have r0:=bh.cl 0;have r4:=bh.cl 4;have h1:fQ S w1 b bk:=Al;have HH:=aa h;have H1:=aa h1;have dH:=aa bh;have bu:=aa hb1;have nW:=aa hb;clear h h1 bh hb1;by_cases c1:bk.n≤q.av.toNat
 ·skip;have HG:=aa (show ∀W,fQ S W b bk→Calls af 293 #[.pointer (some ⟨b,0,none⟩),.int .i64 q.av] W fun e w'=>e=.returned (px none 140)∧Below W.heap.size W w' from fun W hW=>by have:=Od hW hb (q.av.toNat);rw[G8 hs,if_pos c1] at this;exact this);have HG:=aa (HG.o w1 H1.o);have HE:=aa (show dV bk q=false from by unfold dV;rw[←G8 hs,afk hb c1]);exact adz
 cases ho:bk.on q.av with
 | none=>
  have HG:=aa (show ∀W,fQ S W b bk→Calls af 293 #[.pointer (some ⟨b,0,none⟩),.int .i64 q.av] W fun e w'=>e=.returned (px none 171)∧Below W.heap.size W w' from fun W hW=>T2);have HG:=aa (HG.o w1 H1.o);have HE:=aa (show dV bk q=false from by unfold dV;rw[ho]);exact adz
 | some x=>
  by_cases c2:x.id=q.id
  ·skip;have HG:=aa (show ∀W,fQ S W b bk→Calls af 293 #[.pointer (some ⟨b,0,none⟩),.int .i64 q.av] W fun e w'=>e=.returned (px (some x) 171)∧Below W.heap.size W w' from fun W hW=>T2);have HG:=aa (HG.o w1 H1.o);have HE:=aa (show dV bk q=false from by unfold dV;rw[ho];simp[c2]);rw[show(if dV bk q=true then(170:Int)else 0)=0 from oP];dsimp only[px] at HG;have hq:(x.id != q.id)=false:=by simpa using c2
   clear c2;clear hb;go_enter Tryz.func342,Tryz.ntmps342;go_wp2_with fail;refine HG.o.mono ?_;rintro e w2 ⟨rfl,hb2⟩;have cx:=bu.eo hb2;have gK:=dH.o.keep hb2;have r3':=gK.cl 3;have hb3:=aw (aq w2.heap.size w2) (.cells #[.int .u32 x.id,.int .i64 (x.av:Int),.int .i64 x.aR] 171);have r3:(w2.alloc (.cells #[.int .u32 x.id,.int .i64 (x.av:Int),.int .i64 x.aR] 171)).cell? ⟨ab,3,none⟩=some (.int .u32 q.id):=(gK.keep hb3).cell 3;have ek:=cx.eo hb3;clear hb2 hb3 gK r0 r4 HG r3';go_wp2_with fail;refine ah (dh false 170 _) ?_;go_wp2_with fail;go_ret;exact⟨rfl,Mb,aG.aU ek.o⟩
  skip;have HG:=aa (show ∀W,fQ S W b bk→Calls af 293 #[.pointer (some ⟨b,0,none⟩),.int .i64 q.av] W fun e w'=>e=.returned (px (some x) 171)∧Below W.heap.size W w' from fun W hW=>T2);have HG:=aa (HG.o w1 H1.o);have HE:=aa (show dV bk q=true from by unfold dV;rw[ho];simp[c2]);rw[show(if dV bk q=true then(170:Int)else 0)=170 from oP];dsimp only[px] at HG;have hq:(x.id != q.id)=true:=by simpa using c2
  clear c2;clear hb;go_enter Tryz.func342,Tryz.ntmps342;go_wp2_with fail;refine HG.o.mono ?_;rintro e w2 ⟨rfl,hb2⟩;have cx:=bu.eo hb2;have gK:=dH.o.keep hb2;have r3':=gK.cl 3;have hb3:=aw (aq w2.heap.size w2) (.cells #[.int .u32 x.id,.int .i64 (x.av:Int),.int .i64 x.aR] 171);have r3:(w2.alloc (.cells #[.int .u32 x.id,.int .i64 (x.av:Int),.int .i64 x.aR] 171)).cell? ⟨ab,3,none⟩=some (.int .u32 q.id):=(gK.keep hb3).cell 3;have ek:=cx.eo hb3;clear hb2 hb3 gK r0 r4 HG r3';go_wp2_with fail;refine ah (dh true 170 _) ?_;go_wp2_with fail;go_ret;exact⟨rfl,Mb,aG.aU ek.o⟩
end Bk
end
section
namespace Bk
open En (Rec Rq dh)
theorem ajv(a b c:Int)(W:World): (Instr.field 80 (.agg #[.int .i64 a,.int .i64 b,.int .i64 c]) 0).run af W=.ok (.int .i64 a) W:=aW
theorem agm(a b c:Int)(W:World): (Instr.field 80 (.agg #[.int .i64 a,.int .i64 b,.int .i64 c]) 1).run af W=.ok (.int .i64 b) W:=aW
theorem aam(S:Nat→Prop)(w:World)(b:Nat)(bk:dJ)(q:Rq)(r:Rec)(a8:Int)(h:fQ S w b bk)(hb:bk.Ok)(hs:0≤q.av):
  Calls af 339 #[.agg (uR b q r a8)] w (oC S w b bk (if(bk.n:Int)≤q.av then 140 else 0)):=by
 dsimp only[uR];obtain⟨w1,aX⟩:=ae (w.alloc (.cells #[.pointer (some ⟨b,0,none⟩),.int .i64 q.ax,.int .u32 q.tag,.int .u32 q.id,.int .i64 q.av,.int .i64 q.bS,.int .i64 r.ax,.int .u32 r.id,.int .i64 r.av,.int .i64 r.aR,.int .i64 r.ak,.int .i64 a8] 442));obtain⟨ab,hab⟩:=ae w.heap.size;have bh:=aH aX hab;have hb1:=aJ aX;have r0:=bh.cl 0;have r4:=bh.cl 4;have h1:fQ S w1 b bk:=Al;have HH:=aa h;have H1:=aa h1;have dH:=aa bh;have bu:=aa hb1;have nW:=aa hb;clear h h1 bh hb1 hb r0 r4;by_cases c1:(bk.n:Int)≤q.av
 ·have q1:decide ((bk.n:Int)≤q.av)=true:=decide_eq_true c1;have lM:=ajv (bk.n:Int) (bk.au:Int) (bk.az:Int);rw[if_pos c1];go_enter Tryz.func339,Tryz.ntmps339;go_wp2_with fail;have ic:=aa (show ∀W,Below w1.heap.size w1 W→(W.cell? ⟨ab,0,none⟩=some (.pointer (some ⟨b,0,none⟩))∧W.cell? ⟨ab,4,none⟩=some (.int .i64 q.av)∧Below w1.heap.size w1 W)from fun W hW=>⟨(dH.o.keep hW).cell 0,(dH.o.keep hW).cell 4,hW⟩);refine sY (S:=(fun W=>W.cell? ⟨ab,0,none⟩=some (.pointer (some ⟨b,0,none⟩))∧W.cell? ⟨ab,4,none⟩=some (.int .i64 q.av)∧Below w1.heap.size w1 W)) tY fun hHeld=>?_
  have oZ:=aa (show Below w1.heap.size w1 w1.drew from ay (aq _ _));refine kW 0 1 2 3 ?_;refine ty 4 ?_;refine cD 5 fun K hK=>?_
  go_simp;refine(fT (show cA S _ b _ _ _ _ _ _ (j8 H1.o)from((jZ H1.o).ai oZ.o).bg)).mono ?_;rintro e w3 ⟨rfl,hb3⟩;have oZ:=oZ.eo hb3;clear hb3;go_wp2_with fail;refine bW hK jJ fun jA=>?_
  clear hK K;refine uw 6 7 ?_;refine cD 8 fun K hK=>?_
  go_simp;refine ah (dh true 140 _) ?_;exact D9
 ·have q1:decide ((bk.n:Int)≤q.av)=false:=decide_eq_false c1;have lM:=ajv (bk.n:Int) (bk.au:Int) (bk.az:Int);rw[if_neg c1];go_enter Tryz.func339,Tryz.ntmps339;go_wp2_with fail;have ic:=aa (show ∀W,Below w1.heap.size w1 W→(W.cell? ⟨ab,0,none⟩=some (.pointer (some ⟨b,0,none⟩))∧W.cell? ⟨ab,4,none⟩=some (.int .i64 q.av)∧Below w1.heap.size w1 W)from fun W hW=>⟨(dH.o.keep hW).cell 0,(dH.o.keep hW).cell 4,hW⟩);refine sY (S:=(fun W=>W.cell? ⟨ab,0,none⟩=some (.pointer (some ⟨b,0,none⟩))∧W.cell? ⟨ab,4,none⟩=some (.int .i64 q.av)∧Below w1.heap.size w1 W)) tY fun hHeld=>?_
  have oZ:=aa (show Below w1.heap.size w1 w1.drew from ay (aq _ _));refine kW 0 1 2 3 ?_;refine ty 4 ?_;refine cD 5 fun K hK=>?_
  go_simp;refine(fT (show cA S _ b _ _ _ _ _ _ (j8 H1.o)from((jZ H1.o).ai oZ.o).bg)).mono ?_;rintro e w3 ⟨rfl,hb3⟩;have oZ:=oZ.eo hb3;clear hb3;go_wp2_with fail;refine bW hK jJ fun jA=>?_
  clear hK K;refine uw 6 7 ?_;refine cD 8 fun K hK=>?_
  go_simp;refine ah (dh false 140 _) ?_;exact D9
theorem X9(S:Nat→Prop)(w:World)(b:Nat)(bk:dJ)(q:Rq)(r:Rec)(a8:Int)(h:fQ S w b bk)(hb:bk.Ok)(ht:0≤q.bS∧q.bS≤1073741824):
  Calls af 341 #[.agg (uR b q r a8)] w (oC S w b bk (if 1099511627776<bk.ak+q.bS then 172 else 0)):=by
 dsimp only[uR];obtain⟨w1,aX⟩:=ae (w.alloc (.cells #[.pointer (some ⟨b,0,none⟩),.int .i64 q.ax,.int .u32 q.tag,.int .u32 q.id,.int .i64 q.av,.int .i64 q.bS,.int .i64 r.ax,.int .u32 r.id,.int .i64 r.av,.int .i64 r.aR,.int .i64 r.ak,.int .i64 a8] 442));obtain⟨ab,hab⟩:=ae w.heap.size;have bh:=aH aX hab;have hb1:=aJ aX;have r0:=bh.cl 0;have r5:=bh.cl 5;have h1:fQ S w1 b bk:=Al;have HH:=aa h;have H1:=aa h1;have dH:=aa bh;have bu:=aa hb1;have nW:=aa hb;have PD:=hb.ak;have hwx:IntKind.i64.wrap (bk.ak+q.bS)=bk.ak+q.bS:=L6;clear h h1 bh hb1 hb r0 r5;by_cases c1:1099511627776<bk.ak+q.bS
 ·have q1:decide (1099511627776<bk.ak+q.bS)=true:=decide_eq_true c1;rw[if_pos c1];go_enter Tryz.func341,Tryz.ntmps341;go_wp2_with fail;have ic:=aa (show ∀W,Below w1.heap.size w1 W→(W.cell? ⟨ab,0,none⟩=some (.pointer (some ⟨b,0,none⟩))∧W.cell? ⟨ab,5,none⟩=some (.int .i64 q.bS)∧Below w1.heap.size w1 W)from fun W hW=>⟨(dH.o.keep hW).cell 0,(dH.o.keep hW).cell 5,hW⟩);refine sY (S:=(fun W=>W.cell? ⟨ab,0,none⟩=some (.pointer (some ⟨b,0,none⟩))∧W.cell? ⟨ab,5,none⟩=some (.int .i64 q.bS)∧Below w1.heap.size w1 W)) tY fun hHeld=>?_
  have oZ:=aa (show Below w1.heap.size w1 w1.drew from ay (aq _ _));refine kW 0 1 3 4 ?_;refine ty 5 ?_;refine cD 2 fun K hK=>?_
  go_simp;refine ah (sO (show cA S _ b _ _ _ _ _ _ (j8 H1.o) from((jZ H1.o).ai oZ.o).bg)) ?_;go_wp2_with fail;refine bW hK jJ fun Gk=>?_
  clear hK K;refine uw 6 7 ?_;refine cD 8 fun K hK=>?_
  go_simp;refine ah (dh true 172 _) ?_;exact D9
 ·have q1:decide (1099511627776<bk.ak+q.bS)=false:=decide_eq_false c1;rw[if_neg c1];go_enter Tryz.func341,Tryz.ntmps341;go_wp2_with fail;have ic:=aa (show ∀W,Below w1.heap.size w1 W→(W.cell? ⟨ab,0,none⟩=some (.pointer (some ⟨b,0,none⟩))∧W.cell? ⟨ab,5,none⟩=some (.int .i64 q.bS)∧Below w1.heap.size w1 W)from fun W hW=>⟨(dH.o.keep hW).cell 0,(dH.o.keep hW).cell 5,hW⟩);refine sY (S:=(fun W=>W.cell? ⟨ab,0,none⟩=some (.pointer (some ⟨b,0,none⟩))∧W.cell? ⟨ab,5,none⟩=some (.int .i64 q.bS)∧Below w1.heap.size w1 W)) tY fun hHeld=>?_
  have oZ:=aa (show Below w1.heap.size w1 w1.drew from ay (aq _ _));refine kW 0 1 3 4 ?_;refine ty 5 ?_;refine cD 2 fun K hK=>?_
  go_simp;refine ah (sO (show cA S _ b _ _ _ _ _ _ (j8 H1.o) from((jZ H1.o).ai oZ.o).bg)) ?_;go_wp2_with fail;refine bW hK jJ fun Gk=>?_
  clear hK K;refine uw 6 7 ?_;refine cD 8 fun K hK=>?_
  go_simp;refine ah (dh false 172 _) ?_;exact D9
theorem Mu(k:Int): En.cM k≤32:=by unfold En.cM;split;omega;split;omega;split;omega;split;omega;split <;>omega
theorem abi(S:Nat→Prop)(w:World)(b:Nat)(bk:dJ)(q:Rq)(r:Rec)(a8:Int)(h:fQ S w b bk)(hb:bk.Ok):
  Calls af 344 #[.agg (uR b q r a8)] w (oC S w b bk (if a8<22+(En.cM r.ax:Int)then 220 else 0)):=by
 dsimp only[uR];obtain⟨w1,aX⟩:=ae (w.alloc (.cells #[.pointer (some ⟨b,0,none⟩),.int .i64 q.ax,.int .u32 q.tag,.int .u32 q.id,.int .i64 q.av,.int .i64 q.bS,.int .i64 r.ax,.int .u32 r.id,.int .i64 r.av,.int .i64 r.aR,.int .i64 r.ak,.int .i64 a8] 442));obtain⟨ab,hab⟩:=ae w.heap.size;have bh:=aH aX hab;have hb1:=aJ aX;have r6:=bh.cl 6;have r11:=bh.cl 11;have h1:fQ S w1 b bk:=Al;have HH:=aa h;have H1:=aa h1;have dH:=aa bh;have bu:=aa hb1;have nW:=aa hb;have MS:=Mu r.ax;obtain⟨m,hm⟩:=ae (En.cM r.ax);have yO:=aa (fun W=>En.Sd r.ax W);rw[hm] at yO MS ⊢;clear h h1 bh hb1 hb r6 r11 hm;by_cases c1:a8<22+(m:Int)
 ·have q1:decide (a8<22+(m:Int))=true:=decide_eq_true c1;rw[if_pos c1];go_enter Tryz.func344,Tryz.ntmps344;go_wp2_with fail;have ic:=aa (show ∀W,Below w1.heap.size w1 W→(W.cell? ⟨ab,6,none⟩=some (.int .i64 r.ax)∧W.cell? ⟨ab,11,none⟩=some (.int .i64 a8)∧Below w1.heap.size w1 W)from fun W hW=>⟨(dH.o.keep hW).cell 6,(dH.o.keep hW).cell 11,hW⟩);refine sY (S:=(fun W=>W.cell? ⟨ab,6,none⟩=some (.int .i64 r.ax)∧W.cell? ⟨ab,11,none⟩=some (.int .i64 a8)∧Below w1.heap.size w1 W)) tY fun hHeld=>?_
  have oZ:=aa (show Below w1.heap.size w1 w1.drew from ay (aq _ _));refine kW 0 1 2 5 ?_;refine ty 6 ?_;refine cD 3 fun K hK=>?_
  go_simp;refine(yO.o _).mono ?_;rintro e w3 ⟨rfl,hb3⟩;have oZ:=oZ.eo hb3;clear hb3;go_wp2_with fail;refine bW hK jJ fun Nf=>?_
  clear hK K;refine cD 4 fun K hK=>?_
  go_simp;refine ah (En.Cw m MS _) ?_;go_wp2_with fail;refine bW hK jJ fun oX=>?_
  clear hK K;refine ty 7 ?_;refine cD 8 fun K hK=>?_
  go_simp;refine ah (dh true 220 _) ?_;exact D9
 ·have q1:decide (a8<22+(m:Int))=false:=decide_eq_false c1;rw[if_neg c1];go_enter Tryz.func344,Tryz.ntmps344;go_wp2_with fail;have ic:=aa (show ∀W,Below w1.heap.size w1 W→(W.cell? ⟨ab,6,none⟩=some (.int .i64 r.ax)∧W.cell? ⟨ab,11,none⟩=some (.int .i64 a8)∧Below w1.heap.size w1 W)from fun W hW=>⟨(dH.o.keep hW).cell 6,(dH.o.keep hW).cell 11,hW⟩);refine sY (S:=(fun W=>W.cell? ⟨ab,6,none⟩=some (.int .i64 r.ax)∧W.cell? ⟨ab,11,none⟩=some (.int .i64 a8)∧Below w1.heap.size w1 W)) tY fun hHeld=>?_
  have oZ:=aa (show Below w1.heap.size w1 w1.drew from ay (aq _ _));refine kW 0 1 2 5 ?_;refine ty 6 ?_;refine cD 3 fun K hK=>?_
  go_simp;refine(yO.o _).mono ?_;rintro e w3 ⟨rfl,hb3⟩;have oZ:=oZ.eo hb3;clear hb3;go_wp2_with fail;refine bW hK jJ fun Nf=>?_
  clear hK K;refine cD 4 fun K hK=>?_
  go_simp;refine ah (En.Cw m MS _) ?_;go_wp2_with fail;refine bW hK jJ fun oX=>?_
  clear hK K;refine ty 7 ?_;refine cD 8 fun K hK=>?_
  go_simp;refine ah (dh false 220 _) ?_;exact D9
end Bk
end
section
namespace Bk
open En (Rec Rq dh)
theorem abg(S:Nat→Prop)(w:World)(b:Nat)(bk:dJ)(q:Rq)(r:Rec)(a8:Int)(h:fQ S w b bk)(hb:bk.Ok):
  Calls af 343 #[.agg (uR b q r a8)] w (oC S w b bk (if bk.au≤bk.L.length∨bk.next=4294967295 then 6 else 0)):=by
 dsimp only[uR];obtain⟨w1,aX⟩:=ae (w.alloc (.cells #[.pointer (some ⟨b,0,none⟩),.int .i64 q.ax,.int .u32 q.tag,.int .u32 q.id,.int .i64 q.av,.int .i64 q.bS,.int .i64 r.ax,.int .u32 r.id,.int .i64 r.av,.int .i64 r.aR,.int .i64 r.ak,.int .i64 a8] 442));obtain⟨ab,hab⟩:=ae w.heap.size;have bh:=aH aX hab;have hb1:=aJ aX;have r0:=bh.cl 0;have h1:fQ S w1 b bk:=Al;have HH:=aa h;have H1:=aa h1;have dH:=aa bh;have bu:=aa hb1;have nW:=aa hb;clear h h1 bh hb1 hb r0;by_cases c1:bk.au≤bk.L.length
 ·have q1:decide ((bk.au:Int)≤(bk.L.length:Int))=true:=decide_eq_true ag;have q1':decide (bk.au≤bk.L.length)=true:=decide_eq_true c1;have lM:=agm (bk.n:Int) (bk.au:Int) (bk.az:Int);rw[if_pos (.inl c1)];go_enter Tryz.func343,Tryz.ntmps343;go_wp2_with fail;have ic:=aa (show ∀W,Below w1.heap.size w1 W→(W.cell? ⟨ab,0,none⟩=some (.pointer (some ⟨b,0,none⟩))∧Below w1.heap.size w1 W)from fun W hW=>⟨(dH.o.keep hW).cell 0,hW⟩);refine sY (S:=(fun W=>W.cell? ⟨ab,0,none⟩=some (.pointer (some ⟨b,0,none⟩))∧Below w1.heap.size w1 W)) tY fun hHeld=>?_
  have oZ:=aa (show Below w1.heap.size w1 w1.drew from ay (aq _ _));refine kW 0 1 3 4 ?_;refine cD 2 fun K hK=>?_
  go_simp;refine ah (uX (show cA S _ b _ _ _ _ _ _ (j8 H1.o) from((jZ H1.o).ai oZ.o).bg)) ?_;go_wp2_with fail;refine bW hK jJ fun Gk=>?_
  clear hK K;refine cD 5 fun K hK=>?_
  go_simp;refine(fT (show cA S _ b _ _ _ _ _ _ (j8 H1.o)from((jZ H1.o).ai oZ.o).bg)).mono ?_;rintro e w3 ⟨rfl,hb3⟩;have oZ:=oZ.eo hb3;clear hb3;go_wp2_with fail;refine bW hK jJ fun jA=>?_
  clear hK K;refine nZ 6 7 8 9 10 11 12 13 ?_;refine cD 14 fun K hK=>?_
  go_simp;refine ah (dh true 6 _) ?_;go_wp2_with fail;refine bW hK jJ fun lN=>?_
  clear hK K;refine ty 15 ?_;exact V7
 ·have q1:decide ((bk.au:Int)≤(bk.L.length:Int))=false:=decide_eq_false ag;have q1':decide (bk.au≤bk.L.length)=false:=decide_eq_false c1;by_cases c2:bk.next=4294967295
  ·have q2:(bk.next==4294967295)=true:=beq_iff_eq.2 c2;have EP:=aa c2;have lM:=agm (bk.n:Int) (bk.au:Int) (bk.az:Int);rw[if_pos (.inr c2)];clear c2;go_enter Tryz.func343,Tryz.ntmps343;go_wp2_with fail;have ic:=aa (show ∀W,Below w1.heap.size w1 W→(W.cell? ⟨ab,0,none⟩=some (.pointer (some ⟨b,0,none⟩))∧Below w1.heap.size w1 W)from fun W hW=>⟨(dH.o.keep hW).cell 0,hW⟩);refine sY (S:=(fun W=>W.cell? ⟨ab,0,none⟩=some (.pointer (some ⟨b,0,none⟩))∧Below w1.heap.size w1 W)) tY fun hHeld=>?_
   have oZ:=aa (show Below w1.heap.size w1 w1.drew from ay (aq _ _));refine kW 0 1 3 4 ?_;refine cD 2 fun K hK=>?_
   go_simp;refine ah (uX (show cA S _ b _ _ _ _ _ _ (j8 H1.o) from((jZ H1.o).ai oZ.o).bg)) ?_;go_wp2_with fail;refine bW hK jJ fun Gk=>?_
   clear hK K;refine cD 5 fun K hK=>?_
   go_simp;refine(fT (show cA S _ b _ _ _ _ _ _ (j8 H1.o)from((jZ H1.o).ai oZ.o).bg)).mono ?_;rintro e w3 ⟨rfl,hb3⟩;have oZ:=oZ.eo hb3;clear hb3;go_wp2_with fail;refine bW hK jJ fun jA=>?_
   clear hK K;refine kW 6 7 8 9 ?_;refine ty 10 ?_;refine cD 11 fun K hK=>?_
   go_simp;refine ah (wh (show cA S _ b _ _ _ _ _ _ (j8 H1.o) from((jZ H1.o).ai oZ.o).bg)) ?_;go_wp2_with fail;refine bW hK jJ fun abd=>?_
   clear hK K;refine uw 12 13 ?_;refine cD 14 fun K hK=>?_
   go_simp;refine ah (dh true 6 _) ?_;go_wp2_with fail;refine bW hK jJ fun lN=>?_
   clear hK K;refine ty 15 ?_;exact V7
  have q2:(bk.next==4294967295)=false:=beq_eq_false_iff_ne.2 c2;have lM:=agm (bk.n:Int) (bk.au:Int) (bk.az:Int);rw[if_neg (by rintro(h|h);exact c1 h;exact c2 h)];go_enter Tryz.func343,Tryz.ntmps343;go_wp2_with fail;have ic:=aa (show ∀W,Below w1.heap.size w1 W→(W.cell? ⟨ab,0,none⟩=some (.pointer (some ⟨b,0,none⟩))∧Below w1.heap.size w1 W)from fun W hW=>⟨(dH.o.keep hW).cell 0,hW⟩);refine sY (S:=(fun W=>W.cell? ⟨ab,0,none⟩=some (.pointer (some ⟨b,0,none⟩))∧Below w1.heap.size w1 W)) tY fun hHeld=>?_
  have oZ:=aa (show Below w1.heap.size w1 w1.drew from ay (aq _ _));refine kW 0 1 3 4 ?_;refine cD 2 fun K hK=>?_
  go_simp;refine ah (uX (show cA S _ b _ _ _ _ _ _ (j8 H1.o) from((jZ H1.o).ai oZ.o).bg)) ?_;go_wp2_with fail;refine bW hK jJ fun Gk=>?_
  clear hK K;refine cD 5 fun K hK=>?_
  go_simp;refine(fT (show cA S _ b _ _ _ _ _ _ (j8 H1.o)from((jZ H1.o).ai oZ.o).bg)).mono ?_;rintro e w3 ⟨rfl,hb3⟩;have oZ:=oZ.eo hb3;clear hb3;go_wp2_with fail;refine bW hK jJ fun jA=>?_
  clear hK K;refine kW 6 7 8 9 ?_;refine ty 10 ?_;refine cD 11 fun K hK=>?_
  go_simp;refine ah (wh (show cA S _ b _ _ _ _ _ _ (j8 H1.o) from((jZ H1.o).ai oZ.o).bg)) ?_;go_wp2_with fail;refine bW hK jJ fun abd=>?_
  clear hK K;refine uw 12 13 ?_;refine cD 14 fun K hK=>?_
  go_simp;refine ah (dh false 6 _) ?_;go_wp2_with fail;refine bW hK jJ fun lN=>?_
  clear hK K;refine ty 15 ?_;exact V7
