import Derived.Test.YtemighjbfanenaaGreatDoorQk26
import Derived.Test.YtemighjbfanenaaGreatDoorQk29
set_option linter.all false
set_option maxRecDepth 100000
set_option maxHeartbeats 16000000
namespace Go.Proofs.YtemighjbfanenaaGreatDoor
open RowKit
open Oc (le)
open Bk (bS B2 ie sU)
open yj (hasB)
open En (dI dS)
open Bool renaming and_eq_true→lX,or_eq_true→zJ
open Classical renaming choose_spec→jQ,choose→jP
open Go.Proofs.Tryz renaming prog→af
open Int renaming toNat_of_nonneg→GD
open List renaming append_eq_nil_iff→PF
open Nat renaming le_refl→aY
open RowKit.Below renaming refl→ar
theorem DD{p:Prop}(h:p:=by
 go_wp2_with fail;refine bW hK jZ fun qu=>?_
 clear hK K;refine ty 9 ?_;refine bM ?_;go_wp2_with fail;go_ret;have HZ:=aa (av bA.o js.o);exact⟨rfl,abL,aI.aW HZ.o⟩):p:=h
theorem U5{p:Prop}(h:p:=by
 refine bM ?_;go_wp2_with fail;go_ret;have HZ:=aa (av bA.o js.o);exact⟨rfl,abL,aI.aW HZ.o⟩):p:=h
theorem acD{p:Prop}(h:p:=by
 rw[show(if dS bk q=true then(170:Int)else 0)=0 from oY];dsimp only[pE] at HG;clear hb;go_enter Tryz.func342,Tryz.ntmps342;go_wp2_with fail;refine HG.o.mono ?_;rintro e w2 ⟨rfl,hb2⟩;have cu:=bA.dQ hb2;have gZ:=dF.o.ah hb2;have r3':=gZ.cl 3;have hb3:=ay (ar w2.heap.size w2) (.cells #[.int .u32 0,.int .i64 0,.int .i64 0] 171);have r3:(w2.alloc (.cells #[.int .u32 0,.int .i64 0,.int .i64 0] 171)).cell? ⟨ab,3,none⟩=some (.int .u32 q.id):=(gZ.ah hb3).cell 3;have dV:=cu.dQ hb3;clear hb2 hb3 gZ r0 r4 HG r3';go_wp2_with fail;refine ag (dn false 170 _) ?_;go_wp2_with fail;go_ret;exact⟨rfl,Lr,aI.aW dV.o⟩):p:=h
theorem UN{p:Prop}(h:p:=by
 split
 ·exact⟨rfl,rfl,rfl⟩
 split
 ·exact⟨rfl,rfl,rfl⟩
 split <;>exact⟨rfl,rfl,rfl⟩):p:=h
theorem aca{p:Prop}(h:p:=by
 go_enter Tryz.func340,Tryz.ntmps340;go_wp2_with fail;refine ag (dn true 2 w1) ?_;go_wp2_with fail;go_ret;exact⟨rfl,H1.o,aI.aW bA.o⟩):p:=h
theorem ab9{p:Prop}(h:p:=by
 exact .told (cf q (e.sl.save e.dev (jT e.bk) e.log.last).1) _ rfl rfl rfl rfl rfl (by rw[hk];decide) (fun _=>ad3) (hi e.log e.aD h.log h.fit h.full h.fine)):p:=h
theorem U8{p:Prop}(h:p:=by
 rintro e w' ⟨he,h1,h2⟩;exact⟨he,⟨q,h1⟩,h2.mono fun k _ hk=>by subst hk;exact hS⟩):p:=h
theorem jZ{p:Prop}(h:p:=by exact fX.o _ js.o):p:=h
theorem vw{p:Prop}(h:p:=by exact fX.o _ (az (ar _ _))):p:=h
theorem abL{p:Prop}(h:p:=by obtain⟨p,hp⟩:=HH.o;exact⟨p,hp.ak HZ.o⟩):p:=h
theorem Ag{p:Prop}(h:p:=by obtain⟨p,hp⟩:=h;exact⟨p,hp.ak hb1⟩):p:=h
theorem SQ{p:Prop}(h:p:=by have:=Nf hW hb (q.aw.toNat);rw[GD hs,if_neg c1,ho] at this;exact this):p:=h
theorem TZ{p:Prop}(h:p:=by show e.log.done≤(e.log.eC++ [_]).length;rw[List.length_append];have:=h.log.done;omega):p:=h
theorem AK{p:Prop}(h:p:=by rw[c];decide):p:=h
theorem Lr{p:Prop}(h:p:=by obtain⟨p,hp⟩:=HH.o;exact⟨p,hp.ak dV.o⟩):p:=h
theorem TD{p:Prop}(h:p:=by unfold bt;simp only[zJ,lX,decide_eq_true_eq];omega):p:=h
theorem ad3{p:Prop}(h:p:=by show(e.sl.save e.dev (jT e.bk) e.log.last).1≠0;rw[c];decide):p:=h
theorem S7{p:Prop}(h:p:=by obtain⟨p,hp⟩:=cu.o;exact⟨p,hp.ak hb3⟩):p:=h
section
namespace En
theorem LD(k:Int): cO k=if recKind k=true then mD (dN k).1 (dN k).2.1 (dN k).2.2.1 (dN k).2.2.2 4 else 0:=by
 by_cases hk:1≤k∧k≤5
 ·rcases(show k=1∨k=2∨k=3∨k=4∨k=5 from ai)with rfl|rfl|rfl|rfl|rfl <;>rfl
 have h1:recKind k=false:=T6;rw[h1,if_neg aM];unfold cO;rw[if_neg ai,if_neg ai,if_neg ai,if_neg ai,if_neg ai]
theorem Q9(k:Int)(w:World): Calls af 367 #[.int .i64 k] w fun e w'=>e= .returned (.int .i64 (cO k:Nat))∧Below w.heap.size w w':=by
 obtain⟨a1,a2,a3,a4,hh⟩: ∃ a1 a2 a3 a4,dN k=(a1,a2,a3,a4):=⟨_,_,_,_,rfl⟩;obtain⟨ok,fw⟩:=ae (recKind k);have HO:=aa (fun W=>A9 hh fw W);have HE:=aa (show cO k=if ok=true then mD a1 a2 a3 a4 4 else 0 by rw[LD,hh,fw]);clear hh fw;go_enter Tryz.func367,Tryz.ntmps367;go_wp2_with fail;refine(HO.o _).mono ?_;rintro e w1 ⟨rfl,hb1⟩;have bA:=aa hb1;clear hb1;go_upto_region 2 with fail
 obtain⟨w2,hw2⟩:=ae (w1.alloc (.cells #[.bool a1,.bool a2,.bool a3,.bool a4] 266));obtain⟨sb,kU⟩:=ae w1.heap.size;rw[hw2,kU];have gZ:=aJ hw2 kU;have hb2:=ek bA.o hw2;have s0:=gZ.cl 0;have s1:=gZ.cl 1;have s2:=gZ.cl 2;have s3:=gZ.cl 3;have cu:=aa hb2;clear gZ hb2 hw2;cases ok
 ·go_wp2_with fail;go_ret;exact⟨oY,cu.o⟩
 go_wp2_with fail;refine(P' a1 a2 a3 a4 w2).mono ?_;rintro e w3 ⟨rfl,hb3⟩;have dV:=cu.dQ hb3;clear hb3 s0 s1 s2 s3;go_wp2_with fail;go_ret;exact⟨oY,dV.o⟩
theorem aaV(r:Rec)(w:World)(fw:r.ok=true): Calls af 217 #[.agg (fA r)] w (ui (jb r) w):=by
 rcases sU fw with⟨id,s,t,rfl,h1,h2,h3,h4,h5⟩|⟨id,rfl,h1,h2⟩|⟨id,rfl,h1,h2⟩|⟨id,s,rfl,h1,h2,h3⟩|⟨c,rfl,h1,h2⟩
 ·obtain⟨i,rfl⟩: ∃ i:Nat,id=i:=⟨id.toNat,ai⟩;obtain⟨u,rfl⟩: ∃ u:Nat,t=u:=⟨t.toNat,ai⟩;exact aiq i s u w ai h3 ai
 ·obtain⟨i,rfl⟩: ∃ i:Nat,id=i:=⟨id.toNat,ai⟩;exact aip i w ai
 ·obtain⟨i,rfl⟩: ∃ i:Nat,id=i:=⟨id.toNat,ai⟩;exact aio i w ai
 ·obtain⟨i,rfl⟩: ∃ i:Nat,id=i:=⟨id.toNat,ai⟩;exact ain i s w ai h3
 obtain⟨i,rfl⟩: ∃ i:Nat,c=i:=⟨c.toNat,ai⟩;exact aim i w ai
theorem dn(so:Bool)(x:Int)(w:World): Calls af 366 #[.bool so,.int .i64 x] w fun e w'=>e= .returned (.int .i64 (if so=true then x else 0))∧w'=w:=by
 cases so
 ·go_enter Tryz.func366,Tryz.ntmps366;go_wp2_with fail;go_ret;exact⟨rfl,rfl⟩
 go_enter Tryz.func366,Tryz.ntmps366;go_wp2_with fail;go_ret;exact⟨rfl,rfl⟩
end En
end
section
namespace Bk
open En (Rec)
variable{S:Nat→Prop}{w:World}{b:Nat}
theorem af9{n au:Nat} {aA next aq:Int}{len:Nat}{q:bI}(h:cG S w b n au aA next aq len q)(i:Nat)(hi:n≤i):
  Calls af 293 #[.pointer (some ⟨b,0,none⟩),.int .i64 i] w fun e w'=>e= .returned (.tuple #[.agg #[.int .u32 0,.int .i64 0,.int .i64 0],.int .i64 140])∧Below w.heap.size w w':=by
 have HH:=aa h;have Md:(n:Int)≤(i:Int):=ai;have CB:(0:Int)≤(i:Int):=ai;clear h;go_enter Tryz.func293,Tryz.ntmps293;go_wp2_with fail;have hb1:Below w.heap.size w (w.alloc (.cells #[.int .u32 0,.int .i64 0,.int .i64 0] 171)):=ay (ar _ _) _;have bp:aG (w.alloc (.cells #[.int .u32 0,.int .i64 0,.int .i64 0] 171)) w.heap.size 171 #[.int .u32 0,.int .i64 0,.int .i64 0]:=aG.fresh w _ _;obtain⟨w1,a8⟩:=ae (w.alloc (.cells #[.int .u32 0,.int .i64 0,.int .i64 0] 171));obtain⟨r,hr⟩:=ae w.heap.size;rw[a8] at hb1 bp ⊢;have hc1:=HH.o.ak hb1;have bA:=aa hb1;clear hb1;rw[hr] at bp ⊢;clear a8;refine ag (cY b true w1 (hc1.own.cell 3)) ?_;have x0:w1.cell? ⟨b,0,none⟩=some (.int .i64 n):=hc1.own.cell 0;have dF:=aa bp;have HR:=aa hr;clear hc1 bp hr;go_wp2_with (refine aj rfl 171 _ _ rfl r 171 _ #[.int .u32 0,.int .i64 0,.int .i64 0] dF.o rfl rfl rfl eV AA ?_;intro w3 dE hg3 hs3;have pC:=aa dE;have zF:=aa hg3;clear dE hg3 hs3);refine bodyPost_ret (results_cell_tmp Tryz.results293 _ iI (aL 171 pC.o _ Tryz.underlying171 rfl eV)) rfl ⟨rfl,br bA.o zF.o KO⟩
def pE(o:Option bS)(er:Int): Value:=match o with
 | some x=>.tuple #[.agg #[.int .u32 x.id,.int .i64 (x.aw:Int),.int .i64 x.aR],.int .i64 0]
 | none=>.tuple #[.agg #[.int .u32 0,.int .i64 0,.int .i64 0],.int .i64 er]
theorem Ob{bk:dI}{s:Nat}{x:bS}(h:bk.on (s:Int)=some x): x∈bk.L∧x.aw=s:=
 ⟨List.mem_of_find?_eq_some h,by have:decide ((x.aw:Int)=(s:Int))=true:=by simpa using List.find?_some h
                                 exact Int.ofNat.inj (of_decide_eq_true this)⟩
theorem Nf{bk:dI}(h:fL S w b bk)(hb:bk.Ok)(s:Nat):
  Calls af 293 #[.pointer (some ⟨b,0,none⟩),.int .i64 s] w fun e w'=>e= .returned (if bk.n≤s then pE none 140 else pE (bk.on (s:Int)) 171)∧Below w.heap.size w w':=by
 obtain⟨q,hq⟩:=h;by_cases c1:bk.n≤s
 ·rw[if_pos c1];exact af9 hq.bg s c1
 ·rw[if_neg c1];have hs:s<bk.n:=ai;have pS:=hq.on hs;cases ho:bk.on (s:Int)with
  | none=>
   refine abl hq.bg s hs hb.n.2 ?_;rw[pS,←Fu,ho];rfl
  | some x=>
   obtain⟨hx,CV⟩:=Ob ho;have h1:=ajI hq.bg s hs hb.n.2 (by rw[pS,←Fu,ho];rfl);have h2:q.sb s=x:=by rw[←CV];exact(hq.cw x hx).2
   rw[h2] at h1;exact h1
theorem Gn{bk:dI}(h:fL S w b bk)(id:Int)(hid:0≤id∧id<4294967296):
  Calls af 71 #[.pointer (some ⟨b,0,none⟩),.int .u32 id] w fun e w'=>e= .returned (pE (bk.find id) 171)∧fL S w' b bk∧aI S w w':=by
 obtain⟨q,hq⟩:=h;have hS:S q.ip:=hq.bg.bB.2.2.2.1;cases hf:bk.find id with
 | none=>
  refine(Yu hq id (D6 hf) hid).mono ?_;exact U8
 | some x=>
  obtain⟨hx,rfl⟩:=ie hf;refine(Cj hq x hx hid).mono ?_;exact U8
end Bk
end
section
namespace Bk
open En (Rec Rq dn)
def uO(b:Nat)(q:Rq)(r:Rec)(bj:Int): Array Value:=#[.pointer (some ⟨b,0,none⟩),.int .i64 q.ax,.int .u32 q.tag,.int .u32 q.id,.int .i64 q.aw,.int .i64 q.bV,.int .i64 r.ax,.int .u32 r.id,.int .i64 r.aw,.int .i64 r.aR,.int .i64 r.aq,.int .i64 bj]
def oL(S:Nat→Prop)(w:World)(b:Nat)(bk:dI)(er:Int)(e:Ending)(w':World): Prop:=e= .returned (.int .i64 er)∧fL S w' b bk∧aI S w w'
theorem adN(S:Nat→Prop)(w:World)(b:Nat)(bk:dI)(q:Rq)(r:Rec)(bj:Int)(h:fL S w b bk)(hb:bk.Ok):
  Calls af 340 #[.agg (uO b q r bj)] w (oL S w b bk (if q.bV<1∨1073741824<q.bV then 2 else 0)):=by
 dsimp only[uO];obtain⟨w1,a8⟩:=ae (w.alloc (.cells #[.pointer (some ⟨b,0,none⟩),.int .i64 q.ax,.int .u32 q.tag,.int .u32 q.id,.int .i64 q.aw,.int .i64 q.bV,.int .i64 r.ax,.int .u32 r.id,.int .i64 r.aw,.int .i64 r.aR,.int .i64 r.aq,.int .i64 bj] 442));obtain⟨ab,hab⟩:=ae w.heap.size;have bp:=aJ a8 hab;have hb1:=aK a8;have r5:=bp.cl 5;have h1:fL S w1 b bk:=Ag;have HH:=aa h;have H1:=aa h1;have dF:=aa bp;have bA:=aa hb1;have pg:=aa hb;clear h h1 bp hb1 hb;by_cases c1:q.bV<1
 ·have q1:decide (q.bV<1)=true:=decide_eq_true c1;rw[if_pos (.inl c1)];exact aca
 ·have q1:decide (q.bV<1)=false:=decide_eq_false c1;by_cases c2:1073741824<q.bV
  ·have q2:decide (1073741824<q.bV)=true:=decide_eq_true c2;rw[if_pos (.inr c2)];exact aca
  have q2:decide (1073741824<q.bV)=false:=decide_eq_false c2;rw[if_neg (by rintro(h|h);exact c1 h;exact c2 h)];go_enter Tryz.func340,Tryz.ntmps340;go_wp2_with fail;refine ag (dn false 2 w1) ?_;go_wp2_with fail;go_ret;exact⟨rfl,H1.o,aI.aW bA.o⟩
theorem Vw(S:Nat→Prop)(w:World)(b:Nat)(bk:dI)(q:Rq)(r:Rec)(bj:Int)(h:fL S w b bk)(hb:bk.Ok)(hid:0≤q.id∧q.id<4294967296):
  Calls af 345 #[.agg (uO b q r bj)] w (oL S w b bk (if(bk.find q.id).isNone=true then 171 else 0)):=by
 dsimp only[uO];obtain⟨w1,a8⟩:=ae (w.alloc (.cells #[.pointer (some ⟨b,0,none⟩),.int .i64 q.ax,.int .u32 q.tag,.int .u32 q.id,.int .i64 q.aw,.int .i64 q.bV,.int .i64 r.ax,.int .u32 r.id,.int .i64 r.aw,.int .i64 r.aR,.int .i64 r.aq,.int .i64 bj] 442));obtain⟨ab,hab⟩:=ae w.heap.size;have bp:=aJ a8 hab;have hb1:=aK a8;have r0:=bp.cl 0;have r3:=bp.cl 3;have h1:fL S w1 b bk:=Ag;have HH:=aa h;have H1:=aa h1;have dF:=aa bp;have bA:=aa hb1;have pg:=aa hb;clear h h1 bp hb1 hb;cases hf:bk.find q.id with
 | none=>
  have HG:=aa (Gn H1.o q.id hid);rw[hf] at HG;have HF:=aa hf;go_enter Tryz.func345,Tryz.ntmps345;go_wp2_with fail;refine HG.o.mono ?_;rintro e w2 ⟨rfl,o9,jE⟩;have cu:=aa o9;have gI:=aa ((aI.aW (S:=S) bA.o).trans jE);dsimp only[pE];clear o9 jE hf HG r0 r3;go_wp2_with fail;go_ret;have hb3:=ay (ar w2.heap.size w2) (.cells #[.int .u32 0,.int .i64 0,.int .i64 0] 171);exact⟨rfl,S7,gI.o.ak hb3⟩
 | some x=>
  have HG:=aa (Gn H1.o q.id hid);rw[hf] at HG;have HF:=aa hf;go_enter Tryz.func345,Tryz.ntmps345;go_wp2_with fail;refine HG.o.mono ?_;rintro e w2 ⟨rfl,o9,jE⟩;have cu:=aa o9;have gI:=aa ((aI.aW (S:=S) bA.o).trans jE);dsimp only[pE];clear o9 jE hf HG r0 r3;go_wp2_with fail;go_ret;have hb3:=ay (ar w2.heap.size w2) (.cells #[.int .u32 x.id,.int .i64 (x.aw:Int),.int .i64 x.aR] 171);exact⟨rfl,S7,gI.o.ak hb3⟩
theorem aeo{bk:dI}(hb:bk.Ok){s:Nat}(h:bk.n≤s): bk.on (s:Int)=none:=by
 cases ho:bk.on (s:Int)with
 | none=>rfl
 | some x=>
  obtain⟨hx,e⟩:=Ob ho;have:=hb.gh x hx;omega
theorem T9(S:Nat→Prop)(w:World)(b:Nat)(bk:dI)(q:Rq)(r:Rec)(bj:Int)(h:fL S w b bk)(hb:bk.Ok)(hs:0≤q.aw):
  Calls af 342 #[.agg (uO b q r bj)] w (oL S w b bk (if dS bk q=true then 170 else 0)):=by
 dsimp only[uO];obtain⟨w1,a8⟩:=ae (w.alloc (.cells #[.pointer (some ⟨b,0,none⟩),.int .i64 q.ax,.int .u32 q.tag,.int .u32 q.id,.int .i64 q.aw,.int .i64 q.bV,.int .i64 r.ax,.int .u32 r.id,.int .i64 r.aw,.int .i64 r.aR,.int .i64 r.aq,.int .i64 bj] 442));obtain⟨ab,hab⟩:=ae w.heap.size;have bp:=aJ a8 hab;have hb1:=aK a8;have r0:=bp.cl 0;have r4:=bp.cl 4;have h1:fL S w1 b bk:=Ag;have HH:=aa h;have H1:=aa h1;have dF:=aa bp;have bA:=aa hb1;have pg:=aa hb;clear h h1 bp hb1;by_cases c1:bk.n≤q.aw.toNat
 ·skip;have HG:=aa (show ∀ W,fL S W b bk→Calls af 293 #[.pointer (some ⟨b,0,none⟩),.int .i64 q.aw] W fun e w'=>e= .returned (pE none 140)∧Below W.heap.size W w' from fun W hW=>by have:=Nf hW hb (q.aw.toNat);rw[GD hs,if_pos c1] at this;exact this);have HG:=aa (HG.o w1 H1.o);have HE:=aa (show dS bk q=false from by unfold dS;rw[←GD hs,aeo hb c1]);exact acD
 cases ho:bk.on q.aw with
 | none=>
  have HG:=aa (show ∀ W,fL S W b bk→Calls af 293 #[.pointer (some ⟨b,0,none⟩),.int .i64 q.aw] W fun e w'=>e= .returned (pE none 171)∧Below W.heap.size W w' from fun W hW=>SQ);have HG:=aa (HG.o w1 H1.o);have HE:=aa (show dS bk q=false from by unfold dS;rw[ho]);exact acD
 | some x=>
  by_cases c2:x.id=q.id
  ·skip;have HG:=aa (show ∀ W,fL S W b bk→Calls af 293 #[.pointer (some ⟨b,0,none⟩),.int .i64 q.aw] W fun e w'=>e= .returned (pE (some x) 171)∧Below W.heap.size W w' from fun W hW=>SQ);have HG:=aa (HG.o w1 H1.o);have HE:=aa (show dS bk q=false from by unfold dS;rw[ho];simp[c2]);rw[show(if dS bk q=true then(170:Int)else 0)=0 from oY];dsimp only[pE] at HG;have hq:(x.id != q.id)=false:=by simpa using c2
   clear c2;clear hb;go_enter Tryz.func342,Tryz.ntmps342;go_wp2_with fail;refine HG.o.mono ?_;rintro e w2 ⟨rfl,hb2⟩;have cu:=bA.dQ hb2;have gZ:=dF.o.ah hb2;have r3':=gZ.cl 3;have hb3:=ay (ar w2.heap.size w2) (.cells #[.int .u32 x.id,.int .i64 (x.aw:Int),.int .i64 x.aR] 171);have r3:(w2.alloc (.cells #[.int .u32 x.id,.int .i64 (x.aw:Int),.int .i64 x.aR] 171)).cell? ⟨ab,3,none⟩=some (.int .u32 q.id):=(gZ.ah hb3).cell 3;have dV:=cu.dQ hb3;clear hb2 hb3 gZ r0 r4 HG r3';go_wp2_with fail;refine ag (dn false 170 _) ?_;go_wp2_with fail;go_ret;exact⟨rfl,Lr,aI.aW dV.o⟩
  skip;have HG:=aa (show ∀ W,fL S W b bk→Calls af 293 #[.pointer (some ⟨b,0,none⟩),.int .i64 q.aw] W fun e w'=>e= .returned (pE (some x) 171)∧Below W.heap.size W w' from fun W hW=>SQ);have HG:=aa (HG.o w1 H1.o);have HE:=aa (show dS bk q=true from by unfold dS;rw[ho];simp[c2]);rw[show(if dS bk q=true then(170:Int)else 0)=170 from oY];dsimp only[pE] at HG;have hq:(x.id != q.id)=true:=by simpa using c2
  clear c2;clear hb;go_enter Tryz.func342,Tryz.ntmps342;go_wp2_with fail;refine HG.o.mono ?_;rintro e w2 ⟨rfl,hb2⟩;have cu:=bA.dQ hb2;have gZ:=dF.o.ah hb2;have r3':=gZ.cl 3;have hb3:=ay (ar w2.heap.size w2) (.cells #[.int .u32 x.id,.int .i64 (x.aw:Int),.int .i64 x.aR] 171);have r3:(w2.alloc (.cells #[.int .u32 x.id,.int .i64 (x.aw:Int),.int .i64 x.aR] 171)).cell? ⟨ab,3,none⟩=some (.int .u32 q.id):=(gZ.ah hb3).cell 3;have dV:=cu.dQ hb3;clear hb2 hb3 gZ r0 r4 HG r3';go_wp2_with fail;refine ag (dn true 170 _) ?_;go_wp2_with fail;go_ret;exact⟨rfl,Lr,aI.aW dV.o⟩
end Bk
end
section
namespace Bk
open En (Rec Rq dn)
theorem ah9(a b c:Int)(W:World): (Instr.field 80 (.agg #[.int .i64 a,.int .i64 b,.int .i64 c]) 0).run af W= .ok (.int .i64 a) W:=bh
theorem ae7(a b c:Int)(W:World): (Instr.field 80 (.agg #[.int .i64 a,.int .i64 b,.int .i64 c]) 1).run af W= .ok (.int .i64 b) W:=bh
theorem ZD(S:Nat→Prop)(w:World)(b:Nat)(bk:dI)(q:Rq)(r:Rec)(bj:Int)(h:fL S w b bk)(hb:bk.Ok)(hs:0≤q.aw):
  Calls af 339 #[.agg (uO b q r bj)] w (oL S w b bk (if(bk.n:Int)≤q.aw then 140 else 0)):=by
 dsimp only[uO];obtain⟨w1,a8⟩:=ae (w.alloc (.cells #[.pointer (some ⟨b,0,none⟩),.int .i64 q.ax,.int .u32 q.tag,.int .u32 q.id,.int .i64 q.aw,.int .i64 q.bV,.int .i64 r.ax,.int .u32 r.id,.int .i64 r.aw,.int .i64 r.aR,.int .i64 r.aq,.int .i64 bj] 442));obtain⟨ab,hab⟩:=ae w.heap.size;have bp:=aJ a8 hab;have hb1:=aK a8;have r0:=bp.cl 0;have r4:=bp.cl 4;have h1:fL S w1 b bk:=Ag;have HH:=aa h;have H1:=aa h1;have dF:=aa bp;have bA:=aa hb1;have pg:=aa hb;clear h h1 bp hb1 hb r0 r4;by_cases c1:(bk.n:Int)≤q.aw
 ·have q1:decide ((bk.n:Int)≤q.aw)=true:=decide_eq_true c1;have lS:=ah9 (bk.n:Int) (bk.au:Int) (bk.aA:Int);rw[if_pos c1];go_enter Tryz.func339,Tryz.ntmps339;go_wp2_with fail;have fX:=aa (show ∀ W,Below w1.heap.size w1 W→(W.cell? ⟨ab,0,none⟩=some (.pointer (some ⟨b,0,none⟩))∧W.cell? ⟨ab,4,none⟩=some (.int .i64 q.aw)∧Below w1.heap.size w1 W)from fun W hW=>⟨(dF.o.ah hW).cell 0,(dF.o.ah hW).cell 4,hW⟩);refine tW (S:=(fun W=>W.cell? ⟨ab,0,none⟩=some (.pointer (some ⟨b,0,none⟩))∧W.cell? ⟨ab,4,none⟩=some (.int .i64 q.aw)∧Below w1.heap.size w1 W)) vw fun hHeld=>?_
  have js:=aa (show Below w1.heap.size w1 w1.drew from az (ar _ _));refine lA 0 1 2 3 ?_;refine ty 4 ?_;refine cJ 5 fun K hK=>?_
  go_simp;refine(fT (show cG S _ b _ _ _ _ _ _ (jP H1.o)from((jQ H1.o).ak js.o).bg)).mono ?_;rintro e w3 ⟨rfl,hb3⟩;have js:=js.dQ hb3;clear hb3;go_wp2_with fail;refine bW hK jZ fun ju=>?_
  clear hK K;refine tJ 6 7 ?_;refine cJ 8 fun K hK=>?_
  go_simp;refine ag (dn true 140 _) ?_;exact DD
 ·have q1:decide ((bk.n:Int)≤q.aw)=false:=decide_eq_false c1;have lS:=ah9 (bk.n:Int) (bk.au:Int) (bk.aA:Int);rw[if_neg c1];go_enter Tryz.func339,Tryz.ntmps339;go_wp2_with fail;have fX:=aa (show ∀ W,Below w1.heap.size w1 W→(W.cell? ⟨ab,0,none⟩=some (.pointer (some ⟨b,0,none⟩))∧W.cell? ⟨ab,4,none⟩=some (.int .i64 q.aw)∧Below w1.heap.size w1 W)from fun W hW=>⟨(dF.o.ah hW).cell 0,(dF.o.ah hW).cell 4,hW⟩);refine tW (S:=(fun W=>W.cell? ⟨ab,0,none⟩=some (.pointer (some ⟨b,0,none⟩))∧W.cell? ⟨ab,4,none⟩=some (.int .i64 q.aw)∧Below w1.heap.size w1 W)) vw fun hHeld=>?_
  have js:=aa (show Below w1.heap.size w1 w1.drew from az (ar _ _));refine lA 0 1 2 3 ?_;refine ty 4 ?_;refine cJ 5 fun K hK=>?_
  go_simp;refine(fT (show cG S _ b _ _ _ _ _ _ (jP H1.o)from((jQ H1.o).ak js.o).bg)).mono ?_;rintro e w3 ⟨rfl,hb3⟩;have js:=js.dQ hb3;clear hb3;go_wp2_with fail;refine bW hK jZ fun ju=>?_
  clear hK K;refine tJ 6 7 ?_;refine cJ 8 fun K hK=>?_
  go_simp;refine ag (dn false 140 _) ?_;exact DD
theorem WR(S:Nat→Prop)(w:World)(b:Nat)(bk:dI)(q:Rq)(r:Rec)(bj:Int)(h:fL S w b bk)(hb:bk.Ok)(ht:0≤q.bV∧q.bV≤1073741824):
  Calls af 341 #[.agg (uO b q r bj)] w (oL S w b bk (if 1099511627776<bk.aq+q.bV then 172 else 0)):=by
 dsimp only[uO];obtain⟨w1,a8⟩:=ae (w.alloc (.cells #[.pointer (some ⟨b,0,none⟩),.int .i64 q.ax,.int .u32 q.tag,.int .u32 q.id,.int .i64 q.aw,.int .i64 q.bV,.int .i64 r.ax,.int .u32 r.id,.int .i64 r.aw,.int .i64 r.aR,.int .i64 r.aq,.int .i64 bj] 442));obtain⟨ab,hab⟩:=ae w.heap.size;have bp:=aJ a8 hab;have hb1:=aK a8;have r0:=bp.cl 0;have r5:=bp.cl 5;have h1:fL S w1 b bk:=Ag;have HH:=aa h;have H1:=aa h1;have dF:=aa bp;have bA:=aa hb1;have pg:=aa hb;have hck:=hb.aq;have hwx:IntKind.i64.wrap (bk.aq+q.bV)=bk.aq+q.bV:=E4;clear h h1 bp hb1 hb r0 r5;by_cases c1:1099511627776<bk.aq+q.bV
 ·have q1:decide (1099511627776<bk.aq+q.bV)=true:=decide_eq_true c1;rw[if_pos c1];go_enter Tryz.func341,Tryz.ntmps341;go_wp2_with fail;have fX:=aa (show ∀ W,Below w1.heap.size w1 W→(W.cell? ⟨ab,0,none⟩=some (.pointer (some ⟨b,0,none⟩))∧W.cell? ⟨ab,5,none⟩=some (.int .i64 q.bV)∧Below w1.heap.size w1 W)from fun W hW=>⟨(dF.o.ah hW).cell 0,(dF.o.ah hW).cell 5,hW⟩);refine tW (S:=(fun W=>W.cell? ⟨ab,0,none⟩=some (.pointer (some ⟨b,0,none⟩))∧W.cell? ⟨ab,5,none⟩=some (.int .i64 q.bV)∧Below w1.heap.size w1 W)) vw fun hHeld=>?_
  have js:=aa (show Below w1.heap.size w1 w1.drew from az (ar _ _));refine lA 0 1 3 4 ?_;refine ty 5 ?_;refine cJ 2 fun K hK=>?_
  go_simp;refine ag (wu (show cG S _ b _ _ _ _ _ _ (jP H1.o) from((jQ H1.o).ak js.o).bg)) ?_;go_wp2_with fail;refine bW hK jZ fun FQ=>?_
  clear hK K;refine tJ 6 7 ?_;refine cJ 8 fun K hK=>?_
  go_simp;refine ag (dn true 172 _) ?_;exact DD
 ·have q1:decide (1099511627776<bk.aq+q.bV)=false:=decide_eq_false c1;rw[if_neg c1];go_enter Tryz.func341,Tryz.ntmps341;go_wp2_with fail;have fX:=aa (show ∀ W,Below w1.heap.size w1 W→(W.cell? ⟨ab,0,none⟩=some (.pointer (some ⟨b,0,none⟩))∧W.cell? ⟨ab,5,none⟩=some (.int .i64 q.bV)∧Below w1.heap.size w1 W)from fun W hW=>⟨(dF.o.ah hW).cell 0,(dF.o.ah hW).cell 5,hW⟩);refine tW (S:=(fun W=>W.cell? ⟨ab,0,none⟩=some (.pointer (some ⟨b,0,none⟩))∧W.cell? ⟨ab,5,none⟩=some (.int .i64 q.bV)∧Below w1.heap.size w1 W)) vw fun hHeld=>?_
  have js:=aa (show Below w1.heap.size w1 w1.drew from az (ar _ _));refine lA 0 1 3 4 ?_;refine ty 5 ?_;refine cJ 2 fun K hK=>?_
  go_simp;refine ag (wu (show cG S _ b _ _ _ _ _ _ (jP H1.o) from((jQ H1.o).ak js.o).bg)) ?_;go_wp2_with fail;refine bW hK jZ fun FQ=>?_
  clear hK K;refine tJ 6 7 ?_;refine cJ 8 fun K hK=>?_
  go_simp;refine ag (dn false 172 _) ?_;exact DD
theorem LK(k:Int): En.cO k≤32:=by unfold En.cO;split;omega;split;omega;split;omega;split;omega;split <;>omega
theorem aav(S:Nat→Prop)(w:World)(b:Nat)(bk:dI)(q:Rq)(r:Rec)(bj:Int)(h:fL S w b bk)(hb:bk.Ok):
  Calls af 344 #[.agg (uO b q r bj)] w (oL S w b bk (if bj<22+(En.cO r.ax:Int)then 220 else 0)):=by
 dsimp only[uO];obtain⟨w1,a8⟩:=ae (w.alloc (.cells #[.pointer (some ⟨b,0,none⟩),.int .i64 q.ax,.int .u32 q.tag,.int .u32 q.id,.int .i64 q.aw,.int .i64 q.bV,.int .i64 r.ax,.int .u32 r.id,.int .i64 r.aw,.int .i64 r.aR,.int .i64 r.aq,.int .i64 bj] 442));obtain⟨ab,hab⟩:=ae w.heap.size;have bp:=aJ a8 hab;have hb1:=aK a8;have r6:=bp.cl 6;have r11:=bp.cl 11;have h1:fL S w1 b bk:=Ag;have HH:=aa h;have H1:=aa h1;have dF:=aa bp;have bA:=aa hb1;have pg:=aa hb;have L6:=LK r.ax;obtain⟨m,hm⟩:=ae (En.cO r.ax);have yO:=aa (fun W=>En.Q9 r.ax W);rw[hm] at yO L6 ⊢;clear h h1 bp hb1 hb r6 r11 hm;by_cases c1:bj<22+(m:Int)
 ·have q1:decide (bj<22+(m:Int))=true:=decide_eq_true c1;rw[if_pos c1];go_enter Tryz.func344,Tryz.ntmps344;go_wp2_with fail;have fX:=aa (show ∀ W,Below w1.heap.size w1 W→(W.cell? ⟨ab,6,none⟩=some (.int .i64 r.ax)∧W.cell? ⟨ab,11,none⟩=some (.int .i64 bj)∧Below w1.heap.size w1 W)from fun W hW=>⟨(dF.o.ah hW).cell 6,(dF.o.ah hW).cell 11,hW⟩);refine tW (S:=(fun W=>W.cell? ⟨ab,6,none⟩=some (.int .i64 r.ax)∧W.cell? ⟨ab,11,none⟩=some (.int .i64 bj)∧Below w1.heap.size w1 W)) vw fun hHeld=>?_
  have js:=aa (show Below w1.heap.size w1 w1.drew from az (ar _ _));refine lA 0 1 2 5 ?_;refine ty 6 ?_;refine cJ 3 fun K hK=>?_
  go_simp;refine(yO.o _).mono ?_;rintro e w3 ⟨rfl,hb3⟩;have js:=js.dQ hb3;clear hb3;go_wp2_with fail;refine bW hK jZ fun Mn=>?_
  clear hK K;refine cJ 4 fun K hK=>?_
  go_simp;refine ag (En.Ck m L6 _) ?_;go_wp2_with fail;refine bW hK jZ fun lI=>?_
  clear hK K;refine ty 7 ?_;refine cJ 8 fun K hK=>?_
  go_simp;refine ag (dn true 220 _) ?_;exact DD
 ·have q1:decide (bj<22+(m:Int))=false:=decide_eq_false c1;rw[if_neg c1];go_enter Tryz.func344,Tryz.ntmps344;go_wp2_with fail;have fX:=aa (show ∀ W,Below w1.heap.size w1 W→(W.cell? ⟨ab,6,none⟩=some (.int .i64 r.ax)∧W.cell? ⟨ab,11,none⟩=some (.int .i64 bj)∧Below w1.heap.size w1 W)from fun W hW=>⟨(dF.o.ah hW).cell 6,(dF.o.ah hW).cell 11,hW⟩);refine tW (S:=(fun W=>W.cell? ⟨ab,6,none⟩=some (.int .i64 r.ax)∧W.cell? ⟨ab,11,none⟩=some (.int .i64 bj)∧Below w1.heap.size w1 W)) vw fun hHeld=>?_
  have js:=aa (show Below w1.heap.size w1 w1.drew from az (ar _ _));refine lA 0 1 2 5 ?_;refine ty 6 ?_;refine cJ 3 fun K hK=>?_
  go_simp;refine(yO.o _).mono ?_;rintro e w3 ⟨rfl,hb3⟩;have js:=js.dQ hb3;clear hb3;go_wp2_with fail;refine bW hK jZ fun Mn=>?_
  clear hK K;refine cJ 4 fun K hK=>?_
  go_simp;refine ag (En.Ck m L6 _) ?_;go_wp2_with fail;refine bW hK jZ fun lI=>?_
  clear hK K;refine ty 7 ?_;refine cJ 8 fun K hK=>?_
  go_simp;refine ag (dn false 220 _) ?_;exact DD
end Bk
end
section
namespace Bk
open En (Rec Rq dn)
theorem aat(S:Nat→Prop)(w:World)(b:Nat)(bk:dI)(q:Rq)(r:Rec)(bj:Int)(h:fL S w b bk)(hb:bk.Ok):
  Calls af 343 #[.agg (uO b q r bj)] w (oL S w b bk (if bk.au≤bk.L.length∨bk.next=4294967295 then 6 else 0)):=by
 dsimp only[uO];obtain⟨w1,a8⟩:=ae (w.alloc (.cells #[.pointer (some ⟨b,0,none⟩),.int .i64 q.ax,.int .u32 q.tag,.int .u32 q.id,.int .i64 q.aw,.int .i64 q.bV,.int .i64 r.ax,.int .u32 r.id,.int .i64 r.aw,.int .i64 r.aR,.int .i64 r.aq,.int .i64 bj] 442));obtain⟨ab,hab⟩:=ae w.heap.size;have bp:=aJ a8 hab;have hb1:=aK a8;have r0:=bp.cl 0;have h1:fL S w1 b bk:=Ag;have HH:=aa h;have H1:=aa h1;have dF:=aa bp;have bA:=aa hb1;have pg:=aa hb;clear h h1 bp hb1 hb r0;by_cases c1:bk.au≤bk.L.length
 ·have q1:decide ((bk.au:Int)≤(bk.L.length:Int))=true:=decide_eq_true ai;have q1':decide (bk.au≤bk.L.length)=true:=decide_eq_true c1;have lS:=ae7 (bk.n:Int) (bk.au:Int) (bk.aA:Int);rw[if_pos (.inl c1)];go_enter Tryz.func343,Tryz.ntmps343;go_wp2_with fail;have fX:=aa (show ∀ W,Below w1.heap.size w1 W→(W.cell? ⟨ab,0,none⟩=some (.pointer (some ⟨b,0,none⟩))∧Below w1.heap.size w1 W)from fun W hW=>⟨(dF.o.ah hW).cell 0,hW⟩);refine tW (S:=(fun W=>W.cell? ⟨ab,0,none⟩=some (.pointer (some ⟨b,0,none⟩))∧Below w1.heap.size w1 W)) vw fun hHeld=>?_
  have js:=aa (show Below w1.heap.size w1 w1.drew from az (ar _ _));refine lA 0 1 3 4 ?_;refine cJ 2 fun K hK=>?_
  go_simp;refine ag (uS (show cG S _ b _ _ _ _ _ _ (jP H1.o) from((jQ H1.o).ak js.o).bg)) ?_;go_wp2_with fail;refine bW hK jZ fun FQ=>?_
  clear hK K;refine cJ 5 fun K hK=>?_
  go_simp;refine(fT (show cG S _ b _ _ _ _ _ _ (jP H1.o)from((jQ H1.o).ak js.o).bg)).mono ?_;rintro e w3 ⟨rfl,hb3⟩;have js:=js.dQ hb3;clear hb3;go_wp2_with fail;refine bW hK jZ fun ju=>?_
  clear hK K;refine ov 6 7 8 9 10 11 12 13 ?_;refine cJ 14 fun K hK=>?_
  go_simp;refine ag (dn true 6 _) ?_;go_wp2_with fail;refine bW hK jZ fun lT=>?_
  clear hK K;refine ty 15 ?_;exact U5
 ·have q1:decide ((bk.au:Int)≤(bk.L.length:Int))=false:=decide_eq_false ai;have q1':decide (bk.au≤bk.L.length)=false:=decide_eq_false c1;by_cases c2:bk.next=4294967295
  ·have q2:(bk.next==4294967295)=true:=beq_iff_eq.2 c2;have Ek:=aa c2;have lS:=ae7 (bk.n:Int) (bk.au:Int) (bk.aA:Int);rw[if_pos (.inr c2)];clear c2;go_enter Tryz.func343,Tryz.ntmps343;go_wp2_with fail;have fX:=aa (show ∀ W,Below w1.heap.size w1 W→(W.cell? ⟨ab,0,none⟩=some (.pointer (some ⟨b,0,none⟩))∧Below w1.heap.size w1 W)from fun W hW=>⟨(dF.o.ah hW).cell 0,hW⟩);refine tW (S:=(fun W=>W.cell? ⟨ab,0,none⟩=some (.pointer (some ⟨b,0,none⟩))∧Below w1.heap.size w1 W)) vw fun hHeld=>?_
   have js:=aa (show Below w1.heap.size w1 w1.drew from az (ar _ _));refine lA 0 1 3 4 ?_;refine cJ 2 fun K hK=>?_
   go_simp;refine ag (uS (show cG S _ b _ _ _ _ _ _ (jP H1.o) from((jQ H1.o).ak js.o).bg)) ?_;go_wp2_with fail;refine bW hK jZ fun FQ=>?_
   clear hK K;refine cJ 5 fun K hK=>?_
   go_simp;refine(fT (show cG S _ b _ _ _ _ _ _ (jP H1.o)from((jQ H1.o).ak js.o).bg)).mono ?_;rintro e w3 ⟨rfl,hb3⟩;have js:=js.dQ hb3;clear hb3;go_wp2_with fail;refine bW hK jZ fun ju=>?_
   clear hK K;refine lA 6 7 8 9 ?_;refine ty 10 ?_;refine cJ 11 fun K hK=>?_
   go_simp;refine ag (vY (show cG S _ b _ _ _ _ _ _ (jP H1.o) from((jQ H1.o).ak js.o).bg)) ?_;go_wp2_with fail;refine bW hK jZ fun aaq=>?_
   clear hK K;refine tJ 12 13 ?_;refine cJ 14 fun K hK=>?_
   go_simp;refine ag (dn true 6 _) ?_;go_wp2_with fail;refine bW hK jZ fun lT=>?_
   clear hK K;refine ty 15 ?_;exact U5
  have q2:(bk.next==4294967295)=false:=beq_eq_false_iff_ne.2 c2;have lS:=ae7 (bk.n:Int) (bk.au:Int) (bk.aA:Int);rw[if_neg (by rintro(h|h);exact c1 h;exact c2 h)];go_enter Tryz.func343,Tryz.ntmps343;go_wp2_with fail;have fX:=aa (show ∀ W,Below w1.heap.size w1 W→(W.cell? ⟨ab,0,none⟩=some (.pointer (some ⟨b,0,none⟩))∧Below w1.heap.size w1 W)from fun W hW=>⟨(dF.o.ah hW).cell 0,hW⟩);refine tW (S:=(fun W=>W.cell? ⟨ab,0,none⟩=some (.pointer (some ⟨b,0,none⟩))∧Below w1.heap.size w1 W)) vw fun hHeld=>?_
  have js:=aa (show Below w1.heap.size w1 w1.drew from az (ar _ _));refine lA 0 1 3 4 ?_;refine cJ 2 fun K hK=>?_
  go_simp;refine ag (uS (show cG S _ b _ _ _ _ _ _ (jP H1.o) from((jQ H1.o).ak js.o).bg)) ?_;go_wp2_with fail;refine bW hK jZ fun FQ=>?_
  clear hK K;refine cJ 5 fun K hK=>?_
  go_simp;refine(fT (show cG S _ b _ _ _ _ _ _ (jP H1.o)from((jQ H1.o).ak js.o).bg)).mono ?_;rintro e w3 ⟨rfl,hb3⟩;have js:=js.dQ hb3;clear hb3;go_wp2_with fail;refine bW hK jZ fun ju=>?_
  clear hK K;refine lA 6 7 8 9 ?_;refine ty 10 ?_;refine cJ 11 fun K hK=>?_
  go_simp;refine ag (vY (show cG S _ b _ _ _ _ _ _ (jP H1.o) from((jQ H1.o).ak js.o).bg)) ?_;go_wp2_with fail;refine bW hK jZ fun aaq=>?_
  clear hK K;refine tJ 12 13 ?_;refine cJ 14 fun K hK=>?_
  go_simp;refine ag (dn false 6 _) ?_;go_wp2_with fail;refine bW hK jZ fun lT=>?_
  clear hK K;refine ty 15 ?_;exact U5
end Bk
end
section
namespace En
structure Rq.Good(q:Rq): Prop where
 ax:1≤q.ax∧q.ax≤10
 tag:0≤q.tag∧q.tag<4294967296
 id:0≤q.id∧q.id<4294967296
 aw:0≤q.aw∧q.aw≤65535
 bV:0≤q.bV
structure Es.Inv(e:Es): Prop where
 up:e.up=true
 dev:e.dev.kM
 row:e.dev.dk.row= []
 size:32≤e.dev.dk.size
 rg:e.rg.In e.dev
 sl:e.sl.In e.dev
 log:e.log.Ok
 fit:e.log.used≤e.rg.bytes e.dev.dk.size
 bk:e.bk.Ok
 full:e.aD.length<e.bk.aA
 fine: ∀ r∈e.aD,r.err=0
theorem LL(b:dI)(q:Rq)(hk:bt q.ax=true): cO (bC b q).ax=if q.ax=1 then 15 else if q.ax=2∨q.ax=3 then 5 else if q.ax=4 then 7 else 9:=by
 unfold bC;unfold bt at hk;simp only[zJ,lX,decide_eq_true_eq] at hk;have:q.ax=1∨q.ax=2∨q.ax=3∨q.ax=4∨q.ax=7:=ai;rcases this with h|h|h|h|h <;>simp[h,cO]
theorem ac0{b:dI}(hb:b.Ok){bj:Int}{q:Rq}(hq:q.Good)(hk:bt q.ax=true)(h0:bF b bj q=0): (bC b q).ok=true∧22+(cO (bC b q).ax:Int)≤bj:=by
 rw[LL b q hk];unfold bt at hk;simp only[zJ,lX,decide_eq_true_eq] at hk;have hn:=hb.next;have hc:=hb.aq;have hnn:=hb.n;have hs:=hq.aw;have ht:=hq.bV;have p5:q.ax=1∨q.ax=2∨q.ax=3∨q.ax=4∨q.ax=7:=ai;rcases p5 with h|h|h|h|h
 ·unfold bF at h0;rw[if_pos h] at h0;by_cases c1:(b.n:Int)≤q.aw
  ·rw[if_pos c1] at h0;omega
  rw[if_neg c1] at h0;by_cases c2:q.bV<1∨1073741824<q.bV
  ·rw[if_pos c2] at h0;omega
  rw[if_neg c2] at h0;by_cases c3:1099511627776<b.aq+q.bV
  ·rw[if_pos c3] at h0;omega
  rw[if_neg c3] at h0;by_cases c4:dS b q=true
  ·rw[if_pos c4] at h0;omega
  rw[if_neg c4] at h0;by_cases c5:b.au≤b.L.length∨b.next=4294967295
  ·rw[if_pos c5] at h0;omega
  rw[if_neg c5] at h0;by_cases c6:bj<37
  ·rw[if_pos c6] at h0;omega
  have e:bC b q=⟨1,b.next,q.aw,b.aq+q.bV,0⟩:=by unfold bC;rw[if_pos h]
  rw[e];refine⟨?_,by rw[if_pos h];omega⟩;simp[Rec.ok,recKind,dN,within];omega
 ·unfold bF at h0;rw[if_neg ai,if_pos (.inl h)] at h0;by_cases c1:(b.find q.id).isNone=true
  ·rw[if_pos c1] at h0;omega
  rw[if_neg c1] at h0;by_cases c6:bj<27
  ·rw[if_pos c6] at h0;omega
  have e:bC b q=⟨2,q.id,0,0,0⟩:=by unfold bC;rw[if_neg ai,if_pos h]
  rw[e];cases hf:b.find q.id with
  | none=>rw[hf] at c1;exact absurd rfl c1
  | some x=>
   obtain⟨hx,QE⟩:=ie hf;have hid:=hb.ids x hx;refine⟨?_,by rw[if_neg ai,if_pos (.inl h)];omega⟩;simp[Rec.ok,recKind,dN,within];omega
 ·unfold bF at h0;rw[if_neg ai,if_pos (.inr h)] at h0;by_cases c1:(b.find q.id).isNone=true
  ·rw[if_pos c1] at h0;omega
  rw[if_neg c1] at h0;by_cases c6:bj<27
  ·rw[if_pos c6] at h0;omega
  have e:bC b q=⟨3,q.id,0,0,0⟩:=by unfold bC;rw[if_neg ai,if_neg ai,if_pos h]
  rw[e];cases hf:b.find q.id with
  | none=>rw[hf] at c1;exact absurd rfl c1
  | some x=>
   obtain⟨hx,QE⟩:=ie hf;have hid:=hb.ids x hx;refine⟨?_,by rw[if_neg ai,if_pos (.inr h)];omega⟩;simp[Rec.ok,recKind,dN,within];omega
 ·unfold bF at h0;rw[if_neg ai,if_neg ai,if_pos h] at h0;by_cases c1:(b.find q.id).isNone=true
  ·rw[if_pos c1] at h0;omega
  rw[if_neg c1] at h0;by_cases c2:(b.n:Int)≤q.aw
  ·rw[if_pos c2] at h0;omega
  rw[if_neg c2] at h0;by_cases c4:dS b q=true
  ·rw[if_pos c4] at h0;omega
  rw[if_neg c4] at h0;by_cases c6:bj<29
  ·rw[if_pos c6] at h0;omega
  have e:bC b q=⟨4,q.id,q.aw,0,0⟩:=by unfold bC;rw[if_neg ai,if_neg ai,if_neg ai,if_pos h]
  rw[e];cases hf:b.find q.id with
  | none=>rw[hf] at c1;exact absurd rfl c1
  | some x=>
   obtain⟨hx,QE⟩:=ie hf;have hid:=hb.ids x hx;refine⟨?_,by rw[if_neg ai,if_neg ai,if_pos h];omega⟩;simp[Rec.ok,recKind,dN,within];omega
 unfold bF at h0;rw[if_neg ai,if_neg ai,if_neg ai] at h0;by_cases c2:q.bV<1∨1073741824<q.bV
 ·rw[if_pos c2] at h0;omega
 rw[if_neg c2] at h0;by_cases c3:1099511627776<b.aq+q.bV
 ·rw[if_pos c3] at h0;omega
 rw[if_neg c3] at h0;by_cases c6:bj<31
 ·rw[if_pos c6] at h0;omega
 have e:bC b q=⟨5,0,0,0,b.aq+q.bV⟩:=by unfold bC;rw[if_neg ai,if_neg ai,if_neg ai,if_neg ai]
 rw[e];refine⟨?_,by rw[if_neg ai,if_neg ai,if_neg ai];omega⟩;simp[Rec.ok,recKind,dN,within];omega
theorem Iz{r:Rec}(h:recKind r.ax=true): (jb r).length=cO r.ax:=by
 obtain⟨k,id,aw,aR,aq⟩:=r;have hk:k=1∨k=2∨k=3∨k=4∨k=5:=by simp only[recKind,lX,decide_eq_true_eq] at h;omega
 rcases hk with rfl|rfl|rfl|rfl|rfl <;>simp[jb,dN,cO,Oc.bG]
theorem Rec.Fv{r:Rec}(h:r.ok=true): recKind r.ax=true:=by
 unfold Rec.ok at h;simp only[lX] at h;exact h.1.1.1.1
theorem uN(q:Rq)(r:Rec): (bN q r).tag=q.tag∧(bN q r).ax=q.ax∧(bN q r).err=0:=by
 unfold bN;exact UN
theorem Iv(s:Sl)(d:bJ)(body:By)(mh:Nat): (s.save d body mh).2.1.gen<18446744073709551616:=by
 have h:=IK s d;have z:Hd.zero.gen<18446744073709551616:=aM;unfold Sl.save;by_cases c1:s.bytes d.dk.size<body.length
 ·rw[if_pos c1];exact z
 rw[if_neg c1];by_cases c2:(s.load d).err≠0
 ·rw[if_pos c2];exact z
 rw[if_neg c2];by_cases c3:(s.load d).hd.gen=18446744073709551615
 ·rw[if_pos c3];exact z
 rw[if_neg c3];simp only;generalize(if(s.load d).at_=0 then s.b else s.a)=r;generalize dC r (s.load d).dev d.dk.size body=P;by_cases c4:P.1≠0
 ·rw[if_pos c4];exact z
 rw[if_neg c4];generalize dC r P.2 0 _=Q;by_cases c5:Q.1≠0
 ·rw[if_pos c5];exact z
 rw[if_neg c5];show(s.load d).hd.gen+1<18446744073709551616
 omega
inductive rI (e:Es) (q:Rq):List Rp × Es→Prop where
 | told (x:Rp) (e':Es) (ht:x.tag=q.tag) (hk:x.ax=q.ax) (hb:e'.bk=e.bk) (hl:e'.log.last=e.log.last) (hw:e'.aD=e.aD) (h8:q.ax≠8) (hf:q.ax=9→x.err≠0) (hi:e'.Inv):rI e q ([x],e')
 | aD (x:Rp) (e':Es) (hc:bt q.ax=true) (ht:x.tag=q.tag) (hk:x.ax=q.ax) (he:x.err=0) (hl:e'.log.last=e.log.last+1) (hw:e'.aD=e.aD++ [x]) (hi:e'.Inv):rI e q ([],e')
 | full (x:Rp) (e':Es) (hc:bt q.ax=true) (ht:x.tag=q.tag) (hk:x.ax=q.ax) (he:x.err=0) (hl:e'.log.last=e.log.last+1) (hd:e'.log.cm=e'.log.last) (hw:e'.aD= []) (hi:e'.Inv):rI e q (e.aD++ [x],e')
 | all (x:Rp) (e':Es) (hc:q.ax=8∨q.ax=9) (ht:x.tag=q.tag) (hk:x.ax=q.ax) (he:x.err=0) (hn:x.count=e.aD.length) (hb:e'.bk=e.bk) (hl:e'.log.last=e.log.last) (hd:e'.log.cm=e'.log.last) (hw:e'.aD= []) (hi:e'.Inv):rI e q (e.aD++ [x],e')
theorem yJ(b:dI)(q:Rq): (dW b q).tag=q.tag∧(dW b q).ax=q.ax:=by
 unfold dW;split
 ·split <;>exact⟨rfl,rfl⟩
 split
 ·split
  ·exact⟨rfl,rfl⟩
  split <;>exact⟨rfl,rfl⟩
 exact⟨rfl,rfl⟩
theorem Es.Inv.aes{e:Es}(h:e.Inv): ({e.log with done:=e.log.eC.length}:Lg).Ok:=⟨aY _,h.log.last,h.log.bX,h.log.short⟩
theorem Es.Inv.flush{e:Es}(h:e.Inv){q:Rq}(hk:q.ax=8): rI e q (e.flush q):=by
 obtain⟨h1,h2,h3,h4⟩:=Lg.nM h.dev h.rg h.log.done h.fit h.row;unfold Es.flush;rw[if_neg (by rw[h1];decide)];refine .all ⟨q.tag,q.ax,0,0,0,0,e.aD.length⟩ _ (.inl hk) rfl rfl rfl rfl rfl ?_ ?_ rfl ?_
 ·show(e.log.flush e.rg e.dev).2.1.last=e.log.last
  rw[h2];rfl
 ·show(e.log.flush e.rg e.dev).2.1.cm=(e.log.flush e.rg e.dev).2.1.last
  rw[h2];rfl
 refine⟨h.up,h3.free,h4,?_,h.rg.qi h3,h.sl.qi h3,?_,?_,h.bk,?_,fun r hr=>by cases hr⟩
 ·show 32≤(e.log.flush e.rg e.dev).2.2.dk.size
  rw[h3.size];exact h.size
 ·show(e.log.flush e.rg e.dev).2.1.Ok
  rw[h2];exact h.aes
 ·show(e.log.flush e.rg e.dev).2.1.used≤e.rg.bytes (e.log.flush e.rg e.dev).2.2.dk.size
  rw[h2,h3.size];exact h.fit
 show 0<e.bk.aA
 have:=h.bk.aA;omega
theorem Es.Inv.save{e:Es}(h:e.Inv){q:Rq}(hk:q.ax=9): rI e q (e.save q):=by
 obtain⟨h1,h2,h3⟩:=Sl.xE h.dev h.sl h.row h.size (jT e.bk) e.log.last;have hg:=Iv e.sl e.dev (jT e.bk) e.log.last;unfold Es.save;have hi: ∀ l w,l.Ok→l.used≤e.rg.bytes e.dev.dk.size→(w:List Rp).length<e.bk.aA→(∀ r∈w,r.err=0)→({e with dev:=(e.sl.save e.dev (jT e.bk) e.log.last).2.2,log:=l,aD:=w}:Es).Inv:=fun l w a1 a2 a3 a4=>
  ⟨h.up,h2.free,h3,by show 32≤(e.sl.save e.dev (jT e.bk) e.log.last).2.2.dk.size;rw[h2.size];exact h.size,h.rg.qi h2,h.sl.qi h2,a1,by show l.used≤e.rg.bytes (e.sl.save e.dev (jT e.bk) e.log.last).2.2.dk.size;rw[h2.size];exact a2,h.bk,a3,a4⟩
 have hz:0<e.bk.aA:=by have:=h.bk.aA;omega
 rcases h1 with c|c|c
 ·rw[if_pos c];obtain⟨r1,r2,r3,r4,r5,r6⟩:=e.log.ZG (e.sl.save e.dev (jT e.bk) e.log.last).2.1.gen;refine .all ⟨q.tag,q.ax,0,0,0,0,e.aD.length⟩ _ (.inr hk) rfl rfl rfl rfl rfl r4 (r3.trans r4.symm) rfl (hi _ [] ⟨aY _,?_,hg,fun b hb=>by cases hb⟩ ?_ hz (fun r hr=>by cases hr))
  ·show e.log.last<_
   exact h.log.last
  rw[r6];exact Nat.zero_le _
 ·rw[if_neg AK,if_neg AK];exact ab9
 rw[if_neg AK,if_neg AK];exact ab9
theorem cA{k:Int}(h:bt k=true): k=1∨k=2∨k=3∨k=4∨k=7:=by
 unfold bt at h;simp only[zJ,lX,decide_eq_true_eq] at h;omega
def Es.after(e:Es)(q:Rq): Es:={e with log:=e.log.append (jb (bC e.bk q)),bk:=(e.bk.apply (bC e.bk q)).2,aD:=e.aD++ [bN q (bC e.bk q)]}
theorem sF(b:dI)(r:Rec): (b.apply r).2.aA=b.aA∧(b.apply r).2.n=b.n∧(b.apply r).2.au=b.au:=by
 unfold dI.apply;split
 ·exact⟨rfl,rfl,rfl⟩
 split
 ·unfold dI.hold;split
  ·exact⟨rfl,rfl,rfl⟩
  split
  ·exact⟨rfl,rfl,rfl⟩
  exact UN
 split
 ·unfold dI.tick;split <;>exact⟨rfl,rfl,rfl⟩
 split
 ·exact⟨rfl,rfl,rfl⟩
 split
 ·exact⟨rfl,rfl,rfl⟩
 split
 ·exact⟨rfl,rfl,rfl⟩
 exact UN
theorem Es.Inv.NN{e:Es}(h:e.Inv){q:Rq}(hq:q.Good)(hk:bt q.ax=true)(h0:bF e.bk e.bj q=0):
  (bC e.bk q).ok=true∧(jb (bC e.bk q)).length=cO (bC e.bk q).ax∧cO (bC e.bk q).ax≤32∧22+(jb (bC e.bk q)).length+e.log.used≤e.rg.bytes e.dev.dk.size:=by
 obtain⟨h1,h2⟩:=ac0 h.bk hq hk h0;have h3:=Iz (Rec.Fv h1);have h4:cO (bC e.bk q).ax≤32:=by unfold cO;split;omega;split;omega;split;omega;split;omega;split <;>omega
 unfold Es.bj at h2;exact⟨h1,h3,h4,ai⟩
theorem Es.Inv.change{e:Es}(h:e.Inv){q:Rq}(hq:q.Good)(hk:bt q.ax=true): rI e q (e.change q):=by
 have Wx: ¬(q.ax=8∨q.ax=9):=by have:=cA hk;omega
 unfold Es.change;by_cases c0:bF e.bk e.bj q=0
 ·rw[if_neg (by rw[c0];decide)];by_cases c1:e.log.last=18446744073709551615
  ·rw[if_pos c1];exact .told (cf q 220) e rfl rfl rfl rfl rfl (fun x=>Wx (.inl x)) (fun x=>absurd (.inr x) Wx) h
  rw[if_neg c1];obtain⟨h1,h2,h3,h4⟩:=h.NN hq hk c0;obtain⟨a1,a2,a3,a4,a5,a6⟩:=e.log.sG (jb (bC e.bk q)) h.log.done;have hb:=B2 h.bk h1;obtain⟨g1,g2,g3⟩:=sF e.bk (bC e.bk q);obtain⟨r1,r2,r3⟩:=uN q (bC e.bk q);have hlo:(e.log.append (jb (bC e.bk q))).Ok:=by
   refine⟨?_,?_,h.log.bX,fun b hb=>?_⟩
   ·show e.log.done≤(e.log.eC++ [_]).length
    rw[List.length_append];have:=h.log.done;omega
   ·rw[a4];have:=h.log.last;omega
   rcases List.mem_append.1 hb with hb|hb
   ·exact h.log.short b hb
   rw[List.mem_singleton] at hb;subst hb;omega
  have y7:(e.log.append (jb (bC e.bk q))).used≤e.rg.bytes e.dev.dk.size:=by rw[a6];omega
  have ahA: ∀ r∈e.aD++ [bN q (bC e.bk q)],r.err=0:=fun r hr=>by
   rcases List.mem_append.1 hr with hr|hr
   ·exact h.fine r hr
   rw[List.mem_singleton] at hr;subst hr;exact r3
  simp only;by_cases c2:(e.aD++ [bN q (bC e.bk q)]).length<e.bk.aA
  ·rw[if_pos c2];exact .aD (bN q (bC e.bk q)) _ hk r1 r2 r3 a4 rfl ⟨h.up,h.dev,h.row,h.size,h.rg,h.sl,hlo,y7,hb,by rw[g1];exact c2,ahA⟩
  rw[if_neg c2];obtain⟨f1,f2,f3,f4⟩:=Lg.nM h.dev h.rg hlo.done y7 h.row;rw[if_neg (by rw[f1];decide)];refine .full (bN q (bC e.bk q)) _ hk r1 r2 r3 ?_ ?_ rfl ?_
  ·show((e.log.append (jb (bC e.bk q))).flush e.rg e.dev).2.1.last=_
   rw[f2];exact a4
  ·show((e.log.append (jb (bC e.bk q))).flush e.rg e.dev).2.1.cm=((e.log.append (jb (bC e.bk q))).flush e.rg e.dev).2.1.last
   rw[f2];rfl
  refine⟨h.up,f3.free,f4,?_,h.rg.qi f3,h.sl.qi f3,?_,?_,hb,?_,fun r hr=>by cases hr⟩
  ·show 32≤((e.log.append (jb (bC e.bk q))).flush e.rg e.dev).2.2.dk.size
   rw[f3.size];exact h.size
  ·show((e.log.append (jb (bC e.bk q))).flush e.rg e.dev).2.1.Ok
   rw[f2];exact⟨aY _,hlo.last,hlo.bX,hlo.short⟩
  ·show((e.log.append (jb (bC e.bk q))).flush e.rg e.dev).2.1.used≤e.rg.bytes ((e.log.append (jb (bC e.bk q))).flush e.rg e.dev).2.2.dk.size
   rw[f2,f3.size];exact y7
  show 0<(e.bk.apply (bC e.bk q)).2.aA
  rw[g1];have:=h.bk.aA;omega
 rw[if_pos c0];exact .told (cf q (bF e.bk e.bj q)) e rfl rfl rfl rfl rfl (fun x=>Wx (.inl x)) (fun x=>absurd (.inr x) Wx) h
theorem Es.Inv.Mv{e:Es}(h:e.Inv){q:Rq}(hq:q.Good): rI e q (e.rep q):=by
 unfold Es.rep;rw[if_neg Al];have hk:=hq.ax;by_cases c1:q.ax=5∨q.ax=6∨q.ax=10
 ·rw[if_pos c1];obtain⟨a1,a2⟩:=yJ e.bk q;exact .told _ e a1 a2 rfl rfl rfl ai (fun x=>ai) h
 rw[if_neg c1];by_cases c2:q.ax=8
 ·rw[if_pos c2];exact h.flush c2
 rw[if_neg c2];by_cases c3:q.ax=9
 ·rw[if_pos c3];exact h.save c3
 rw[if_neg c3];exact h.change hq TD
end En
end
section
namespace En
def vG(b:dI)(q:Rq): Rp × dI:=
 if bt q.ax=true then
  if bF b 1000 q≠0 then(cf q (bF b 1000 q),b)else(bN q (bC b q),(b.apply (bC b q)).2)
 else(dW b q,b)
theorem aay(b:dI)(bj:Int)(q:Rq): bF b bj q=220∨bF b bj q=bF b 1000 q:=by
 unfold bF;by_cases h1:q.ax=1
 ·simp only[if_pos h1];by_cases c1:(b.n:Int)≤q.aw
  ·simp only[if_pos c1];exact .inr trivial
  simp only[if_neg c1];by_cases c2:q.bV<1∨1073741824<q.bV
  ·simp only[if_pos c2];exact .inr trivial
  simp only[if_neg c2];by_cases c3:1099511627776<b.aq+q.bV
  ·simp only[if_pos c3];exact .inr trivial
  simp only[if_neg c3];by_cases c4:dS b q=true
  ·simp only[if_pos c4];exact .inr trivial
  simp only[if_neg c4];by_cases c5:b.au≤b.L.length∨b.next=4294967295
  ·simp only[if_pos c5];exact .inr trivial
  simp only[if_neg c5];by_cases c6:bj<37
  ·simp only[if_pos c6];exact .inl trivial
  simp only[if_neg c6,if_neg (show ¬(1000:Int)<37 from aM)];exact .inr trivial
 simp only[if_neg h1];by_cases h2:q.ax=2∨q.ax=3
 ·simp only[if_pos h2];by_cases c1:(b.find q.id).isNone=true
  ·simp only[if_pos c1];exact .inr trivial
  simp only[if_neg c1];by_cases c6:bj<27
  ·simp only[if_pos c6];exact .inl trivial
  simp only[if_neg c6,if_neg (show ¬(1000:Int)<27 from aM)];exact .inr trivial
 simp only[if_neg h2];by_cases h4:q.ax=4
 ·simp only[if_pos h4];by_cases c1:(b.find q.id).isNone=true
  ·simp only[if_pos c1];exact .inr trivial
  simp only[if_neg c1];by_cases c2:(b.n:Int)≤q.aw
  ·simp only[if_pos c2];exact .inr trivial
  simp only[if_neg c2];by_cases c4:dS b q=true
  ·simp only[if_pos c4];exact .inr trivial
  simp only[if_neg c4];by_cases c6:bj<29
  ·simp only[if_pos c6];exact .inl trivial
  simp only[if_neg c6,if_neg (show ¬(1000:Int)<29 from aM)];exact .inr trivial
 simp only[if_neg h4];by_cases c2:q.bV<1∨1073741824<q.bV
 ·simp only[if_pos c2];exact .inr trivial
 simp only[if_neg c2];by_cases c3:1099511627776<b.aq+q.bV
 ·simp only[if_pos c3];exact .inr trivial
 simp only[if_neg c3];by_cases c6:bj<31
 ·simp only[if_pos c6];exact .inl trivial
 simp only[if_neg c6,if_neg (show ¬(1000:Int)<31 from aM)];exact .inr trivial
structure afy(e:Es)(q:Rq)(r:List Rp × Es): Prop where
 bk:r.2.bk=(vG e.bk q).2
 goes:(r.1= [(vG e.bk q).1]∧r.2.aD=e.aD)∨(r.1= []∧r.2.aD=e.aD++ [(vG e.bk q).1])∨(r.1=e.aD++ [(vG e.bk q).1]∧r.2.aD= [])
theorem Es.Inv.owns{e:Es}(h:e.Inv){q:Rq}(hq:q.Good)(h8:q.ax≠8)(h9:q.ax≠9): e.rep q=([cf q 220],e)∨afy e q (e.rep q):=by
 unfold Es.rep;rw[if_neg Al];have hk:=hq.ax;by_cases c1:q.ax=5∨q.ax=6∨q.ax=10
 ·rw[if_pos c1];have hc: ¬bt q.ax=true:=fun hc=>by have:=cA hc;omega
  refine .inr ⟨?_,.inl ⟨?_,rfl⟩⟩ <;>(unfold vG;rw[if_neg hc]) <;>rfl
 rw[if_neg c1,if_neg h8,if_neg h9];have hc:bt q.ax=true:=TD;unfold Es.change;rcases aay e.bk e.bj q with c|c
 ·rw[if_pos AK,c];exact .inl rfl
 by_cases c0:bF e.bk e.bj q=0
 ·rw[if_neg (by rw[c0];decide)];by_cases c2:e.log.last=18446744073709551615
  ·rw[if_pos c2];exact .inl rfl
  rw[if_neg c2];have ho:vG e.bk q=(bN q (bC e.bk q),(e.bk.apply (bC e.bk q)).2):=by unfold vG;rw[if_pos hc,if_neg (by rw[←c,c0];decide)]
  simp only;obtain⟨h1,h2,h3,h4⟩:=h.NN hq hc c0;by_cases c3:(e.aD++ [bN q (bC e.bk q)]).length<e.bk.aA
  ·rw[if_pos c3];exact .inr ⟨by rw[ho],.inr (.inl ⟨rfl,by rw[ho]⟩)⟩
  rw[if_neg c3];obtain⟨a1,a2,a3,a4,a5,a6⟩:=e.log.sG (jb (bC e.bk q)) h.log.done;obtain⟨f1,f2,f3,f4⟩:=Lg.nM (l:=e.log.append (jb (bC e.bk q))) h.dev h.rg TZ (by rw[a6];omega) h.row;rw[if_neg (by rw[f1];decide)];exact .inr ⟨by rw[ho],.inr (.inr ⟨by rw[ho],rfl⟩)⟩
 rw[if_pos c0];have ho:vG e.bk q=(cf q (bF e.bk e.bj q),e.bk):=by unfold vG;rw[if_pos hc,if_pos (by rw[←c];exact c0),c]
 exact .inr ⟨by rw[ho],.inl ⟨by rw[ho],rfl⟩⟩
def tagged(t:Int)(l:List Rp): List Rp:=l.filter fun r=>decide (r.tag=t)
theorem iO(t:Int)(a b:List Rp): tagged t (a++b)=tagged t a++tagged t b:=List.filter_append ..
theorem uz(t:Int)(x:Rp): tagged t [x]=if x.tag=t then [x] else []:=by
 unfold tagged;by_cases h:x.tag=t
 ·rw[if_pos h];simp[h]
 rw[if_neg h];simp[h]
theorem Uv(b:dI)(q:Rq): (vG b q).1.tag=q.tag:=by
 unfold vG;split
 ·split
  ·rfl
  exact(uN q _).1
 exact(yJ b q).1
theorem rI.other{e:Es}{q:Rq}{r:List Rp × Es}(h:rI e q r)(out:List Rp){t:Int}(ht:t≠q.tag): tagged t (out++r.1++r.2.aD)=tagged t (out++e.aD):=by
 have hx: ∀ x:Rp,x.tag=q.tag→tagged t [x]= []:=fun x hx=>by rw[uz,if_neg (by rw[hx];exact fun e=>ht e.symm)]
 cases h with
 | told x e' h1 h2 h3 h4 h5=>simp only[iO,hx x h1,h5];simp
 | aD x e' h1 h2 h3 h4 h5 h6=>simp only[iO,hx x h2,h6];simp[tagged]
 | full x e' h1 h2 h3 h4 h5 h6 h7=>simp only[iO,hx x h2,h7];simp[tagged]
 | all x e' h1 h2 h3 h4 h5 h6 h7 h8 h9=>simp only[iO,hx x h2,h9];simp[tagged]
theorem afy.tag{e:Es}{q:Rq}{r:List Rp × Es}(h:afy e q r)(out:List Rp)(h0:tagged q.tag (out++e.aD)= []): tagged q.tag (out++r.1++r.2.aD)= [(vG e.bk q).1]:=by
 rw[iO,PF] at h0;have hx:tagged q.tag [(vG e.bk q).1]= [(vG e.bk q).1]:=by rw[uz,if_pos (Uv _ _)]
 rcases h.goes with⟨a,b⟩|⟨a,b⟩|⟨a,b⟩ <;>rw[a,b] <;>simp only[iO,hx,h0.1,h0.2] <;>simp[tagged]
theorem rI.inv{e:Es}{q:Rq}{r:List Rp × Es}(h:rI e q r): r.2.Inv:=by cases h <;>assumption
structure af8(n:Nat)(ks:Nat→Int)(one two:List Rp)(x y:Es): Prop where
 ix:x.Inv
 iy:y.Inv
 fresh: ∀ t:Int,n<t→t<1048576→tagged t (one++x.aD)= []∧tagged t (two++y.aD)= []
 say:(x.bk=y.bk∧∀ i:Nat,i<n→ks i≠8→ks i≠9→∃ r,tagged ((i:Int)+1) (one++x.aD)= [r]∧tagged ((i:Int)+1) (two++y.aD)= [r])∨
  ∃ m:Nat,m<n∧ks m≠8∧ks m≠9∧(∀ i:Nat,i<m→ks i≠8→ks i≠9→∃ r,tagged ((i:Int)+1) (one++x.aD)= [r]∧tagged ((i:Int)+1) (two++y.aD)= [r])∧
   ((∃ r,tagged ((m:Int)+1) (one++x.aD)= [r]∧r.err=220)∨∃ r,tagged ((m:Int)+1) (two++y.aD)= [r]∧r.err=220)
theorem rI.NT{e:Es}{q:Rq}{r:List Rp × Es}(h:rI e q r)(hk:q.ax=8∨q.ax=9): r.2.bk=e.bk:=by
 cases h with
 | told x e' h1 h2 h3=>exact h3
 | aD x e' h1=>have:=cA h1;omega
 | full x e' h1=>have:=cA h1;omega
 | all x e' h1 h2 h3 h4 h5 h6=>exact h6
theorem af8.step{n:Nat}{ks:Nat→Int}{one two:List Rp}{x y:Es}(h:af8 n ks one two x y){q:Rq}(hq:q.Good)(ht:q.tag=n+1)(hk:q.ax=ks n)(hn:n<1000000): af8 (n+1) ks (one++(x.rep q).1) (two++(y.rep q).1) (x.rep q).2 (y.rep q).2:=by
 have hcx:=h.ix.Mv hq;have hcy:=h.iy.Mv hq;have fr:=h.fresh q.tag ai ai;have ox: ∀ i:Nat,i<n→tagged ((i:Int)+1) (one++(x.rep q).1++(x.rep q).2.aD)=tagged ((i:Int)+1) (one++x.aD):=fun i hi=>hcx.other one ai
 have oy: ∀ i:Nat,i<n→tagged ((i:Int)+1) (two++(y.rep q).1++(y.rep q).2.aD)=tagged ((i:Int)+1) (two++y.aD):=fun i hi=>hcy.other two ai
 refine⟨hcx.inv,hcy.inv,fun t h1 h2=>?_,?_⟩
 ·rw[hcx.other one ai,hcy.other two ai];exact h.fresh t ai h2
 rcases h.say with⟨h1,h2⟩|⟨m,h1,h2,h3,h4,h5⟩
 ·by_cases Wx:q.ax=8∨q.ax=9
  ·refine .inl ⟨by rw[hcx.NT Wx,hcy.NT Wx];exact h1,fun i hi a b=>?_⟩;rcases Nat.lt_or_ge i n with c|c
   ·rw[ox i c,oy i c];exact h2 i c a b
   obtain rfl:i=n:=ai;rw[hk] at Wx;rcases Wx with c|c
   ·exact absurd c a
   exact absurd c b
  have k8:q.ax≠8:=fun e=>Wx (.inl e)
  have k9:q.ax≠9:=fun e=>Wx (.inr e)
  have kf: ∀ (z:Es) (out:List Rp),tagged q.tag (out++z.aD)= []→z.rep q=([cf q 220],z)→∃ r,tagged ((n:Int)+1) (out++(z.rep q).1++(z.rep q).2.aD)= [r]∧r.err=220:=fun z out h0 he=>by
   rw[he,←ht];rw[iO,PF] at h0;refine⟨cf q 220,?_,rfl⟩;simp only[iO,uz,h0.1,h0.2];rw[if_pos (show(cf q 220).tag=q.tag from rfl)];rfl
  rcases h.ix.owns hq k8 k9 with ex|ex
  ·exact .inr ⟨n,ai,by rw[←hk];exact k8,by rw[←hk];exact k9,fun i hi a b=>by rw[ox i hi,oy i hi];exact h2 i hi a b,.inl (kf x one fr.1 ex)⟩
  rcases h.iy.owns hq k8 k9 with ey|ey
  ·exact .inr ⟨n,ai,by rw[←hk];exact k8,by rw[←hk];exact k9,fun i hi a b=>by rw[ox i hi,oy i hi];exact h2 i hi a b,.inr (kf y two fr.2 ey)⟩
  refine .inl ⟨by rw[ex.bk,ey.bk,h1],fun i hi a b=>?_⟩;rcases Nat.lt_or_ge i n with c|c
  ·rw[ox i c,oy i c];exact h2 i c a b
  obtain rfl:i=n:=ai;rw[←ht];exact⟨_,ex.tag one fr.1,by rw[ey.tag two fr.2,h1]⟩
 exact .inr ⟨m,ai,h2,h3,fun i hi a b=>by rw[ox i ai,oy i ai];exact h4 i hi a b,by rw[ox m h1,oy m h1];exact h5⟩
