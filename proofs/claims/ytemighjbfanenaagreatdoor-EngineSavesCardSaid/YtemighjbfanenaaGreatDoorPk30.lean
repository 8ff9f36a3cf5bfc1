import Derived.Test.YtemighjbfanenaaGreatDoorPk26
import Derived.Test.YtemighjbfanenaaGreatDoorPk29
set_option linter.all false
set_option maxRecDepth 100000
set_option maxHeartbeats 16000000
namespace Go.Proofs.YtemighjbfanenaaGreatDoor
open RowKit
open Oc (le)
open Bk (bS Cl ir sZ)
open yy (hasB)
open En (dK dT)
open Bool renaming and_eq_true→lS,or_eq_true→Af
open Classical renaming choose_spec→jP,choose→jO
open Go.Proofs.Tryz renaming prog→af
open Int renaming toNat_of_nonneg→G0
open List renaming append_eq_nil_iff→PR
open Nat renaming le_refl→aQ
open RowKit.Below renaming refl→au
theorem DU{p:Prop}(h:p:=by
 go_wp2_with fail;refine bW hK jY fun qA=>?_
 clear hK K;refine ty 9 ?_;refine bO ?_;go_wp2_with fail;go_ret;have HZ:=aa (av bz.o jz.o);exact⟨rfl,abR,aI.aU HZ.o⟩):p:=h
theorem Ve{p:Prop}(h:p:=by
 refine bO ?_;go_wp2_with fail;go_ret;have HZ:=aa (av bz.o jz.o);exact⟨rfl,abR,aI.aU HZ.o⟩):p:=h
theorem acN{p:Prop}(h:p:=by
 rw[show(if dT bk q=true then(170:Int)else 0)=0 from oW];dsimp only[pD] at HG;clear hb;go_enter Tryz.func342,Tryz.ntmps342;go_wp2_with fail;refine HG.o.mono ?_;rintro e w2 ⟨rfl,hb2⟩;have cu:=bz.dP hb2;have ia:=dz.o.ai hb2;have r3':=ia.cl 3;have hb3:=ax (au w2.heap.size w2) (.cells #[.int .u32 0,.int .i64 0,.int .i64 0] 171);have r3:(w2.alloc (.cells #[.int .u32 0,.int .i64 0,.int .i64 0] 171)).cell? ⟨ab,3,none⟩=some (.int .u32 q.id):=(ia.ai hb3).cell 3;have dV:=cu.dP hb3;clear hb2 hb3 ia r0 r4 HG r3';go_wp2_with fail;refine ag (di false 170 _) ?_;go_wp2_with fail;go_ret;exact⟨rfl,LM,aI.aU dV.o⟩):p:=h
theorem acq{p:Prop}(h:p:=by
 rcases h.say with⟨h1,h2⟩|⟨m,h1,h2,h3,h4,h5⟩
 ·exact .inl ⟨by rw[hb];exact h1,fun i hi a b=>by rw[ho i hi];exact h2 i hi a b⟩
 exact .inr ⟨m,h1,h2,h3,fun i hi a b=>by rw[ho i aj];exact h4 i hi a b,by rw[ho m h1];exact h5⟩):p:=h
theorem UZ{p:Prop}(h:p:=by
 split
 ·exact⟨rfl,rfl,rfl⟩
 split
 ·exact⟨rfl,rfl,rfl⟩
 split <;>exact⟨rfl,rfl,rfl⟩):p:=h
theorem ack{p:Prop}(h:p:=by
 go_enter Tryz.func340,Tryz.ntmps340;go_wp2_with fail;refine ag (di true 2 w1) ?_;go_wp2_with fail;go_ret;exact⟨rfl,H1.o,aI.aU bz.o⟩):p:=h
theorem acj{p:Prop}(h:p:=by
 exact .told (bZ q (e.sl.save e.dev (jS e.bk) e.log.last).1) _ rfl rfl rfl rfl rfl (by rw[hk];decide) (fun _=>aee) (hi e.log e.aF h.log h.fit h.full h.fine)):p:=h
theorem Vh{p:Prop}(h:p:=by
 rintro e w' ⟨he,h1,h2⟩;exact⟨he,⟨q,h1⟩,h2.mono fun k _ hk=>by subst hk;exact hS⟩):p:=h
theorem jY{p:Prop}(h:p:=by exact gi.o _ jz.o):p:=h
theorem vF{p:Prop}(h:p:=by exact gi.o _ (az (au _ _))):p:=h
theorem abR{p:Prop}(h:p:=by obtain⟨p,hp⟩:=HH.o;exact⟨p,hp.ak HZ.o⟩):p:=h
theorem AG{p:Prop}(h:p:=by obtain⟨p,hp⟩:=h;exact⟨p,hp.ak hb1⟩):p:=h
theorem S5{p:Prop}(h:p:=by have:=Nx hW hb (q.aw.toNat);rw[G0 hs,if_neg c1,ho] at this;exact this):p:=h
theorem Uc{p:Prop}(h:p:=by show e.log.done≤(e.log.eD++ [_]).length;rw[List.length_append];have:=h.log.done;omega):p:=h
theorem Bi{p:Prop}(h:p:=by rw[c];decide):p:=h
theorem LM{p:Prop}(h:p:=by obtain⟨p,hp⟩:=HH.o;exact⟨p,hp.ak dV.o⟩):p:=h
theorem TN{p:Prop}(h:p:=by unfold bI;simp only[Af,lS,decide_eq_true_eq];omega):p:=h
theorem aee{p:Prop}(h:p:=by show(e.sl.save e.dev (jS e.bk) e.log.last).1≠0;rw[c];decide):p:=h
theorem Th{p:Prop}(h:p:=by obtain⟨p,hp⟩:=cu.o;exact⟨p,hp.ak hb3⟩):p:=h
section
namespace En
theorem LX(k:Int): cK k=if recKind k=true then mr (dL k).1 (dL k).2.1 (dL k).2.2.1 (dL k).2.2.2 4 else 0:=by
 by_cases hk:1≤k∧k≤5
 ·rcases(show k=1∨k=2∨k=3∨k=4∨k=5 from aj)with rfl|rfl|rfl|rfl|rfl <;>rfl
 have h1:recKind k=false:=Ug;rw[h1,if_neg aN];unfold cK;rw[if_neg aj,if_neg aj,if_neg aj,if_neg aj,if_neg aj]
theorem Ru(k:Int)(w:World): Calls af 367 #[.int .i64 k] w fun e w'=>e= .returned (.int .i64 (cK k:Nat))∧Below w.heap.size w w':=by
 obtain⟨a1,a2,a3,a4,hh⟩: ∃ a1 a2 a3 a4,dL k=(a1,a2,a3,a4):=⟨_,_,_,_,rfl⟩;obtain⟨ok,fq⟩:=ae (recKind k);have HO:=aa (fun W=>Bx hh fq W);have HE:=aa (show cK k=if ok=true then mr a1 a2 a3 a4 4 else 0 by rw[LX,hh,fq]);clear hh fq;go_enter Tryz.func367,Tryz.ntmps367;go_wp2_with fail;refine(HO.o _).mono ?_;rintro e w1 ⟨rfl,hb1⟩;have bz:=aa hb1;clear hb1;go_upto_region 2 with fail
 obtain⟨w2,hw2⟩:=ae (w1.alloc (.cells #[.bool a1,.bool a2,.bool a3,.bool a4] 266));obtain⟨sb,ky⟩:=ae w1.heap.size;rw[hw2,ky];have ia:=aK hw2 ky;have hb2:=dU bz.o hw2;have s0:=ia.cl 0;have s1:=ia.cl 1;have s2:=ia.cl 2;have s3:=ia.cl 3;have cu:=aa hb2;clear ia hb2 hw2;cases ok
 ·go_wp2_with fail;go_ret;exact⟨oW,cu.o⟩
 go_wp2_with fail;refine(Ql a1 a2 a3 a4 w2).mono ?_;rintro e w3 ⟨rfl,hb3⟩;have dV:=cu.dP hb3;clear hb3 s0 s1 s2 s3;go_wp2_with fail;go_ret;exact⟨oW,dV.o⟩
theorem aa2(r:Rec)(w:World)(fq:r.ok=true): Calls af 217 #[.agg (fA r)] w (uo (ja r) w):=by
 rcases sZ fq with⟨id,s,t,rfl,h1,h2,h3,h4,h5⟩|⟨id,rfl,h1,h2⟩|⟨id,rfl,h1,h2⟩|⟨id,s,rfl,h1,h2,h3⟩|⟨c,rfl,h1,h2⟩
 ·obtain⟨i,rfl⟩: ∃ i:Nat,id=i:=⟨id.toNat,aj⟩;obtain⟨u,rfl⟩: ∃ u:Nat,t=u:=⟨t.toNat,aj⟩;exact aiv i s u w aj h3 aj
 ·obtain⟨i,rfl⟩: ∃ i:Nat,id=i:=⟨id.toNat,aj⟩;exact aiu i w aj
 ·obtain⟨i,rfl⟩: ∃ i:Nat,id=i:=⟨id.toNat,aj⟩;exact ait i w aj
 ·obtain⟨i,rfl⟩: ∃ i:Nat,id=i:=⟨id.toNat,aj⟩;exact ais i s w aj h3
 obtain⟨i,rfl⟩: ∃ i:Nat,c=i:=⟨c.toNat,aj⟩;exact air i w aj
theorem di(so:Bool)(x:Int)(w:World): Calls af 366 #[.bool so,.int .i64 x] w fun e w'=>e= .returned (.int .i64 (if so=true then x else 0))∧w'=w:=by
 cases so
 ·go_enter Tryz.func366,Tryz.ntmps366;go_wp2_with fail;go_ret;exact⟨rfl,rfl⟩
 go_enter Tryz.func366,Tryz.ntmps366;go_wp2_with fail;go_ret;exact⟨rfl,rfl⟩
end En
end
section
namespace Bk
open En (Rec)
variable{S:Nat→Prop}{w:World}{b:Nat}
theorem agj{n ar:Nat} {aA next aq:Int}{len:Nat}{q:bH}(h:cC S w b n ar aA next aq len q)(i:Nat)(hi:n≤i):
  Calls af 293 #[.pointer (some ⟨b,0,none⟩),.int .i64 i] w fun e w'=>e= .returned (.tuple #[.agg #[.int .u32 0,.int .i64 0,.int .i64 0],.int .i64 140])∧Below w.heap.size w w':=by
 have HH:=aa h;have Mv:(n:Int)≤(i:Int):=aj;have CT:(0:Int)≤(i:Int):=aj;clear h;go_enter Tryz.func293,Tryz.ntmps293;go_wp2_with fail;have hb1:Below w.heap.size w (w.alloc (.cells #[.int .u32 0,.int .i64 0,.int .i64 0] 171)):=ax (au _ _) _;have bt:aG (w.alloc (.cells #[.int .u32 0,.int .i64 0,.int .i64 0] 171)) w.heap.size 171 #[.int .u32 0,.int .i64 0,.int .i64 0]:=aG.fresh w _ _;obtain⟨w1,aZ⟩:=ae (w.alloc (.cells #[.int .u32 0,.int .i64 0,.int .i64 0] 171));obtain⟨r,hr⟩:=ae w.heap.size;rw[aZ] at hb1 bt ⊢;have hc1:=HH.o.ak hb1;have bz:=aa hb1;clear hb1;rw[hr] at bt ⊢;clear aZ;refine ag (cV b true w1 (hc1.own.cell 3)) ?_;have x0:w1.cell? ⟨b,0,none⟩=some (.int .i64 n):=hc1.own.cell 0;have dz:=aa bt;have HR:=aa hr;clear hc1 bt hr;go_wp2_with (refine ah rfl 171 _ _ rfl r 171 _ #[.int .u32 0,.int .i64 0,.int .i64 0] dz.o rfl rfl rfl eT AZ ?_;intro w3 dD hg3 hs3;have pB:=aa dD;have Aa:=aa hg3;clear dD hg3 hs3);refine bodyPost_ret (results_cell_tmp Tryz.results293 _ im (aJ 171 pB.o _ Tryz.underlying171 rfl eT)) rfl ⟨rfl,bn bz.o Aa.o K5⟩
def pD(o:Option bS)(er:Int): Value:=match o with
 | some x=>.tuple #[.agg #[.int .u32 x.id,.int .i64 (x.aw:Int),.int .i64 x.aS],.int .i64 0]
 | none=>.tuple #[.agg #[.int .u32 0,.int .i64 0,.int .i64 0],.int .i64 er]
theorem Ow{bk:dK}{s:Nat}{x:bS}(h:bk.on (s:Int)=some x): x∈bk.L∧x.aw=s:=
 ⟨List.mem_of_find?_eq_some h,by have:decide ((x.aw:Int)=(s:Int))=true:=by simpa using List.find?_some h
                                 exact Int.ofNat.inj (of_decide_eq_true this)⟩
theorem Nx{bk:dK}(h:fK S w b bk)(hb:bk.Ok)(s:Nat):
  Calls af 293 #[.pointer (some ⟨b,0,none⟩),.int .i64 s] w fun e w'=>e= .returned (if bk.n≤s then pD none 140 else pD (bk.on (s:Int)) 171)∧Below w.heap.size w w':=by
 obtain⟨q,hq⟩:=h;by_cases c1:bk.n≤s
 ·rw[if_pos c1];exact agj hq.bf s c1
 ·rw[if_neg c1];have hs:s<bk.n:=aj;have pS:=hq.on hs;cases ho:bk.on (s:Int)with
  | none=>
   refine abt hq.bf s hs hb.n.2 ?_;rw[pS,←FM,ho];rfl
  | some x=>
   obtain⟨hx,yT⟩:=Ow ho;have h1:=ajK hq.bf s hs hb.n.2 (by rw[pS,←FM,ho];rfl);have h2:q.sb s=x:=by rw[←yT];exact(hq.cQ x hx).2
   rw[h2] at h1;exact h1
theorem GF{bk:dK}(h:fK S w b bk)(id:Int)(hid:0≤id∧id<4294967296):
  Calls af 71 #[.pointer (some ⟨b,0,none⟩),.int .u32 id] w fun e w'=>e= .returned (pD (bk.find id) 171)∧fK S w' b bk∧aI S w w':=by
 obtain⟨q,hq⟩:=h;have hS:S q.ip:=hq.bf.bA.2.2.2.1;cases hf:bk.find id with
 | none=>
  refine(YC hq id (Em hf) hid).mono ?_;exact Vh
 | some x=>
  obtain⟨hx,rfl⟩:=ir hf;refine(CC hq x hx hid).mono ?_;exact Vh
end Bk
end
section
namespace Bk
open En (Rec Rq di)
def uS(b:Nat)(q:Rq)(r:Rec)(bg:Int): Array Value:=#[.pointer (some ⟨b,0,none⟩),.int .i64 q.ay,.int .u32 q.tag,.int .u32 q.id,.int .i64 q.aw,.int .i64 q.bT,.int .i64 r.ay,.int .u32 r.id,.int .i64 r.aw,.int .i64 r.aS,.int .i64 r.aq,.int .i64 bg]
def oJ(S:Nat→Prop)(w:World)(b:Nat)(bk:dK)(er:Int)(e:Ending)(w':World): Prop:=e= .returned (.int .i64 er)∧fK S w' b bk∧aI S w w'
theorem adZ(S:Nat→Prop)(w:World)(b:Nat)(bk:dK)(q:Rq)(r:Rec)(bg:Int)(h:fK S w b bk)(hb:bk.Ok):
  Calls af 340 #[.agg (uS b q r bg)] w (oJ S w b bk (if q.bT<1∨1073741824<q.bT then 2 else 0)):=by
 dsimp only[uS];obtain⟨w1,aZ⟩:=ae (w.alloc (.cells #[.pointer (some ⟨b,0,none⟩),.int .i64 q.ay,.int .u32 q.tag,.int .u32 q.id,.int .i64 q.aw,.int .i64 q.bT,.int .i64 r.ay,.int .u32 r.id,.int .i64 r.aw,.int .i64 r.aS,.int .i64 r.aq,.int .i64 bg] 442));obtain⟨ab,hab⟩:=ae w.heap.size;have bt:=aK aZ hab;have hb1:=aL aZ;have r5:=bt.cl 5;have h1:fK S w1 b bk:=AG;have HH:=aa h;have H1:=aa h1;have dz:=aa bt;have bz:=aa hb1;have oo:=aa hb;clear h h1 bt hb1 hb;by_cases c1:q.bT<1
 ·have q1:decide (q.bT<1)=true:=decide_eq_true c1;rw[if_pos (.inl c1)];exact ack
 ·have q1:decide (q.bT<1)=false:=decide_eq_false c1;by_cases c2:1073741824<q.bT
  ·have q2:decide (1073741824<q.bT)=true:=decide_eq_true c2;rw[if_pos (.inr c2)];exact ack
  have q2:decide (1073741824<q.bT)=false:=decide_eq_false c2;rw[if_neg (by rintro(h|h);exact c1 h;exact c2 h)];go_enter Tryz.func340,Tryz.ntmps340;go_wp2_with fail;refine ag (di false 2 w1) ?_;go_wp2_with fail;go_ret;exact⟨rfl,H1.o,aI.aU bz.o⟩
theorem VI(S:Nat→Prop)(w:World)(b:Nat)(bk:dK)(q:Rq)(r:Rec)(bg:Int)(h:fK S w b bk)(hb:bk.Ok)(hid:0≤q.id∧q.id<4294967296):
  Calls af 345 #[.agg (uS b q r bg)] w (oJ S w b bk (if(bk.find q.id).isNone=true then 171 else 0)):=by
 dsimp only[uS];obtain⟨w1,aZ⟩:=ae (w.alloc (.cells #[.pointer (some ⟨b,0,none⟩),.int .i64 q.ay,.int .u32 q.tag,.int .u32 q.id,.int .i64 q.aw,.int .i64 q.bT,.int .i64 r.ay,.int .u32 r.id,.int .i64 r.aw,.int .i64 r.aS,.int .i64 r.aq,.int .i64 bg] 442));obtain⟨ab,hab⟩:=ae w.heap.size;have bt:=aK aZ hab;have hb1:=aL aZ;have r0:=bt.cl 0;have r3:=bt.cl 3;have h1:fK S w1 b bk:=AG;have HH:=aa h;have H1:=aa h1;have dz:=aa bt;have bz:=aa hb1;have oo:=aa hb;clear h h1 bt hb1 hb;cases hf:bk.find q.id with
 | none=>
  have HG:=aa (GF H1.o q.id hid);rw[hf] at HG;have HF:=aa hf;go_enter Tryz.func345,Tryz.ntmps345;go_wp2_with fail;refine HG.o.mono ?_;rintro e w2 ⟨rfl,pc,jB⟩;have cu:=aa pc;have gh:=aa ((aI.aU (S:=S) bz.o).trans jB);dsimp only[pD];clear pc jB hf HG r0 r3;go_wp2_with fail;go_ret;have hb3:=ax (au w2.heap.size w2) (.cells #[.int .u32 0,.int .i64 0,.int .i64 0] 171);exact⟨rfl,Th,gh.o.ak hb3⟩
 | some x=>
  have HG:=aa (GF H1.o q.id hid);rw[hf] at HG;have HF:=aa hf;go_enter Tryz.func345,Tryz.ntmps345;go_wp2_with fail;refine HG.o.mono ?_;rintro e w2 ⟨rfl,pc,jB⟩;have cu:=aa pc;have gh:=aa ((aI.aU (S:=S) bz.o).trans jB);dsimp only[pD];clear pc jB hf HG r0 r3;go_wp2_with fail;go_ret;have hb3:=ax (au w2.heap.size w2) (.cells #[.int .u32 x.id,.int .i64 (x.aw:Int),.int .i64 x.aS] 171);exact⟨rfl,Th,gh.o.ak hb3⟩
theorem aez{bk:dK}(hb:bk.Ok){s:Nat}(h:bk.n≤s): bk.on (s:Int)=none:=by
 cases ho:bk.on (s:Int)with
 | none=>rfl
 | some x=>
  obtain⟨hx,e⟩:=Ow ho;have:=hb.fW x hx;omega
theorem Ul(S:Nat→Prop)(w:World)(b:Nat)(bk:dK)(q:Rq)(r:Rec)(bg:Int)(h:fK S w b bk)(hb:bk.Ok)(hs:0≤q.aw):
  Calls af 342 #[.agg (uS b q r bg)] w (oJ S w b bk (if dT bk q=true then 170 else 0)):=by
 dsimp only[uS];obtain⟨w1,aZ⟩:=ae (w.alloc (.cells #[.pointer (some ⟨b,0,none⟩),.int .i64 q.ay,.int .u32 q.tag,.int .u32 q.id,.int .i64 q.aw,.int .i64 q.bT,.int .i64 r.ay,.int .u32 r.id,.int .i64 r.aw,.int .i64 r.aS,.int .i64 r.aq,.int .i64 bg] 442));obtain⟨ab,hab⟩:=ae w.heap.size;have bt:=aK aZ hab;have hb1:=aL aZ;have r0:=bt.cl 0;have r4:=bt.cl 4;have h1:fK S w1 b bk:=AG;have HH:=aa h;have H1:=aa h1;have dz:=aa bt;have bz:=aa hb1;have oo:=aa hb;clear h h1 bt hb1;by_cases c1:bk.n≤q.aw.toNat
 ·skip;have HG:=aa (show ∀ W,fK S W b bk→Calls af 293 #[.pointer (some ⟨b,0,none⟩),.int .i64 q.aw] W fun e w'=>e= .returned (pD none 140)∧Below W.heap.size W w' from fun W hW=>by have:=Nx hW hb (q.aw.toNat);rw[G0 hs,if_pos c1] at this;exact this);have HG:=aa (HG.o w1 H1.o);have HE:=aa (show dT bk q=false from by unfold dT;rw[←G0 hs,aez hb c1]);exact acN
 cases ho:bk.on q.aw with
 | none=>
  have HG:=aa (show ∀ W,fK S W b bk→Calls af 293 #[.pointer (some ⟨b,0,none⟩),.int .i64 q.aw] W fun e w'=>e= .returned (pD none 171)∧Below W.heap.size W w' from fun W hW=>S5);have HG:=aa (HG.o w1 H1.o);have HE:=aa (show dT bk q=false from by unfold dT;rw[ho]);exact acN
 | some x=>
  by_cases c2:x.id=q.id
  ·skip;have HG:=aa (show ∀ W,fK S W b bk→Calls af 293 #[.pointer (some ⟨b,0,none⟩),.int .i64 q.aw] W fun e w'=>e= .returned (pD (some x) 171)∧Below W.heap.size W w' from fun W hW=>S5);have HG:=aa (HG.o w1 H1.o);have HE:=aa (show dT bk q=false from by unfold dT;rw[ho];simp[c2]);rw[show(if dT bk q=true then(170:Int)else 0)=0 from oW];dsimp only[pD] at HG;have hq:(x.id != q.id)=false:=by simpa using c2
   clear c2;clear hb;go_enter Tryz.func342,Tryz.ntmps342;go_wp2_with fail;refine HG.o.mono ?_;rintro e w2 ⟨rfl,hb2⟩;have cu:=bz.dP hb2;have ia:=dz.o.ai hb2;have r3':=ia.cl 3;have hb3:=ax (au w2.heap.size w2) (.cells #[.int .u32 x.id,.int .i64 (x.aw:Int),.int .i64 x.aS] 171);have r3:(w2.alloc (.cells #[.int .u32 x.id,.int .i64 (x.aw:Int),.int .i64 x.aS] 171)).cell? ⟨ab,3,none⟩=some (.int .u32 q.id):=(ia.ai hb3).cell 3;have dV:=cu.dP hb3;clear hb2 hb3 ia r0 r4 HG r3';go_wp2_with fail;refine ag (di false 170 _) ?_;go_wp2_with fail;go_ret;exact⟨rfl,LM,aI.aU dV.o⟩
  skip;have HG:=aa (show ∀ W,fK S W b bk→Calls af 293 #[.pointer (some ⟨b,0,none⟩),.int .i64 q.aw] W fun e w'=>e= .returned (pD (some x) 171)∧Below W.heap.size W w' from fun W hW=>S5);have HG:=aa (HG.o w1 H1.o);have HE:=aa (show dT bk q=true from by unfold dT;rw[ho];simp[c2]);rw[show(if dT bk q=true then(170:Int)else 0)=170 from oW];dsimp only[pD] at HG;have hq:(x.id != q.id)=true:=by simpa using c2
  clear c2;clear hb;go_enter Tryz.func342,Tryz.ntmps342;go_wp2_with fail;refine HG.o.mono ?_;rintro e w2 ⟨rfl,hb2⟩;have cu:=bz.dP hb2;have ia:=dz.o.ai hb2;have r3':=ia.cl 3;have hb3:=ax (au w2.heap.size w2) (.cells #[.int .u32 x.id,.int .i64 (x.aw:Int),.int .i64 x.aS] 171);have r3:(w2.alloc (.cells #[.int .u32 x.id,.int .i64 (x.aw:Int),.int .i64 x.aS] 171)).cell? ⟨ab,3,none⟩=some (.int .u32 q.id):=(ia.ai hb3).cell 3;have dV:=cu.dP hb3;clear hb2 hb3 ia r0 r4 HG r3';go_wp2_with fail;refine ag (di true 170 _) ?_;go_wp2_with fail;go_ret;exact⟨rfl,LM,aI.aU dV.o⟩
end Bk
end
section
namespace Bk
open En (Rec Rq di)
theorem aie(a b c:Int)(W:World): (Instr.field 80 (.agg #[.int .i64 a,.int .i64 b,.int .i64 c]) 0).run af W= .ok (.int .i64 a) W:=br
theorem aff(a b c:Int)(W:World): (Instr.field 80 (.agg #[.int .i64 a,.int .i64 b,.int .i64 c]) 1).run af W= .ok (.int .i64 b) W:=br
theorem ZM(S:Nat→Prop)(w:World)(b:Nat)(bk:dK)(q:Rq)(r:Rec)(bg:Int)(h:fK S w b bk)(hb:bk.Ok)(hs:0≤q.aw):
  Calls af 339 #[.agg (uS b q r bg)] w (oJ S w b bk (if(bk.n:Int)≤q.aw then 140 else 0)):=by
 dsimp only[uS];obtain⟨w1,aZ⟩:=ae (w.alloc (.cells #[.pointer (some ⟨b,0,none⟩),.int .i64 q.ay,.int .u32 q.tag,.int .u32 q.id,.int .i64 q.aw,.int .i64 q.bT,.int .i64 r.ay,.int .u32 r.id,.int .i64 r.aw,.int .i64 r.aS,.int .i64 r.aq,.int .i64 bg] 442));obtain⟨ab,hab⟩:=ae w.heap.size;have bt:=aK aZ hab;have hb1:=aL aZ;have r0:=bt.cl 0;have r4:=bt.cl 4;have h1:fK S w1 b bk:=AG;have HH:=aa h;have H1:=aa h1;have dz:=aa bt;have bz:=aa hb1;have oo:=aa hb;clear h h1 bt hb1 hb r0 r4;by_cases c1:(bk.n:Int)≤q.aw
 ·have q1:decide ((bk.n:Int)≤q.aw)=true:=decide_eq_true c1;have lM:=aie (bk.n:Int) (bk.ar:Int) (bk.aA:Int);rw[if_pos c1];go_enter Tryz.func339,Tryz.ntmps339;go_wp2_with fail;have gi:=aa (show ∀ W,Below w1.heap.size w1 W→(W.cell? ⟨ab,0,none⟩=some (.pointer (some ⟨b,0,none⟩))∧W.cell? ⟨ab,4,none⟩=some (.int .i64 q.aw)∧Below w1.heap.size w1 W)from fun W hW=>⟨(dz.o.ai hW).cell 0,(dz.o.ai hW).cell 4,hW⟩);refine ud (S:=(fun W=>W.cell? ⟨ab,0,none⟩=some (.pointer (some ⟨b,0,none⟩))∧W.cell? ⟨ab,4,none⟩=some (.int .i64 q.aw)∧Below w1.heap.size w1 W)) vF fun hHeld=>?_
  have jz:=aa (show Below w1.heap.size w1 w1.drew from az (au _ _));refine lu 0 1 2 3 ?_;refine ty 4 ?_;refine cG 5 fun K hK=>?_
  go_simp;refine(gB (show cC S _ b _ _ _ _ _ _ (jO H1.o)from((jP H1.o).ak jz.o).bf)).mono ?_;rintro e w3 ⟨rfl,hb3⟩;have jz:=jz.dP hb3;clear hb3;go_wp2_with fail;refine bW hK jY fun jt=>?_
  clear hK K;refine tX 6 7 ?_;refine cG 8 fun K hK=>?_
  go_simp;refine ag (di true 140 _) ?_;exact DU
 ·have q1:decide ((bk.n:Int)≤q.aw)=false:=decide_eq_false c1;have lM:=aie (bk.n:Int) (bk.ar:Int) (bk.aA:Int);rw[if_neg c1];go_enter Tryz.func339,Tryz.ntmps339;go_wp2_with fail;have gi:=aa (show ∀ W,Below w1.heap.size w1 W→(W.cell? ⟨ab,0,none⟩=some (.pointer (some ⟨b,0,none⟩))∧W.cell? ⟨ab,4,none⟩=some (.int .i64 q.aw)∧Below w1.heap.size w1 W)from fun W hW=>⟨(dz.o.ai hW).cell 0,(dz.o.ai hW).cell 4,hW⟩);refine ud (S:=(fun W=>W.cell? ⟨ab,0,none⟩=some (.pointer (some ⟨b,0,none⟩))∧W.cell? ⟨ab,4,none⟩=some (.int .i64 q.aw)∧Below w1.heap.size w1 W)) vF fun hHeld=>?_
  have jz:=aa (show Below w1.heap.size w1 w1.drew from az (au _ _));refine lu 0 1 2 3 ?_;refine ty 4 ?_;refine cG 5 fun K hK=>?_
  go_simp;refine(gB (show cC S _ b _ _ _ _ _ _ (jO H1.o)from((jP H1.o).ak jz.o).bf)).mono ?_;rintro e w3 ⟨rfl,hb3⟩;have jz:=jz.dP hb3;clear hb3;go_wp2_with fail;refine bW hK jY fun jt=>?_
  clear hK K;refine tX 6 7 ?_;refine cG 8 fun K hK=>?_
  go_simp;refine ag (di false 140 _) ?_;exact DU
theorem WZ(S:Nat→Prop)(w:World)(b:Nat)(bk:dK)(q:Rq)(r:Rec)(bg:Int)(h:fK S w b bk)(hb:bk.Ok)(ht:0≤q.bT∧q.bT≤1073741824):
  Calls af 341 #[.agg (uS b q r bg)] w (oJ S w b bk (if 1099511627776<bk.aq+q.bT then 172 else 0)):=by
 dsimp only[uS];obtain⟨w1,aZ⟩:=ae (w.alloc (.cells #[.pointer (some ⟨b,0,none⟩),.int .i64 q.ay,.int .u32 q.tag,.int .u32 q.id,.int .i64 q.aw,.int .i64 q.bT,.int .i64 r.ay,.int .u32 r.id,.int .i64 r.aw,.int .i64 r.aS,.int .i64 r.aq,.int .i64 bg] 442));obtain⟨ab,hab⟩:=ae w.heap.size;have bt:=aK aZ hab;have hb1:=aL aZ;have r0:=bt.cl 0;have r5:=bt.cl 5;have h1:fK S w1 b bk:=AG;have HH:=aa h;have H1:=aa h1;have dz:=aa bt;have bz:=aa hb1;have oo:=aa hb;have hck:=hb.aq;have hwx:IntKind.i64.wrap (bk.aq+q.bT)=bk.aq+q.bT:=Fk;clear h h1 bt hb1 hb r0 r5;by_cases c1:1099511627776<bk.aq+q.bT
 ·have q1:decide (1099511627776<bk.aq+q.bT)=true:=decide_eq_true c1;rw[if_pos c1];go_enter Tryz.func341,Tryz.ntmps341;go_wp2_with fail;have gi:=aa (show ∀ W,Below w1.heap.size w1 W→(W.cell? ⟨ab,0,none⟩=some (.pointer (some ⟨b,0,none⟩))∧W.cell? ⟨ab,5,none⟩=some (.int .i64 q.bT)∧Below w1.heap.size w1 W)from fun W hW=>⟨(dz.o.ai hW).cell 0,(dz.o.ai hW).cell 5,hW⟩);refine ud (S:=(fun W=>W.cell? ⟨ab,0,none⟩=some (.pointer (some ⟨b,0,none⟩))∧W.cell? ⟨ab,5,none⟩=some (.int .i64 q.bT)∧Below w1.heap.size w1 W)) vF fun hHeld=>?_
  have jz:=aa (show Below w1.heap.size w1 w1.drew from az (au _ _));refine lu 0 1 3 4 ?_;refine ty 5 ?_;refine cG 2 fun K hK=>?_
  go_simp;refine ag (wI (show cC S _ b _ _ _ _ _ _ (jO H1.o) from((jP H1.o).ak jz.o).bf)) ?_;go_wp2_with fail;refine bW hK jY fun Ga=>?_
  clear hK K;refine tX 6 7 ?_;refine cG 8 fun K hK=>?_
  go_simp;refine ag (di true 172 _) ?_;exact DU
 ·have q1:decide (1099511627776<bk.aq+q.bT)=false:=decide_eq_false c1;rw[if_neg c1];go_enter Tryz.func341,Tryz.ntmps341;go_wp2_with fail;have gi:=aa (show ∀ W,Below w1.heap.size w1 W→(W.cell? ⟨ab,0,none⟩=some (.pointer (some ⟨b,0,none⟩))∧W.cell? ⟨ab,5,none⟩=some (.int .i64 q.bT)∧Below w1.heap.size w1 W)from fun W hW=>⟨(dz.o.ai hW).cell 0,(dz.o.ai hW).cell 5,hW⟩);refine ud (S:=(fun W=>W.cell? ⟨ab,0,none⟩=some (.pointer (some ⟨b,0,none⟩))∧W.cell? ⟨ab,5,none⟩=some (.int .i64 q.bT)∧Below w1.heap.size w1 W)) vF fun hHeld=>?_
  have jz:=aa (show Below w1.heap.size w1 w1.drew from az (au _ _));refine lu 0 1 3 4 ?_;refine ty 5 ?_;refine cG 2 fun K hK=>?_
  go_simp;refine ag (wI (show cC S _ b _ _ _ _ _ _ (jO H1.o) from((jP H1.o).ak jz.o).bf)) ?_;go_wp2_with fail;refine bW hK jY fun Ga=>?_
  clear hK K;refine tX 6 7 ?_;refine cG 8 fun K hK=>?_
  go_simp;refine ag (di false 172 _) ?_;exact DU
theorem L9(k:Int): En.cK k≤32:=by unfold En.cK;split;omega;split;omega;split;omega;split;omega;split <;>omega
theorem aaC(S:Nat→Prop)(w:World)(b:Nat)(bk:dK)(q:Rq)(r:Rec)(bg:Int)(h:fK S w b bk)(hb:bk.Ok):
  Calls af 344 #[.agg (uS b q r bg)] w (oJ S w b bk (if bg<22+(En.cK r.ay:Int)then 220 else 0)):=by
 dsimp only[uS];obtain⟨w1,aZ⟩:=ae (w.alloc (.cells #[.pointer (some ⟨b,0,none⟩),.int .i64 q.ay,.int .u32 q.tag,.int .u32 q.id,.int .i64 q.aw,.int .i64 q.bT,.int .i64 r.ay,.int .u32 r.id,.int .i64 r.aw,.int .i64 r.aS,.int .i64 r.aq,.int .i64 bg] 442));obtain⟨ab,hab⟩:=ae w.heap.size;have bt:=aK aZ hab;have hb1:=aL aZ;have r6:=bt.cl 6;have r11:=bt.cl 11;have h1:fK S w1 b bk:=AG;have HH:=aa h;have H1:=aa h1;have dz:=aa bt;have bz:=aa hb1;have oo:=aa hb;have Mn:=L9 r.ay;obtain⟨m,hm⟩:=ae (En.cK r.ay);have ze:=aa (fun W=>En.Ru r.ay W);rw[hm] at ze Mn ⊢;clear h h1 bt hb1 hb r6 r11 hm;by_cases c1:bg<22+(m:Int)
 ·have q1:decide (bg<22+(m:Int))=true:=decide_eq_true c1;rw[if_pos c1];go_enter Tryz.func344,Tryz.ntmps344;go_wp2_with fail;have gi:=aa (show ∀ W,Below w1.heap.size w1 W→(W.cell? ⟨ab,6,none⟩=some (.int .i64 r.ay)∧W.cell? ⟨ab,11,none⟩=some (.int .i64 bg)∧Below w1.heap.size w1 W)from fun W hW=>⟨(dz.o.ai hW).cell 6,(dz.o.ai hW).cell 11,hW⟩);refine ud (S:=(fun W=>W.cell? ⟨ab,6,none⟩=some (.int .i64 r.ay)∧W.cell? ⟨ab,11,none⟩=some (.int .i64 bg)∧Below w1.heap.size w1 W)) vF fun hHeld=>?_
  have jz:=aa (show Below w1.heap.size w1 w1.drew from az (au _ _));refine lu 0 1 2 5 ?_;refine ty 6 ?_;refine cG 3 fun K hK=>?_
  go_simp;refine(ze.o _).mono ?_;rintro e w3 ⟨rfl,hb3⟩;have jz:=jz.dP hb3;clear hb3;go_wp2_with fail;refine bW hK jY fun MF=>?_
  clear hK K;refine cG 4 fun K hK=>?_
  go_simp;refine ag (En.CD m Mn _) ?_;go_wp2_with fail;refine bW hK jY fun mC=>?_
  clear hK K;refine ty 7 ?_;refine cG 8 fun K hK=>?_
  go_simp;refine ag (di true 220 _) ?_;exact DU
 ·have q1:decide (bg<22+(m:Int))=false:=decide_eq_false c1;rw[if_neg c1];go_enter Tryz.func344,Tryz.ntmps344;go_wp2_with fail;have gi:=aa (show ∀ W,Below w1.heap.size w1 W→(W.cell? ⟨ab,6,none⟩=some (.int .i64 r.ay)∧W.cell? ⟨ab,11,none⟩=some (.int .i64 bg)∧Below w1.heap.size w1 W)from fun W hW=>⟨(dz.o.ai hW).cell 6,(dz.o.ai hW).cell 11,hW⟩);refine ud (S:=(fun W=>W.cell? ⟨ab,6,none⟩=some (.int .i64 r.ay)∧W.cell? ⟨ab,11,none⟩=some (.int .i64 bg)∧Below w1.heap.size w1 W)) vF fun hHeld=>?_
  have jz:=aa (show Below w1.heap.size w1 w1.drew from az (au _ _));refine lu 0 1 2 5 ?_;refine ty 6 ?_;refine cG 3 fun K hK=>?_
  go_simp;refine(ze.o _).mono ?_;rintro e w3 ⟨rfl,hb3⟩;have jz:=jz.dP hb3;clear hb3;go_wp2_with fail;refine bW hK jY fun MF=>?_
  clear hK K;refine cG 4 fun K hK=>?_
  go_simp;refine ag (En.CD m Mn _) ?_;go_wp2_with fail;refine bW hK jY fun mC=>?_
  clear hK K;refine ty 7 ?_;refine cG 8 fun K hK=>?_
  go_simp;refine ag (di false 220 _) ?_;exact DU
end Bk
end
section
namespace Bk
open En (Rec Rq di)
theorem aaA(S:Nat→Prop)(w:World)(b:Nat)(bk:dK)(q:Rq)(r:Rec)(bg:Int)(h:fK S w b bk)(hb:bk.Ok):
  Calls af 343 #[.agg (uS b q r bg)] w (oJ S w b bk (if bk.ar≤bk.L.length∨bk.next=4294967295 then 6 else 0)):=by
 dsimp only[uS];obtain⟨w1,aZ⟩:=ae (w.alloc (.cells #[.pointer (some ⟨b,0,none⟩),.int .i64 q.ay,.int .u32 q.tag,.int .u32 q.id,.int .i64 q.aw,.int .i64 q.bT,.int .i64 r.ay,.int .u32 r.id,.int .i64 r.aw,.int .i64 r.aS,.int .i64 r.aq,.int .i64 bg] 442));obtain⟨ab,hab⟩:=ae w.heap.size;have bt:=aK aZ hab;have hb1:=aL aZ;have r0:=bt.cl 0;have h1:fK S w1 b bk:=AG;have HH:=aa h;have H1:=aa h1;have dz:=aa bt;have bz:=aa hb1;have oo:=aa hb;clear h h1 bt hb1 hb r0;by_cases c1:bk.ar≤bk.L.length
 ·have q1:decide ((bk.ar:Int)≤(bk.L.length:Int))=true:=decide_eq_true aj;have q1':decide (bk.ar≤bk.L.length)=true:=decide_eq_true c1;have lM:=aff (bk.n:Int) (bk.ar:Int) (bk.aA:Int);rw[if_pos (.inl c1)];go_enter Tryz.func343,Tryz.ntmps343;go_wp2_with fail;have gi:=aa (show ∀ W,Below w1.heap.size w1 W→(W.cell? ⟨ab,0,none⟩=some (.pointer (some ⟨b,0,none⟩))∧Below w1.heap.size w1 W)from fun W hW=>⟨(dz.o.ai hW).cell 0,hW⟩);refine ud (S:=(fun W=>W.cell? ⟨ab,0,none⟩=some (.pointer (some ⟨b,0,none⟩))∧Below w1.heap.size w1 W)) vF fun hHeld=>?_
  have jz:=aa (show Below w1.heap.size w1 w1.drew from az (au _ _));refine lu 0 1 3 4 ?_;refine cG 2 fun K hK=>?_
  go_simp;refine ag (uY (show cC S _ b _ _ _ _ _ _ (jO H1.o) from((jP H1.o).ak jz.o).bf)) ?_;go_wp2_with fail;refine bW hK jY fun Ga=>?_
  clear hK K;refine cG 5 fun K hK=>?_
  go_simp;refine(gB (show cC S _ b _ _ _ _ _ _ (jO H1.o)from((jP H1.o).ak jz.o).bf)).mono ?_;rintro e w3 ⟨rfl,hb3⟩;have jz:=jz.dP hb3;clear hb3;go_wp2_with fail;refine bW hK jY fun jt=>?_
  clear hK K;refine ov 6 7 8 9 10 11 12 13 ?_;refine cG 14 fun K hK=>?_
  go_simp;refine ag (di true 6 _) ?_;go_wp2_with fail;refine bW hK jY fun lN=>?_
  clear hK K;refine ty 15 ?_;exact Ve
 ·have q1:decide ((bk.ar:Int)≤(bk.L.length:Int))=false:=decide_eq_false aj;have q1':decide (bk.ar≤bk.L.length)=false:=decide_eq_false c1;by_cases c2:bk.next=4294967295
  ·have q2:(bk.next==4294967295)=true:=beq_iff_eq.2 c2;have zB:=aa c2;have lM:=aff (bk.n:Int) (bk.ar:Int) (bk.aA:Int);rw[if_pos (.inr c2)];clear c2;go_enter Tryz.func343,Tryz.ntmps343;go_wp2_with fail;have gi:=aa (show ∀ W,Below w1.heap.size w1 W→(W.cell? ⟨ab,0,none⟩=some (.pointer (some ⟨b,0,none⟩))∧Below w1.heap.size w1 W)from fun W hW=>⟨(dz.o.ai hW).cell 0,hW⟩);refine ud (S:=(fun W=>W.cell? ⟨ab,0,none⟩=some (.pointer (some ⟨b,0,none⟩))∧Below w1.heap.size w1 W)) vF fun hHeld=>?_
   have jz:=aa (show Below w1.heap.size w1 w1.drew from az (au _ _));refine lu 0 1 3 4 ?_;refine cG 2 fun K hK=>?_
   go_simp;refine ag (uY (show cC S _ b _ _ _ _ _ _ (jO H1.o) from((jP H1.o).ak jz.o).bf)) ?_;go_wp2_with fail;refine bW hK jY fun Ga=>?_
   clear hK K;refine cG 5 fun K hK=>?_
   go_simp;refine(gB (show cC S _ b _ _ _ _ _ _ (jO H1.o)from((jP H1.o).ak jz.o).bf)).mono ?_;rintro e w3 ⟨rfl,hb3⟩;have jz:=jz.dP hb3;clear hb3;go_wp2_with fail;refine bW hK jY fun jt=>?_
   clear hK K;refine lu 6 7 8 9 ?_;refine ty 10 ?_;refine cG 11 fun K hK=>?_
   go_simp;refine ag (wE (show cC S _ b _ _ _ _ _ _ (jO H1.o) from((jP H1.o).ak jz.o).bf)) ?_;go_wp2_with fail;refine bW hK jY fun aax=>?_
   clear hK K;refine tX 12 13 ?_;refine cG 14 fun K hK=>?_
   go_simp;refine ag (di true 6 _) ?_;go_wp2_with fail;refine bW hK jY fun lN=>?_
   clear hK K;refine ty 15 ?_;exact Ve
  have q2:(bk.next==4294967295)=false:=beq_eq_false_iff_ne.2 c2;have lM:=aff (bk.n:Int) (bk.ar:Int) (bk.aA:Int);rw[if_neg (by rintro(h|h);exact c1 h;exact c2 h)];go_enter Tryz.func343,Tryz.ntmps343;go_wp2_with fail;have gi:=aa (show ∀ W,Below w1.heap.size w1 W→(W.cell? ⟨ab,0,none⟩=some (.pointer (some ⟨b,0,none⟩))∧Below w1.heap.size w1 W)from fun W hW=>⟨(dz.o.ai hW).cell 0,hW⟩);refine ud (S:=(fun W=>W.cell? ⟨ab,0,none⟩=some (.pointer (some ⟨b,0,none⟩))∧Below w1.heap.size w1 W)) vF fun hHeld=>?_
  have jz:=aa (show Below w1.heap.size w1 w1.drew from az (au _ _));refine lu 0 1 3 4 ?_;refine cG 2 fun K hK=>?_
  go_simp;refine ag (uY (show cC S _ b _ _ _ _ _ _ (jO H1.o) from((jP H1.o).ak jz.o).bf)) ?_;go_wp2_with fail;refine bW hK jY fun Ga=>?_
  clear hK K;refine cG 5 fun K hK=>?_
  go_simp;refine(gB (show cC S _ b _ _ _ _ _ _ (jO H1.o)from((jP H1.o).ak jz.o).bf)).mono ?_;rintro e w3 ⟨rfl,hb3⟩;have jz:=jz.dP hb3;clear hb3;go_wp2_with fail;refine bW hK jY fun jt=>?_
  clear hK K;refine lu 6 7 8 9 ?_;refine ty 10 ?_;refine cG 11 fun K hK=>?_
  go_simp;refine ag (wE (show cC S _ b _ _ _ _ _ _ (jO H1.o) from((jP H1.o).ak jz.o).bf)) ?_;go_wp2_with fail;refine bW hK jY fun aax=>?_
  clear hK K;refine tX 12 13 ?_;refine cG 14 fun K hK=>?_
  go_simp;refine ag (di false 6 _) ?_;go_wp2_with fail;refine bW hK jY fun lN=>?_
  clear hK K;refine ty 15 ?_;exact Ve
end Bk
end
section
namespace En
structure Rq.Good(q:Rq): Prop where
 ay:1≤q.ay∧q.ay≤10
 tag:0≤q.tag∧q.tag<4294967296
 id:0≤q.id∧q.id<4294967296
 aw:0≤q.aw∧q.aw≤65535
 bT:0≤q.bT
structure Es.Inv(e:Es): Prop where
 up:e.up=true
 dev:e.dev.kK
 row:e.dev.dk.row= []
 size:32≤e.dev.dk.size
 rg:e.rg.In e.dev
 sl:e.sl.In e.dev
 log:e.log.Ok
 fit:e.log.used≤e.rg.bytes e.dev.dk.size
 bk:e.bk.Ok
 full:e.aF.length<e.bk.aA
 fine: ∀ r∈e.aF,r.err=0
theorem L'(b:dK)(q:Rq)(hk:bI q.ay=true): cK (bB b q).ay=if q.ay=1 then 15 else if q.ay=2∨q.ay=3 then 5 else if q.ay=4 then 7 else 9:=by
 unfold bB;unfold bI at hk;simp only[Af,lS,decide_eq_true_eq] at hk;have:q.ay=1∨q.ay=2∨q.ay=3∨q.ay=4∨q.ay=7:=aj;rcases this with h|h|h|h|h <;>simp[h,cK]
theorem ac9{b:dK}(hb:b.Ok){bg:Int}{q:Rq}(hq:q.Good)(hk:bI q.ay=true)(h0:bE b bg q=0): (bB b q).ok=true∧22+(cK (bB b q).ay:Int)≤bg:=by
 rw[L' b q hk];unfold bI at hk;simp only[Af,lS,decide_eq_true_eq] at hk;have hn:=hb.next;have hc:=hb.aq;have hnn:=hb.n;have hs:=hq.aw;have ht:=hq.bT;have p8:q.ay=1∨q.ay=2∨q.ay=3∨q.ay=4∨q.ay=7:=aj;rcases p8 with h|h|h|h|h
 ·unfold bE at h0;rw[if_pos h] at h0;by_cases c1:(b.n:Int)≤q.aw
  ·rw[if_pos c1] at h0;omega
  rw[if_neg c1] at h0;by_cases c2:q.bT<1∨1073741824<q.bT
  ·rw[if_pos c2] at h0;omega
  rw[if_neg c2] at h0;by_cases c3:1099511627776<b.aq+q.bT
  ·rw[if_pos c3] at h0;omega
  rw[if_neg c3] at h0;by_cases c4:dT b q=true
  ·rw[if_pos c4] at h0;omega
  rw[if_neg c4] at h0;by_cases c5:b.ar≤b.L.length∨b.next=4294967295
  ·rw[if_pos c5] at h0;omega
  rw[if_neg c5] at h0;by_cases c6:bg<37
  ·rw[if_pos c6] at h0;omega
  have e:bB b q=⟨1,b.next,q.aw,b.aq+q.bT,0⟩:=by unfold bB;rw[if_pos h]
  rw[e];refine⟨?_,by rw[if_pos h];omega⟩;simp[Rec.ok,recKind,dL,within];omega
 ·unfold bE at h0;rw[if_neg aj,if_pos (.inl h)] at h0;by_cases c1:(b.find q.id).isNone=true
  ·rw[if_pos c1] at h0;omega
  rw[if_neg c1] at h0;by_cases c6:bg<27
  ·rw[if_pos c6] at h0;omega
  have e:bB b q=⟨2,q.id,0,0,0⟩:=by unfold bB;rw[if_neg aj,if_pos h]
  rw[e];cases hf:b.find q.id with
  | none=>rw[hf] at c1;exact absurd rfl c1
  | some x=>
   obtain⟨hx,QQ⟩:=ir hf;have hid:=hb.ids x hx;refine⟨?_,by rw[if_neg aj,if_pos (.inl h)];omega⟩;simp[Rec.ok,recKind,dL,within];omega
 ·unfold bE at h0;rw[if_neg aj,if_pos (.inr h)] at h0;by_cases c1:(b.find q.id).isNone=true
  ·rw[if_pos c1] at h0;omega
  rw[if_neg c1] at h0;by_cases c6:bg<27
  ·rw[if_pos c6] at h0;omega
  have e:bB b q=⟨3,q.id,0,0,0⟩:=by unfold bB;rw[if_neg aj,if_neg aj,if_pos h]
  rw[e];cases hf:b.find q.id with
  | none=>rw[hf] at c1;exact absurd rfl c1
  | some x=>
   obtain⟨hx,QQ⟩:=ir hf;have hid:=hb.ids x hx;refine⟨?_,by rw[if_neg aj,if_pos (.inr h)];omega⟩;simp[Rec.ok,recKind,dL,within];omega
 ·unfold bE at h0;rw[if_neg aj,if_neg aj,if_pos h] at h0;by_cases c1:(b.find q.id).isNone=true
  ·rw[if_pos c1] at h0;omega
  rw[if_neg c1] at h0;by_cases c2:(b.n:Int)≤q.aw
  ·rw[if_pos c2] at h0;omega
  rw[if_neg c2] at h0;by_cases c4:dT b q=true
  ·rw[if_pos c4] at h0;omega
  rw[if_neg c4] at h0;by_cases c6:bg<29
  ·rw[if_pos c6] at h0;omega
  have e:bB b q=⟨4,q.id,q.aw,0,0⟩:=by unfold bB;rw[if_neg aj,if_neg aj,if_neg aj,if_pos h]
  rw[e];cases hf:b.find q.id with
  | none=>rw[hf] at c1;exact absurd rfl c1
  | some x=>
   obtain⟨hx,QQ⟩:=ir hf;have hid:=hb.ids x hx;refine⟨?_,by rw[if_neg aj,if_neg aj,if_pos h];omega⟩;simp[Rec.ok,recKind,dL,within];omega
 unfold bE at h0;rw[if_neg aj,if_neg aj,if_neg aj] at h0;by_cases c2:q.bT<1∨1073741824<q.bT
 ·rw[if_pos c2] at h0;omega
 rw[if_neg c2] at h0;by_cases c3:1099511627776<b.aq+q.bT
 ·rw[if_pos c3] at h0;omega
 rw[if_neg c3] at h0;by_cases c6:bg<31
 ·rw[if_pos c6] at h0;omega
 have e:bB b q=⟨5,0,0,0,b.aq+q.bT⟩:=by unfold bB;rw[if_neg aj,if_neg aj,if_neg aj,if_neg aj]
 rw[e];refine⟨?_,by rw[if_neg aj,if_neg aj,if_neg aj];omega⟩;simp[Rec.ok,recKind,dL,within];omega
theorem I1{r:Rec}(h:recKind r.ay=true): (ja r).length=cK r.ay:=by
 obtain⟨k,id,aw,aS,aq⟩:=r;have hk:k=1∨k=2∨k=3∨k=4∨k=5:=by simp only[recKind,lS,decide_eq_true_eq] at h;omega
 rcases hk with rfl|rfl|rfl|rfl|rfl <;>simp[ja,dL,cK,Oc.bF]
theorem Rec.FN{r:Rec}(h:r.ok=true): recKind r.ay=true:=by
 unfold Rec.ok at h;simp only[lS] at h;exact h.1.1.1.1
theorem uR(q:Rq)(r:Rec): (bP q r).tag=q.tag∧(bP q r).ay=q.ay∧(bP q r).err=0:=by
 unfold bP;exact UZ
theorem IW(s:Sl)(d:bK)(body:By)(l8:Nat): (s.save d body l8).2.1.gen<18446744073709551616:=by
 have h:=Ja s d;have z:Hd.zero.gen<18446744073709551616:=aN;unfold Sl.save;by_cases c1:s.bytes d.dk.size<body.length
 ·rw[if_pos c1];exact z
 rw[if_neg c1];by_cases c2:(s.load d).err≠0
 ·rw[if_pos c2];exact z
 rw[if_neg c2];by_cases c3:(s.load d).hd.gen=18446744073709551615
 ·rw[if_pos c3];exact z
 rw[if_neg c3];simp only;generalize(if(s.load d).at_=0 then s.b else s.a)=r;generalize dB r (s.load d).dev d.dk.size body=P;by_cases c4:P.1≠0
 ·rw[if_pos c4];exact z
 rw[if_neg c4];generalize dB r P.2 0 _=Q;by_cases c5:Q.1≠0
 ·rw[if_pos c5];exact z
 rw[if_neg c5];show(s.load d).hd.gen+1<18446744073709551616
 omega
inductive rJ (e:Es) (q:Rq):List Rp × Es→Prop where
 | told (x:Rp) (e':Es) (ht:x.tag=q.tag) (hk:x.ay=q.ay) (hb:e'.bk=e.bk) (hl:e'.log.last=e.log.last) (hw:e'.aF=e.aF) (h8:q.ay≠8) (hf:q.ay=9→x.err≠0) (hi:e'.Inv):rJ e q ([x],e')
 | aF (x:Rp) (e':Es) (hc:bI q.ay=true) (ht:x.tag=q.tag) (hk:x.ay=q.ay) (he:x.err=0) (hl:e'.log.last=e.log.last+1) (hw:e'.aF=e.aF++ [x]) (hi:e'.Inv):rJ e q ([],e')
 | full (x:Rp) (e':Es) (hc:bI q.ay=true) (ht:x.tag=q.tag) (hk:x.ay=q.ay) (he:x.err=0) (hl:e'.log.last=e.log.last+1) (hd:e'.log.dx=e'.log.last) (hw:e'.aF= []) (hi:e'.Inv):rJ e q (e.aF++ [x],e')
 | all (x:Rp) (e':Es) (hc:q.ay=8∨q.ay=9) (ht:x.tag=q.tag) (hk:x.ay=q.ay) (he:x.err=0) (hn:x.count=e.aF.length) (hb:e'.bk=e.bk) (hl:e'.log.last=e.log.last) (hd:e'.log.dx=e'.log.last) (hw:e'.aF= []) (hi:e'.Inv):rJ e q (e.aF++ [x],e')
theorem yZ(b:dK)(q:Rq): (dZ b q).tag=q.tag∧(dZ b q).ay=q.ay:=by
 unfold dZ;split
 ·split <;>exact⟨rfl,rfl⟩
 split
 ·split
  ·exact⟨rfl,rfl⟩
  split <;>exact⟨rfl,rfl⟩
 exact⟨rfl,rfl⟩
theorem Es.Inv.aeD{e:Es}(h:e.Inv): ({e.log with done:=e.log.eD.length}:Lg).Ok:=⟨aQ _,h.log.last,h.log.bX,h.log.short⟩
theorem Es.Inv.flush{e:Es}(h:e.Inv){q:Rq}(hk:q.ay=8): rJ e q (e.flush q):=by
 obtain⟨h1,h2,h3,h4⟩:=Lg.nP h.dev h.rg h.log.done h.fit h.row;unfold Es.flush;rw[if_neg (by rw[h1];decide)];refine .all ⟨q.tag,q.ay,0,0,0,0,e.aF.length⟩ _ (.inl hk) rfl rfl rfl rfl rfl ?_ ?_ rfl ?_
 ·show(e.log.flush e.rg e.dev).2.1.last=e.log.last
  rw[h2];rfl
 ·show(e.log.flush e.rg e.dev).2.1.dx=(e.log.flush e.rg e.dev).2.1.last
  rw[h2];rfl
 refine⟨h.up,h3.free,h4,?_,h.rg.qu h3,h.sl.qu h3,?_,?_,h.bk,?_,fun r hr=>by cases hr⟩
 ·show 32≤(e.log.flush e.rg e.dev).2.2.dk.size
  rw[h3.size];exact h.size
 ·show(e.log.flush e.rg e.dev).2.1.Ok
  rw[h2];exact h.aeD
 ·show(e.log.flush e.rg e.dev).2.1.used≤e.rg.bytes (e.log.flush e.rg e.dev).2.2.dk.size
  rw[h2,h3.size];exact h.fit
 show 0<e.bk.aA
 have:=h.bk.aA;omega
theorem Es.Inv.save{e:Es}(h:e.Inv){q:Rq}(hk:q.ay=9): rJ e q (e.save q):=by
 obtain⟨h1,h2,h3⟩:=Sl.xO h.dev h.sl h.row h.size (jS e.bk) e.log.last;have hg:=IW e.sl e.dev (jS e.bk) e.log.last;unfold Es.save;have hi: ∀ l w,l.Ok→l.used≤e.rg.bytes e.dev.dk.size→(w:List Rp).length<e.bk.aA→(∀ r∈w,r.err=0)→({e with dev:=(e.sl.save e.dev (jS e.bk) e.log.last).2.2,log:=l,aF:=w}:Es).Inv:=fun l w a1 a2 a3 a4=>
  ⟨h.up,h2.free,h3,by show 32≤(e.sl.save e.dev (jS e.bk) e.log.last).2.2.dk.size;rw[h2.size];exact h.size,h.rg.qu h2,h.sl.qu h2,a1,by show l.used≤e.rg.bytes (e.sl.save e.dev (jS e.bk) e.log.last).2.2.dk.size;rw[h2.size];exact a2,h.bk,a3,a4⟩
 have hz:0<e.bk.aA:=by have:=h.bk.aA;omega
 rcases h1 with c|c|c
 ·rw[if_pos c];obtain⟨r1,r2,r3,r4,r5,r6⟩:=e.log.ZQ (e.sl.save e.dev (jS e.bk) e.log.last).2.1.gen;refine .all ⟨q.tag,q.ay,0,0,0,0,e.aF.length⟩ _ (.inr hk) rfl rfl rfl rfl rfl r4 (r3.trans r4.symm) rfl (hi _ [] ⟨aQ _,?_,hg,fun b hb=>by cases hb⟩ ?_ hz (fun r hr=>by cases hr))
  ·show e.log.last<_
   exact h.log.last
  rw[r6];exact Nat.zero_le _
 ·rw[if_neg Bi,if_neg Bi];exact acj
 rw[if_neg Bi,if_neg Bi];exact acj
theorem cx{k:Int}(h:bI k=true): k=1∨k=2∨k=3∨k=4∨k=7:=by
 unfold bI at h;simp only[Af,lS,decide_eq_true_eq] at h;omega
def Es.after(e:Es)(q:Rq): Es:={e with log:=e.log.append (ja (bB e.bk q)),bk:=(e.bk.apply (bB e.bk q)).2,aF:=e.aF++ [bP q (bB e.bk q)]}
theorem sI(b:dK)(r:Rec): (b.apply r).2.aA=b.aA∧(b.apply r).2.n=b.n∧(b.apply r).2.ar=b.ar:=by
 unfold dK.apply;split
 ·exact⟨rfl,rfl,rfl⟩
 split
 ·unfold dK.hold;split
  ·exact⟨rfl,rfl,rfl⟩
  split
  ·exact⟨rfl,rfl,rfl⟩
  exact UZ
 split
 ·unfold dK.tick;split <;>exact⟨rfl,rfl,rfl⟩
 split
 ·exact⟨rfl,rfl,rfl⟩
 split
 ·exact⟨rfl,rfl,rfl⟩
 split
 ·exact⟨rfl,rfl,rfl⟩
 exact UZ
theorem Es.Inv.N8{e:Es}(h:e.Inv){q:Rq}(hq:q.Good)(hk:bI q.ay=true)(h0:bE e.bk e.bg q=0):
  (bB e.bk q).ok=true∧(ja (bB e.bk q)).length=cK (bB e.bk q).ay∧cK (bB e.bk q).ay≤32∧22+(ja (bB e.bk q)).length+e.log.used≤e.rg.bytes e.dev.dk.size:=by
 obtain⟨h1,h2⟩:=ac9 h.bk hq hk h0;have h3:=I1 (Rec.FN h1);have h4:cK (bB e.bk q).ay≤32:=by unfold cK;split;omega;split;omega;split;omega;split;omega;split <;>omega
 unfold Es.bg at h2;exact⟨h1,h3,h4,aj⟩
theorem Es.Inv.change{e:Es}(h:e.Inv){q:Rq}(hq:q.Good)(hk:bI q.ay=true): rJ e q (e.change q):=by
 have O6: ¬(q.ay=8∨q.ay=9):=by have:=cx hk;omega
 unfold Es.change;by_cases c0:bE e.bk e.bg q=0
 ·rw[if_neg (by rw[c0];decide)];by_cases c1:e.log.last=18446744073709551615
  ·rw[if_pos c1];exact .told (bZ q 220) e rfl rfl rfl rfl rfl (fun x=>O6 (.inl x)) (fun x=>absurd (.inr x) O6) h
  rw[if_neg c1];obtain⟨h1,h2,h3,h4⟩:=h.N8 hq hk c0;obtain⟨a1,a2,a3,a4,a5,a6⟩:=e.log.sJ (ja (bB e.bk q)) h.log.done;have hb:=Cl h.bk h1;obtain⟨g1,g2,g3⟩:=sI e.bk (bB e.bk q);obtain⟨r1,r2,r3⟩:=uR q (bB e.bk q);have hlo:(e.log.append (ja (bB e.bk q))).Ok:=by
   refine⟨?_,?_,h.log.bX,fun b hb=>?_⟩
   ·show e.log.done≤(e.log.eD++ [_]).length
    rw[List.length_append];have:=h.log.done;omega
   ·rw[a4];have:=h.log.last;omega
   rcases List.mem_append.1 hb with hb|hb
   ·exact h.log.short b hb
   rw[List.mem_singleton] at hb;subst hb;omega
  have zr:(e.log.append (ja (bB e.bk q))).used≤e.rg.bytes e.dev.dk.size:=by rw[a6];omega
  have ahH: ∀ r∈e.aF++ [bP q (bB e.bk q)],r.err=0:=fun r hr=>by
   rcases List.mem_append.1 hr with hr|hr
   ·exact h.fine r hr
   rw[List.mem_singleton] at hr;subst hr;exact r3
  simp only;by_cases c2:(e.aF++ [bP q (bB e.bk q)]).length<e.bk.aA
  ·rw[if_pos c2];exact .aF (bP q (bB e.bk q)) _ hk r1 r2 r3 a4 rfl ⟨h.up,h.dev,h.row,h.size,h.rg,h.sl,hlo,zr,hb,by rw[g1];exact c2,ahH⟩
  rw[if_neg c2];obtain⟨f1,f2,f3,f4⟩:=Lg.nP h.dev h.rg hlo.done zr h.row;rw[if_neg (by rw[f1];decide)];refine .full (bP q (bB e.bk q)) _ hk r1 r2 r3 ?_ ?_ rfl ?_
  ·show((e.log.append (ja (bB e.bk q))).flush e.rg e.dev).2.1.last=_
   rw[f2];exact a4
  ·show((e.log.append (ja (bB e.bk q))).flush e.rg e.dev).2.1.dx=((e.log.append (ja (bB e.bk q))).flush e.rg e.dev).2.1.last
   rw[f2];rfl
  refine⟨h.up,f3.free,f4,?_,h.rg.qu f3,h.sl.qu f3,?_,?_,hb,?_,fun r hr=>by cases hr⟩
  ·show 32≤((e.log.append (ja (bB e.bk q))).flush e.rg e.dev).2.2.dk.size
   rw[f3.size];exact h.size
  ·show((e.log.append (ja (bB e.bk q))).flush e.rg e.dev).2.1.Ok
   rw[f2];exact⟨aQ _,hlo.last,hlo.bX,hlo.short⟩
  ·show((e.log.append (ja (bB e.bk q))).flush e.rg e.dev).2.1.used≤e.rg.bytes ((e.log.append (ja (bB e.bk q))).flush e.rg e.dev).2.2.dk.size
   rw[f2,f3.size];exact zr
  show 0<(e.bk.apply (bB e.bk q)).2.aA
  rw[g1];have:=h.bk.aA;omega
 rw[if_pos c0];exact .told (bZ q (bE e.bk e.bg q)) e rfl rfl rfl rfl rfl (fun x=>O6 (.inl x)) (fun x=>absurd (.inr x) O6) h
theorem Es.Inv.zu{e:Es}(h:e.Inv){q:Rq}(hq:q.Good): rJ e q (e.rep q):=by
 unfold Es.rep;rw[if_neg xy];have hk:=hq.ay;by_cases c1:q.ay=5∨q.ay=6∨q.ay=10
 ·rw[if_pos c1];obtain⟨a1,a2⟩:=yZ e.bk q;exact .told _ e a1 a2 rfl rfl rfl aj (fun x=>aj) h
 rw[if_neg c1];by_cases c2:q.ay=8
 ·rw[if_pos c2];exact h.flush c2
 rw[if_neg c2];by_cases c3:q.ay=9
 ·rw[if_pos c3];exact h.save c3
 rw[if_neg c3];exact h.change hq TN
end En
end
section
namespace En
def vQ(b:dK)(q:Rq): Rp × dK:=
 if bI q.ay=true then
  if bE b 1000 q≠0 then(bZ q (bE b 1000 q),b)else(bP q (bB b q),(b.apply (bB b q)).2)
 else(dZ b q,b)
theorem aaF(b:dK)(bg:Int)(q:Rq): bE b bg q=220∨bE b bg q=bE b 1000 q:=by
 unfold bE;by_cases h1:q.ay=1
 ·simp only[if_pos h1];by_cases c1:(b.n:Int)≤q.aw
  ·simp only[if_pos c1];exact .inr trivial
  simp only[if_neg c1];by_cases c2:q.bT<1∨1073741824<q.bT
  ·simp only[if_pos c2];exact .inr trivial
  simp only[if_neg c2];by_cases c3:1099511627776<b.aq+q.bT
  ·simp only[if_pos c3];exact .inr trivial
  simp only[if_neg c3];by_cases c4:dT b q=true
  ·simp only[if_pos c4];exact .inr trivial
  simp only[if_neg c4];by_cases c5:b.ar≤b.L.length∨b.next=4294967295
  ·simp only[if_pos c5];exact .inr trivial
  simp only[if_neg c5];by_cases c6:bg<37
  ·simp only[if_pos c6];exact .inl trivial
  simp only[if_neg c6,if_neg (show ¬(1000:Int)<37 from aN)];exact .inr trivial
 simp only[if_neg h1];by_cases h2:q.ay=2∨q.ay=3
 ·simp only[if_pos h2];by_cases c1:(b.find q.id).isNone=true
  ·simp only[if_pos c1];exact .inr trivial
  simp only[if_neg c1];by_cases c6:bg<27
  ·simp only[if_pos c6];exact .inl trivial
  simp only[if_neg c6,if_neg (show ¬(1000:Int)<27 from aN)];exact .inr trivial
 simp only[if_neg h2];by_cases h4:q.ay=4
 ·simp only[if_pos h4];by_cases c1:(b.find q.id).isNone=true
  ·simp only[if_pos c1];exact .inr trivial
  simp only[if_neg c1];by_cases c2:(b.n:Int)≤q.aw
  ·simp only[if_pos c2];exact .inr trivial
  simp only[if_neg c2];by_cases c4:dT b q=true
  ·simp only[if_pos c4];exact .inr trivial
  simp only[if_neg c4];by_cases c6:bg<29
  ·simp only[if_pos c6];exact .inl trivial
  simp only[if_neg c6,if_neg (show ¬(1000:Int)<29 from aN)];exact .inr trivial
 simp only[if_neg h4];by_cases c2:q.bT<1∨1073741824<q.bT
 ·simp only[if_pos c2];exact .inr trivial
 simp only[if_neg c2];by_cases c3:1099511627776<b.aq+q.bT
 ·simp only[if_pos c3];exact .inr trivial
 simp only[if_neg c3];by_cases c6:bg<31
 ·simp only[if_pos c6];exact .inl trivial
 simp only[if_neg c6,if_neg (show ¬(1000:Int)<31 from aN)];exact .inr trivial
structure afH(e:Es)(q:Rq)(r:List Rp × Es): Prop where
 bk:r.2.bk=(vQ e.bk q).2
 goes:(r.1= [(vQ e.bk q).1]∧r.2.aF=e.aF)∨(r.1= []∧r.2.aF=e.aF++ [(vQ e.bk q).1])∨(r.1=e.aF++ [(vQ e.bk q).1]∧r.2.aF= [])
variable{ks:Nat→Int}{n:Nat}
theorem Es.Inv.owns{e:Es}(h:e.Inv){q:Rq}(hq:q.Good)(h8:q.ay≠8)(h9:q.ay≠9): e.rep q=([bZ q 220],e)∨afH e q (e.rep q):=by
 unfold Es.rep;rw[if_neg xy];have hk:=hq.ay;by_cases c1:q.ay=5∨q.ay=6∨q.ay=10
 ·rw[if_pos c1];have hc: ¬bI q.ay=true:=fun hc=>by have:=cx hc;omega
  refine .inr ⟨?_,.inl ⟨?_,rfl⟩⟩ <;>(unfold vQ;rw[if_neg hc]) <;>rfl
 rw[if_neg c1,if_neg h8,if_neg h9];have hc:bI q.ay=true:=TN;unfold Es.change;rcases aaF e.bk e.bg q with c|c
 ·rw[if_pos Bi,c];exact .inl rfl
 by_cases c0:bE e.bk e.bg q=0
 ·rw[if_neg (by rw[c0];decide)];by_cases c2:e.log.last=18446744073709551615
  ·rw[if_pos c2];exact .inl rfl
  rw[if_neg c2];have ho:vQ e.bk q=(bP q (bB e.bk q),(e.bk.apply (bB e.bk q)).2):=by unfold vQ;rw[if_pos hc,if_neg (by rw[←c,c0];decide)]
  simp only;obtain⟨h1,h2,h3,h4⟩:=h.N8 hq hc c0;by_cases c3:(e.aF++ [bP q (bB e.bk q)]).length<e.bk.aA
  ·rw[if_pos c3];exact .inr ⟨by rw[ho],.inr (.inl ⟨rfl,by rw[ho]⟩)⟩
  rw[if_neg c3];obtain⟨a1,a2,a3,a4,a5,a6⟩:=e.log.sJ (ja (bB e.bk q)) h.log.done;obtain⟨f1,f2,f3,f4⟩:=Lg.nP (l:=e.log.append (ja (bB e.bk q))) h.dev h.rg Uc (by rw[a6];omega) h.row;rw[if_neg (by rw[f1];decide)];exact .inr ⟨by rw[ho],.inr (.inr ⟨by rw[ho],rfl⟩)⟩
 rw[if_pos c0];have ho:vQ e.bk q=(bZ q (bE e.bk e.bg q),e.bk):=by unfold vQ;rw[if_pos hc,if_pos (by rw[←c];exact c0),c]
 exact .inr ⟨by rw[ho],.inl ⟨by rw[ho],rfl⟩⟩
def tagged(t:Int)(l:List Rp): List Rp:=l.filter fun r=>decide (r.tag=t)
theorem gO(t:Int)(a b:List Rp): tagged t (a++b)=tagged t a++tagged t b:=List.filter_append ..
theorem qm(t:Int)(x:Rp): tagged t [x]=if x.tag=t then [x] else []:=by
 unfold tagged;by_cases h:x.tag=t
 ·rw[if_pos h];simp[h]
 rw[if_neg h];simp[h]
theorem UI(b:dK)(q:Rq): (vQ b q).1.tag=q.tag:=by
 unfold vQ;split
 ·split
  ·rfl
  exact(uR q _).1
 exact(yZ b q).1
theorem rJ.other{e:Es}{q:Rq}{r:List Rp × Es}(h:rJ e q r)(out:List Rp){t:Int}(ht:t≠q.tag): tagged t (out++r.1++r.2.aF)=tagged t (out++e.aF):=by
 have hx: ∀ x:Rp,x.tag=q.tag→tagged t [x]= []:=fun x hx=>by rw[qm,if_neg (by rw[hx];exact fun e=>ht e.symm)]
 cases h with
 | told x e' h1 h2 h3 h4 h5=>simp only[gO,hx x h1,h5];simp
 | aF x e' h1 h2 h3 h4 h5 h6=>simp only[gO,hx x h2,h6];simp[tagged]
 | full x e' h1 h2 h3 h4 h5 h6 h7=>simp only[gO,hx x h2,h7];simp[tagged]
 | all x e' h1 h2 h3 h4 h5 h6 h7 h8 h9=>simp only[gO,hx x h2,h9];simp[tagged]
theorem afH.tag{e:Es}{q:Rq}{r:List Rp × Es}(h:afH e q r)(out:List Rp)(h0:tagged q.tag (out++e.aF)= []): tagged q.tag (out++r.1++r.2.aF)= [(vQ e.bk q).1]:=by
 rw[gO,PR] at h0;have hx:tagged q.tag [(vQ e.bk q).1]= [(vQ e.bk q).1]:=by rw[qm,if_pos (UI _ _)]
 rcases h.goes with⟨a,b⟩|⟨a,b⟩|⟨a,b⟩ <;>rw[a,b] <;>simp only[gO,hx,h0.1,h0.2] <;>simp[tagged]
theorem rJ.inv{e:Es}{q:Rq}{r:List Rp × Es}(h:rJ e q r): r.2.Inv:=by cases h <;>assumption
structure tS(n:Nat)(ks:Nat→Int)(one two:List Rp)(x y:Es): Prop where
 ix:x.Inv
 iy:y.Inv
 fresh: ∀ t:Int,n<t→t<1048576→tagged t (one++x.aF)= []∧tagged t (two++y.aF)= []
 say:(x.bk=y.bk∧∀ i:Nat,i<n→ks i≠8→ks i≠9→∃ r,tagged ((i:Int)+1) (one++x.aF)= [r]∧tagged ((i:Int)+1) (two++y.aF)= [r])∨
  ∃ m:Nat,m<n∧ks m≠8∧ks m≠9∧(∀ i:Nat,i<m→ks i≠8→ks i≠9→∃ r,tagged ((i:Int)+1) (one++x.aF)= [r]∧tagged ((i:Int)+1) (two++y.aF)= [r])∧
   ((∃ r,tagged ((m:Int)+1) (one++x.aF)= [r]∧r.err=220)∨∃ r,tagged ((m:Int)+1) (two++y.aF)= [r]∧r.err=220)
theorem tS.start{x y:Es}(hx:x.Inv)(hy:y.Inv)(hb:x.bk=y.bk)(h1:x.aF= [])(h2:y.aF= []): tS 0 ks [] [] x y:=
 ⟨hx,hy,fun t _ _=>by rw[h1,h2];exact⟨rfl,rfl⟩,.inl ⟨hb,fun i hi=>aj⟩⟩
theorem tS.right{one two:List Rp}{x y:Es}(h:tS n ks one two x y){q:Rq}(ht:1048576≤q.tag)(hn:n<1000000){r:List Rp × Es}(hc:rJ y q r)(hb:r.2.bk=y.bk): tS n ks one (two++r.1) x r.2:=by
 refine⟨h.ix,hc.inv,fun t h1 h2=>?_,?_⟩
 ·have:=h.fresh t h1 h2;rw[hc.other two aj];exact this
 have ho: ∀ i:Nat,i<n→tagged ((i:Int)+1) (two++r.1++r.2.aF)=tagged ((i:Int)+1) (two++y.aF):=fun i hi=>hc.other two aj
 exact acq
theorem tS.left{one two:List Rp}{x y:Es}(h:tS n ks one two x y){q:Rq}(ht:1048576≤q.tag)(hn:n<1000000){r:List Rp × Es}(hc:rJ x q r)(hb:r.2.bk=x.bk): tS n ks (one++r.1) two r.2 y:=by
 refine⟨hc.inv,h.iy,fun t h1 h2=>?_,?_⟩
 ·have:=h.fresh t h1 h2;rw[hc.other one aj];exact this
 have ho: ∀ i:Nat,i<n→tagged ((i:Int)+1) (one++r.1++r.2.aF)=tagged ((i:Int)+1) (one++x.aF):=fun i hi=>hc.other one aj
 exact acq
theorem rJ.vM{e:Es}{q:Rq}{r:List Rp × Es}(h:rJ e q r)(hk:q.ay=8∨q.ay=9): r.2.bk=e.bk:=by
 cases h with
 | told x e' h1 h2 h3=>exact h3
 | aF x e' h1=>have:=cx h1;omega
 | full x e' h1=>have:=cx h1;omega
 | all x e' h1 h2 h3 h4 h5 h6=>exact h6
theorem tS.step{one two:List Rp}{x y:Es}(h:tS n ks one two x y){q:Rq}(hq:q.Good)(ht:q.tag=n+1)(hk:q.ay=ks n)(hn:n<1000000): tS (n+1) ks (one++(x.rep q).1) (two++(y.rep q).1) (x.rep q).2 (y.rep q).2:=by
 have hcx:=h.ix.zu hq;have hcy:=h.iy.zu hq;have fr:=h.fresh q.tag aj aj;have ox: ∀ i:Nat,i<n→tagged ((i:Int)+1) (one++(x.rep q).1++(x.rep q).2.aF)=tagged ((i:Int)+1) (one++x.aF):=fun i hi=>hcx.other one aj
 have oy: ∀ i:Nat,i<n→tagged ((i:Int)+1) (two++(y.rep q).1++(y.rep q).2.aF)=tagged ((i:Int)+1) (two++y.aF):=fun i hi=>hcy.other two aj
 refine⟨hcx.inv,hcy.inv,fun t h1 h2=>?_,?_⟩
 ·rw[hcx.other one aj,hcy.other two aj];exact h.fresh t aj h2
 rcases h.say with⟨h1,h2⟩|⟨m,h1,h2,h3,h4,h5⟩
 ·by_cases O6:q.ay=8∨q.ay=9
  ·refine .inl ⟨by rw[hcx.vM O6,hcy.vM O6];exact h1,fun i hi a b=>?_⟩;rcases Nat.lt_or_ge i n with c|c
   ·rw[ox i c,oy i c];exact h2 i c a b
   obtain rfl:i=n:=aj;rw[hk] at O6;rcases O6 with c|c
   ·exact absurd c a
   exact absurd c b
  have k8:q.ay≠8:=fun e=>O6 (.inl e)
  have k9:q.ay≠9:=fun e=>O6 (.inr e)
  have mP: ∀ (z:Es) (out:List Rp),tagged q.tag (out++z.aF)= []→z.rep q=([bZ q 220],z)→∃ r,tagged ((n:Int)+1) (out++(z.rep q).1++(z.rep q).2.aF)= [r]∧r.err=220:=fun z out h0 he=>by
   rw[he,←ht];rw[gO,PR] at h0;refine⟨bZ q 220,?_,rfl⟩;simp only[gO,qm,h0.1,h0.2];rw[if_pos (show(bZ q 220).tag=q.tag from rfl)];rfl
  rcases h.ix.owns hq k8 k9 with ex|ex
  ·exact .inr ⟨n,aj,by rw[←hk];exact k8,by rw[←hk];exact k9,fun i hi a b=>by rw[ox i hi,oy i hi];exact h2 i hi a b,.inl (mP x one fr.1 ex)⟩
  rcases h.iy.owns hq k8 k9 with ey|ey
  ·exact .inr ⟨n,aj,by rw[←hk];exact k8,by rw[←hk];exact k9,fun i hi a b=>by rw[ox i hi,oy i hi];exact h2 i hi a b,.inr (mP y two fr.2 ey)⟩
  refine .inl ⟨by rw[ex.bk,ey.bk,h1],fun i hi a b=>?_⟩;rcases Nat.lt_or_ge i n with c|c
  ·rw[ox i c,oy i c];exact h2 i c a b
  obtain rfl:i=n:=aj;rw[←ht];exact⟨_,ex.tag one fr.1,by rw[ey.tag two fr.2,h1]⟩
 exact .inr ⟨m,aj,h2,h3,fun i hi a b=>by rw[ox i aj,oy i aj];exact h4 i hi a b,by rw[ox m h1,oy m h1];exact h5⟩
