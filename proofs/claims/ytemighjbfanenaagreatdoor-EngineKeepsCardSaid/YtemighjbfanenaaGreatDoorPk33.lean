import Derived.Test.YtemighjbfanenaaGreatDoorPk32
import Derived.Test.YtemighjbfanenaaGreatDoorPk23
set_option linter.all false
set_option maxRecDepth 100000
set_option maxHeartbeats 16000000
namespace Go.Proofs.YtemighjbfanenaaGreatDoor
open RowKit
open En (dJ fW Qd Rec dK recKind fF within)
open yj (hasB)
open List renaming pairwise_append→wE,pairwise_singleton→Qs,mem_map→nc,mem_of_find?_eq_some→wC,mem_append→kV,pairwise_map→G9
open RowKit.Below renaming refl→aq
open Tryz renaming prog→af
theorem V8{p:Prop}(h:p:=by
 have N3:=aa hap;have HG:=aa (ZK jE.o id (Ez hno) pO);clear hap hno;refine HG.o.mono ?_;rintro e w4 ⟨rfl,wI,jU⟩;have gI:=aa wI;have nU:=aa (show aG S w w4 from(aG.aU ek.o).trans (jU.mono fun k _ hk=>OG));have dR:=aw (aq w4.heap.size w4) (.cells #[.int .u32 0,.int .i64 0,.int .i64 0] 171);have eQ:=aa (wI.ai dR);have pg:=aa (nU.o.ai dR);clear wI jU dR r0 r1 r2 r3 r4 gI nU;go_wp2_with fail;go_ret;rw[N3.o];exact⟨rfl,pg.o,fQ.gr ⟨q,eQ.o⟩ jd.o pg.o.size⟩):p:=h
theorem yy{p:Prop}(h:p:=by first|exact pO|exact⟨(by decide:(0:Int)≤0),(by decide:(0:Int)<4294967296)⟩):p:=h
theorem yu{p:Prop}(h:p:=by unfold Qd at h;rw[fz] at h;exact h):p:=h
theorem OG{p:Prop}(h:p:=by subst hk;exact HQ.o.bg.bt.2.2.2.1):p:=h
theorem anz:(0:Int)<4294967296:=by decide
theorem ala:(0:Int)≤0:=by decide
theorem rK{p:Prop}(h:p:=by rw[uq.o];decide):p:=h
theorem L5{p:Prop}(h:p:=by have:=jd.o _ HQ.o.bg.bt.2.2.2.1;omega):p:=h
theorem ux{p:Prop}(h:p:=by rw[fz];decide):p:=h
theorem Lz{p:Prop}(h:p:=by rw[←Dg];exact xP.size):p:=h
section
namespace Bk
theorem bl.wide{S T:Nat→Prop}{w:World}{b n au:Nat}{az next ak:Int}{L:List bU}{q:bD}(h:bl S w b n au az next ak L q)(pY:∀k,S k→T k)(hT:∀k,T k→k<w.heap.size): bl T w b n au az next ak L q:=
 ⟨h.bg.mono pY hT,h.bits,h.dQ,h.under,h.listed,h.small,h.qm⟩
def fQ(S:Nat→Prop)(w:World)(b:Nat)(bk:dJ): Prop:=∃q,bl S w b bk.n bk.au bk.az bk.next bk.ak bk.L q
theorem fQ.gr{S:Nat→Prop}{w w':World}{b:Nat}{bk:dJ}(h:fQ S w' b bk)(hl:∀k,S k→k<w.heap.size)(hz:w.heap.size≤w'.heap.size): fQ (Gr S w w') w' b bk:=by
 obtain⟨q,hq⟩:=h;exact⟨q,hq.wide (fun k hk=>.inl hk) (fun k hk=>by rcases hk with h|h;exact Nat.lt_of_lt_of_le (hl k h) hz;exact h.2)⟩
def mG(S:Nat→Prop)(w:World)(b:Nat)(r:Int × dJ)(e:Ending)(w':World): Prop:=e=.returned (.int .i64 r.1)∧aG S w w'∧fQ (Gr S w w') w' b r.2
theorem nj{bk:dJ}(h:bk.Ok): bk.L.Pairwise fun x y=>x.id≠y.id:=h.Vn.imp fun hh=>Int.ne_of_lt hh
theorem FW(bk:dJ)(s:Nat): (bk.on (s:Int)).isSome=Rh bk.L s:=by
 unfold dJ.on Rh;rw[Bool.eq_iff_iff,List.find?_isSome,List.any_eq_true];constructor
 ·rintro⟨x,hx,h⟩;exact⟨x,hx,decide_eq_true (Int.ofNat.inj (of_decide_eq_true h))⟩
 rintro⟨x,hx,h⟩;exact⟨x,hx,decide_eq_true (by rw[of_decide_eq_true h])⟩
theorem Bx(bk:dJ)(id:Int)(s:Nat)(t c:Int): bk.hold ⟨1,id,s,t,c⟩=(lX bk.n bk.au bk.next bk.ak bk.L id s t,if lX bk.n bk.au bk.next bk.ak bk.L id s t=0 then {bk with L:=bk.L++[⟨id,s,t⟩],next:=bk.next+1}else bk):=by
 have e1:((bk.n:Int)≤(s:Int))=(bk.n≤s):=propext Int.ofNat_le;unfold dJ.hold lX;simp only[FW,Int.toNat_natCast,e1];by_cases c1:id=bk.next
 ·by_cases c2:bk.n≤s
  ·simp[c1,c2]
  by_cases c3:t≤bk.ak
  ·simp[c1,c2,c3]
  by_cases c4:Rh bk.L s=true
  ·simp[c1,c2,c3,c4]
  by_cases c5:bk.au≤bk.L.length
  ·simp[c1,c2,c3,c4,c5]
  by_cases c6:bk.next=4294967295
  ·simp[c1,c2,c3,c4,c5,c6]
  simp[c1,c2,c3,c4,c5,c6]
 simp[c1]
theorem Og(S:Nat→Prop)(b:Nat)(bk:dJ)(w:World)(id:Int)(s:Nat)(t c:Int)(h:fQ S w b bk)(hb:bk.Ok)(fz:(⟨1,id,s,t,c⟩:Rec).ok=true)(pO:0≤id∧id<4294967296)(hs:s≤1023)(ht:t≤1099511627776):
  Calls af 15 #[.pointer (some ⟨b,0,none⟩),.agg #[.int .i64 1,.int .u32 id,.int .i64 (s:Int),.int .i64 t,.int .i64 c]] w (mG S w b (bk.apply ⟨1,id,s,t,c⟩)):=by
 obtain⟨q,hq⟩:=h;have uq:=aa fz;have nW:=aa hb;have HQ:=aa hq;have jd:=aa (show ∀k,S k→k<w.heap.size from hq.bg.lt);have jH:=aa (show ∀W,Calls af 68 #[.agg #[.int .i64 1,.int .u32 id,.int .i64 (s:Int),.int .i64 t,.int .i64 c]] W fun e w'=>e=.returned (.int .i64 0)∧Below W.heap.size W w' from fun W=>(fW ⟨1,id,s,t,c⟩ W yy).mono fun e w' h=>yu);obtain⟨w1,aX⟩:=ae (w.alloc (.cells #[.int .i64 1,.int .u32 id,.int .i64 (s:Int),.int .i64 t,.int .i64 c] 58));obtain⟨rb,jc⟩:=ae w.heap.size;have bh:=aH aX jc;have hb1:=aJ aX;have r0:=bh.cl 0;have r1:=bh.cl 1;have r2:=bh.cl 2;have r3:=bh.cl 3;have r4:=bh.cl 4;have rh:=aa (dD b true w1 ((hq.bg.ai hb1).own.cell 3));have dH:=aa bh;have bu:=aa hb1;clear fz bh hb1 hq hb;go_enter Tryz.func15,Tryz.ntmps15;go_wp2_with fail;refine ah rh.o ?_;clear rh;go_wp2_with fail;refine(jH.o _).mono ?_;rintro e w3 ⟨rfl,hb3⟩;have dS:=dH.o.keep hb3;clear r0 r1 r2 r3 r4;have r0:=dS.cl 0;have r1:=dS.cl 1;have r2:=dS.cl 2;have r3:=dS.cl 3;have r4:=dS.cl 4;have ek:=bu.eo hb3;have jE:=aa (HQ.o.ai (ar bu.o hb3));have iO:=aa dS;clear hb3 dS jH dH;go_wp2_with fail;have hk:=fun x hx=>(nW.o.ids x hx).2
 have Ef:=nW.o.next;have PD:=nW.o.ak;refine(aaS S b _ _ _ _ _ _ q w3 1 id s t c jE.o hk ag PD.1 pO hs ht).mono ?_;rintro e w4 ⟨rfl,jU,wI⟩;have nU:=aa jU;have gI:=aa wI;clear jU wI r0 r1 r2 r3 r4 hk Ef PD;go_wp2_with fail;go_ret;have hap:bk.apply ⟨1,id,s,t,c⟩=bk.hold ⟨1,id,s,t,c⟩:=by unfold dJ.apply;rw[if_neg rK,if_pos rfl]
 rw[hap,Bx];have hT:=(aG.aU ek.o).trans nU.o;refine⟨rfl,hT,?_⟩;have h4:=gI.o;by_cases hr:lX bk.n bk.au bk.next bk.ak bk.L id s t=0
 ·rw[if_pos hr] at h4;simp only[hr,if_true];obtain⟨q4,h4⟩:=h4;refine⟨q4,h4.wide (fun k hk=>?_) (fun k hk=>by rcases hk with h|h;exact Nat.lt_of_lt_of_le (jd.o k h) hT.size;exact h.2)⟩;rcases hk.1 with h|h
  ·exact .inl h
  exact .inr ⟨Nat.le_trans ek.o.size h,hk.2⟩
 ·rw[if_neg hr] at h4;simp only[if_neg hr];exact fQ.gr ⟨q,h4⟩ jd.o hT.size
theorem Of(S:Nat→Prop)(b:Nat)(bk:dJ)(w:World)(c:Int)(h:fQ S w b bk)(hb:bk.Ok)(fz:(⟨5,0,0,0,c⟩:Rec).ok=true):
  Calls af 15 #[.pointer (some ⟨b,0,none⟩),.agg #[.int .i64 5,.int .u32 0,.int .i64 0,.int .i64 0,.int .i64 c]] w (mG S w b (bk.apply ⟨5,0,0,0,c⟩)):=by
 obtain⟨q,hq⟩:=h;have uq:=aa fz;have nW:=aa hb;have HQ:=aa hq;have jd:=aa (show ∀k,S k→k<w.heap.size from hq.bg.lt);have jH:=aa (show ∀W,Calls af 68 #[.agg #[.int .i64 5,.int .u32 0,.int .i64 0,.int .i64 0,.int .i64 c]] W fun e w'=>e=.returned (.int .i64 0)∧Below W.heap.size W w' from fun W=>(fW ⟨5,0,0,0,c⟩ W yy).mono fun e w' h=>yu);obtain⟨w1,aX⟩:=ae (w.alloc (.cells #[.int .i64 5,.int .u32 0,.int .i64 0,.int .i64 0,.int .i64 c] 58));obtain⟨rb,jc⟩:=ae w.heap.size;have bh:=aH aX jc;have hb1:=aJ aX;have r0:=bh.cl 0;have r1:=bh.cl 1;have r2:=bh.cl 2;have r3:=bh.cl 3;have r4:=bh.cl 4;have rh:=aa (dD b true w1 ((hq.bg.ai hb1).own.cell 3));have dH:=aa bh;have bu:=aa hb1;clear fz bh hb1 hq hb;go_enter Tryz.func15,Tryz.ntmps15;go_wp2_with fail;refine ah rh.o ?_;clear rh;go_wp2_with fail;refine(jH.o _).mono ?_;rintro e w3 ⟨rfl,hb3⟩;have dS:=dH.o.keep hb3;clear r0 r1 r2 r3 r4;have r0:=dS.cl 0;have r1:=dS.cl 1;have r2:=dS.cl 2;have r3:=dS.cl 3;have r4:=dS.cl 4;have ek:=bu.eo hb3;have jE:=aa (HQ.o.ai (ar bu.o hb3));have iO:=aa dS;clear hb3 dS jH dH;go_wp2_with fail;have hd:=nj nW.o;have hk:=fun x hx=>(nW.o.ids x hx).2
 have h0:∀x∈bk.L,0≤x.aR:=fun x hx=>by have:=nW.o.aR x hx;have:=nW.o.ak;omega
 have hap:bk.apply ⟨5,0,0,0,c⟩=bk.tick c:=by unfold dJ.apply;rw[if_neg rK,if_neg (show ¬(5:Int)=1 from aM),if_pos rfl]
 have N3:=aa hap;by_cases hc:c≤bk.ak
 ·have HP:=aa (QS jE.o.bg c hc);have HC:=aa hc;clear hd hk h0 hc hap;refine ah HP.o ?_;clear r0 r1 r2 r3 r4;go_wp2_with fail;go_ret;rw[N3.o];unfold dJ.tick;rw[if_pos HC.o];exact⟨rfl,aG.aU ek.o,fQ.gr ⟨q,jE.o⟩ jd.o ek.o.size⟩
 ·have HC:=aa hc;have HP:=aa (aag S b _ _ _ _ _ c _ q w3 jE.o hd nW.o.alone hk h0 ag);clear hd hk h0 hc hap;refine HP.o.mono ?_;rintro e w4 ⟨rfl,wI,jU⟩;have nU:=aa jU;have gI:=aa wI;clear jU wI r0 r1 r2 r3 r4;go_wp2_with fail;go_ret;rw[N3.o];unfold dJ.tick;rw[if_neg (Int.not_le.2 HC.o)];have hT:=(aG.aU ek.o).trans nU.o;exact⟨rfl,hT,fQ.gr gI.o jd.o hT.size⟩
theorem vZ{bk:dJ}(h:bk.Ok){x:bU}(hx:x∈bk.L): bk.find x.id=some x:=by
 unfold dJ.find;cases hf:bk.L.find? (fun y=>decide (y.id=x.id))with
 | none=>exact absurd (List.find?_eq_none.1 hf x hx) dA
 | some y=>
  have h1:=wC hf;have h2:y.id=x.id:=by simpa using List.find?_some hf
  rw[nD (nj h) h1 hx h2]
theorem Ez{bk:dJ}{id:Int}(h:bk.find id=none):∀x∈bk.L,x.id≠id:=fun x hx e=>by
 have:=List.find?_eq_none.1 h x hx;simp[e] at this
theorem S4(S:Nat→Prop)(b:Nat)(bk:dJ)(w:World)(id:Int)(h:fQ S w b bk)(hb:bk.Ok)(fz:(⟨2,id,0,0,0⟩:Rec).ok=true)(pO:0≤id∧id<4294967296)(hno:bk.find id=none):
  Calls af 15 #[.pointer (some ⟨b,0,none⟩),.agg #[.int .i64 2,.int .u32 id,.int .i64 0,.int .i64 0,.int .i64 0]] w (mG S w b (bk.apply ⟨2,id,0,0,0⟩)):=by
 obtain⟨q,hq⟩:=h;have uq:=aa fz;have nW:=aa hb;have HQ:=aa hq;have jd:=aa (show ∀k,S k→k<w.heap.size from hq.bg.lt);have jH:=aa (show ∀W,Calls af 68 #[.agg #[.int .i64 2,.int .u32 id,.int .i64 0,.int .i64 0,.int .i64 0]] W fun e w'=>e=.returned (.int .i64 0)∧Below W.heap.size W w' from fun W=>(fW ⟨2,id,0,0,0⟩ W yy).mono fun e w' h=>yu);obtain⟨w1,aX⟩:=ae (w.alloc (.cells #[.int .i64 2,.int .u32 id,.int .i64 0,.int .i64 0,.int .i64 0] 58));obtain⟨rb,jc⟩:=ae w.heap.size;have bh:=aH aX jc;have hb1:=aJ aX;have r0:=bh.cl 0;have r1:=bh.cl 1;have r2:=bh.cl 2;have r3:=bh.cl 3;have r4:=bh.cl 4;have rh:=aa (dD b true w1 ((hq.bg.ai hb1).own.cell 3));have dH:=aa bh;have bu:=aa hb1;clear fz bh hb1 hq hb;go_enter Tryz.func15,Tryz.ntmps15;go_wp2_with fail;refine ah rh.o ?_;clear rh;go_wp2_with fail;refine(jH.o _).mono ?_;rintro e w3 ⟨rfl,hb3⟩;have dS:=dH.o.keep hb3;clear r0 r1 r2 r3 r4;have r0:=dS.cl 0;have r1:=dS.cl 1;have r2:=dS.cl 2;have r3:=dS.cl 3;have r4:=dS.cl 4;have ek:=bu.eo hb3;have jE:=aa (HQ.o.ai (ar bu.o hb3));have iO:=aa dS;clear hb3 dS jH dH;go_wp2_with fail;have hap:bk.apply ⟨2,id,0,0,0⟩=(171,bk):=by unfold dJ.apply;rw[if_neg rK,if_neg (show ¬(2:Int)=1 from aM),if_neg (show ¬(2:Int)=5 from aM)];simp only[hno]
 exact V8
theorem S2(S:Nat→Prop)(b:Nat)(bk:dJ)(w:World)(id:Int)(h:fQ S w b bk)(hb:bk.Ok)(fz:(⟨3,id,0,0,0⟩:Rec).ok=true)(pO:0≤id∧id<4294967296)(hno:bk.find id=none):
  Calls af 15 #[.pointer (some ⟨b,0,none⟩),.agg #[.int .i64 3,.int .u32 id,.int .i64 0,.int .i64 0,.int .i64 0]] w (mG S w b (bk.apply ⟨3,id,0,0,0⟩)):=by
 obtain⟨q,hq⟩:=h;have uq:=aa fz;have nW:=aa hb;have HQ:=aa hq;have jd:=aa (show ∀k,S k→k<w.heap.size from hq.bg.lt);have jH:=aa (show ∀W,Calls af 68 #[.agg #[.int .i64 3,.int .u32 id,.int .i64 0,.int .i64 0,.int .i64 0]] W fun e w'=>e=.returned (.int .i64 0)∧Below W.heap.size W w' from fun W=>(fW ⟨3,id,0,0,0⟩ W yy).mono fun e w' h=>yu);obtain⟨w1,aX⟩:=ae (w.alloc (.cells #[.int .i64 3,.int .u32 id,.int .i64 0,.int .i64 0,.int .i64 0] 58));obtain⟨rb,jc⟩:=ae w.heap.size;have bh:=aH aX jc;have hb1:=aJ aX;have r0:=bh.cl 0;have r1:=bh.cl 1;have r2:=bh.cl 2;have r3:=bh.cl 3;have r4:=bh.cl 4;have rh:=aa (dD b true w1 ((hq.bg.ai hb1).own.cell 3));have dH:=aa bh;have bu:=aa hb1;clear fz bh hb1 hq hb;go_enter Tryz.func15,Tryz.ntmps15;go_wp2_with fail;refine ah rh.o ?_;clear rh;go_wp2_with fail;refine(jH.o _).mono ?_;rintro e w3 ⟨rfl,hb3⟩;have dS:=dH.o.keep hb3;clear r0 r1 r2 r3 r4;have r0:=dS.cl 0;have r1:=dS.cl 1;have r2:=dS.cl 2;have r3:=dS.cl 3;have r4:=dS.cl 4;have ek:=bu.eo hb3;have jE:=aa (HQ.o.ai (ar bu.o hb3));have iO:=aa dS;clear hb3 dS jH dH;go_wp2_with fail;have hap:bk.apply ⟨3,id,0,0,0⟩=(171,bk):=by unfold dJ.apply;rw[if_neg rK,if_neg (show ¬(3:Int)=1 from aM),if_neg (show ¬(3:Int)=5 from aM)];simp only[hno]
 exact V8
theorem SZ(S:Nat→Prop)(b:Nat)(bk:dJ)(w:World)(id:Int)(s:Nat)(h:fQ S w b bk)(hb:bk.Ok)(fz:(⟨4,id,s,0,0⟩:Rec).ok=true)(pO:0≤id∧id<4294967296)(hno:bk.find id=none):
  Calls af 15 #[.pointer (some ⟨b,0,none⟩),.agg #[.int .i64 4,.int .u32 id,.int .i64 (s:Int),.int .i64 0,.int .i64 0]] w (mG S w b (bk.apply ⟨4,id,s,0,0⟩)):=by
 obtain⟨q,hq⟩:=h;have uq:=aa fz;have nW:=aa hb;have HQ:=aa hq;have jd:=aa (show ∀k,S k→k<w.heap.size from hq.bg.lt);have jH:=aa (show ∀W,Calls af 68 #[.agg #[.int .i64 4,.int .u32 id,.int .i64 (s:Int),.int .i64 0,.int .i64 0]] W fun e w'=>e=.returned (.int .i64 0)∧Below W.heap.size W w' from fun W=>(fW ⟨4,id,s,0,0⟩ W yy).mono fun e w' h=>yu);obtain⟨w1,aX⟩:=ae (w.alloc (.cells #[.int .i64 4,.int .u32 id,.int .i64 (s:Int),.int .i64 0,.int .i64 0] 58));obtain⟨rb,jc⟩:=ae w.heap.size;have bh:=aH aX jc;have hb1:=aJ aX;have r0:=bh.cl 0;have r1:=bh.cl 1;have r2:=bh.cl 2;have r3:=bh.cl 3;have r4:=bh.cl 4;have rh:=aa (dD b true w1 ((hq.bg.ai hb1).own.cell 3));have dH:=aa bh;have bu:=aa hb1;clear fz bh hb1 hq hb;go_enter Tryz.func15,Tryz.ntmps15;go_wp2_with fail;refine ah rh.o ?_;clear rh;go_wp2_with fail;refine(jH.o _).mono ?_;rintro e w3 ⟨rfl,hb3⟩;have dS:=dH.o.keep hb3;clear r0 r1 r2 r3 r4;have r0:=dS.cl 0;have r1:=dS.cl 1;have r2:=dS.cl 2;have r3:=dS.cl 3;have r4:=dS.cl 4;have ek:=bu.eo hb3;have jE:=aa (HQ.o.ai (ar bu.o hb3));have iO:=aa dS;clear hb3 dS jH dH;go_wp2_with fail;have hap:bk.apply ⟨4,id,s,0,0⟩=(171,bk):=by unfold dJ.apply;rw[if_neg rK,if_neg (show ¬(4:Int)=1 from aM),if_neg (show ¬(4:Int)=5 from aM)];simp only[hno]
 exact V8
end Bk
end
section
namespace Bk
theorem GY(S:Nat→Prop)(b:Nat)(bk:dJ)(w:World)(x:bU)(h:fQ S w b bk)(hb:bk.Ok)(fz:(⟨3,x.id,0,0,0⟩:Rec).ok=true)(pO:0≤x.id∧x.id<4294967296)(hx:x∈bk.L):
  Calls af 15 #[.pointer (some ⟨b,0,none⟩),.agg #[.int .i64 3,.int .u32 x.id,.int .i64 0,.int .i64 0,.int .i64 0]] w (mG S w b (bk.apply ⟨3,x.id,0,0,0⟩)):=by
 obtain⟨q,hq⟩:=h;have uq:=aa fz;have nW:=aa hb;have HQ:=aa hq;have jd:=aa (show ∀k,S k→k<w.heap.size from hq.bg.lt);have jH:=aa (show ∀W,Calls af 68 #[.agg #[.int .i64 3,.int .u32 x.id,.int .i64 0,.int .i64 0,.int .i64 0]] W fun e w'=>e=.returned (.int .i64 0)∧Below W.heap.size W w' from fun W=>(fW ⟨3,x.id,0,0,0⟩ W yy).mono fun e w' h=>yu);obtain⟨w1,aX⟩:=ae (w.alloc (.cells #[.int .i64 3,.int .u32 x.id,.int .i64 0,.int .i64 0,.int .i64 0] 58));obtain⟨rb,jc⟩:=ae w.heap.size;have bh:=aH aX jc;have hb1:=aJ aX;have r0:=bh.cl 0;have r1:=bh.cl 1;have r2:=bh.cl 2;have r3:=bh.cl 3;have r4:=bh.cl 4;have rh:=aa (dD b true w1 ((hq.bg.ai hb1).own.cell 3));have dH:=aa bh;have bu:=aa hb1;clear fz bh hb1 hq hb;go_enter Tryz.func15,Tryz.ntmps15;go_wp2_with fail;refine ah rh.o ?_;clear rh;go_wp2_with fail;refine(jH.o _).mono ?_;rintro e w3 ⟨rfl,hb3⟩;have dS:=dH.o.keep hb3;clear r0 r1 r2 r3 r4;have r0:=dS.cl 0;have r1:=dS.cl 1;have r2:=dS.cl 2;have r3:=dS.cl 3;have r4:=dS.cl 4;have ek:=bu.eo hb3;have jE:=aa (HQ.o.ai (ar bu.o hb3));have iO:=aa dS;clear hb3 dS jH dH;go_wp2_with fail;have hd:=nj nW.o;have N3:=aa (show bk.apply ⟨3,x.id,0,0,0⟩=(0,{bk with L:=without bk.L x.id})from by unfold dJ.apply;rw[if_neg rK,if_neg (show ¬(3:Int)=1 from aM),if_neg (show ¬(3:Int)=5 from aM)];simp only[vZ nW.o hx];rfl);have HX:=aa hx;have HD:=aa hd;have HG:=aa (Ct jE.o x hx pO);clear hx hd;refine HG.o.mono ?_;rintro e w4 ⟨rfl,wI,jU⟩;have xP:aG S w w4:=(aG.aU ek.o).trans (jU.mono fun k _ hk=>OG);have JW:=jU.arr iO.o (fun e=>L5);obtain⟨w5,jK⟩:=ae (w4.alloc (.cells #[.int .u32 x.id,.int .i64 (x.av:Int),.int .i64 x.aR] 171));obtain⟨xb,Dg⟩:=ae w4.heap.size;have dR:=aJ jK;have fY:=aH jK Dg;have JV:=JW.keep dR;have z0:=fY.cl 0;have z1:=fY.cl 1;have z2:=fY.cl 2;clear r0 r1 r2 r3 r4;have r0:=JV.cl 0;have rE:=aa (show w.heap.size≤xb from Lz);have eQ:=aa (wI.ai dR);have pg:=aa (xP.ai dR);have o6:=aa fY;have rF:=aa JV;clear wI jU xP dR fY JW JV HG;have hk:=fun x hx=>(nW.o.ids x hx).2
 go_wp2_with fail;refine(PJ S b _ _ _ _ _ bk.L x q w5 eQ.o HD.o nW.o.alone hk HX.o).mono ?_;rintro e w6 ⟨⟨v6,rfl⟩,⟨q6,XM,_⟩,pQ⟩;have jy:=aa XM;have vu:=aa (pg.o.trans pQ);clear XM pQ hk r0 z0 z1 z2;go_wp2_with fail;go_ret;rw[N3.o];exact⟨rfl,vu.o,fQ.gr ⟨q6,jy.o⟩ jd.o vu.o.size⟩
theorem DN(S:Nat→Prop)(b:Nat)(bk:dJ)(w:World)(x:bU)(h:fQ S w b bk)(hb:bk.Ok)(fz:(⟨2,x.id,0,0,0⟩:Rec).ok=true)(pO:0≤x.id∧x.id<4294967296)(hx:x∈bk.L):
  Calls af 15 #[.pointer (some ⟨b,0,none⟩),.agg #[.int .i64 2,.int .u32 x.id,.int .i64 0,.int .i64 0,.int .i64 0]] w (mG S w b (bk.apply ⟨2,x.id,0,0,0⟩)):=by
 obtain⟨q,hq⟩:=h;have uq:=aa fz;have nW:=aa hb;have HQ:=aa hq;have jd:=aa (show ∀k,S k→k<w.heap.size from hq.bg.lt);have jH:=aa (show ∀W,Calls af 68 #[.agg #[.int .i64 2,.int .u32 x.id,.int .i64 0,.int .i64 0,.int .i64 0]] W fun e w'=>e=.returned (.int .i64 0)∧Below W.heap.size W w' from fun W=>(fW ⟨2,x.id,0,0,0⟩ W yy).mono fun e w' h=>yu);obtain⟨w1,aX⟩:=ae (w.alloc (.cells #[.int .i64 2,.int .u32 x.id,.int .i64 0,.int .i64 0,.int .i64 0] 58));obtain⟨rb,jc⟩:=ae w.heap.size;have bh:=aH aX jc;have hb1:=aJ aX;have r0:=bh.cl 0;have r1:=bh.cl 1;have r2:=bh.cl 2;have r3:=bh.cl 3;have r4:=bh.cl 4;have rh:=aa (dD b true w1 ((hq.bg.ai hb1).own.cell 3));have dH:=aa bh;have bu:=aa hb1;clear fz bh hb1 hq hb;go_enter Tryz.func15,Tryz.ntmps15;go_wp2_with fail;refine ah rh.o ?_;clear rh;go_wp2_with fail;refine(jH.o _).mono ?_;rintro e w3 ⟨rfl,hb3⟩;have dS:=dH.o.keep hb3;clear r0 r1 r2 r3 r4;have r0:=dS.cl 0;have r1:=dS.cl 1;have r2:=dS.cl 2;have r3:=dS.cl 3;have r4:=dS.cl 4;have ek:=bu.eo hb3;have jE:=aa (HQ.o.ai (ar bu.o hb3));have iO:=aa dS;clear hb3 dS jH dH;go_wp2_with fail;have hd:=nj nW.o;have N3:=aa (show bk.apply ⟨2,x.id,0,0,0⟩=(0,{bk with L:=mD bk.L x.id})from by unfold dJ.apply;rw[if_neg rK,if_neg (show ¬(2:Int)=1 from aM),if_neg (show ¬(2:Int)=5 from aM)];simp only[vZ nW.o hx];rfl);have HX:=aa hx;have HD:=aa hd;have HG:=aa (Ct jE.o x hx pO);clear hx hd;refine HG.o.mono ?_;rintro e w4 ⟨rfl,wI,jU⟩;have xP:aG S w w4:=(aG.aU ek.o).trans (jU.mono fun k _ hk=>OG);have JW:=jU.arr iO.o (fun e=>L5);obtain⟨w5,jK⟩:=ae (w4.alloc (.cells #[.int .u32 x.id,.int .i64 (x.av:Int),.int .i64 x.aR] 171));obtain⟨xb,Dg⟩:=ae w4.heap.size;have dR:=aJ jK;have fY:=aH jK Dg;have JV:=JW.keep dR;have z0:=fY.cl 0;have z1:=fY.cl 1;have z2:=fY.cl 2;clear r0 r1 r2 r3 r4;have r0:=JV.cl 0;have rE:=aa (show w.heap.size≤xb from Lz);have eQ:=aa (wI.ai dR);have pg:=aa (xP.ai dR);have o6:=aa fY;have rF:=aa JV;clear wI jU xP dR fY JW JV HG;go_wp2_with fail;refine(PI S b _ _ _ _ _ bk.L.length bk.L x q w5 eQ.o.bg eQ.o.qm HD.o HX.o).mono ?_;rintro e w6 ⟨⟨v6,rfl⟩,⟨hl,hm,hf,φ,hc6,jG⟩,pQ⟩;have Ed:=HQ.o.dQ x HX.o;have vt:=pQ.arr o6.o (fun e=>by have:=jd.o _ e;have:=rE.o;omega);have x8:w6.cell? ⟨b,8,none⟩=some (.slice (some ⟨q.sg,0,none⟩) bk.n q.sc):=hc6.own.cell 8;have z1':=vt.cl 1;have CL:jN (q.sb x.av)= [.int .u32 x.id,.int .i64 (x.av:Int),.int .i64 x.aR]:=by rw[Ed.2];rfl
 have hrg:=hc6.fZ.range (fun _=>rfl) (show x.av<bk.n from Ed.1);have y2:w6.drew.cell? ⟨q.sg,x.av*3+2,none⟩=some (.int .i64 x.aR):=hrg 2 _ (show(jN (q.sb x.av))[2]? =_ by rw[CL];rfl);have m2:w6.drew.frozen? ⟨q.sg,x.av*3+2,none⟩=false:=(hc6.fZ.there (fun _=>rfl) (show x.av<bk.n from Ed.1) 2 aM).2;have RD:(x.av:Int)<(bk.n:Int):=by have:=Ed.1;omega
 have hx0:(0:Int)≤(x.av:Int):=ag;have pN:(bk.n:Int)≤1024:=by have:=nW.o.n;omega
 have HC6:=aa hc6;have GI:=aa jG;have vu:=aa (pg.o.trans pQ);have HXL:=aa Ed;have hr0:w6.cell? ⟨rb,0,none⟩=some (.int .i64 2):=(pQ.arr rF.o (fun e=>by have:=jd.o _ e;omega)).cell 0;clear hc6 jG pQ vt CL hrg Ed r0 z0 z1 z2;go_wp2_with fail;go_still_tail 8,aW;change wpList _ _ _ _ _ w6.drew;go_wp2_with fail;go_ret;rw[N3.o];obtain⟨w7,zx⟩:=ae (w6.drew.setCell ⟨q.sg,x.av*3+2,none⟩ (.int .i64 0));have wG:=HC6.o.ai (ay (aq _ _));have hr7:=wG.fZ.ajx (fun _=>rfl) HXL.o.1 (show 2<3 from aM) (.int .i64 0);have he:((jN (q.sb x.av)).set 2 (.int .i64 0))=jN ⟨x.id,x.av,0⟩:=by rw[HXL.o.2];rfl
 have alH:aO S w7 171 3 (.slice (some ⟨q.sg,0,none⟩) bk.n q.sc) bk.n (fun i=>jN (cO q.sb x.av ⟨x.id,x.av,0⟩ i)):=by rw[←rR,←he,←zx];exact hr7
 have JS:aG (· =q.sg) w6.drew w7:=by rw[←zx];exact(aG.refl (fun k=>k=q.sg) w6.drew).put (p:=⟨q.sg,x.av*3+2,none⟩) (.inl rfl) _
 have hc7:=wG.nA JS alH;have hT7:aG S w w7:=(vu.o.ai (ay (aq _ _))).trans (JS.mono fun k _ hk=>by subst hk;exact HQ.o.bg.fZ.block _ rfl);rw[←Nj bk.L x.id] at hc7;have hk:=fun x hx=>(nW.o.ids x hx).2
 have Xo:=HQ.o.free hk;have hto:∀y∈bk.L,y.id=x.id→y=x:=fun y hy e=>nD HD.o hy HX.o e
 have hn4:=HQ.o.small.2.2.2;have hgf:=GI.o.mD HQ.o.qm.ids;obtain⟨q9,h9⟩:∃q9,bl S w7 b bk.n bk.au bk.az bk.next bk.ak (mD bk.L x.id) q9:=by
  refine⟨_,bl.make hc7 ?_ ?_ ?_ ?_ hn4 ⟨hgf.len,hgf.cnt,hgf.held,hgf.items,hgf.free,hgf.ord,hgf.ids⟩⟩
  ·intro j hj;show hasB q.ws j=true↔_
   rw[HQ.o.bits j hj];constructor
   ·rintro⟨y,hy,rfl⟩;exact⟨_,gS.2 ⟨y,hy,rfl⟩,by split <;>rfl⟩
   rintro⟨z,hz,rfl⟩;obtain⟨y,hy,rfl⟩:=gS.1 hz;exact⟨y,hy,by split <;>rfl⟩
  ·intro z hz;show z.av<bk.n∧cO q.sb x.av ⟨x.id,x.av,0⟩ z.av=z
   obtain⟨y,hy,rfl⟩:=gS.1 hz;by_cases e:y.id=x.id
   ·rw[if_pos e,hto y hy e];exact⟨HXL.o.1,bJ _ _ _⟩
   rw[if_neg e,bj _ _ (fun e2=>e (by rw[pJ nW.o.alone hy HX.o e2]))];exact HQ.o.dQ y hy
  ·intro a v;show ky.jP q.f q.m a v↔_
   rw[HQ.o.tbl];constructor
   ·rintro⟨y,hy,rfl,rfl⟩;exact⟨_,gS.2 ⟨y,hy,rfl⟩,by split <;>rfl,by split <;>rfl⟩
   rintro⟨z,hz,rfl,rfl⟩;obtain⟨y,hy,rfl⟩:=gS.1 hz;exact⟨y,hy,by split <;>rfl,by split <;>rfl⟩
  exact⟨by show q.hn≤bk.next;omega,fun e=>absurd (show q.hn=bk.next from e) ag⟩
 have hww:(w6.setCell ⟨q.sg,x.av*3+2,none⟩ (.int .i64 0)).drew=w7:=zx;first|rw[hww]|rw[zx]
 exact⟨rfl,hT7,fQ.gr ⟨q9,h9⟩ jd.o hT7.size⟩
theorem vI(bk:dJ)(x:bU)(s:Nat): (if(bk.n:Int)≤(s:Int)then((140,bk):Int × dJ)else if(x.av:Int)=(s:Int)then(0,bk)else if(bk.on (s:Int)).isSome=true then(170,bk)else(0,{bk with L:=bk.L.map fun y=>if y.id=x.id then {y with av:=(s:Int).toNat}else y}))=(fo bk.n bk.L x s,if fo bk.n bk.L x s=0∧s≠x.av then {bk with L:=qR bk.L x.id s}else bk):=by
 have e1:((bk.n:Int)≤(s:Int))=(bk.n≤s):=propext Int.ofNat_le;have e2:((x.av:Int)=(s:Int))=(s=x.av):=propext ⟨fun h=>(Int.ofNat.inj h).symm,fun h=>by rw[h]⟩;unfold fo qR;simp only[FW,Int.toNat_natCast,e1,e2];by_cases c1:bk.n≤s
 ·simp[c1]
 by_cases c2:s=x.av
 ·have c1':¬bk.n≤x.av:=c2▸c1;simp[c2,c1']
 by_cases c3:Rh bk.L s=true
 ·simp[c1,c2,c3]
 simp[c1,c2,c3]
theorem GX(S:Nat→Prop)(b:Nat)(bk:dJ)(w:World)(x:bU)(s:Nat)(h:fQ S w b bk)(hb:bk.Ok)(fz:(⟨4,x.id,s,0,0⟩:Rec).ok=true)(pO:0≤x.id∧x.id<4294967296)(hx:x∈bk.L)(hs:s≤1023):
  Calls af 15 #[.pointer (some ⟨b,0,none⟩),.agg #[.int .i64 4,.int .u32 x.id,.int .i64 (s:Int),.int .i64 0,.int .i64 0]] w (mG S w b (bk.apply ⟨4,x.id,s,0,0⟩)):=by
 obtain⟨q,hq⟩:=h;have uq:=aa fz;have nW:=aa hb;have HQ:=aa hq;have jd:=aa (show ∀k,S k→k<w.heap.size from hq.bg.lt);have jH:=aa (show ∀W,Calls af 68 #[.agg #[.int .i64 4,.int .u32 x.id,.int .i64 (s:Int),.int .i64 0,.int .i64 0]] W fun e w'=>e=.returned (.int .i64 0)∧Below W.heap.size W w' from fun W=>(fW ⟨4,x.id,s,0,0⟩ W yy).mono fun e w' h=>yu);obtain⟨w1,aX⟩:=ae (w.alloc (.cells #[.int .i64 4,.int .u32 x.id,.int .i64 (s:Int),.int .i64 0,.int .i64 0] 58));obtain⟨rb,jc⟩:=ae w.heap.size;have bh:=aH aX jc;have hb1:=aJ aX;have r0:=bh.cl 0;have r1:=bh.cl 1;have r2:=bh.cl 2;have r3:=bh.cl 3;have r4:=bh.cl 4;have rh:=aa (dD b true w1 ((hq.bg.ai hb1).own.cell 3));have dH:=aa bh;have bu:=aa hb1;clear fz bh hb1 hq hb;go_enter Tryz.func15,Tryz.ntmps15;go_wp2_with fail;refine ah rh.o ?_;clear rh;go_wp2_with fail;refine(jH.o _).mono ?_;rintro e w3 ⟨rfl,hb3⟩;have dS:=dH.o.keep hb3;clear r0 r1 r2 r3 r4;have r0:=dS.cl 0;have r1:=dS.cl 1;have r2:=dS.cl 2;have r3:=dS.cl 3;have r4:=dS.cl 4;have ek:=bu.eo hb3;have jE:=aa (HQ.o.ai (ar bu.o hb3));have iO:=aa dS;clear hb3 dS jH dH;go_wp2_with fail;have hd:=nj nW.o;have N3:=aa (show bk.apply ⟨4,x.id,s,0,0⟩=(fo bk.n bk.L x s,if fo bk.n bk.L x s=0∧s≠x.av then {bk with L:=qR bk.L x.id s}else bk)from by unfold dJ.apply;rw[if_neg rK,if_neg (show ¬(4:Int)=1 from aM),if_neg (show ¬(4:Int)=5 from aM)];simp only[vZ nW.o hx];exact vI bk x s);have HX:=aa hx;have HD:=aa hd;have HG:=aa (Ct jE.o x hx pO);clear hx hd;refine HG.o.mono ?_;rintro e w4 ⟨rfl,wI,jU⟩;have xP:aG S w w4:=(aG.aU ek.o).trans (jU.mono fun k _ hk=>OG);have JW:=jU.arr iO.o (fun e=>L5);obtain⟨w5,jK⟩:=ae (w4.alloc (.cells #[.int .u32 x.id,.int .i64 (x.av:Int),.int .i64 x.aR] 171));obtain⟨xb,Dg⟩:=ae w4.heap.size;have dR:=aJ jK;have fY:=aH jK Dg;have JV:=JW.keep dR;have z0:=fY.cl 0;have z1:=fY.cl 1;have z2:=fY.cl 2;clear r0 r1 r2 r3 r4;have r0:=JV.cl 0;have rE:=aa (show w.heap.size≤xb from Lz);have eQ:=aa (wI.ai dR);have pg:=aa (xP.ai dR);have o6:=aa fY;have rF:=aa JV;clear wI jU xP dR fY JW JV HG;have hk:=fun x hx=>(nW.o.ids x hx).2
 have r2:=rF.o.cl 2;go_wp2_with fail;refine(Q8 S b _ _ _ _ _ bk.L x q w5 s eQ.o HD.o nW.o.alone hk HX.o hs).mono ?_;rintro e w6 ⟨rfl,pQ,q6,XM⟩;have jy:=aa XM;have vu:=aa (pg.o.trans pQ);clear XM pQ hk r0 r2 z0 z1 z2;go_wp2_with fail;go_ret;rw[N3.o];refine⟨rfl,vu.o,?_⟩;have h6:=jy.o;by_cases hr:fo bk.n bk.L x s=0
 ·rw[if_pos hr] at h6;by_cases hsx:s=x.av
  ·simp only[hsx,ne_eq,not_true_eq_false,and_false,if_false];rw[hsx,Bh HD.o HX.o] at h6;exact fQ.gr ⟨q6,h6⟩ jd.o vu.o.size
  simp only[hr,hsx,ne_eq,not_false_eq_true,and_self,if_true];exact fQ.gr ⟨q6,h6⟩ jd.o vu.o.size
 ·rw[if_neg hr] at h6;simp only[hr,false_and,if_false];exact fQ.gr ⟨q6,h6⟩ jd.o vu.o.size
end Bk
end
section
namespace Bk
theorem sZ{r:Rec}(h:r.ok=true):
  (∃(id:Int) (s:Nat) (t:Int),r=⟨1,id,s,t,0⟩∧1≤id∧id≤4294967295∧s≤1023∧1≤t∧t≤1099511627776)∨(∃id:Int,r=⟨2,id,0,0,0⟩∧1≤id∧id≤4294967295)∨(∃id:Int,r=⟨3,id,0,0,0⟩∧1≤id∧id≤4294967295)
  ∨(∃(id:Int) (s:Nat),r=⟨4,id,s,0,0⟩∧1≤id∧id≤4294967295∧s≤1023)∨(∃c:Int,r=⟨5,0,0,0,c⟩∧1≤c∧c≤1099511627776):=by
 obtain⟨k,id,av,aR,ak⟩:=r;unfold Rec.ok at h;simp only[Bool.and_eq_true] at h;obtain⟨⟨⟨⟨h0,h1⟩,h2⟩,h3⟩,h4⟩:=h;have hk:k=1∨k=2∨k=3∨k=4∨k=5:=by simp only[recKind,Bool.and_eq_true,decide_eq_true_eq] at h0;omega
 rcases hk with rfl|rfl|rfl|rfl|rfl
 all_goals simp[dK,within] at h1 h2 h3 h4
 ·exact .inl ⟨id,av.toNat,aR,by rw[Int.toNat_of_nonneg h2.1,h4],h1.1,h1.2,ag,h3.1,h3.2⟩
 ·exact .inr (.inl ⟨id,by rw[h2,h3,h4],h1.1,h1.2⟩)
 ·exact .inr (.inr (.inl ⟨id,by rw[h2,h3,h4],h1.1,h1.2⟩))
 ·exact .inr (.inr (.inr (.inl ⟨id,av.toNat,by rw[Int.toNat_of_nonneg h2.1,h3,h4],h1.1,h1.2,ag⟩)))
 ·exact .inr (.inr (.inr (.inr ⟨ak,by rw[h1,h2,h3],h4.1,h4.2⟩)))
theorem iu{bk:dJ}{id:Int}{x:bU}(h:bk.find id=some x): x∈bk.L∧x.id=id:=
 ⟨wC h,by simpa using List.find?_some h⟩
theorem Cz(S:Nat→Prop)(b:Nat)(bk:dJ)(w:World)(r:Rec)(h:fQ S w b bk)(hb:bk.Ok)(fz:r.ok=true):
  Calls af 15 #[.pointer (some ⟨b,0,none⟩),.agg (fF r)] w (mG S w b (bk.apply r)):=by
 rcases sZ fz with⟨id,s,t,rfl,h1,h2,h3,h4,h5⟩|⟨id,rfl,h1,h2⟩|⟨id,rfl,h1,h2⟩|⟨id,s,rfl,h1,h2,h3⟩|⟨c,rfl,h1,h2⟩
 ·exact Og S b bk w id s t 0 h hb fz ag h3 h5
 ·cases hf:bk.find id with
  | none=>exact S4 S b bk w id h hb fz ag hf
  | some x=>
   obtain⟨hx,rfl⟩:=iu hf;exact DN S b bk w x h hb fz ag hx
 ·cases hf:bk.find id with
  | none=>exact S2 S b bk w id h hb fz ag hf
  | some x=>
   obtain⟨hx,rfl⟩:=iu hf;exact GY S b bk w x h hb fz ag hx
 ·cases hf:bk.find id with
  | none=>exact SZ S b bk w id s h hb fz ag hf
  | some x=>
   obtain⟨hx,rfl⟩:=iu hf;exact GX S b bk w x s h hb fz ag hx h3
 ·exact Of S b bk w c h hb fz
theorem O'{bk:dJ}(h:bk.Ok){M:List bU}(hs:M.Sublist bk.L){uk:Int}(hc:0≤uk∧uk≤1099511627776)(ht:∀x∈M,x.aR=0∨uk<x.aR): ({bk with L:=M,ak:=uk}:dJ).Ok:=
 ⟨h.n,h.au,h.az,h.next,hc,Nat.le_trans hs.length_le h.len,h.Vn.sublist hs,fun x hx=>h.ids x (hs.subset hx),fun x hx=>h.fZ x (hs.subset hx),h.alone.sublist hs,fun x hx=>by
  rcases ht x hx with e|e
  ·exact .inl e
  have:=h.aR x (hs.subset hx);exact .inr ⟨e,ag⟩⟩
theorem VF{bk:dJ}(h:bk.Ok)(g:bU→bU)(h1:∀y∈bk.L,(g y).id=y.id)(h2:∀y∈bk.L,(g y).av<bk.n)(h3:(bk.L.map g).Pairwise fun x y=>x.av≠y.av)(h4:∀y∈bk.L,(g y).aR=0∨(g y).aR=y.aR): ({bk with L:=bk.L.map g}:dJ).Ok:=by
 refine⟨h.n,h.au,h.az,h.next,h.ak,by simpa using h.len,?_,fun z hz=>?_,fun z hz=>?_,h3,fun z hz=>?_⟩
 ·rw[G9];exact h.Vn.imp_of_mem fun ha hb hab=>by rw[h1 _ ha,h1 _ hb];exact hab
 ·obtain⟨y,hy,rfl⟩:=nc.1 hz;rw[h1 y hy];exact h.ids y hy
 ·obtain⟨y,hy,rfl⟩:=nc.1 hz;exact h2 y hy
 obtain⟨y,hy,rfl⟩:=nc.1 hz;rcases h4 y hy with e|e
 ·exact .inl e
 rw[e];exact h.aR y hy
theorem B9{bk:dJ}(h:bk.Ok){r:Rec}(fz:r.ok=true): (bk.apply r).2.Ok:=by
 rcases sZ fz with⟨id,s,t,rfl,h1,h2,h3,h4,h5⟩|⟨id,rfl,h1,h2⟩|⟨id,rfl,h1,h2⟩|⟨id,s,rfl,h1,h2,h3⟩|⟨c,rfl,h1,h2⟩
 ·have hap:bk.apply ⟨1,id,s,t,0⟩=bk.hold ⟨1,id,s,t,0⟩:=by unfold dJ.apply;rw[if_neg ux,if_pos rfl]
  rw[hap,Bx];by_cases hr:lX bk.n bk.au bk.next bk.ak bk.L id s t=0
  ·simp only[hr,if_true];unfold lX at hr;by_cases c1:id=bk.next
   ·by_cases c2:bk.n≤s
    ·simp[c1,c2] at hr
    by_cases c3:t≤bk.ak
    ·simp[c1,c2,c3] at hr
    by_cases c4:Rh bk.L s=true
    ·simp[c1,c2,c3,c4] at hr
    by_cases c5:bk.au≤bk.L.length
    ·simp[c1,c2,c3,c4,c5] at hr
    by_cases c6:bk.next=4294967295
    ·simp[c1,c2,c3,c4,c5,c6] at hr
    have hn:=h.next;refine⟨h.n,h.au,h.az,by show 1≤bk.next+1∧bk.next+1<4294967296;omega,h.ak,by show(bk.L++[_]).length≤bk.au;rw[List.length_append];show bk.L.length+1≤_;omega,?_,fun x hx=>?_,fun x hx=>?_,?_,fun x hx=>?_⟩
    ·show(bk.L++[_]).Pairwise _
     rw[wE];refine⟨h.Vn,Qs _ _,fun x hx y hy=>?_⟩;obtain rfl:y=⟨id,s,t⟩:=oO;have:=(h.ids x hx).2;show x.id<id
     omega
    ·rcases kV.1 hx with hx|hx
     ·have:=h.ids x hx;show 1≤x.id∧x.id<bk.next+1
      omega
     obtain rfl:x=⟨id,s,t⟩:=by simpa using hx
     show 1≤id∧id<bk.next+1
     omega
    ·rcases kV.1 hx with hx|hx
     ·exact h.fZ x hx
     obtain rfl:x=⟨id,s,t⟩:=by simpa using hx
     show s<bk.n
     omega
    ·show(bk.L++[_]).Pairwise _
     rw[wE];refine⟨h.alone,Qs _ _,fun x hx y hy=>?_⟩;obtain rfl:y=⟨id,s,t⟩:=oO;exact fun e=>c4 (vL.2 ⟨x,hx,e⟩)
    rcases kV.1 hx with hx|hx
    ·exact h.aR x hx
    obtain rfl:x=⟨id,s,t⟩:=by simpa using hx
    exact .inr ⟨by show bk.ak<t;omega,h5⟩
   simp[c1] at hr
  simp only[if_neg hr];exact h
 ·have hap:bk.apply ⟨2,id,0,0,0⟩=match bk.find id with|none=>(171,bk)|some x=>(0,{bk with L:=mD bk.L id}):=by unfold dJ.apply;rw[if_neg ux,if_neg (show ¬(2:Int)=1 from aM),if_neg (show ¬(2:Int)=5 from aM)];rfl
  rw[hap];cases bk.find id with
  | none=>exact h
  | some x=>
   refine VF h _ (fun y _=>by split <;>rfl) (fun y hy=>by split <;>exact h.fZ y hy) ?_ (fun y _=>by split;exact .inl rfl;exact .inr rfl);rw[G9];exact h.alone.imp fun hab=>by split <;>split <;>exact hab
 ·have hap:bk.apply ⟨3,id,0,0,0⟩=match bk.find id with|none=>(171,bk)|some x=>(0,{bk with L:=without bk.L id}):=by unfold dJ.apply;rw[if_neg ux,if_neg (show ¬(3:Int)=1 from aM),if_neg (show ¬(3:Int)=5 from aM)];rfl
  rw[hap];cases bk.find id with
  | none=>exact h
  | some x=>exact O' h (yq _ _) h.ak (fun y hy=>by have:=h.aR y (cB.1 hy).1;omega)
 ·cases hf:bk.find id with
  | none=>
   have hap:bk.apply ⟨4,id,s,0,0⟩=(171,bk):=by unfold dJ.apply;rw[if_neg ux,if_neg (show ¬(4:Int)=1 from aM),if_neg (show ¬(4:Int)=5 from aM)];simp only[hf]
   rw[hap];exact h
  | some x=>
   obtain⟨hx,rfl⟩:=iu hf;have hap:bk.apply ⟨4,x.id,s,0,0⟩=(fo bk.n bk.L x s,if fo bk.n bk.L x s=0∧s≠x.av then {bk with L:=qR bk.L x.id s}else bk):=by unfold dJ.apply;rw[if_neg ux,if_neg (show ¬(4:Int)=1 from aM),if_neg (show ¬(4:Int)=5 from aM)];simp only[vZ h hx];exact vI bk x s
   rw[hap];by_cases hr:fo bk.n bk.L x s=0∧s≠x.av
   ·simp only[if_pos hr];obtain⟨hr,hsx⟩:=hr;unfold fo at hr;by_cases c1:bk.n≤s
    ·simp[c1] at hr
    by_cases c3:Rh bk.L s=true
    ·simp[c1,hsx,c3] at hr
    have hd:=nj h;have hno:∀y∈bk.L,y.av≠s:=fun y hy e=>c3 (vL.2 ⟨y,hy,e⟩)
    refine VF h _ (fun y _=>by split <;>rfl) (fun y hy=>by split;(show s<bk.n;omega);exact h.fZ y hy) ?_ (fun y _=>by split <;>exact .inr rfl);rw[G9];refine(h.alone.and hd).imp_of_mem fun {a c} ha hc hab=>?_
    by_cases e1:a.id=x.id <;>by_cases e2:c.id=x.id
    ·exact absurd (e1.trans e2.symm) hab.2
    ·rw[if_pos e1,if_neg e2];exact fun e=>hno c hc e.symm
    ·rw[if_neg e1,if_pos e2];exact hno a ha
    rw[if_neg e1,if_neg e2];exact hab.1
   simp only[if_neg hr];exact h
 have hap:bk.apply ⟨5,0,0,0,c⟩=bk.tick c:=by unfold dJ.apply;rw[if_neg ux,if_neg (show ¬(5:Int)=1 from aM),if_pos rfl]
 rw[hap];unfold dJ.tick;by_cases hc:c≤bk.ak
 ·rw[if_pos hc];exact h
 rw[if_neg hc];refine O' h List.filter_sublist ⟨ag,h2⟩ (fun x hx=>?_);have:=(List.mem_filter.1 hx).2;simpa using this
