import Derived.Test.YtemighjbfanenaaGreatDoorQk28
import Derived.Test.YtemighjbfanenaaGreatDoorQk25
set_option linter.all false
set_option maxRecDepth 100000
set_option maxHeartbeats 16000000
namespace Go.Proofs.YtemighjbfanenaaGreatDoor
open RowKit
open En (dI fW Ps Rec dN recKind fA within)
open yj (hasB)
open Go.Proofs.Tryz renaming prog→af
open List renaming mem_map→nd,mem_of_find?_eq_some→wA,mem_append→kR,pairwise_map→GF,pairwise_singleton→PG,pairwise_append→wD
open RowKit.Below renaming refl→ar
theorem U6{p:Prop}(h:p:=by
 have Gf:=aa hap;have HG:=aa (Yu jy.o id (D6 hno) pT);clear hap hno;refine HG.o.mono ?_;rintro e w4 ⟨rfl,wH,jK⟩;have gj:=aa wH;have nU:=aa (show aI S w w4 from(aI.aW dV.o).trans (jK.mono fun k _ hk=>NF));have dU:=ay (ar w4.heap.size w4) (.cells #[.int .u32 0,.int .i64 0,.int .i64 0] 171);have eu:=aa (wH.ak dU);have pz:=aa (nU.o.ak dU);clear wH jK dU r0 r1 r2 r3 r4 gj nU;go_wp2_with fail;go_ret;rw[Gf.o];exact⟨rfl,pz.o,fL.gr ⟨q,eu.o⟩ i'.o pz.o.size⟩):p:=h
theorem yx{p:Prop}(h:p:=by first|exact pT|exact⟨(by decide:(0:Int)≤0),(by decide:(0:Int)<4294967296)⟩):p:=h
theorem yt{p:Prop}(h:p:=by unfold Ps at h;rw[fw] at h;exact h):p:=h
theorem NF{p:Prop}(h:p:=by subst hk;exact HQ.o.bg.bB.2.2.2.1):p:=h
theorem rO{p:Prop}(h:p:=by rw[uk.o];decide):p:=h
theorem Lm{p:Prop}(h:p:=by have:=i'.o _ HQ.o.bg.bB.2.2.2.1;omega):p:=h
theorem wV{p:Prop}(h:p:=by rw[fw];decide):p:=h
theorem KU{p:Prop}(h:p:=by rw[←yX];exact xQ.size):p:=h
section
namespace Bk
theorem bo.wide{S T:Nat→Prop}{w:World}{b n au:Nat}{aA next aq:Int}{L:List bS}{q:bI}(h:bo S w b n au aA next aq L q)(p7: ∀ k,S k→T k)(hT: ∀ k,T k→k<w.heap.size): bo T w b n au aA next aq L q:=
 ⟨h.bg.mono p7 hT,h.bits,h.cw,h.under,h.listed,h.small,h.qo⟩
def fL(S:Nat→Prop)(w:World)(b:Nat)(bk:dI): Prop:=∃ q,bo S w b bk.n bk.au bk.aA bk.next bk.aq bk.L q
theorem fL.gr{S:Nat→Prop}{w w':World}{b:Nat}{bk:dI}(h:fL S w' b bk)(hl: ∀ k,S k→k<w.heap.size)(hz:w.heap.size≤w'.heap.size): fL (Gr S w w') w' b bk:=by
 obtain⟨q,hq⟩:=h;exact⟨q,hq.wide (fun k hk=>.inl hk) (fun k hk=>by rcases hk with h|h;exact Nat.lt_of_lt_of_le (hl k h) hz;exact h.2)⟩
def nY(S:Nat→Prop)(w:World)(b:Nat)(r:Int × dI)(e:Ending)(w':World): Prop:=e= .returned (.int .i64 r.1)∧aI S w w'∧fL (Gr S w w') w' b r.2
theorem np{bk:dI}(h:bk.Ok): bk.L.Pairwise fun x y=>x.id≠y.id:=h.Uj.imp fun hh=>Int.ne_of_lt hh
theorem Fu(bk:dI)(s:Nat): (bk.on (s:Int)).isSome=Qn bk.L s:=by
 unfold dI.on Qn;rw[Bool.eq_iff_iff,List.find?_isSome,List.any_eq_true];constructor
 ·rintro⟨x,hx,h⟩;exact⟨x,hx,decide_eq_true (Int.ofNat.inj (of_decide_eq_true h))⟩
 rintro⟨x,hx,h⟩;exact⟨x,hx,decide_eq_true (by rw[of_decide_eq_true h])⟩
theorem Bn(bk:dI)(id:Int)(s:Nat)(t c:Int): bk.hold ⟨1,id,s,t,c⟩=(mf bk.n bk.au bk.next bk.aq bk.L id s t,if mf bk.n bk.au bk.next bk.aq bk.L id s t=0 then {bk with L:=bk.L++ [⟨id,s,t⟩],next:=bk.next+1}else bk):=by
 have e1:((bk.n:Int)≤(s:Int))=(bk.n≤s):=propext Int.ofNat_le;unfold dI.hold mf;simp only[Fu,Int.toNat_natCast,e1];by_cases c1:id=bk.next
 ·by_cases c2:bk.n≤s
  ·simp[c1,c2]
  by_cases c3:t≤bk.aq
  ·simp[c1,c2,c3]
  by_cases c4:Qn bk.L s=true
  ·simp[c1,c2,c3,c4]
  by_cases c5:bk.au≤bk.L.length
  ·simp[c1,c2,c3,c4,c5]
  by_cases c6:bk.next=4294967295
  ·simp[c1,c2,c3,c4,c5,c6]
  simp[c1,c2,c3,c4,c5,c6]
 simp[c1]
theorem Ni(S:Nat→Prop)(b:Nat)(bk:dI)(w:World)(id:Int)(s:Nat)(t c:Int)(h:fL S w b bk)(hb:bk.Ok)(fw:(⟨1,id,s,t,c⟩:Rec).ok=true)(pT:0≤id∧id<4294967296)(hs:s≤1023)(ht:t≤1099511627776):
  Calls af 15 #[.pointer (some ⟨b,0,none⟩),.agg #[.int .i64 1,.int .u32 id,.int .i64 (s:Int),.int .i64 t,.int .i64 c]] w (nY S w b (bk.apply ⟨1,id,s,t,c⟩)):=by
 obtain⟨q,hq⟩:=h;have uk:=aa fw;have pg:=aa hb;have HQ:=aa hq;have i':=aa (show ∀ k,S k→k<w.heap.size from hq.bg.lt);have jz:=aa (show ∀ W,Calls af 68 #[.agg #[.int .i64 1,.int .u32 id,.int .i64 (s:Int),.int .i64 t,.int .i64 c]] W fun e w'=>e= .returned (.int .i64 0)∧Below W.heap.size W w' from fun W=>(fW ⟨1,id,s,t,c⟩ W yx).mono fun e w' h=>yt);obtain⟨w1,a8⟩:=ae (w.alloc (.cells #[.int .i64 1,.int .u32 id,.int .i64 (s:Int),.int .i64 t,.int .i64 c] 58));obtain⟨rb,jJ⟩:=ae w.heap.size;have bp:=aJ a8 jJ;have hb1:=aK a8;have r0:=bp.cl 0;have r1:=bp.cl 1;have r2:=bp.cl 2;have r3:=bp.cl 3;have r4:=bp.cl 4;have rA:=aa (cY b true w1 ((hq.bg.ak hb1).own.cell 3));have dF:=aa bp;have bA:=aa hb1;clear fw bp hb1 hq hb;go_enter Tryz.func15,Tryz.ntmps15;go_wp2_with fail;refine ag rA.o ?_;clear rA;go_wp2_with fail;refine(jz.o _).mono ?_;rintro e w3 ⟨rfl,hb3⟩;have dO:=dF.o.ah hb3;clear r0 r1 r2 r3 r4;have r0:=dO.cl 0;have r1:=dO.cl 1;have r2:=dO.cl 2;have r3:=dO.cl 3;have r4:=dO.cl 4;have dV:=bA.dQ hb3;have jy:=aa (HQ.o.ak (av bA.o hb3));have iu:=aa dO;clear hb3 dO jz dF;go_wp2_with fail;have hk:=fun x hx=>(pg.o.ids x hx).2
 have DL:=pg.o.next;have hck:=pg.o.aq;refine(aab S b _ _ _ _ _ _ q w3 1 id s t c jy.o hk ai hck.1 pT hs ht).mono ?_;rintro e w4 ⟨rfl,jK,wH⟩;have nU:=aa jK;have gj:=aa wH;clear jK wH r0 r1 r2 r3 r4 hk DL hck;go_wp2_with fail;go_ret;have hap:bk.apply ⟨1,id,s,t,c⟩=bk.hold ⟨1,id,s,t,c⟩:=by unfold dI.apply;rw[if_neg rO,if_pos rfl]
 rw[hap,Bn];have hT:=(aI.aW dV.o).trans nU.o;refine⟨rfl,hT,?_⟩;have h4:=gj.o;by_cases hr:mf bk.n bk.au bk.next bk.aq bk.L id s t=0
 ·rw[if_pos hr] at h4;simp only[hr,if_true];obtain⟨q4,h4⟩:=h4;refine⟨q4,h4.wide (fun k hk=>?_) (fun k hk=>by rcases hk with h|h;exact Nat.lt_of_lt_of_le (i'.o k h) hT.size;exact h.2)⟩;rcases hk.1 with h|h
  ·exact .inl h
  exact .inr ⟨Nat.le_trans dV.o.size h,hk.2⟩
 ·rw[if_neg hr] at h4;simp only[if_neg hr];exact fL.gr ⟨q,h4⟩ i'.o hT.size
theorem Nh(S:Nat→Prop)(b:Nat)(bk:dI)(w:World)(c:Int)(h:fL S w b bk)(hb:bk.Ok)(fw:(⟨5,0,0,0,c⟩:Rec).ok=true):
  Calls af 15 #[.pointer (some ⟨b,0,none⟩),.agg #[.int .i64 5,.int .u32 0,.int .i64 0,.int .i64 0,.int .i64 c]] w (nY S w b (bk.apply ⟨5,0,0,0,c⟩)):=by
 obtain⟨q,hq⟩:=h;have uk:=aa fw;have pg:=aa hb;have HQ:=aa hq;have i':=aa (show ∀ k,S k→k<w.heap.size from hq.bg.lt);have jz:=aa (show ∀ W,Calls af 68 #[.agg #[.int .i64 5,.int .u32 0,.int .i64 0,.int .i64 0,.int .i64 c]] W fun e w'=>e= .returned (.int .i64 0)∧Below W.heap.size W w' from fun W=>(fW ⟨5,0,0,0,c⟩ W yx).mono fun e w' h=>yt);obtain⟨w1,a8⟩:=ae (w.alloc (.cells #[.int .i64 5,.int .u32 0,.int .i64 0,.int .i64 0,.int .i64 c] 58));obtain⟨rb,jJ⟩:=ae w.heap.size;have bp:=aJ a8 jJ;have hb1:=aK a8;have r0:=bp.cl 0;have r1:=bp.cl 1;have r2:=bp.cl 2;have r3:=bp.cl 3;have r4:=bp.cl 4;have rA:=aa (cY b true w1 ((hq.bg.ak hb1).own.cell 3));have dF:=aa bp;have bA:=aa hb1;clear fw bp hb1 hq hb;go_enter Tryz.func15,Tryz.ntmps15;go_wp2_with fail;refine ag rA.o ?_;clear rA;go_wp2_with fail;refine(jz.o _).mono ?_;rintro e w3 ⟨rfl,hb3⟩;have dO:=dF.o.ah hb3;clear r0 r1 r2 r3 r4;have r0:=dO.cl 0;have r1:=dO.cl 1;have r2:=dO.cl 2;have r3:=dO.cl 3;have r4:=dO.cl 4;have dV:=bA.dQ hb3;have jy:=aa (HQ.o.ak (av bA.o hb3));have iu:=aa dO;clear hb3 dO jz dF;go_wp2_with fail;have hd:=np pg.o;have hk:=fun x hx=>(pg.o.ids x hx).2
 have h0: ∀ x∈bk.L,0≤x.aR:=fun x hx=>by have:=pg.o.aR x hx;have:=pg.o.aq;omega
 have hap:bk.apply ⟨5,0,0,0,c⟩=bk.tick c:=by unfold dI.apply;rw[if_neg rO,if_neg (show ¬(5:Int)=1 from aM),if_pos rfl]
 have Gf:=aa hap;by_cases hc:c≤bk.aq
 ·have HP:=aa (P7 jy.o.bg c hc);have HC:=aa hc;clear hd hk h0 hc hap;refine ag HP.o ?_;clear r0 r1 r2 r3 r4;go_wp2_with fail;go_ret;rw[Gf.o];unfold dI.tick;rw[if_pos HC.o];exact⟨rfl,aI.aW dV.o,fL.gr ⟨q,jy.o⟩ i'.o dV.o.size⟩
 ·have HC:=aa hc;have HP:=aa (Zw S b _ _ _ _ _ c _ q w3 jy.o hd pg.o.alone hk h0 ai);clear hd hk h0 hc hap;refine HP.o.mono ?_;rintro e w4 ⟨rfl,wH,jK⟩;have nU:=aa jK;have gj:=aa wH;clear jK wH r0 r1 r2 r3 r4;go_wp2_with fail;go_ret;rw[Gf.o];unfold dI.tick;rw[if_neg (Int.not_le.2 HC.o)];have hT:=(aI.aW dV.o).trans nU.o;exact⟨rfl,hT,fL.gr gj.o i'.o hT.size⟩
theorem vV{bk:dI}(h:bk.Ok){x:bS}(hx:x∈bk.L): bk.find x.id=some x:=by
 unfold dI.find;cases hf:bk.L.find? (fun y=>decide (y.id=x.id))with
 | none=>exact absurd (List.find?_eq_none.1 hf x hx) dM
 | some y=>
  have h1:=wA hf;have h2:y.id=x.id:=by simpa using List.find?_some hf
  rw[nG (np h) h1 hx h2]
theorem D6{bk:dI}{id:Int}(h:bk.find id=none): ∀ x∈bk.L,x.id≠id:=fun x hx e=>by
 have:=List.find?_eq_none.1 h x hx;simp[e] at this
theorem RO(S:Nat→Prop)(b:Nat)(bk:dI)(w:World)(id:Int)(h:fL S w b bk)(hb:bk.Ok)(fw:(⟨2,id,0,0,0⟩:Rec).ok=true)(pT:0≤id∧id<4294967296)(hno:bk.find id=none):
  Calls af 15 #[.pointer (some ⟨b,0,none⟩),.agg #[.int .i64 2,.int .u32 id,.int .i64 0,.int .i64 0,.int .i64 0]] w (nY S w b (bk.apply ⟨2,id,0,0,0⟩)):=by
 obtain⟨q,hq⟩:=h;have uk:=aa fw;have pg:=aa hb;have HQ:=aa hq;have i':=aa (show ∀ k,S k→k<w.heap.size from hq.bg.lt);have jz:=aa (show ∀ W,Calls af 68 #[.agg #[.int .i64 2,.int .u32 id,.int .i64 0,.int .i64 0,.int .i64 0]] W fun e w'=>e= .returned (.int .i64 0)∧Below W.heap.size W w' from fun W=>(fW ⟨2,id,0,0,0⟩ W yx).mono fun e w' h=>yt);obtain⟨w1,a8⟩:=ae (w.alloc (.cells #[.int .i64 2,.int .u32 id,.int .i64 0,.int .i64 0,.int .i64 0] 58));obtain⟨rb,jJ⟩:=ae w.heap.size;have bp:=aJ a8 jJ;have hb1:=aK a8;have r0:=bp.cl 0;have r1:=bp.cl 1;have r2:=bp.cl 2;have r3:=bp.cl 3;have r4:=bp.cl 4;have rA:=aa (cY b true w1 ((hq.bg.ak hb1).own.cell 3));have dF:=aa bp;have bA:=aa hb1;clear fw bp hb1 hq hb;go_enter Tryz.func15,Tryz.ntmps15;go_wp2_with fail;refine ag rA.o ?_;clear rA;go_wp2_with fail;refine(jz.o _).mono ?_;rintro e w3 ⟨rfl,hb3⟩;have dO:=dF.o.ah hb3;clear r0 r1 r2 r3 r4;have r0:=dO.cl 0;have r1:=dO.cl 1;have r2:=dO.cl 2;have r3:=dO.cl 3;have r4:=dO.cl 4;have dV:=bA.dQ hb3;have jy:=aa (HQ.o.ak (av bA.o hb3));have iu:=aa dO;clear hb3 dO jz dF;go_wp2_with fail;have hap:bk.apply ⟨2,id,0,0,0⟩=(171,bk):=by unfold dI.apply;rw[if_neg rO,if_neg (show ¬(2:Int)=1 from aM),if_neg (show ¬(2:Int)=5 from aM)];simp only[hno]
 exact U6
theorem RN(S:Nat→Prop)(b:Nat)(bk:dI)(w:World)(id:Int)(h:fL S w b bk)(hb:bk.Ok)(fw:(⟨3,id,0,0,0⟩:Rec).ok=true)(pT:0≤id∧id<4294967296)(hno:bk.find id=none):
  Calls af 15 #[.pointer (some ⟨b,0,none⟩),.agg #[.int .i64 3,.int .u32 id,.int .i64 0,.int .i64 0,.int .i64 0]] w (nY S w b (bk.apply ⟨3,id,0,0,0⟩)):=by
 obtain⟨q,hq⟩:=h;have uk:=aa fw;have pg:=aa hb;have HQ:=aa hq;have i':=aa (show ∀ k,S k→k<w.heap.size from hq.bg.lt);have jz:=aa (show ∀ W,Calls af 68 #[.agg #[.int .i64 3,.int .u32 id,.int .i64 0,.int .i64 0,.int .i64 0]] W fun e w'=>e= .returned (.int .i64 0)∧Below W.heap.size W w' from fun W=>(fW ⟨3,id,0,0,0⟩ W yx).mono fun e w' h=>yt);obtain⟨w1,a8⟩:=ae (w.alloc (.cells #[.int .i64 3,.int .u32 id,.int .i64 0,.int .i64 0,.int .i64 0] 58));obtain⟨rb,jJ⟩:=ae w.heap.size;have bp:=aJ a8 jJ;have hb1:=aK a8;have r0:=bp.cl 0;have r1:=bp.cl 1;have r2:=bp.cl 2;have r3:=bp.cl 3;have r4:=bp.cl 4;have rA:=aa (cY b true w1 ((hq.bg.ak hb1).own.cell 3));have dF:=aa bp;have bA:=aa hb1;clear fw bp hb1 hq hb;go_enter Tryz.func15,Tryz.ntmps15;go_wp2_with fail;refine ag rA.o ?_;clear rA;go_wp2_with fail;refine(jz.o _).mono ?_;rintro e w3 ⟨rfl,hb3⟩;have dO:=dF.o.ah hb3;clear r0 r1 r2 r3 r4;have r0:=dO.cl 0;have r1:=dO.cl 1;have r2:=dO.cl 2;have r3:=dO.cl 3;have r4:=dO.cl 4;have dV:=bA.dQ hb3;have jy:=aa (HQ.o.ak (av bA.o hb3));have iu:=aa dO;clear hb3 dO jz dF;go_wp2_with fail;have hap:bk.apply ⟨3,id,0,0,0⟩=(171,bk):=by unfold dI.apply;rw[if_neg rO,if_neg (show ¬(3:Int)=1 from aM),if_neg (show ¬(3:Int)=5 from aM)];simp only[hno]
 exact U6
theorem RM(S:Nat→Prop)(b:Nat)(bk:dI)(w:World)(id:Int)(s:Nat)(h:fL S w b bk)(hb:bk.Ok)(fw:(⟨4,id,s,0,0⟩:Rec).ok=true)(pT:0≤id∧id<4294967296)(hno:bk.find id=none):
  Calls af 15 #[.pointer (some ⟨b,0,none⟩),.agg #[.int .i64 4,.int .u32 id,.int .i64 (s:Int),.int .i64 0,.int .i64 0]] w (nY S w b (bk.apply ⟨4,id,s,0,0⟩)):=by
 obtain⟨q,hq⟩:=h;have uk:=aa fw;have pg:=aa hb;have HQ:=aa hq;have i':=aa (show ∀ k,S k→k<w.heap.size from hq.bg.lt);have jz:=aa (show ∀ W,Calls af 68 #[.agg #[.int .i64 4,.int .u32 id,.int .i64 (s:Int),.int .i64 0,.int .i64 0]] W fun e w'=>e= .returned (.int .i64 0)∧Below W.heap.size W w' from fun W=>(fW ⟨4,id,s,0,0⟩ W yx).mono fun e w' h=>yt);obtain⟨w1,a8⟩:=ae (w.alloc (.cells #[.int .i64 4,.int .u32 id,.int .i64 (s:Int),.int .i64 0,.int .i64 0] 58));obtain⟨rb,jJ⟩:=ae w.heap.size;have bp:=aJ a8 jJ;have hb1:=aK a8;have r0:=bp.cl 0;have r1:=bp.cl 1;have r2:=bp.cl 2;have r3:=bp.cl 3;have r4:=bp.cl 4;have rA:=aa (cY b true w1 ((hq.bg.ak hb1).own.cell 3));have dF:=aa bp;have bA:=aa hb1;clear fw bp hb1 hq hb;go_enter Tryz.func15,Tryz.ntmps15;go_wp2_with fail;refine ag rA.o ?_;clear rA;go_wp2_with fail;refine(jz.o _).mono ?_;rintro e w3 ⟨rfl,hb3⟩;have dO:=dF.o.ah hb3;clear r0 r1 r2 r3 r4;have r0:=dO.cl 0;have r1:=dO.cl 1;have r2:=dO.cl 2;have r3:=dO.cl 3;have r4:=dO.cl 4;have dV:=bA.dQ hb3;have jy:=aa (HQ.o.ak (av bA.o hb3));have iu:=aa dO;clear hb3 dO jz dF;go_wp2_with fail;have hap:bk.apply ⟨4,id,s,0,0⟩=(171,bk):=by unfold dI.apply;rw[if_neg rO,if_neg (show ¬(4:Int)=1 from aM),if_neg (show ¬(4:Int)=5 from aM)];simp only[hno]
 exact U6
end Bk
end
section
namespace Bk
theorem Gs(S:Nat→Prop)(b:Nat)(bk:dI)(w:World)(x:bS)(h:fL S w b bk)(hb:bk.Ok)(fw:(⟨3,x.id,0,0,0⟩:Rec).ok=true)(pT:0≤x.id∧x.id<4294967296)(hx:x∈bk.L):
  Calls af 15 #[.pointer (some ⟨b,0,none⟩),.agg #[.int .i64 3,.int .u32 x.id,.int .i64 0,.int .i64 0,.int .i64 0]] w (nY S w b (bk.apply ⟨3,x.id,0,0,0⟩)):=by
 obtain⟨q,hq⟩:=h;have uk:=aa fw;have pg:=aa hb;have HQ:=aa hq;have i':=aa (show ∀ k,S k→k<w.heap.size from hq.bg.lt);have jz:=aa (show ∀ W,Calls af 68 #[.agg #[.int .i64 3,.int .u32 x.id,.int .i64 0,.int .i64 0,.int .i64 0]] W fun e w'=>e= .returned (.int .i64 0)∧Below W.heap.size W w' from fun W=>(fW ⟨3,x.id,0,0,0⟩ W yx).mono fun e w' h=>yt);obtain⟨w1,a8⟩:=ae (w.alloc (.cells #[.int .i64 3,.int .u32 x.id,.int .i64 0,.int .i64 0,.int .i64 0] 58));obtain⟨rb,jJ⟩:=ae w.heap.size;have bp:=aJ a8 jJ;have hb1:=aK a8;have r0:=bp.cl 0;have r1:=bp.cl 1;have r2:=bp.cl 2;have r3:=bp.cl 3;have r4:=bp.cl 4;have rA:=aa (cY b true w1 ((hq.bg.ak hb1).own.cell 3));have dF:=aa bp;have bA:=aa hb1;clear fw bp hb1 hq hb;go_enter Tryz.func15,Tryz.ntmps15;go_wp2_with fail;refine ag rA.o ?_;clear rA;go_wp2_with fail;refine(jz.o _).mono ?_;rintro e w3 ⟨rfl,hb3⟩;have dO:=dF.o.ah hb3;clear r0 r1 r2 r3 r4;have r0:=dO.cl 0;have r1:=dO.cl 1;have r2:=dO.cl 2;have r3:=dO.cl 3;have r4:=dO.cl 4;have dV:=bA.dQ hb3;have jy:=aa (HQ.o.ak (av bA.o hb3));have iu:=aa dO;clear hb3 dO jz dF;go_wp2_with fail;have hd:=np pg.o;have Gf:=aa (show bk.apply ⟨3,x.id,0,0,0⟩=(0,{bk with L:=without bk.L x.id})from by unfold dI.apply;rw[if_neg rO,if_neg (show ¬(3:Int)=1 from aM),if_neg (show ¬(3:Int)=5 from aM)];simp only[vV pg.o hx];rfl);have HX:=aa hx;have HD:=aa hd;have HG:=aa (Cj jy.o x hx pT);clear hx hd;refine HG.o.mono ?_;rintro e w4 ⟨rfl,wH,jK⟩;have xQ:aI S w w4:=(aI.aW dV.o).trans (jK.mono fun k _ hk=>NF);have Js:=jK.arr iu.o (fun e=>Lm);obtain⟨w5,jD⟩:=ae (w4.alloc (.cells #[.int .u32 x.id,.int .i64 (x.aw:Int),.int .i64 x.aR] 171));obtain⟨xb,yX⟩:=ae w4.heap.size;have dU:=aK jD;have gB:=aJ jD yX;have Jr:=Js.ah dU;have z0:=gB.cl 0;have z1:=gB.cl 1;have z2:=gB.cl 2;clear r0 r1 r2 r3 r4;have r0:=Jr.cl 0;have qF:=aa (show w.heap.size≤xb from KU);have eu:=aa (wH.ak dU);have pz:=aa (xQ.ak dU);have pj:=aa gB;have qG:=aa Jr;clear wH jK xQ dU gB Js Jr HG;have hk:=fun x hx=>(pg.o.ids x hx).2
 go_wp2_with fail;refine(OU S b _ _ _ _ _ bk.L x q w5 eu.o HD.o pg.o.alone hk HX.o).mono ?_;rintro e w6 ⟨⟨v6,rfl⟩,⟨q6,Wt,_⟩,pW⟩;have iL:=aa Wt;have vn:=aa (pz.o.trans pW);clear Wt pW hk r0 z0 z1 z2;go_wp2_with fail;go_ret;rw[Gf.o];exact⟨rfl,vn.o,fL.gr ⟨q6,iL.o⟩ i'.o vn.o.size⟩
theorem Di(S:Nat→Prop)(b:Nat)(bk:dI)(w:World)(x:bS)(h:fL S w b bk)(hb:bk.Ok)(fw:(⟨2,x.id,0,0,0⟩:Rec).ok=true)(pT:0≤x.id∧x.id<4294967296)(hx:x∈bk.L):
  Calls af 15 #[.pointer (some ⟨b,0,none⟩),.agg #[.int .i64 2,.int .u32 x.id,.int .i64 0,.int .i64 0,.int .i64 0]] w (nY S w b (bk.apply ⟨2,x.id,0,0,0⟩)):=by
 obtain⟨q,hq⟩:=h;have uk:=aa fw;have pg:=aa hb;have HQ:=aa hq;have i':=aa (show ∀ k,S k→k<w.heap.size from hq.bg.lt);have jz:=aa (show ∀ W,Calls af 68 #[.agg #[.int .i64 2,.int .u32 x.id,.int .i64 0,.int .i64 0,.int .i64 0]] W fun e w'=>e= .returned (.int .i64 0)∧Below W.heap.size W w' from fun W=>(fW ⟨2,x.id,0,0,0⟩ W yx).mono fun e w' h=>yt);obtain⟨w1,a8⟩:=ae (w.alloc (.cells #[.int .i64 2,.int .u32 x.id,.int .i64 0,.int .i64 0,.int .i64 0] 58));obtain⟨rb,jJ⟩:=ae w.heap.size;have bp:=aJ a8 jJ;have hb1:=aK a8;have r0:=bp.cl 0;have r1:=bp.cl 1;have r2:=bp.cl 2;have r3:=bp.cl 3;have r4:=bp.cl 4;have rA:=aa (cY b true w1 ((hq.bg.ak hb1).own.cell 3));have dF:=aa bp;have bA:=aa hb1;clear fw bp hb1 hq hb;go_enter Tryz.func15,Tryz.ntmps15;go_wp2_with fail;refine ag rA.o ?_;clear rA;go_wp2_with fail;refine(jz.o _).mono ?_;rintro e w3 ⟨rfl,hb3⟩;have dO:=dF.o.ah hb3;clear r0 r1 r2 r3 r4;have r0:=dO.cl 0;have r1:=dO.cl 1;have r2:=dO.cl 2;have r3:=dO.cl 3;have r4:=dO.cl 4;have dV:=bA.dQ hb3;have jy:=aa (HQ.o.ak (av bA.o hb3));have iu:=aa dO;clear hb3 dO jz dF;go_wp2_with fail;have hd:=np pg.o;have Gf:=aa (show bk.apply ⟨2,x.id,0,0,0⟩=(0,{bk with L:=mI bk.L x.id})from by unfold dI.apply;rw[if_neg rO,if_neg (show ¬(2:Int)=1 from aM),if_neg (show ¬(2:Int)=5 from aM)];simp only[vV pg.o hx];rfl);have HX:=aa hx;have HD:=aa hd;have HG:=aa (Cj jy.o x hx pT);clear hx hd;refine HG.o.mono ?_;rintro e w4 ⟨rfl,wH,jK⟩;have xQ:aI S w w4:=(aI.aW dV.o).trans (jK.mono fun k _ hk=>NF);have Js:=jK.arr iu.o (fun e=>Lm);obtain⟨w5,jD⟩:=ae (w4.alloc (.cells #[.int .u32 x.id,.int .i64 (x.aw:Int),.int .i64 x.aR] 171));obtain⟨xb,yX⟩:=ae w4.heap.size;have dU:=aK jD;have gB:=aJ jD yX;have Jr:=Js.ah dU;have z0:=gB.cl 0;have z1:=gB.cl 1;have z2:=gB.cl 2;clear r0 r1 r2 r3 r4;have r0:=Jr.cl 0;have qF:=aa (show w.heap.size≤xb from KU);have eu:=aa (wH.ak dU);have pz:=aa (xQ.ak dU);have pj:=aa gB;have qG:=aa Jr;clear wH jK xQ dU gB Js Jr HG;go_wp2_with fail;refine(OT S b _ _ _ _ _ bk.L.length bk.L x q w5 eu.o.bg eu.o.qo HD.o HX.o).mono ?_;rintro e w6 ⟨⟨v6,rfl⟩,⟨hl,hm,hf,φ,hc6,kr⟩,pW⟩;have zu:=HQ.o.cw x HX.o;have yG:=pW.arr pj.o (fun e=>by have:=i'.o _ e;have:=qF.o;omega);have x8:w6.cell? ⟨b,8,none⟩=some (.slice (some ⟨q.sg,0,none⟩) bk.n q.sc):=hc6.own.cell 8;have z1':=yG.cl 1;have Cz:jf (q.sb x.aw)= [.int .u32 x.id,.int .i64 (x.aw:Int),.int .i64 x.aR]:=by rw[zu.2];rfl
 have hrg:=hc6.gh.range (fun _=>rfl) (show x.aw<bk.n from zu.1);have y2:w6.drew.cell? ⟨q.sg,x.aw*3+2,none⟩=some (.int .i64 x.aR):=hrg 2 _ (show(jf (q.sb x.aw))[2]? =_ by rw[Cz];rfl);have m2:w6.drew.frozen? ⟨q.sg,x.aw*3+2,none⟩=false:=(hc6.gh.there (fun _=>rfl) (show x.aw<bk.n from zu.1) 2 aM).2;have QE:(x.aw:Int)<(bk.n:Int):=by have:=zu.1;omega
 have hx0:(0:Int)≤(x.aw:Int):=ai;have sZ:(bk.n:Int)≤1024:=by have:=pg.o.n;omega
 have HC6:=aa hc6;have J9:=aa kr;have vn:=aa (pz.o.trans pW);have HXL:=aa zu;have hr0:w6.cell? ⟨rb,0,none⟩=some (.int .i64 2):=(pW.arr qG.o (fun e=>by have:=i'.o _ e;omega)).cell 0;clear hc6 kr pW yG Cz hrg zu r0 z0 z1 z2;go_wp2_with fail;go_still_tail 8,bh;change wpList _ _ _ _ _ w6.drew;go_wp2_with fail;go_ret;rw[Gf.o];obtain⟨w7,wE⟩:=ae (w6.drew.setCell ⟨q.sg,x.aw*3+2,none⟩ (.int .i64 0));have wF:=HC6.o.ak (az (ar _ _));have hr7:=wF.gh.aic (fun _=>rfl) HXL.o.1 (show 2<3 from aM) (.int .i64 0);have he:((jf (q.sb x.aw)).set 2 (.int .i64 0))=jf ⟨x.id,x.aw,0⟩:=by rw[HXL.o.2];rfl
 have akd:aP S w7 171 3 (.slice (some ⟨q.sg,0,none⟩) bk.n q.sc) bk.n (fun i=>jf (cK q.sb x.aw ⟨x.id,x.aw,0⟩ i)):=by rw[←rU,←he,←wE];exact hr7
 have Jo:aI (· =q.sg) w6.drew w7:=by rw[←wE];exact(aI.refl (fun k=>k=q.sg) w6.drew).put (p:=⟨q.sg,x.aw*3+2,none⟩) (.inl rfl) _
 have hc7:=wF.nB Jo akd;have hT7:aI S w w7:=(vn.o.ak (az (ar _ _))).trans (Jo.mono fun k _ hk=>by subst hk;exact HQ.o.bg.gh.block _ rfl);rw[←Mq bk.L x.id] at hc7;have hk:=fun x hx=>(pg.o.ids x hx).2
 have V5:=HQ.o.free hk;have hto: ∀ y∈bk.L,y.id=x.id→y=x:=fun y hy e=>nG HD.o hy HX.o e
 have hn4:=HQ.o.small.2.2.2;have hgf:=J9.o.mI HQ.o.qo.ids;obtain⟨q9,h9⟩: ∃ q9,bo S w7 b bk.n bk.au bk.aA bk.next bk.aq (mI bk.L x.id) q9:=by
  refine⟨_,bo.make hc7 ?_ ?_ ?_ ?_ hn4 ⟨hgf.len,hgf.cnt,hgf.held,hgf.items,hgf.free,hgf.ord,hgf.ids⟩⟩
  ·intro j hj;show hasB q.ws j=true↔_
   rw[HQ.o.bits j hj];constructor
   ·rintro⟨y,hy,rfl⟩;exact⟨_,gQ.2 ⟨y,hy,rfl⟩,by split <;>rfl⟩
   rintro⟨z,hz,rfl⟩;obtain⟨y,hy,rfl⟩:=gQ.1 hz;exact⟨y,hy,by split <;>rfl⟩
  ·intro z hz;show z.aw<bk.n∧cK q.sb x.aw ⟨x.id,x.aw,0⟩ z.aw=z
   obtain⟨y,hy,rfl⟩:=gQ.1 hz;by_cases e:y.id=x.id
   ·rw[if_pos e,hto y hy e];exact⟨HXL.o.1,bL _ _ _⟩
   rw[if_neg e,bn _ _ (fun e2=>e (by rw[pP pg.o.alone hy HX.o e2]))];exact HQ.o.cw y hy
  ·intro a v;show km.jH q.f q.m a v↔_
   rw[HQ.o.tbl];constructor
   ·rintro⟨y,hy,rfl,rfl⟩;exact⟨_,gQ.2 ⟨y,hy,rfl⟩,by split <;>rfl,by split <;>rfl⟩
   rintro⟨z,hz,rfl,rfl⟩;obtain⟨y,hy,rfl⟩:=gQ.1 hz;exact⟨y,hy,by split <;>rfl,by split <;>rfl⟩
  exact⟨by show q.hn≤bk.next;omega,fun e=>absurd (show q.hn=bk.next from e) ai⟩
 have hww:(w6.setCell ⟨q.sg,x.aw*3+2,none⟩ (.int .i64 0)).drew=w7:=wE;first|rw[hww]|rw[wE]
 exact⟨rfl,hT7,fL.gr ⟨q9,h9⟩ i'.o hT7.size⟩
theorem vE(bk:dI)(x:bS)(s:Nat): (if(bk.n:Int)≤(s:Int)then((140,bk):Int × dI)else if(x.aw:Int)=(s:Int)then(0,bk)else if(bk.on (s:Int)).isSome=true then(170,bk)else(0,{bk with L:=bk.L.map fun y=>if y.id=x.id then {y with aw:=(s:Int).toNat}else y}))=(fg bk.n bk.L x s,if fg bk.n bk.L x s=0∧s≠x.aw then {bk with L:=qW bk.L x.id s}else bk):=by
 have e1:((bk.n:Int)≤(s:Int))=(bk.n≤s):=propext Int.ofNat_le;have e2:((x.aw:Int)=(s:Int))=(s=x.aw):=propext ⟨fun h=>(Int.ofNat.inj h).symm,fun h=>by rw[h]⟩;unfold fg qW;simp only[Fu,Int.toNat_natCast,e1,e2];by_cases c1:bk.n≤s
 ·simp[c1]
 by_cases c2:s=x.aw
 ·have c1': ¬bk.n≤x.aw:=c2▸c1;simp[c2,c1']
 by_cases c3:Qn bk.L s=true
 ·simp[c1,c2,c3]
 simp[c1,c2,c3]
theorem Gq(S:Nat→Prop)(b:Nat)(bk:dI)(w:World)(x:bS)(s:Nat)(h:fL S w b bk)(hb:bk.Ok)(fw:(⟨4,x.id,s,0,0⟩:Rec).ok=true)(pT:0≤x.id∧x.id<4294967296)(hx:x∈bk.L)(hs:s≤1023):
  Calls af 15 #[.pointer (some ⟨b,0,none⟩),.agg #[.int .i64 4,.int .u32 x.id,.int .i64 (s:Int),.int .i64 0,.int .i64 0]] w (nY S w b (bk.apply ⟨4,x.id,s,0,0⟩)):=by
 obtain⟨q,hq⟩:=h;have uk:=aa fw;have pg:=aa hb;have HQ:=aa hq;have i':=aa (show ∀ k,S k→k<w.heap.size from hq.bg.lt);have jz:=aa (show ∀ W,Calls af 68 #[.agg #[.int .i64 4,.int .u32 x.id,.int .i64 (s:Int),.int .i64 0,.int .i64 0]] W fun e w'=>e= .returned (.int .i64 0)∧Below W.heap.size W w' from fun W=>(fW ⟨4,x.id,s,0,0⟩ W yx).mono fun e w' h=>yt);obtain⟨w1,a8⟩:=ae (w.alloc (.cells #[.int .i64 4,.int .u32 x.id,.int .i64 (s:Int),.int .i64 0,.int .i64 0] 58));obtain⟨rb,jJ⟩:=ae w.heap.size;have bp:=aJ a8 jJ;have hb1:=aK a8;have r0:=bp.cl 0;have r1:=bp.cl 1;have r2:=bp.cl 2;have r3:=bp.cl 3;have r4:=bp.cl 4;have rA:=aa (cY b true w1 ((hq.bg.ak hb1).own.cell 3));have dF:=aa bp;have bA:=aa hb1;clear fw bp hb1 hq hb;go_enter Tryz.func15,Tryz.ntmps15;go_wp2_with fail;refine ag rA.o ?_;clear rA;go_wp2_with fail;refine(jz.o _).mono ?_;rintro e w3 ⟨rfl,hb3⟩;have dO:=dF.o.ah hb3;clear r0 r1 r2 r3 r4;have r0:=dO.cl 0;have r1:=dO.cl 1;have r2:=dO.cl 2;have r3:=dO.cl 3;have r4:=dO.cl 4;have dV:=bA.dQ hb3;have jy:=aa (HQ.o.ak (av bA.o hb3));have iu:=aa dO;clear hb3 dO jz dF;go_wp2_with fail;have hd:=np pg.o;have Gf:=aa (show bk.apply ⟨4,x.id,s,0,0⟩=(fg bk.n bk.L x s,if fg bk.n bk.L x s=0∧s≠x.aw then {bk with L:=qW bk.L x.id s}else bk)from by unfold dI.apply;rw[if_neg rO,if_neg (show ¬(4:Int)=1 from aM),if_neg (show ¬(4:Int)=5 from aM)];simp only[vV pg.o hx];exact vE bk x s);have HX:=aa hx;have HD:=aa hd;have HG:=aa (Cj jy.o x hx pT);clear hx hd;refine HG.o.mono ?_;rintro e w4 ⟨rfl,wH,jK⟩;have xQ:aI S w w4:=(aI.aW dV.o).trans (jK.mono fun k _ hk=>NF);have Js:=jK.arr iu.o (fun e=>Lm);obtain⟨w5,jD⟩:=ae (w4.alloc (.cells #[.int .u32 x.id,.int .i64 (x.aw:Int),.int .i64 x.aR] 171));obtain⟨xb,yX⟩:=ae w4.heap.size;have dU:=aK jD;have gB:=aJ jD yX;have Jr:=Js.ah dU;have z0:=gB.cl 0;have z1:=gB.cl 1;have z2:=gB.cl 2;clear r0 r1 r2 r3 r4;have r0:=Jr.cl 0;have qF:=aa (show w.heap.size≤xb from KU);have eu:=aa (wH.ak dU);have pz:=aa (xQ.ak dU);have pj:=aa gB;have qG:=aa Jr;clear wH jK xQ dU gB Js Jr HG;have hk:=fun x hx=>(pg.o.ids x hx).2
 have r2:=qG.o.cl 2;go_wp2_with fail;refine(Qi S b _ _ _ _ _ bk.L x q w5 s eu.o HD.o pg.o.alone hk HX.o hs).mono ?_;rintro e w6 ⟨rfl,pW,q6,Wt⟩;have iL:=aa Wt;have vn:=aa (pz.o.trans pW);clear Wt pW hk r0 r2 z0 z1 z2;go_wp2_with fail;go_ret;rw[Gf.o];refine⟨rfl,vn.o,?_⟩;have h6:=iL.o;by_cases hr:fg bk.n bk.L x s=0
 ·rw[if_pos hr] at h6;by_cases hsx:s=x.aw
  ·simp only[hsx,ne_eq,not_true_eq_false,and_false,if_false];rw[hsx,Ba HD.o HX.o] at h6;exact fL.gr ⟨q6,h6⟩ i'.o vn.o.size
  simp only[hr,hsx,ne_eq,not_false_eq_true,and_self,if_true];exact fL.gr ⟨q6,h6⟩ i'.o vn.o.size
 ·rw[if_neg hr] at h6;simp only[hr,false_and,if_false];exact fL.gr ⟨q6,h6⟩ i'.o vn.o.size
end Bk
end
section
namespace Bk
theorem sU{r:Rec}(h:r.ok=true):
  (∃ (id:Int) (s:Nat) (t:Int),r=⟨1,id,s,t,0⟩∧1≤id∧id≤4294967295∧s≤1023∧1≤t∧t≤1099511627776)∨(∃ id:Int,r=⟨2,id,0,0,0⟩∧1≤id∧id≤4294967295)∨(∃ id:Int,r=⟨3,id,0,0,0⟩∧1≤id∧id≤4294967295)
  ∨(∃ (id:Int) (s:Nat),r=⟨4,id,s,0,0⟩∧1≤id∧id≤4294967295∧s≤1023)∨(∃ c:Int,r=⟨5,0,0,0,c⟩∧1≤c∧c≤1099511627776):=by
 obtain⟨k,id,aw,aR,aq⟩:=r;unfold Rec.ok at h;simp only[Bool.and_eq_true] at h;obtain⟨⟨⟨⟨h0,h1⟩,h2⟩,h3⟩,h4⟩:=h;have hk:k=1∨k=2∨k=3∨k=4∨k=5:=by simp only[recKind,Bool.and_eq_true,decide_eq_true_eq] at h0;omega
 rcases hk with rfl|rfl|rfl|rfl|rfl
 all_goals simp[dN,within] at h1 h2 h3 h4
 ·exact .inl ⟨id,aw.toNat,aR,by rw[Int.toNat_of_nonneg h2.1,h4],h1.1,h1.2,ai,h3.1,h3.2⟩
 ·exact .inr (.inl ⟨id,by rw[h2,h3,h4],h1.1,h1.2⟩)
 ·exact .inr (.inr (.inl ⟨id,by rw[h2,h3,h4],h1.1,h1.2⟩))
 ·exact .inr (.inr (.inr (.inl ⟨id,aw.toNat,by rw[Int.toNat_of_nonneg h2.1,h3,h4],h1.1,h1.2,ai⟩)))
 ·exact .inr (.inr (.inr (.inr ⟨aq,by rw[h1,h2,h3],h4.1,h4.2⟩)))
theorem ie{bk:dI}{id:Int}{x:bS}(h:bk.find id=some x): x∈bk.L∧x.id=id:=
 ⟨wA h,by simpa using List.find?_some h⟩
theorem Kg(S:Nat→Prop)(b:Nat)(bk:dI)(w:World)(r:Rec)(h:fL S w b bk)(hb:bk.Ok)(fw:r.ok=true):
  Calls af 15 #[.pointer (some ⟨b,0,none⟩),.agg (fA r)] w (nY S w b (bk.apply r)):=by
 rcases sU fw with⟨id,s,t,rfl,h1,h2,h3,h4,h5⟩|⟨id,rfl,h1,h2⟩|⟨id,rfl,h1,h2⟩|⟨id,s,rfl,h1,h2,h3⟩|⟨c,rfl,h1,h2⟩
 ·exact Ni S b bk w id s t 0 h hb fw ai h3 h5
 ·cases hf:bk.find id with
  | none=>exact RO S b bk w id h hb fw ai hf
  | some x=>
   obtain⟨hx,rfl⟩:=ie hf;exact Di S b bk w x h hb fw ai hx
 ·cases hf:bk.find id with
  | none=>exact RN S b bk w id h hb fw ai hf
  | some x=>
   obtain⟨hx,rfl⟩:=ie hf;exact Gs S b bk w x h hb fw ai hx
 ·cases hf:bk.find id with
  | none=>exact RM S b bk w id s h hb fw ai hf
  | some x=>
   obtain⟨hx,rfl⟩:=ie hf;exact Gq S b bk w x s h hb fw ai hx h3
 ·exact Nh S b bk w c h hb fw
theorem Od{bk:dI}(h:bk.Ok){M:List bS}(hs:M.Sublist bk.L){ug:Int}(hc:0≤ug∧ug≤1099511627776)(ht: ∀ x∈M,x.aR=0∨ug<x.aR): ({bk with L:=M,aq:=ug}:dI).Ok:=
 ⟨h.n,h.au,h.aA,h.next,hc,Nat.le_trans hs.length_le h.len,h.Uj.sublist hs,fun x hx=>h.ids x (hs.subset hx),fun x hx=>h.gh x (hs.subset hx),h.alone.sublist hs,fun x hx=>by
  rcases ht x hx with e|e
  ·exact .inl e
  have:=h.aR x (hs.subset hx);exact .inr ⟨e,ai⟩⟩
theorem UA{bk:dI}(h:bk.Ok)(g:bS→bS)(h1: ∀ y∈bk.L,(g y).id=y.id)(h2: ∀ y∈bk.L,(g y).aw<bk.n)(h3:(bk.L.map g).Pairwise fun x y=>x.aw≠y.aw)(h4: ∀ y∈bk.L,(g y).aR=0∨(g y).aR=y.aR): ({bk with L:=bk.L.map g}:dI).Ok:=by
 refine⟨h.n,h.au,h.aA,h.next,h.aq,by simpa using h.len,?_,fun z hz=>?_,fun z hz=>?_,h3,fun z hz=>?_⟩
 ·rw[GF];exact h.Uj.imp_of_mem fun ha hb hab=>by rw[h1 _ ha,h1 _ hb];exact hab
 ·obtain⟨y,hy,rfl⟩:=nd.1 hz;rw[h1 y hy];exact h.ids y hy
 ·obtain⟨y,hy,rfl⟩:=nd.1 hz;exact h2 y hy
 obtain⟨y,hy,rfl⟩:=nd.1 hz;rcases h4 y hy with e|e
 ·exact .inl e
 rw[e];exact h.aR y hy
theorem B2{bk:dI}(h:bk.Ok){r:Rec}(fw:r.ok=true): (bk.apply r).2.Ok:=by
 rcases sU fw with⟨id,s,t,rfl,h1,h2,h3,h4,h5⟩|⟨id,rfl,h1,h2⟩|⟨id,rfl,h1,h2⟩|⟨id,s,rfl,h1,h2,h3⟩|⟨c,rfl,h1,h2⟩
 ·have hap:bk.apply ⟨1,id,s,t,0⟩=bk.hold ⟨1,id,s,t,0⟩:=by unfold dI.apply;rw[if_neg wV,if_pos rfl]
  rw[hap,Bn];by_cases hr:mf bk.n bk.au bk.next bk.aq bk.L id s t=0
  ·simp only[hr,if_true];unfold mf at hr;by_cases c1:id=bk.next
   ·by_cases c2:bk.n≤s
    ·simp[c1,c2] at hr
    by_cases c3:t≤bk.aq
    ·simp[c1,c2,c3] at hr
    by_cases c4:Qn bk.L s=true
    ·simp[c1,c2,c3,c4] at hr
    by_cases c5:bk.au≤bk.L.length
    ·simp[c1,c2,c3,c4,c5] at hr
    by_cases c6:bk.next=4294967295
    ·simp[c1,c2,c3,c4,c5,c6] at hr
    have hn:=h.next;refine⟨h.n,h.au,h.aA,by show 1≤bk.next+1∧bk.next+1<4294967296;omega,h.aq,by show(bk.L++ [_]).length≤bk.au;rw[List.length_append];show bk.L.length+1≤_;omega,?_,fun x hx=>?_,fun x hx=>?_,?_,fun x hx=>?_⟩
    ·show(bk.L++ [_]).Pairwise _
     rw[wD];refine⟨h.Uj,PG _ _,fun x hx y hy=>?_⟩;obtain rfl:y=⟨id,s,t⟩:=oX;have:=(h.ids x hx).2;show x.id<id
     omega
    ·rcases kR.1 hx with hx|hx
     ·have:=h.ids x hx;show 1≤x.id∧x.id<bk.next+1
      omega
     obtain rfl:x=⟨id,s,t⟩:=by simpa using hx
     show 1≤id∧id<bk.next+1
     omega
    ·rcases kR.1 hx with hx|hx
     ·exact h.gh x hx
     obtain rfl:x=⟨id,s,t⟩:=by simpa using hx
     show s<bk.n
     omega
    ·show(bk.L++ [_]).Pairwise _
     rw[wD];refine⟨h.alone,PG _ _,fun x hx y hy=>?_⟩;obtain rfl:y=⟨id,s,t⟩:=oX;exact fun e=>c4 (vH.2 ⟨x,hx,e⟩)
    rcases kR.1 hx with hx|hx
    ·exact h.aR x hx
    obtain rfl:x=⟨id,s,t⟩:=by simpa using hx
    exact .inr ⟨by show bk.aq<t;omega,h5⟩
   simp[c1] at hr
  simp only[if_neg hr];exact h
 ·have hap:bk.apply ⟨2,id,0,0,0⟩=match bk.find id with|none=>(171,bk)|some x=>(0,{bk with L:=mI bk.L id}):=by unfold dI.apply;rw[if_neg wV,if_neg (show ¬(2:Int)=1 from aM),if_neg (show ¬(2:Int)=5 from aM)];rfl
  rw[hap];cases bk.find id with
  | none=>exact h
  | some x=>
   refine UA h _ (fun y _=>by split <;>rfl) (fun y hy=>by split <;>exact h.gh y hy) ?_ (fun y _=>by split;exact .inl rfl;exact .inr rfl);rw[GF];exact h.alone.imp fun hab=>by split <;>split <;>exact hab
 ·have hap:bk.apply ⟨3,id,0,0,0⟩=match bk.find id with|none=>(171,bk)|some x=>(0,{bk with L:=without bk.L id}):=by unfold dI.apply;rw[if_neg wV,if_neg (show ¬(3:Int)=1 from aM),if_neg (show ¬(3:Int)=5 from aM)];rfl
  rw[hap];cases bk.find id with
  | none=>exact h
  | some x=>exact Od h (yo _ _) h.aq (fun y hy=>by have:=h.aR y (cH.1 hy).1;omega)
 ·cases hf:bk.find id with
  | none=>
   have hap:bk.apply ⟨4,id,s,0,0⟩=(171,bk):=by unfold dI.apply;rw[if_neg wV,if_neg (show ¬(4:Int)=1 from aM),if_neg (show ¬(4:Int)=5 from aM)];simp only[hf]
   rw[hap];exact h
  | some x=>
   obtain⟨hx,rfl⟩:=ie hf;have hap:bk.apply ⟨4,x.id,s,0,0⟩=(fg bk.n bk.L x s,if fg bk.n bk.L x s=0∧s≠x.aw then {bk with L:=qW bk.L x.id s}else bk):=by unfold dI.apply;rw[if_neg wV,if_neg (show ¬(4:Int)=1 from aM),if_neg (show ¬(4:Int)=5 from aM)];simp only[vV h hx];exact vE bk x s
   rw[hap];by_cases hr:fg bk.n bk.L x s=0∧s≠x.aw
   ·simp only[if_pos hr];obtain⟨hr,hsx⟩:=hr;unfold fg at hr;by_cases c1:bk.n≤s
    ·simp[c1] at hr
    by_cases c3:Qn bk.L s=true
    ·simp[c1,hsx,c3] at hr
    have hd:=np h;have hno: ∀ y∈bk.L,y.aw≠s:=fun y hy e=>c3 (vH.2 ⟨y,hy,e⟩)
    refine UA h _ (fun y _=>by split <;>rfl) (fun y hy=>by split;(show s<bk.n;omega);exact h.gh y hy) ?_ (fun y _=>by split <;>exact .inr rfl);rw[GF];refine(h.alone.and hd).imp_of_mem fun {a c} ha hc hab=>?_
    by_cases e1:a.id=x.id <;>by_cases e2:c.id=x.id
    ·exact absurd (e1.trans e2.symm) hab.2
    ·rw[if_pos e1,if_neg e2];exact fun e=>hno c hc e.symm
    ·rw[if_neg e1,if_pos e2];exact hno a ha
    rw[if_neg e1,if_neg e2];exact hab.1
   simp only[if_neg hr];exact h
 have hap:bk.apply ⟨5,0,0,0,c⟩=bk.tick c:=by unfold dI.apply;rw[if_neg wV,if_neg (show ¬(5:Int)=1 from aM),if_pos rfl]
 rw[hap];unfold dI.tick;by_cases hc:c≤bk.aq
 ·rw[if_pos hc];exact h
 rw[if_neg hc];refine Od h List.filter_sublist ⟨ai,h2⟩ (fun x hx=>?_);have:=(List.mem_filter.1 hx).2;simpa using this
