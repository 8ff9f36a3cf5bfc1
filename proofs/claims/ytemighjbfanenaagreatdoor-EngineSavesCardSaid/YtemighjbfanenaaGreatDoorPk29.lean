import Derived.Test.YtemighjbfanenaaGreatDoorPk28
import Derived.Test.YtemighjbfanenaaGreatDoorPk25
set_option linter.all false
set_option maxRecDepth 100000
set_option maxHeartbeats 16000000
namespace Go.Proofs.YtemighjbfanenaaGreatDoor
open RowKit
open En (dK fU PE Rec dL recKind fA within)
open yy (hasB)
open Go.Proofs.Tryz renaming prog→af
open List renaming mem_of_find?_eq_some→wK,mem_append→kQ,pairwise_singleton→PS,pairwise_map→G1,mem_map→nk,pairwise_append→wO
open RowKit.Below renaming refl→au
theorem Vf{p:Prop}(h:p:=by
 have Nq:=aa hap;have HG:=aa (YC jx.o id (Em hno) pT);clear hap hno;refine HG.o.mono ?_;rintro e w4 ⟨rfl,wS,jJ⟩;have gH:=aa wS;have nX:=aa (show aI S w w4 from(aI.aU dV.o).trans (jJ.mono fun k _ hk=>NW));have dX:=ax (au w4.heap.size w4) (.cells #[.int .u32 0,.int .i64 0,.int .i64 0] 171);have eA:=aa (wS.ak dX);have px:=aa (nX.o.ak dX);clear wS jJ dX r0 r1 r2 r3 r4 gH nX;go_wp2_with fail;go_ret;rw[Nq.o];exact⟨rfl,px.o,fK.gr ⟨q,eA.o⟩ iY.o px.o.size⟩):p:=h
theorem yL{p:Prop}(h:p:=by first|exact pT|exact⟨(by decide:(0:Int)≤0),(by decide:(0:Int)<4294967296)⟩):p:=h
theorem yI{p:Prop}(h:p:=by unfold PE at h;rw[fq] at h;exact h):p:=h
theorem NW{p:Prop}(h:p:=by subst hk;exact HQ.o.bf.bA.2.2.2.1):p:=h
theorem rP{p:Prop}(h:p:=by rw[ur.o];decide):p:=h
theorem LH{p:Prop}(h:p:=by have:=iY.o _ HQ.o.bf.bA.2.2.2.1;omega):p:=h
theorem xk{p:Prop}(h:p:=by rw[fq];decide):p:=h
theorem Lb{p:Prop}(h:p:=by rw[←zm];exact yb.size):p:=h
section
namespace Bk
theorem bm.wide{S T:Nat→Prop}{w:World}{b n ar:Nat}{aA next aq:Int}{L:List bS}{q:bH}(h:bm S w b n ar aA next aq L q)(p9: ∀ k,S k→T k)(hT: ∀ k,T k→k<w.heap.size): bm T w b n ar aA next aq L q:=
 ⟨h.bf.mono p9 hT,h.bits,h.cQ,h.under,h.listed,h.small,h.qy⟩
def fK(S:Nat→Prop)(w:World)(b:Nat)(bk:dK): Prop:=∃ q,bm S w b bk.n bk.ar bk.aA bk.next bk.aq bk.L q
theorem fK.gr{S:Nat→Prop}{w w':World}{b:Nat}{bk:dK}(h:fK S w' b bk)(hl: ∀ k,S k→k<w.heap.size)(hz:w.heap.size≤w'.heap.size): fK (Gr S w w') w' b bk:=by
 obtain⟨q,hq⟩:=h;exact⟨q,hq.wide (fun k hk=>.inl hk) (fun k hk=>by rcases hk with h|h;exact Nat.lt_of_lt_of_le (hl k h) hz;exact h.2)⟩
def n9(S:Nat→Prop)(w:World)(b:Nat)(r:Int × dK)(e:Ending)(w':World): Prop:=e= .returned (.int .i64 r.1)∧aI S w w'∧fK (Gr S w w') w' b r.2
theorem nz{bk:dK}(h:bk.Ok): bk.L.Pairwise fun x y=>x.id≠y.id:=h.Uw.imp fun hh=>Int.ne_of_lt hh
theorem FM(bk:dK)(s:Nat): (bk.on (s:Int)).isSome=Qz bk.L s:=by
 unfold dK.on Qz;rw[Bool.eq_iff_iff,List.find?_isSome,List.any_eq_true];constructor
 ·rintro⟨x,hx,h⟩;exact⟨x,hx,decide_eq_true (Int.ofNat.inj (of_decide_eq_true h))⟩
 rintro⟨x,hx,h⟩;exact⟨x,hx,decide_eq_true (by rw[of_decide_eq_true h])⟩
theorem BN(bk:dK)(id:Int)(s:Nat)(t c:Int): bk.hold ⟨1,id,s,t,c⟩=(lY bk.n bk.ar bk.next bk.aq bk.L id s t,if lY bk.n bk.ar bk.next bk.aq bk.L id s t=0 then {bk with L:=bk.L++ [⟨id,s,t⟩],next:=bk.next+1}else bk):=by
 have e1:((bk.n:Int)≤(s:Int))=(bk.n≤s):=propext Int.ofNat_le;unfold dK.hold lY;simp only[FM,Int.toNat_natCast,e1];by_cases c1:id=bk.next
 ·by_cases c2:bk.n≤s
  ·simp[c1,c2]
  by_cases c3:t≤bk.aq
  ·simp[c1,c2,c3]
  by_cases c4:Qz bk.L s=true
  ·simp[c1,c2,c3,c4]
  by_cases c5:bk.ar≤bk.L.length
  ·simp[c1,c2,c3,c4,c5]
  by_cases c6:bk.next=4294967295
  ·simp[c1,c2,c3,c4,c5,c6]
  simp[c1,c2,c3,c4,c5,c6]
 simp[c1]
theorem NA(S:Nat→Prop)(b:Nat)(bk:dK)(w:World)(id:Int)(s:Nat)(t c:Int)(h:fK S w b bk)(hb:bk.Ok)(fq:(⟨1,id,s,t,c⟩:Rec).ok=true)(pT:0≤id∧id<4294967296)(hs:s≤1023)(ht:t≤1099511627776):
  Calls af 15 #[.pointer (some ⟨b,0,none⟩),.agg #[.int .i64 1,.int .u32 id,.int .i64 (s:Int),.int .i64 t,.int .i64 c]] w (n9 S w b (bk.apply ⟨1,id,s,t,c⟩)):=by
 obtain⟨q,hq⟩:=h;have ur:=aa fq;have oo:=aa hb;have HQ:=aa hq;have iY:=aa (show ∀ k,S k→k<w.heap.size from hq.bf.lt);have jy:=aa (show ∀ W,Calls af 68 #[.agg #[.int .i64 1,.int .u32 id,.int .i64 (s:Int),.int .i64 t,.int .i64 c]] W fun e w'=>e= .returned (.int .i64 0)∧Below W.heap.size W w' from fun W=>(fU ⟨1,id,s,t,c⟩ W yL).mono fun e w' h=>yI);obtain⟨w1,aZ⟩:=ae (w.alloc (.cells #[.int .i64 1,.int .u32 id,.int .i64 (s:Int),.int .i64 t,.int .i64 c] 58));obtain⟨rb,jI⟩:=ae w.heap.size;have bt:=aK aZ jI;have hb1:=aL aZ;have r0:=bt.cl 0;have r1:=bt.cl 1;have r2:=bt.cl 2;have r3:=bt.cl 3;have r4:=bt.cl 4;have rF:=aa (cV b true w1 ((hq.bf.ak hb1).own.cell 3));have dz:=aa bt;have bz:=aa hb1;clear fq bt hb1 hq hb;go_enter Tryz.func15,Tryz.ntmps15;go_wp2_with fail;refine ag rF.o ?_;clear rF;go_wp2_with fail;refine(jy.o _).mono ?_;rintro e w3 ⟨rfl,hb3⟩;have dN:=dz.o.ai hb3;clear r0 r1 r2 r3 r4;have r0:=dN.cl 0;have r1:=dN.cl 1;have r2:=dN.cl 2;have r3:=dN.cl 3;have r4:=dN.cl 4;have dV:=bz.dP hb3;have jx:=aa (HQ.o.ak (av bz.o hb3));have gM:=aa dN;clear hb3 dN jy dz;go_wp2_with fail;have hk:=fun x hx=>(oo.o.ids x hx).2
 have D5:=oo.o.next;have hck:=oo.o.aq;refine(aah S b _ _ _ _ _ _ q w3 1 id s t c jx.o hk aj hck.1 pT hs ht).mono ?_;rintro e w4 ⟨rfl,jJ,wS⟩;have nX:=aa jJ;have gH:=aa wS;clear jJ wS r0 r1 r2 r3 r4 hk D5 hck;go_wp2_with fail;go_ret;have hap:bk.apply ⟨1,id,s,t,c⟩=bk.hold ⟨1,id,s,t,c⟩:=by unfold dK.apply;rw[if_neg rP,if_pos rfl]
 rw[hap,BN];have hT:=(aI.aU dV.o).trans nX.o;refine⟨rfl,hT,?_⟩;have h4:=gH.o;by_cases hr:lY bk.n bk.ar bk.next bk.aq bk.L id s t=0
 ·rw[if_pos hr] at h4;simp only[hr,if_true];obtain⟨q4,h4⟩:=h4;refine⟨q4,h4.wide (fun k hk=>?_) (fun k hk=>by rcases hk with h|h;exact Nat.lt_of_lt_of_le (iY.o k h) hT.size;exact h.2)⟩;rcases hk.1 with h|h
  ·exact .inl h
  exact .inr ⟨Nat.le_trans dV.o.size h,hk.2⟩
 ·rw[if_neg hr] at h4;simp only[if_neg hr];exact fK.gr ⟨q,h4⟩ iY.o hT.size
theorem Nz(S:Nat→Prop)(b:Nat)(bk:dK)(w:World)(c:Int)(h:fK S w b bk)(hb:bk.Ok)(fq:(⟨5,0,0,0,c⟩:Rec).ok=true):
  Calls af 15 #[.pointer (some ⟨b,0,none⟩),.agg #[.int .i64 5,.int .u32 0,.int .i64 0,.int .i64 0,.int .i64 c]] w (n9 S w b (bk.apply ⟨5,0,0,0,c⟩)):=by
 obtain⟨q,hq⟩:=h;have ur:=aa fq;have oo:=aa hb;have HQ:=aa hq;have iY:=aa (show ∀ k,S k→k<w.heap.size from hq.bf.lt);have jy:=aa (show ∀ W,Calls af 68 #[.agg #[.int .i64 5,.int .u32 0,.int .i64 0,.int .i64 0,.int .i64 c]] W fun e w'=>e= .returned (.int .i64 0)∧Below W.heap.size W w' from fun W=>(fU ⟨5,0,0,0,c⟩ W yL).mono fun e w' h=>yI);obtain⟨w1,aZ⟩:=ae (w.alloc (.cells #[.int .i64 5,.int .u32 0,.int .i64 0,.int .i64 0,.int .i64 c] 58));obtain⟨rb,jI⟩:=ae w.heap.size;have bt:=aK aZ jI;have hb1:=aL aZ;have r0:=bt.cl 0;have r1:=bt.cl 1;have r2:=bt.cl 2;have r3:=bt.cl 3;have r4:=bt.cl 4;have rF:=aa (cV b true w1 ((hq.bf.ak hb1).own.cell 3));have dz:=aa bt;have bz:=aa hb1;clear fq bt hb1 hq hb;go_enter Tryz.func15,Tryz.ntmps15;go_wp2_with fail;refine ag rF.o ?_;clear rF;go_wp2_with fail;refine(jy.o _).mono ?_;rintro e w3 ⟨rfl,hb3⟩;have dN:=dz.o.ai hb3;clear r0 r1 r2 r3 r4;have r0:=dN.cl 0;have r1:=dN.cl 1;have r2:=dN.cl 2;have r3:=dN.cl 3;have r4:=dN.cl 4;have dV:=bz.dP hb3;have jx:=aa (HQ.o.ak (av bz.o hb3));have gM:=aa dN;clear hb3 dN jy dz;go_wp2_with fail;have hd:=nz oo.o;have hk:=fun x hx=>(oo.o.ids x hx).2
 have h0: ∀ x∈bk.L,0≤x.aS:=fun x hx=>by have:=oo.o.aS x hx;have:=oo.o.aq;omega
 have hap:bk.apply ⟨5,0,0,0,c⟩=bk.tick c:=by unfold dK.apply;rw[if_neg rP,if_neg (show ¬(5:Int)=1 from aN),if_pos rfl]
 have Nq:=aa hap;by_cases hc:c≤bk.aq
 ·have HP:=aa (Qi jx.o.bf c hc);have HC:=aa hc;clear hd hk h0 hc hap;refine ag HP.o ?_;clear r0 r1 r2 r3 r4;go_wp2_with fail;go_ret;rw[Nq.o];unfold dK.tick;rw[if_pos HC.o];exact⟨rfl,aI.aU dV.o,fK.gr ⟨q,jx.o⟩ iY.o dV.o.size⟩
 ·have HC:=aa hc;have HP:=aa (ZG S b _ _ _ _ _ c _ q w3 jx.o hd oo.o.alone hk h0 aj);clear hd hk h0 hc hap;refine HP.o.mono ?_;rintro e w4 ⟨rfl,wS,jJ⟩;have nX:=aa jJ;have gH:=aa wS;clear jJ wS r0 r1 r2 r3 r4;go_wp2_with fail;go_ret;rw[Nq.o];unfold dK.tick;rw[if_neg (Int.not_le.2 HC.o)];have hT:=(aI.aU dV.o).trans nX.o;exact⟨rfl,hT,fK.gr gH.o iY.o hT.size⟩
theorem wB{bk:dK}(h:bk.Ok){x:bS}(hx:x∈bk.L): bk.find x.id=some x:=by
 unfold dK.find;cases hf:bk.L.find? (fun y=>decide (y.id=x.id))with
 | none=>exact absurd (List.find?_eq_none.1 hf x hx) dR
 | some y=>
  have h1:=wK hf;have h2:y.id=x.id:=by simpa using List.find?_some hf
  rw[nJ (nz h) h1 hx h2]
theorem Em{bk:dK}{id:Int}(h:bk.find id=none): ∀ x∈bk.L,x.id≠id:=fun x hx e=>by
 have:=List.find?_eq_none.1 h x hx;simp[e] at this
theorem R3(S:Nat→Prop)(b:Nat)(bk:dK)(w:World)(id:Int)(h:fK S w b bk)(hb:bk.Ok)(fq:(⟨2,id,0,0,0⟩:Rec).ok=true)(pT:0≤id∧id<4294967296)(hno:bk.find id=none):
  Calls af 15 #[.pointer (some ⟨b,0,none⟩),.agg #[.int .i64 2,.int .u32 id,.int .i64 0,.int .i64 0,.int .i64 0]] w (n9 S w b (bk.apply ⟨2,id,0,0,0⟩)):=by
 obtain⟨q,hq⟩:=h;have ur:=aa fq;have oo:=aa hb;have HQ:=aa hq;have iY:=aa (show ∀ k,S k→k<w.heap.size from hq.bf.lt);have jy:=aa (show ∀ W,Calls af 68 #[.agg #[.int .i64 2,.int .u32 id,.int .i64 0,.int .i64 0,.int .i64 0]] W fun e w'=>e= .returned (.int .i64 0)∧Below W.heap.size W w' from fun W=>(fU ⟨2,id,0,0,0⟩ W yL).mono fun e w' h=>yI);obtain⟨w1,aZ⟩:=ae (w.alloc (.cells #[.int .i64 2,.int .u32 id,.int .i64 0,.int .i64 0,.int .i64 0] 58));obtain⟨rb,jI⟩:=ae w.heap.size;have bt:=aK aZ jI;have hb1:=aL aZ;have r0:=bt.cl 0;have r1:=bt.cl 1;have r2:=bt.cl 2;have r3:=bt.cl 3;have r4:=bt.cl 4;have rF:=aa (cV b true w1 ((hq.bf.ak hb1).own.cell 3));have dz:=aa bt;have bz:=aa hb1;clear fq bt hb1 hq hb;go_enter Tryz.func15,Tryz.ntmps15;go_wp2_with fail;refine ag rF.o ?_;clear rF;go_wp2_with fail;refine(jy.o _).mono ?_;rintro e w3 ⟨rfl,hb3⟩;have dN:=dz.o.ai hb3;clear r0 r1 r2 r3 r4;have r0:=dN.cl 0;have r1:=dN.cl 1;have r2:=dN.cl 2;have r3:=dN.cl 3;have r4:=dN.cl 4;have dV:=bz.dP hb3;have jx:=aa (HQ.o.ak (av bz.o hb3));have gM:=aa dN;clear hb3 dN jy dz;go_wp2_with fail;have hap:bk.apply ⟨2,id,0,0,0⟩=(171,bk):=by unfold dK.apply;rw[if_neg rP,if_neg (show ¬(2:Int)=1 from aN),if_neg (show ¬(2:Int)=5 from aN)];simp only[hno]
 exact Vf
theorem R2(S:Nat→Prop)(b:Nat)(bk:dK)(w:World)(id:Int)(h:fK S w b bk)(hb:bk.Ok)(fq:(⟨3,id,0,0,0⟩:Rec).ok=true)(pT:0≤id∧id<4294967296)(hno:bk.find id=none):
  Calls af 15 #[.pointer (some ⟨b,0,none⟩),.agg #[.int .i64 3,.int .u32 id,.int .i64 0,.int .i64 0,.int .i64 0]] w (n9 S w b (bk.apply ⟨3,id,0,0,0⟩)):=by
 obtain⟨q,hq⟩:=h;have ur:=aa fq;have oo:=aa hb;have HQ:=aa hq;have iY:=aa (show ∀ k,S k→k<w.heap.size from hq.bf.lt);have jy:=aa (show ∀ W,Calls af 68 #[.agg #[.int .i64 3,.int .u32 id,.int .i64 0,.int .i64 0,.int .i64 0]] W fun e w'=>e= .returned (.int .i64 0)∧Below W.heap.size W w' from fun W=>(fU ⟨3,id,0,0,0⟩ W yL).mono fun e w' h=>yI);obtain⟨w1,aZ⟩:=ae (w.alloc (.cells #[.int .i64 3,.int .u32 id,.int .i64 0,.int .i64 0,.int .i64 0] 58));obtain⟨rb,jI⟩:=ae w.heap.size;have bt:=aK aZ jI;have hb1:=aL aZ;have r0:=bt.cl 0;have r1:=bt.cl 1;have r2:=bt.cl 2;have r3:=bt.cl 3;have r4:=bt.cl 4;have rF:=aa (cV b true w1 ((hq.bf.ak hb1).own.cell 3));have dz:=aa bt;have bz:=aa hb1;clear fq bt hb1 hq hb;go_enter Tryz.func15,Tryz.ntmps15;go_wp2_with fail;refine ag rF.o ?_;clear rF;go_wp2_with fail;refine(jy.o _).mono ?_;rintro e w3 ⟨rfl,hb3⟩;have dN:=dz.o.ai hb3;clear r0 r1 r2 r3 r4;have r0:=dN.cl 0;have r1:=dN.cl 1;have r2:=dN.cl 2;have r3:=dN.cl 3;have r4:=dN.cl 4;have dV:=bz.dP hb3;have jx:=aa (HQ.o.ak (av bz.o hb3));have gM:=aa dN;clear hb3 dN jy dz;go_wp2_with fail;have hap:bk.apply ⟨3,id,0,0,0⟩=(171,bk):=by unfold dK.apply;rw[if_neg rP,if_neg (show ¬(3:Int)=1 from aN),if_neg (show ¬(3:Int)=5 from aN)];simp only[hno]
 exact Vf
theorem R1(S:Nat→Prop)(b:Nat)(bk:dK)(w:World)(id:Int)(s:Nat)(h:fK S w b bk)(hb:bk.Ok)(fq:(⟨4,id,s,0,0⟩:Rec).ok=true)(pT:0≤id∧id<4294967296)(hno:bk.find id=none):
  Calls af 15 #[.pointer (some ⟨b,0,none⟩),.agg #[.int .i64 4,.int .u32 id,.int .i64 (s:Int),.int .i64 0,.int .i64 0]] w (n9 S w b (bk.apply ⟨4,id,s,0,0⟩)):=by
 obtain⟨q,hq⟩:=h;have ur:=aa fq;have oo:=aa hb;have HQ:=aa hq;have iY:=aa (show ∀ k,S k→k<w.heap.size from hq.bf.lt);have jy:=aa (show ∀ W,Calls af 68 #[.agg #[.int .i64 4,.int .u32 id,.int .i64 (s:Int),.int .i64 0,.int .i64 0]] W fun e w'=>e= .returned (.int .i64 0)∧Below W.heap.size W w' from fun W=>(fU ⟨4,id,s,0,0⟩ W yL).mono fun e w' h=>yI);obtain⟨w1,aZ⟩:=ae (w.alloc (.cells #[.int .i64 4,.int .u32 id,.int .i64 (s:Int),.int .i64 0,.int .i64 0] 58));obtain⟨rb,jI⟩:=ae w.heap.size;have bt:=aK aZ jI;have hb1:=aL aZ;have r0:=bt.cl 0;have r1:=bt.cl 1;have r2:=bt.cl 2;have r3:=bt.cl 3;have r4:=bt.cl 4;have rF:=aa (cV b true w1 ((hq.bf.ak hb1).own.cell 3));have dz:=aa bt;have bz:=aa hb1;clear fq bt hb1 hq hb;go_enter Tryz.func15,Tryz.ntmps15;go_wp2_with fail;refine ag rF.o ?_;clear rF;go_wp2_with fail;refine(jy.o _).mono ?_;rintro e w3 ⟨rfl,hb3⟩;have dN:=dz.o.ai hb3;clear r0 r1 r2 r3 r4;have r0:=dN.cl 0;have r1:=dN.cl 1;have r2:=dN.cl 2;have r3:=dN.cl 3;have r4:=dN.cl 4;have dV:=bz.dP hb3;have jx:=aa (HQ.o.ak (av bz.o hb3));have gM:=aa dN;clear hb3 dN jy dz;go_wp2_with fail;have hap:bk.apply ⟨4,id,s,0,0⟩=(171,bk):=by unfold dK.apply;rw[if_neg rP,if_neg (show ¬(4:Int)=1 from aN),if_neg (show ¬(4:Int)=5 from aN)];simp only[hno]
 exact Vf
end Bk
end
section
namespace Bk
theorem GI(S:Nat→Prop)(b:Nat)(bk:dK)(w:World)(x:bS)(h:fK S w b bk)(hb:bk.Ok)(fq:(⟨3,x.id,0,0,0⟩:Rec).ok=true)(pT:0≤x.id∧x.id<4294967296)(hx:x∈bk.L):
  Calls af 15 #[.pointer (some ⟨b,0,none⟩),.agg #[.int .i64 3,.int .u32 x.id,.int .i64 0,.int .i64 0,.int .i64 0]] w (n9 S w b (bk.apply ⟨3,x.id,0,0,0⟩)):=by
 obtain⟨q,hq⟩:=h;have ur:=aa fq;have oo:=aa hb;have HQ:=aa hq;have iY:=aa (show ∀ k,S k→k<w.heap.size from hq.bf.lt);have jy:=aa (show ∀ W,Calls af 68 #[.agg #[.int .i64 3,.int .u32 x.id,.int .i64 0,.int .i64 0,.int .i64 0]] W fun e w'=>e= .returned (.int .i64 0)∧Below W.heap.size W w' from fun W=>(fU ⟨3,x.id,0,0,0⟩ W yL).mono fun e w' h=>yI);obtain⟨w1,aZ⟩:=ae (w.alloc (.cells #[.int .i64 3,.int .u32 x.id,.int .i64 0,.int .i64 0,.int .i64 0] 58));obtain⟨rb,jI⟩:=ae w.heap.size;have bt:=aK aZ jI;have hb1:=aL aZ;have r0:=bt.cl 0;have r1:=bt.cl 1;have r2:=bt.cl 2;have r3:=bt.cl 3;have r4:=bt.cl 4;have rF:=aa (cV b true w1 ((hq.bf.ak hb1).own.cell 3));have dz:=aa bt;have bz:=aa hb1;clear fq bt hb1 hq hb;go_enter Tryz.func15,Tryz.ntmps15;go_wp2_with fail;refine ag rF.o ?_;clear rF;go_wp2_with fail;refine(jy.o _).mono ?_;rintro e w3 ⟨rfl,hb3⟩;have dN:=dz.o.ai hb3;clear r0 r1 r2 r3 r4;have r0:=dN.cl 0;have r1:=dN.cl 1;have r2:=dN.cl 2;have r3:=dN.cl 3;have r4:=dN.cl 4;have dV:=bz.dP hb3;have jx:=aa (HQ.o.ak (av bz.o hb3));have gM:=aa dN;clear hb3 dN jy dz;go_wp2_with fail;have hd:=nz oo.o;have Nq:=aa (show bk.apply ⟨3,x.id,0,0,0⟩=(0,{bk with L:=without bk.L x.id})from by unfold dK.apply;rw[if_neg rP,if_neg (show ¬(3:Int)=1 from aN),if_neg (show ¬(3:Int)=5 from aN)];simp only[wB oo.o hx];rfl);have HX:=aa hx;have HD:=aa hd;have HG:=aa (CC jx.o x hx pT);clear hx hd;refine HG.o.mono ?_;rintro e w4 ⟨rfl,wS,jJ⟩;have yb:aI S w w4:=(aI.aU dV.o).trans (jJ.mono fun k _ hk=>NW);have JP:=jJ.arr gM.o (fun e=>LH);obtain⟨w5,iX⟩:=ae (w4.alloc (.cells #[.int .u32 x.id,.int .i64 (x.aw:Int),.int .i64 x.aS] 171));obtain⟨xb,zm⟩:=ae w4.heap.size;have dX:=aL iX;have fX:=aK iX zm;have JO:=JP.ai dX;have z0:=fX.cl 0;have z1:=fX.cl 1;have z2:=fX.cl 2;clear r0 r1 r2 r3 r4;have r0:=JO.cl 0;have qK:=aa (show w.heap.size≤xb from Lb);have eA:=aa (wS.ak dX);have px:=aa (yb.ak dX);have ou:=aa fX;have qL:=aa JO;clear wS jJ yb dX fX JP JO HG;have hk:=fun x hx=>(oo.o.ids x hx).2
 go_wp2_with fail;refine(O8 S b _ _ _ _ _ bk.L x q w5 eA.o HD.o oo.o.alone hk HX.o).mono ?_;rintro e w6 ⟨⟨v6,rfl⟩,⟨q6,WC,_⟩,pV⟩;have ij:=aa WC;have vy:=aa (px.o.trans pV);clear WC pV hk r0 z0 z1 z2;go_wp2_with fail;go_ret;rw[Nq.o];exact⟨rfl,vy.o,fK.gr ⟨q6,ij.o⟩ iY.o vy.o.size⟩
theorem Dz(S:Nat→Prop)(b:Nat)(bk:dK)(w:World)(x:bS)(h:fK S w b bk)(hb:bk.Ok)(fq:(⟨2,x.id,0,0,0⟩:Rec).ok=true)(pT:0≤x.id∧x.id<4294967296)(hx:x∈bk.L):
  Calls af 15 #[.pointer (some ⟨b,0,none⟩),.agg #[.int .i64 2,.int .u32 x.id,.int .i64 0,.int .i64 0,.int .i64 0]] w (n9 S w b (bk.apply ⟨2,x.id,0,0,0⟩)):=by
 obtain⟨q,hq⟩:=h;have ur:=aa fq;have oo:=aa hb;have HQ:=aa hq;have iY:=aa (show ∀ k,S k→k<w.heap.size from hq.bf.lt);have jy:=aa (show ∀ W,Calls af 68 #[.agg #[.int .i64 2,.int .u32 x.id,.int .i64 0,.int .i64 0,.int .i64 0]] W fun e w'=>e= .returned (.int .i64 0)∧Below W.heap.size W w' from fun W=>(fU ⟨2,x.id,0,0,0⟩ W yL).mono fun e w' h=>yI);obtain⟨w1,aZ⟩:=ae (w.alloc (.cells #[.int .i64 2,.int .u32 x.id,.int .i64 0,.int .i64 0,.int .i64 0] 58));obtain⟨rb,jI⟩:=ae w.heap.size;have bt:=aK aZ jI;have hb1:=aL aZ;have r0:=bt.cl 0;have r1:=bt.cl 1;have r2:=bt.cl 2;have r3:=bt.cl 3;have r4:=bt.cl 4;have rF:=aa (cV b true w1 ((hq.bf.ak hb1).own.cell 3));have dz:=aa bt;have bz:=aa hb1;clear fq bt hb1 hq hb;go_enter Tryz.func15,Tryz.ntmps15;go_wp2_with fail;refine ag rF.o ?_;clear rF;go_wp2_with fail;refine(jy.o _).mono ?_;rintro e w3 ⟨rfl,hb3⟩;have dN:=dz.o.ai hb3;clear r0 r1 r2 r3 r4;have r0:=dN.cl 0;have r1:=dN.cl 1;have r2:=dN.cl 2;have r3:=dN.cl 3;have r4:=dN.cl 4;have dV:=bz.dP hb3;have jx:=aa (HQ.o.ak (av bz.o hb3));have gM:=aa dN;clear hb3 dN jy dz;go_wp2_with fail;have hd:=nz oo.o;have Nq:=aa (show bk.apply ⟨2,x.id,0,0,0⟩=(0,{bk with L:=mD bk.L x.id})from by unfold dK.apply;rw[if_neg rP,if_neg (show ¬(2:Int)=1 from aN),if_neg (show ¬(2:Int)=5 from aN)];simp only[wB oo.o hx];rfl);have HX:=aa hx;have HD:=aa hd;have HG:=aa (CC jx.o x hx pT);clear hx hd;refine HG.o.mono ?_;rintro e w4 ⟨rfl,wS,jJ⟩;have yb:aI S w w4:=(aI.aU dV.o).trans (jJ.mono fun k _ hk=>NW);have JP:=jJ.arr gM.o (fun e=>LH);obtain⟨w5,iX⟩:=ae (w4.alloc (.cells #[.int .u32 x.id,.int .i64 (x.aw:Int),.int .i64 x.aS] 171));obtain⟨xb,zm⟩:=ae w4.heap.size;have dX:=aL iX;have fX:=aK iX zm;have JO:=JP.ai dX;have z0:=fX.cl 0;have z1:=fX.cl 1;have z2:=fX.cl 2;clear r0 r1 r2 r3 r4;have r0:=JO.cl 0;have qK:=aa (show w.heap.size≤xb from Lb);have eA:=aa (wS.ak dX);have px:=aa (yb.ak dX);have ou:=aa fX;have qL:=aa JO;clear wS jJ yb dX fX JP JO HG;go_wp2_with fail;refine(O7 S b _ _ _ _ _ bk.L.length bk.L x q w5 eA.o.bf eA.o.qy HD.o HX.o).mono ?_;rintro e w6 ⟨⟨v6,rfl⟩,⟨hl,hm,hf,φ,hc6,kq⟩,pV⟩;have Jk:=HQ.o.cQ x HX.o;have yV:=pV.arr ou.o (fun e=>by have:=iY.o _ e;have:=qK.o;omega);have x8:w6.cell? ⟨b,8,none⟩=some (.slice (some ⟨q.sg,0,none⟩) bk.n q.sc):=hc6.own.cell 8;have z1':=yV.cl 1;have CQ:je (q.sb x.aw)= [.int .u32 x.id,.int .i64 (x.aw:Int),.int .i64 x.aS]:=by rw[Jk.2];rfl
 have hrg:=hc6.fW.range (fun _=>rfl) (show x.aw<bk.n from Jk.1);have y2:w6.drew.cell? ⟨q.sg,x.aw*3+2,none⟩=some (.int .i64 x.aS):=hrg 2 _ (show(je (q.sb x.aw))[2]? =_ by rw[CQ];rfl);have m2:w6.drew.frozen? ⟨q.sg,x.aw*3+2,none⟩=false:=(hc6.fW.there (fun _=>rfl) (show x.aw<bk.n from Jk.1) 2 aN).2;have QQ:(x.aw:Int)<(bk.n:Int):=by have:=Jk.1;omega
 have hx0:(0:Int)≤(x.aw:Int):=aj;have tu:(bk.n:Int)≤1024:=by have:=oo.o.n;omega
 have HC6:=aa hc6;have Kr:=aa kq;have vy:=aa (px.o.trans pV);have HXL:=aa Jk;have hr0:w6.cell? ⟨rb,0,none⟩=some (.int .i64 2):=(pV.arr qL.o (fun e=>by have:=iY.o _ e;omega)).cell 0;clear hc6 kq pV yV CQ hrg Jk r0 z0 z1 z2;go_wp2_with fail;go_still_tail 8,br;change wpList _ _ _ _ _ w6.drew;go_wp2_with fail;go_ret;rw[Nq.o];obtain⟨w7,wQ⟩:=ae (w6.drew.setCell ⟨q.sg,x.aw*3+2,none⟩ (.int .i64 0));have wR:=HC6.o.ak (az (au _ _));have hr7:=wR.fW.aii (fun _=>rfl) HXL.o.1 (show 2<3 from aN) (.int .i64 0);have he:((je (q.sb x.aw)).set 2 (.int .i64 0))=je ⟨x.id,x.aw,0⟩:=by rw[HXL.o.2];rfl
 have akg:aM S w7 171 3 (.slice (some ⟨q.sg,0,none⟩) bk.n q.sc) bk.n (fun i=>je (cH q.sb x.aw ⟨x.id,x.aw,0⟩ i)):=by rw[←rV,←he,←wQ];exact hr7
 have JL:aI (· =q.sg) w6.drew w7:=by rw[←wQ];exact(aI.refl (fun k=>k=q.sg) w6.drew).put (p:=⟨q.sg,x.aw*3+2,none⟩) (.inl rfl) _
 have hc7:=wR.nE JL akg;have hT7:aI S w w7:=(vy.o.ak (az (au _ _))).trans (JL.mono fun k _ hk=>by subst hk;exact HQ.o.bf.fW.block _ rfl);rw[←MI bk.L x.id] at hc7;have hk:=fun x hx=>(oo.o.ids x hx).2
 have Wi:=HQ.o.free hk;have hto: ∀ y∈bk.L,y.id=x.id→y=x:=fun y hy e=>nJ HD.o hy HX.o e
 have hn4:=HQ.o.small.2.2.2;have hgf:=Kr.o.mD HQ.o.qy.ids;obtain⟨q9,h9⟩: ∃ q9,bm S w7 b bk.n bk.ar bk.aA bk.next bk.aq (mD bk.L x.id) q9:=by
  refine⟨_,bm.make hc7 ?_ ?_ ?_ ?_ hn4 ⟨hgf.len,hgf.cnt,hgf.held,hgf.items,hgf.free,hgf.ord,hgf.ids⟩⟩
  ·intro j hj;show hasB q.ws j=true↔_
   rw[HQ.o.bits j hj];constructor
   ·rintro⟨y,hy,rfl⟩;exact⟨_,gS.2 ⟨y,hy,rfl⟩,by split <;>rfl⟩
   rintro⟨z,hz,rfl⟩;obtain⟨y,hy,rfl⟩:=gS.1 hz;exact⟨y,hy,by split <;>rfl⟩
  ·intro z hz;show z.aw<bk.n∧cH q.sb x.aw ⟨x.id,x.aw,0⟩ z.aw=z
   obtain⟨y,hy,rfl⟩:=gS.1 hz;by_cases e:y.id=x.id
   ·rw[if_pos e,hto y hy e];exact⟨HXL.o.1,bM _ _ _⟩
   rw[if_neg e,bl _ _ (fun e2=>e (by rw[pP oo.o.alone hy HX.o e2]))];exact HQ.o.cQ y hy
  ·intro a v;show ki.jE q.f q.m a v↔_
   rw[HQ.o.tbl];constructor
   ·rintro⟨y,hy,rfl,rfl⟩;exact⟨_,gS.2 ⟨y,hy,rfl⟩,by split <;>rfl,by split <;>rfl⟩
   rintro⟨z,hz,rfl,rfl⟩;obtain⟨y,hy,rfl⟩:=gS.1 hz;exact⟨y,hy,by split <;>rfl,by split <;>rfl⟩
  exact⟨by show q.hn≤bk.next;omega,fun e=>absurd (show q.hn=bk.next from e) aj⟩
 have hww:(w6.setCell ⟨q.sg,x.aw*3+2,none⟩ (.int .i64 0)).drew=w7:=wQ;first|rw[hww]|rw[wQ]
 exact⟨rfl,hT7,fK.gr ⟨q9,h9⟩ iY.o hT7.size⟩
theorem vO(bk:dK)(x:bS)(s:Nat): (if(bk.n:Int)≤(s:Int)then((140,bk):Int × dK)else if(x.aw:Int)=(s:Int)then(0,bk)else if(bk.on (s:Int)).isSome=true then(170,bk)else(0,{bk with L:=bk.L.map fun y=>if y.id=x.id then {y with aw:=(s:Int).toNat}else y}))=(e9 bk.n bk.L x s,if e9 bk.n bk.L x s=0∧s≠x.aw then {bk with L:=rj bk.L x.id s}else bk):=by
 have e1:((bk.n:Int)≤(s:Int))=(bk.n≤s):=propext Int.ofNat_le;have e2:((x.aw:Int)=(s:Int))=(s=x.aw):=propext ⟨fun h=>(Int.ofNat.inj h).symm,fun h=>by rw[h]⟩;unfold e9 rj;simp only[FM,Int.toNat_natCast,e1,e2];by_cases c1:bk.n≤s
 ·simp[c1]
 by_cases c2:s=x.aw
 ·have c1': ¬bk.n≤x.aw:=c2▸c1;simp[c2,c1']
 by_cases c3:Qz bk.L s=true
 ·simp[c1,c2,c3]
 simp[c1,c2,c3]
theorem GH(S:Nat→Prop)(b:Nat)(bk:dK)(w:World)(x:bS)(s:Nat)(h:fK S w b bk)(hb:bk.Ok)(fq:(⟨4,x.id,s,0,0⟩:Rec).ok=true)(pT:0≤x.id∧x.id<4294967296)(hx:x∈bk.L)(hs:s≤1023):
  Calls af 15 #[.pointer (some ⟨b,0,none⟩),.agg #[.int .i64 4,.int .u32 x.id,.int .i64 (s:Int),.int .i64 0,.int .i64 0]] w (n9 S w b (bk.apply ⟨4,x.id,s,0,0⟩)):=by
 obtain⟨q,hq⟩:=h;have ur:=aa fq;have oo:=aa hb;have HQ:=aa hq;have iY:=aa (show ∀ k,S k→k<w.heap.size from hq.bf.lt);have jy:=aa (show ∀ W,Calls af 68 #[.agg #[.int .i64 4,.int .u32 x.id,.int .i64 (s:Int),.int .i64 0,.int .i64 0]] W fun e w'=>e= .returned (.int .i64 0)∧Below W.heap.size W w' from fun W=>(fU ⟨4,x.id,s,0,0⟩ W yL).mono fun e w' h=>yI);obtain⟨w1,aZ⟩:=ae (w.alloc (.cells #[.int .i64 4,.int .u32 x.id,.int .i64 (s:Int),.int .i64 0,.int .i64 0] 58));obtain⟨rb,jI⟩:=ae w.heap.size;have bt:=aK aZ jI;have hb1:=aL aZ;have r0:=bt.cl 0;have r1:=bt.cl 1;have r2:=bt.cl 2;have r3:=bt.cl 3;have r4:=bt.cl 4;have rF:=aa (cV b true w1 ((hq.bf.ak hb1).own.cell 3));have dz:=aa bt;have bz:=aa hb1;clear fq bt hb1 hq hb;go_enter Tryz.func15,Tryz.ntmps15;go_wp2_with fail;refine ag rF.o ?_;clear rF;go_wp2_with fail;refine(jy.o _).mono ?_;rintro e w3 ⟨rfl,hb3⟩;have dN:=dz.o.ai hb3;clear r0 r1 r2 r3 r4;have r0:=dN.cl 0;have r1:=dN.cl 1;have r2:=dN.cl 2;have r3:=dN.cl 3;have r4:=dN.cl 4;have dV:=bz.dP hb3;have jx:=aa (HQ.o.ak (av bz.o hb3));have gM:=aa dN;clear hb3 dN jy dz;go_wp2_with fail;have hd:=nz oo.o;have Nq:=aa (show bk.apply ⟨4,x.id,s,0,0⟩=(e9 bk.n bk.L x s,if e9 bk.n bk.L x s=0∧s≠x.aw then {bk with L:=rj bk.L x.id s}else bk)from by unfold dK.apply;rw[if_neg rP,if_neg (show ¬(4:Int)=1 from aN),if_neg (show ¬(4:Int)=5 from aN)];simp only[wB oo.o hx];exact vO bk x s);have HX:=aa hx;have HD:=aa hd;have HG:=aa (CC jx.o x hx pT);clear hx hd;refine HG.o.mono ?_;rintro e w4 ⟨rfl,wS,jJ⟩;have yb:aI S w w4:=(aI.aU dV.o).trans (jJ.mono fun k _ hk=>NW);have JP:=jJ.arr gM.o (fun e=>LH);obtain⟨w5,iX⟩:=ae (w4.alloc (.cells #[.int .u32 x.id,.int .i64 (x.aw:Int),.int .i64 x.aS] 171));obtain⟨xb,zm⟩:=ae w4.heap.size;have dX:=aL iX;have fX:=aK iX zm;have JO:=JP.ai dX;have z0:=fX.cl 0;have z1:=fX.cl 1;have z2:=fX.cl 2;clear r0 r1 r2 r3 r4;have r0:=JO.cl 0;have qK:=aa (show w.heap.size≤xb from Lb);have eA:=aa (wS.ak dX);have px:=aa (yb.ak dX);have ou:=aa fX;have qL:=aa JO;clear wS jJ yb dX fX JP JO HG;have hk:=fun x hx=>(oo.o.ids x hx).2
 have r2:=qL.o.cl 2;go_wp2_with fail;refine(Qu S b _ _ _ _ _ bk.L x q w5 s eA.o HD.o oo.o.alone hk HX.o hs).mono ?_;rintro e w6 ⟨rfl,pV,q6,WC⟩;have ij:=aa WC;have vy:=aa (px.o.trans pV);clear WC pV hk r0 r2 z0 z1 z2;go_wp2_with fail;go_ret;rw[Nq.o];refine⟨rfl,vy.o,?_⟩;have h6:=ij.o;by_cases hr:e9 bk.n bk.L x s=0
 ·rw[if_pos hr] at h6;by_cases hsx:s=x.aw
  ·simp only[hsx,ne_eq,not_true_eq_false,and_false,if_false];rw[hsx,Bz HD.o HX.o] at h6;exact fK.gr ⟨q6,h6⟩ iY.o vy.o.size
  simp only[hr,hsx,ne_eq,not_false_eq_true,and_self,if_true];exact fK.gr ⟨q6,h6⟩ iY.o vy.o.size
 ·rw[if_neg hr] at h6;simp only[hr,false_and,if_false];exact fK.gr ⟨q6,h6⟩ iY.o vy.o.size
end Bk
end
section
namespace Bk
theorem sZ{r:Rec}(h:r.ok=true):
  (∃ (id:Int) (s:Nat) (t:Int),r=⟨1,id,s,t,0⟩∧1≤id∧id≤4294967295∧s≤1023∧1≤t∧t≤1099511627776)∨(∃ id:Int,r=⟨2,id,0,0,0⟩∧1≤id∧id≤4294967295)∨(∃ id:Int,r=⟨3,id,0,0,0⟩∧1≤id∧id≤4294967295)
  ∨(∃ (id:Int) (s:Nat),r=⟨4,id,s,0,0⟩∧1≤id∧id≤4294967295∧s≤1023)∨(∃ c:Int,r=⟨5,0,0,0,c⟩∧1≤c∧c≤1099511627776):=by
 obtain⟨k,id,aw,aS,aq⟩:=r;unfold Rec.ok at h;simp only[Bool.and_eq_true] at h;obtain⟨⟨⟨⟨h0,h1⟩,h2⟩,h3⟩,h4⟩:=h;have hk:k=1∨k=2∨k=3∨k=4∨k=5:=by simp only[recKind,Bool.and_eq_true,decide_eq_true_eq] at h0;omega
 rcases hk with rfl|rfl|rfl|rfl|rfl
 all_goals simp[dL,within] at h1 h2 h3 h4
 ·exact .inl ⟨id,aw.toNat,aS,by rw[Int.toNat_of_nonneg h2.1,h4],h1.1,h1.2,aj,h3.1,h3.2⟩
 ·exact .inr (.inl ⟨id,by rw[h2,h3,h4],h1.1,h1.2⟩)
 ·exact .inr (.inr (.inl ⟨id,by rw[h2,h3,h4],h1.1,h1.2⟩))
 ·exact .inr (.inr (.inr (.inl ⟨id,aw.toNat,by rw[Int.toNat_of_nonneg h2.1,h3,h4],h1.1,h1.2,aj⟩)))
 ·exact .inr (.inr (.inr (.inr ⟨aq,by rw[h1,h2,h3],h4.1,h4.2⟩)))
theorem ir{bk:dK}{id:Int}{x:bS}(h:bk.find id=some x): x∈bk.L∧x.id=id:=
 ⟨wK h,by simpa using List.find?_some h⟩
theorem KB(S:Nat→Prop)(b:Nat)(bk:dK)(w:World)(r:Rec)(h:fK S w b bk)(hb:bk.Ok)(fq:r.ok=true):
  Calls af 15 #[.pointer (some ⟨b,0,none⟩),.agg (fA r)] w (n9 S w b (bk.apply r)):=by
 rcases sZ fq with⟨id,s,t,rfl,h1,h2,h3,h4,h5⟩|⟨id,rfl,h1,h2⟩|⟨id,rfl,h1,h2⟩|⟨id,s,rfl,h1,h2,h3⟩|⟨c,rfl,h1,h2⟩
 ·exact NA S b bk w id s t 0 h hb fq aj h3 h5
 ·cases hf:bk.find id with
  | none=>exact R3 S b bk w id h hb fq aj hf
  | some x=>
   obtain⟨hx,rfl⟩:=ir hf;exact Dz S b bk w x h hb fq aj hx
 ·cases hf:bk.find id with
  | none=>exact R2 S b bk w id h hb fq aj hf
  | some x=>
   obtain⟨hx,rfl⟩:=ir hf;exact GI S b bk w x h hb fq aj hx
 ·cases hf:bk.find id with
  | none=>exact R1 S b bk w id s h hb fq aj hf
  | some x=>
   obtain⟨hx,rfl⟩:=ir hf;exact GH S b bk w x s h hb fq aj hx h3
 ·exact Nz S b bk w c h hb fq
theorem Ox{bk:dK}(h:bk.Ok){M:List bS}(hs:M.Sublist bk.L){uk:Int}(hc:0≤uk∧uk≤1099511627776)(ht: ∀ x∈M,x.aS=0∨uk<x.aS): ({bk with L:=M,aq:=uk}:dK).Ok:=
 ⟨h.n,h.ar,h.aA,h.next,hc,Nat.le_trans hs.length_le h.len,h.Uw.sublist hs,fun x hx=>h.ids x (hs.subset hx),fun x hx=>h.fW x (hs.subset hx),h.alone.sublist hs,fun x hx=>by
  rcases ht x hx with e|e
  ·exact .inl e
  have:=h.aS x (hs.subset hx);exact .inr ⟨e,aj⟩⟩
theorem UM{bk:dK}(h:bk.Ok)(g:bS→bS)(h1: ∀ y∈bk.L,(g y).id=y.id)(h2: ∀ y∈bk.L,(g y).aw<bk.n)(h3:(bk.L.map g).Pairwise fun x y=>x.aw≠y.aw)(h4: ∀ y∈bk.L,(g y).aS=0∨(g y).aS=y.aS): ({bk with L:=bk.L.map g}:dK).Ok:=by
 refine⟨h.n,h.ar,h.aA,h.next,h.aq,by simpa using h.len,?_,fun z hz=>?_,fun z hz=>?_,h3,fun z hz=>?_⟩
 ·rw[G1];exact h.Uw.imp_of_mem fun ha hb hab=>by rw[h1 _ ha,h1 _ hb];exact hab
 ·obtain⟨y,hy,rfl⟩:=nk.1 hz;rw[h1 y hy];exact h.ids y hy
 ·obtain⟨y,hy,rfl⟩:=nk.1 hz;exact h2 y hy
 obtain⟨y,hy,rfl⟩:=nk.1 hz;rcases h4 y hy with e|e
 ·exact .inl e
 rw[e];exact h.aS y hy
theorem Cl{bk:dK}(h:bk.Ok){r:Rec}(fq:r.ok=true): (bk.apply r).2.Ok:=by
 rcases sZ fq with⟨id,s,t,rfl,h1,h2,h3,h4,h5⟩|⟨id,rfl,h1,h2⟩|⟨id,rfl,h1,h2⟩|⟨id,s,rfl,h1,h2,h3⟩|⟨c,rfl,h1,h2⟩
 ·have hap:bk.apply ⟨1,id,s,t,0⟩=bk.hold ⟨1,id,s,t,0⟩:=by unfold dK.apply;rw[if_neg xk,if_pos rfl]
  rw[hap,BN];by_cases hr:lY bk.n bk.ar bk.next bk.aq bk.L id s t=0
  ·simp only[hr,if_true];unfold lY at hr;by_cases c1:id=bk.next
   ·by_cases c2:bk.n≤s
    ·simp[c1,c2] at hr
    by_cases c3:t≤bk.aq
    ·simp[c1,c2,c3] at hr
    by_cases c4:Qz bk.L s=true
    ·simp[c1,c2,c3,c4] at hr
    by_cases c5:bk.ar≤bk.L.length
    ·simp[c1,c2,c3,c4,c5] at hr
    by_cases c6:bk.next=4294967295
    ·simp[c1,c2,c3,c4,c5,c6] at hr
    have hn:=h.next;refine⟨h.n,h.ar,h.aA,by show 1≤bk.next+1∧bk.next+1<4294967296;omega,h.aq,by show(bk.L++ [_]).length≤bk.ar;rw[List.length_append];show bk.L.length+1≤_;omega,?_,fun x hx=>?_,fun x hx=>?_,?_,fun x hx=>?_⟩
    ·show(bk.L++ [_]).Pairwise _
     rw[wO];refine⟨h.Uw,PS _ _,fun x hx y hy=>?_⟩;obtain rfl:y=⟨id,s,t⟩:=oV;have:=(h.ids x hx).2;show x.id<id
     omega
    ·rcases kQ.1 hx with hx|hx
     ·have:=h.ids x hx;show 1≤x.id∧x.id<bk.next+1
      omega
     obtain rfl:x=⟨id,s,t⟩:=by simpa using hx
     show 1≤id∧id<bk.next+1
     omega
    ·rcases kQ.1 hx with hx|hx
     ·exact h.fW x hx
     obtain rfl:x=⟨id,s,t⟩:=by simpa using hx
     show s<bk.n
     omega
    ·show(bk.L++ [_]).Pairwise _
     rw[wO];refine⟨h.alone,PS _ _,fun x hx y hy=>?_⟩;obtain rfl:y=⟨id,s,t⟩:=oV;exact fun e=>c4 (vR.2 ⟨x,hx,e⟩)
    rcases kQ.1 hx with hx|hx
    ·exact h.aS x hx
    obtain rfl:x=⟨id,s,t⟩:=by simpa using hx
    exact .inr ⟨by show bk.aq<t;omega,h5⟩
   simp[c1] at hr
  simp only[if_neg hr];exact h
 ·have hap:bk.apply ⟨2,id,0,0,0⟩=match bk.find id with|none=>(171,bk)|some x=>(0,{bk with L:=mD bk.L id}):=by unfold dK.apply;rw[if_neg xk,if_neg (show ¬(2:Int)=1 from aN),if_neg (show ¬(2:Int)=5 from aN)];rfl
  rw[hap];cases bk.find id with
  | none=>exact h
  | some x=>
   refine UM h _ (fun y _=>by split <;>rfl) (fun y hy=>by split <;>exact h.fW y hy) ?_ (fun y _=>by split;exact .inl rfl;exact .inr rfl);rw[G1];exact h.alone.imp fun hab=>by split <;>split <;>exact hab
 ·have hap:bk.apply ⟨3,id,0,0,0⟩=match bk.find id with|none=>(171,bk)|some x=>(0,{bk with L:=without bk.L id}):=by unfold dK.apply;rw[if_neg xk,if_neg (show ¬(3:Int)=1 from aN),if_neg (show ¬(3:Int)=5 from aN)];rfl
  rw[hap];cases bk.find id with
  | none=>exact h
  | some x=>exact Ox h (yF _ _) h.aq (fun y hy=>by have:=h.aS y (cD.1 hy).1;omega)
 ·cases hf:bk.find id with
  | none=>
   have hap:bk.apply ⟨4,id,s,0,0⟩=(171,bk):=by unfold dK.apply;rw[if_neg xk,if_neg (show ¬(4:Int)=1 from aN),if_neg (show ¬(4:Int)=5 from aN)];simp only[hf]
   rw[hap];exact h
  | some x=>
   obtain⟨hx,rfl⟩:=ir hf;have hap:bk.apply ⟨4,x.id,s,0,0⟩=(e9 bk.n bk.L x s,if e9 bk.n bk.L x s=0∧s≠x.aw then {bk with L:=rj bk.L x.id s}else bk):=by unfold dK.apply;rw[if_neg xk,if_neg (show ¬(4:Int)=1 from aN),if_neg (show ¬(4:Int)=5 from aN)];simp only[wB h hx];exact vO bk x s
   rw[hap];by_cases hr:e9 bk.n bk.L x s=0∧s≠x.aw
   ·simp only[if_pos hr];obtain⟨hr,hsx⟩:=hr;unfold e9 at hr;by_cases c1:bk.n≤s
    ·simp[c1] at hr
    by_cases c3:Qz bk.L s=true
    ·simp[c1,hsx,c3] at hr
    have hd:=nz h;have hno: ∀ y∈bk.L,y.aw≠s:=fun y hy e=>c3 (vR.2 ⟨y,hy,e⟩)
    refine UM h _ (fun y _=>by split <;>rfl) (fun y hy=>by split;(show s<bk.n;omega);exact h.fW y hy) ?_ (fun y _=>by split <;>exact .inr rfl);rw[G1];refine(h.alone.and hd).imp_of_mem fun {a c} ha hc hab=>?_
    by_cases e1:a.id=x.id <;>by_cases e2:c.id=x.id
    ·exact absurd (e1.trans e2.symm) hab.2
    ·rw[if_pos e1,if_neg e2];exact fun e=>hno c hc e.symm
    ·rw[if_neg e1,if_pos e2];exact hno a ha
    rw[if_neg e1,if_neg e2];exact hab.1
   simp only[if_neg hr];exact h
 have hap:bk.apply ⟨5,0,0,0,c⟩=bk.tick c:=by unfold dK.apply;rw[if_neg xk,if_neg (show ¬(5:Int)=1 from aN),if_pos rfl]
 rw[hap];unfold dK.tick;by_cases hc:c≤bk.aq
 ·rw[if_pos hc];exact h
 rw[if_neg hc];refine Ox h List.filter_sublist ⟨aj,h2⟩ (fun x hx=>?_);have:=(List.mem_filter.1 hx).2;simpa using this
