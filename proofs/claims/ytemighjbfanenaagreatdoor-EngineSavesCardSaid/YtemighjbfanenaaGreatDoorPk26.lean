import Derived.Test.YtemighjbfanenaaGreatDoorPk25
import Derived.Deep.CutRange
set_option linter.all false
set_option maxRecDepth 100000
set_option maxHeartbeats 16000000
namespace Go.Proofs.YtemighjbfanenaaGreatDoor
open RowKit
open Oc (il Bs fZ eG fF aP bu le rh eP cI eY val)
open Cr (cj ic)
open And renaming intro→dy
open Go.IntKind renaming wrap_u16→pj,u64→cR,wrap_u64→mJ
open Go.Proofs.Tryz renaming prog→af,underlying129→cq,results214→oT
open Go.Value renaming int→gI
open Go.World renaming cell?_of_block→eO,block_lt_of_cell?→bD
open List renaming getElem?_append_left→qT,length_map→gZ,nil_append→PT,replicate→dW,getElem?_append_right→wJ
open Nat renaming le_refl→aQ,le_trans→aT
open RowKit.Below renaming refl→au
open _root_.Array renaming getElem?_toList→ei
theorem U3{p:Prop}(h:p:=by
 rintro e w9 ⟨⟨uw9,rfl⟩,hw,ht⟩;have hR:=ht.arr HR.o HN.o.1;have hS:=ht.arr HS.o HN.o.2;have hT:=HT.o.trans ht;clear HT HW HR HS ht r0 r1 r2 r3 r4 s0 s1 s2 s3;have HT:=aa hT;have HW:=aa hw;have HR:=aa hR;have HS:=aa hS;have r0:=HR.o.cl 0;have r1:=HR.o.cl 1;have r2:=HR.o.cl 2;have r3:=HR.o.cl 3;have r4:=HR.o.cl 4;have s0:=HS.o.cl 0;have s1:=HS.o.cl 1;have s2:=HS.o.cl 2;have s3:=HS.o.cl 3;clear hT hw hR hS;go_wp2_with fail;refine(Oc.lQ p _ w9 HW.o fH).mono ?_;rintro e wz ⟨A,c,rfl,k1,k2,k3,k4⟩;have mY:Below w.heap.size w w9:=aI.nD eA.o HT.o (fun k hk=>aen);rw[PT] at k1 k2 ⊢;have ij:=aa (av mY k4.2);have HK:=aa (dy k1 (dy k2 (dy k3 mY.size)));clear k1 k2 k3 k4 mY r0 r1 r2 r3 r4 s0 s1 s2 s3 HT HW HR HS;go_wp2_with fail;go_ret2;refine uo.of rfl rfl HK.o.1 ij.o HK.o.2.1 (fun g off e=>(HK.o.2.2.1 g off e).1) HK.o.2.2.2 (by simp[le])):p:=h
theorem acM{p:Prop}(h:p:=by
 refine cG 10 fun K hK=>?_
 refine cT 129 _ _ rfl nb 129 _ (oc ⟨ng,l8,body.length,ic 0 body⟩) tC.o rfl rfl rfl a8 (cB _) ?_;intro w7 Ek JC hs7;have x7:w7.cell? ⟨xh,0,none⟩=some (.int .u64 (hh.gen:Nat)):=(eO (a:=⟨xh,0,none⟩) (JC.block xh (bD _ _ x6) (fun e=>by injection e with e;exact HXN.o e))).trans x6;have yt:=aa Ek;have lI:=aa (show Below w5.heap.size w5 w7 from bn ij.o JC (by have:=HNB.o;omega));clear Ek JC hs7;refine bW hK (by exact x7) fun Gd=>?_
 clear hK K;try simp only[aY]
 refine bO ?_;go_wp2_with fail;go_meet;exact⟨rfl,yt.o,lI.o⟩):p:=h
theorem acx{p:Prop}(h:p:=by
 clear hr hat;go_wp2_with fail;go_meet;exact⟨agr,by repeat(first|with_reducible exact au _ _|with_reducible refine ax ?_ _|with_reducible refine az ?_|with_reducible refine bJ ?_ _|(refine eF ?_ uC _)|with_reducible refine av ?_ uy)⟩):p:=h
theorem IF{p:Prop}(h:p:=by unfold PE at h;rw[fq] at h;exact h):p:=h
theorem NY{p:Prop}(h:p:=by first|(exact⟨by show(0:Int)≤(id:Int);omega,by show(id:Int)<(4294967296:Int);omega⟩)):p:=h
theorem IC{p:Prop}(h:p:=by have h1:=(kU.o.ai hb4).lt;have h2:=JN.lt;omega):p:=h
theorem agr{p:Prop}(h:p:=by first|exact aG.new yr.o.symm|exact(aG.new yr.o.symm).put 0 _|exact((aG.new yr.o.symm).put 0 _).put 0 _):p:=h
theorem IB{p:Prop}(h:p:=by simp[Rec.ok,recKind,dL,within];omega):p:=h
theorem IA{p:Prop}(h:p:=by rw[←hp];exact(av cu.o hb4).size):p:=h
theorem LN{p:Prop}(h:p:=by injection e with e;subst e;exact .inr (by have:=uq.o;omega)):p:=h
theorem Bj{p:Prop}(h:p:=by rw[←iX,←hp];exact Oc.eG.fresh w4):p:=h
theorem aen{p:Prop}(h:p:=by have:=HP.o;have e:k=p:=hk;omega):p:=h
theorem TX{p:Prop}(h:p:=by have h1:=RI.o;rw[if_neg Sc] at h1;injection h1 with h1 h2;rw[h1];exact Sc):p:=h
theorem TU{p:Prop}(h:p:=by have h1:=RI.o;rw[if_neg Sc] at h1;injection h1 with h1 h2;exact⟨h1,h2⟩):p:=h
theorem ajV{p:Prop}(h:p:=by show(id:Int)<(4294967296:Int);omega):p:=h
theorem TK{p:Prop}(h:p:=by have h1:=abd.o;injection h1 with h1 h2;exact⟨h1.trans hes,h2⟩):p:=h
theorem TD{p:Prop}(h:p:=by have h1:=abd.o;injection h1 with h1 h2;rw[h1];exact hes):p:=h
theorem TA{p:Prop}(h:p:=by rw[sO.o,if_pos vA.o,if_neg Sw.o];rw[HED.o.1,HED.o.2]):p:=h
theorem Tw{p:Prop}(h:p:=by have h1:=abd.o;injection h1 with h1 h2;exact⟨h1,h2⟩):p:=h
theorem ajS{p:Prop}(h:p:=by show(0:Int)≤(id:Int);omega):p:=h
theorem Tq{p:Prop}(h:p:=by rw[←og];exact az (ax (au _ _) _)):p:=h
theorem AM{p:Prop}(h:p:=by simp[ja,dL]):p:=h
section
namespace En
theorem MX(h:Hd)(w:World)(hm:h.may=false): Calls af 301 #[.agg (oc h)] w (fun e w'=>e= .returned (.tuple #[.slice none 0 0,.int .i64 2])∧Below w.heap.size w w'):=by
 have KV:=aa fun W=>Gk h W
 rw[hm] at KV;unfold oc at KV ⊢;obtain⟨gen,l8,len,sum⟩:=h;simp only at KV ⊢;clear hm;go_enter Tryz.func301,Tryz.ntmps301;go_wp2_with fail;obtain⟨w0,hw0⟩:=ae (w.alloc (.cells #[.int .u64 (gen:Nat),.int .u64 (l8:Nat),.int .i64 (len:Nat),.int .u32 (sum:Nat)] 129));have hb0:=aL hw0;rw[hw0];have Kt:=aa hb0;clear hw0 hb0;refine(KV.o w0).mono ?_;rintro e wa ⟨rfl,H8⟩;have Zw:=aa (show Below w.heap.size w wa from av Kt.o H8);clear H8;go_wp2_with fail;go_ret2;exact⟨rfl,Zw.o⟩
variable{w:World}{g:Nat}
theorem aao{b:By}{h:Hd}(hh:BR b=some h): h.gen<18446744073709551616:=by
 unfold BR at hh;split at hh
 ·cases hh
 split at hh
 ·split at hh
  ·injection hh with hh
   subst hh;show val ((b.drop 4).take 8)<256 ^ 8
   exact Nat.lt_of_lt_of_le (Oc.Az _) (Nat.pow_le_pow_right aN (by rw[List.length_take];exact Nat.min_le_left _ _))
  cases hh
 cases hh
theorem Ee(g:Rg)(d:bK): (cX g d).2.1.gen<18446744073709551616:=by
 unfold cX;split
 ·simp only;split
  ·split
   ·rename_i h hh _;exact aao hh
   decide
  decide
 show 0<_;decide
theorem Ja(s:Sl)(d:bK): (s.load d).hd.gen<18446744073709551616:=by
 unfold Sl.load;have h1:=Ee s.a d;have h2:=Ee s.b (cX s.a d).2.2;have hz:Hd.zero.gen<18446744073709551616:=aN;have h3: ∀ D i j (hi hj:Hd),hi.gen<18446744073709551616→hj.gen<18446744073709551616→(kx s D i j hi hj).hd.gen<18446744073709551616:=fun D i j hi hj a b=>by
  unfold kx;split
  ·split
   ·exact a
   split
   ·split
    ·exact b
    exact hz
   exact hz
  exact hz
 split
 ·split
  ·split
   ·exact h3 _ _ _ _ _ h2 h1
   exact h3 _ _ _ _ _ h1 h2
  exact hz
 exact hz
theorem bK.FA(d:bK): d.sync.2.dk.size=d.dk.size∧(d.sync.1=0→d.sync.2.dk.row= []):=by
 unfold bK.sync;split
 ·refine⟨?_,fun _=>rfl⟩;show d.op.2.dk.size=d.dk.size
  rw[bK.ug]
 refine⟨?_,fun h=>absurd (show(60:Int)=0 from h) aN⟩;show d.op.2.dk.size=d.dk.size
 rw[bK.ug]
theorem ZB: (af.info? 5).map (·.size)=some 1:=br
theorem _root_.Go.Proofs.YtemighjbfanenaaGreatDoor.jN.bsx{bs:By}(h:jN w 5 g bs): Bs w (some ⟨g,0,none⟩) bs:=fun hne=>by
 have hl:=h.lt;obtain⟨cur,h1,h2⟩:=h;exact⟨g,0,rfl,hl,fun i u hu=>by rw[Nat.zero_add,show w.cell? ⟨g,i,none⟩=cur[i]? from by simp[World.cell?,h1]];exact h2 i u hu⟩
theorem afj{A:Option Addr}{bs:By}(h:Bs w A bs)(hne:0<bs.length): ∃ ad,A=some ad∧∀ j v,(aP bs)[j]? =some v→w.cell? (ad.add j)=some v:=by
 obtain⟨g,off,rfl,_⟩:=h (by intro e;rw[e] at hne;simp at hne);exact⟨_,rfl,fun j v hv=>h.read j v hv⟩
theorem Z4{base n:Nat} (h:w.ownsRow base 5 1 (.slice (some ⟨g,0,none⟩) n n) n (madeCells (gI .u8 0).cells (n*1)).toList)(hn:0<n): ∃ cur:Array Value,w.heap[g]? =some (.cells cur 5 (0,0))∧n≤cur.size∧∀ j,j<n→cur[j]? =some (.int .u8 0):=by
 have hm: ∀ j,j<n→(madeCells (gI .u8 0).cells (n*1)).toList[j]? =some (.int .u8 0):=fun j hj=>by
  have e:(gI .u8 0).cells= #[.int .u8 0]:=rfl;rw[e];unfold madeCells;simp[hj,Nat.mod_one]
 rcases h.2 with⟨h0,_⟩|⟨g',cap,cur,hv,hb,hh,hnc,hcm,hcs,ht⟩
 ·cases h0
 injection hv with e1 _ e2
 injection e1 with e1
 injection e1 with e1
 subst e1 e2;refine⟨cur,hh,aj,fun j hj=>?_⟩;have h1:=hm j hj;rw[←ht,List.getElem?_take_of_lt aj,ei] at h1;exact h1
theorem LW{n:Nat} {cur:List Value}{a:By}(hg:w.heap[g]? =some (.cells (splice cur 0 (aP a)).toArray 5 (0,0)))(ha:a.length≤n)(hz: ∀ j,j<n→cur[j]? =some (.int .u8 0)): jN w 5 g (a++dW (n - a.length) 0):=by
 refine⟨_,hg,fun j u hu=>?_⟩;rw[aP,List.map_append] at hu;unfold splice;simp only[List.take_zero,PT,List.getElem?_toArray,Nat.zero_add];rcases Nat.lt_or_ge j (aP a).length with hj|hj
 ·rw[qT (by rw[gZ];rwa [bu] at hj)] at hu;rw[qT hj];exact hu
 rw[bu] at hj;rw[wJ (by rw[gZ];exact hj),gZ,List.map_replicate] at hu;rw[wJ (by rw[bu];exact hj),bu,List.getElem?_drop];have hlt:j - a.length<n - a.length:=by
  have:=(List.getElem?_eq_some_iff.1 hu).1;simpa using this
 rw[List.getElem?_replicate,if_pos hlt] at hu;rw[show a.length+(j - a.length)=j from aj,hz j aj,←hu];rfl
def ada(S:Nat→Prop)(p:Nat)(R:Int × Hd × bK)(w:World)(e:Ending)(w':World): Prop:=e= .returned (.tuple #[.agg (oc R.2.1),.int .i64 R.1])∧dF p R.2.2 (Gr S w w') w'∧aI S w w'
structure Eu(S:Nat→Prop)(w:World)(rr bx nb lb sg p r size:Nat)(nx:Hd)(A:Option Addr)(body sec:By)(c:Nat)(T:Nat→Prop)(D:bK)(W:World): Prop where
 res:aG W rr 129 #[.int .u64 0,.int .u64 0,.int .i64 0,.int .u32 0]
 x:aG W bx 90 #[.pointer (some ⟨r,0,none⟩)]
 h:aG W nb 129 (oc nx)
 l:aG W lb 434 #[.int .i64 size,.slice A body.length c,.int .i64 0,.slice (some ⟨sg,0,none⟩) size size]
 sec:jN W 5 sg sec
 body:Bs W A body
 dev:dF p D T W
 cO:aI S w W
 sub: ∀ k,T k→S k∨w.heap.size≤k
 no: ¬T rr∧¬T bx∧¬T nb∧¬T lb∧¬T sg
 low:w.heap.size≤rr∧w.heap.size≤bx∧w.heap.size≤nb∧w.heap.size≤lb∧w.heap.size≤sg
section
variable {S:Nat→Prop}{w:World}{rr bx nb lb sg p r size:Nat}{nx:Hd}{A:Option Addr}{body sec:By}{c:Nat}{T:Nat→Prop}{D:bK}{W W':World}
theorem Eu.ak(h:Eu S w rr bx nb lb sg p r size nx A body sec c T D W)(hb:Below W.heap.size W W'): Eu S w rr bx nb lb sg p r size nx A body sec c T D W':=
 ⟨h.res.ai hb,h.x.ai hb,h.h.ai hb,h.l.ai hb,h.sec.same (hb.block _ h.sec.lt),h.body.ai hb,(aD p D).ak h.dev hb,h.cO.ak hb,h.sub,h.no,h.low⟩
theorem Eu.step{D':bK}(h:Eu S w rr bx nb lb sg p r size nx A body sec c T D W)(hA: ∀ g off,A=some ⟨g,off,none⟩→g<w.heap.size∧¬S g)(hD:dF p D' (Gr T W W') W')(ht:aI T W W'): Eu S w rr bx nb lb sg p r size nx A body sec c (Gr T W W') D' W':=by
 have hT:=(aD p D).lt h.dev;have ho: ∀ k,Gr T W W' k→k<W.heap.size→T k:=fun k hk hl=>hk.old hl
 obtain⟨n1,n2,n3,n4,n5⟩:=h.no;refine⟨ht.arr h.res n1,ht.arr h.x n2,ht.arr h.h n3,ht.arr h.l n4,h.sec.same (ht.block _ h.sec.lt n5),h.body.cO ht (fun g off e _ hg=>?_),hD,?_,fun k hk=>?_,⟨fun hk=>n1 (ho _ hk h.res.lt),fun hk=>n2 (ho _ hk h.x.lt),fun hk=>n3 (ho _ hk h.h.lt),fun hk=>n4 (ho _ hk h.l.lt),fun hk=>n5 (ho _ hk h.sec.lt)⟩,h.low⟩
 ·obtain⟨h1,h2⟩:=hA g off e;rcases h.sub g hg with h3|h3
  ·exact h2 h3
  omega
 ·exact h.cO.new ((ht.mono fun j _ hj=>h.sub j hj))
 rcases hk with hk|hk
 ·exact h.sub k hk
 have:=h.cO.size;exact .inr aj
theorem Eu.o{R:Int × Hd × bK}(h:Eu S w rr bx nb lb sg p r size nx A body sec c T D W)(hS: ∀ k,S k→k<w.heap.size)(hg:W.grownBy W' (some rr))(hR:R.2.2=D): ada S p R w (.returned (.tuple #[.agg (oc R.2.1),.int .i64 R.1])) W':=by
 subst hR;have hT:=(aD p R.2.2).lt h.dev;have h1:dF p R.2.2 T W':=(aD p R.2.2).same h.dev hg.size (fun k hk=>hg.block k (hT k hk) (fun e=>by injection e with e;subst e;exact h.no.1 hk));have hl:=h.low;refine⟨rfl,(aD p R.2.2).mono h1 (fun k hk=>?_) (fun k hk=>?_),h.cO.grown hg (fun k e=>by injection e with e;subst e;exact .inr hl.1)⟩
 ·have hz:=hg.size;have:=hT k hk;rcases h.sub k hk with h2|h2
  ·exact .inl h2
  exact .inr ⟨h2,aj⟩
 rcases hk with hk|hk
 ·have:=hS k hk;have:=h.cO.size;have:=hg.size;omega
 exact hk.2
end
theorem Xs{S:Nat→Prop}{s ra rb p:Nat}{sl:Sl}{d:bK}(h:qH w s ra rb p sl d.dk.size)(hD:dF p d S w)(hs: ¬S s)(Jv: ¬S ra)(jI: ¬S rb)(ht:cj w)(QT: ¬S 1)(Ib:32≤d.dk.size)
  (body:By) (A:Option Addr) (c l8:Nat) (hB:Bs w A body) (hA: ∀ g off,A=some ⟨g,off,none⟩→g<w.heap.size∧¬S g) (hc:body.length≤c) (ahO:l8<18446744073709551616) (hrow:d.dk.row.length+body.length≤1000000) :
  Calls af 214 #[.pointer (some ⟨s,0,none⟩),.slice A body.length c,.int .u64 (l8:Nat)] w (ada S p (sl.save d body l8) w):=by
 have hS:=(aD p d).lt hD;obtain⟨rr,vr⟩:=ae w.heap.size;obtain⟨w0,hw0⟩:=ae (w.alloc (.cells #[.int .u64 0,.int .u64 0,.int .i64 0,.int .u32 0] 129));have hb0:=aL hw0;have ha0:=aK hw0 vr;have x0:w0.cell? ⟨s,0,none⟩=some (.pointer (some ⟨ra,0,none⟩)):=(h.own.ai hb0).cell 0;have Dm: ¬S rr:=fun hk=>by have:=hS _ hk;omega
 obtain⟨B,hBe⟩:=ae (sl.bytes d.dk.size);obtain⟨er,hh,bd,at_,d1,hL⟩: ∃ er hh bd at_ d1,sl.load d=⟨er,hh,bd,at_,d1⟩:=⟨_,_,_,_,_,rfl⟩;have yU:d1.dk=d.dk:=by have:=OJ sl d;rw[hL] at this;exact this
 have hgn:hh.gen<18446744073709551616:=by have:=Ja sl d;rw[hL] at this;exact this
 have hsz:=h.a.size;have H8:=h.a.eQ;obtain⟨R,hR⟩:=ae (sl.save d body l8);have Di:R=sl.save d body l8:=hR.symm;unfold Sl.save at Di;rw[hBe,hL] at Di;simp only at Di;have X':=aa Di;clear Di;have Pv:=aa (yn (h.ai hb0));rw[hBe] at Pv;have HLO:=aa (show ∀ W,Below w.heap.size w W→Calls af 299 #[.pointer (some ⟨s,0,none⟩)] W (XS S p (sl.load d) W)from fun W hW=>Xu (h.ai hW) ((aD p d).ak hD hW) hs Jv jI (ht.ai hW) QT);rw[hL] at HLO;have Gn:=aa (show ∀ W,aI S w W→qH W s ra rb p sl d.dk.size from fun W hW=>h.cO hW hs Jv jI);have CY:=aa (show ∀ W,aI S w W→cj W from fun W hW=>ht.cO hW QT);have ie:=aa (show ∀ W,aI S w W→Bs W A body from fun W hW=>hB.cO hW fun g off e _ hg=>(hA g off e).2 hg);have HDW:=aa (show dF p d S w0∧aI S w w0 from⟨(aD p d).ak hD hb0,aI.aU hb0⟩);have hbl:body.length≤1000000:=aj;have amD:(body.length:Int)≤1000000:=aj;have HS:=aa hS;have uq:=aa vr;have X6:=aa hw0;have Kt:=aa hb0;have HA0:=aa ha0;have Sn:=aa Dm;have HK1:=aa yU;have HGN:=aa hgn;have HAA:=aa hA;have HCC:=aa hc;have HCV:=aa ahO;have nY:=aa hrow;have SA:=aa Ib;have mi:=aa hsz;have HRL:=aa (show ra<w.heap.size∧rb<w.heap.size from⟨h.a.own.lt,h.b.own.lt⟩);have RD:=aa (show ¬S s∧¬S ra∧¬S rb from⟨hs,Jv,jI⟩);rw[hR];clear hS vr hw0 hb0 ha0 Dm hBe hL yU hgn hsz H8 h hD hs Jv jI ht QT Ib hB hA hc ahO hrow hR;go_enter Tryz.func214,Tryz.ntmps214;go_wp2_with fail;rw[X6.o,uq.o];refine ag (ym s ra w0 x0) ?_;go_wp2_with fail;refine Pv.o.mono ?_;rintro e w2 ⟨rfl,hb2⟩;have cu:=aa (show Below w.heap.size w w2 from av Kt.o hb2);have iZ:=HA0.js hb2;have jG:=aa (show dF p d S w2∧aI S w w2 from⟨(aD p d).ak HDW.o.1 hb2,HDW.o.2.ak hb2⟩);clear hb2 Pv HDW;by_cases hlen:B<body.length
 ·have oZ:(B:Int)<(body.length:Int):=by omega
  go_wp2_with (first|(refine ah rfl 129 _ _ rfl rr 129 _ #[.int .u64 0,.int .u64 0,.int .i64 0,.int .u32 0] iZ.o rfl rfl rfl a8 (cB Hd.zero) ?_;intro wz gz eC hsz;have kH:=aa gz;have iw:=aa eC;clear gz eC hsz));refine bodyPost_ret (results_cell_tmp oT _ im (aJ 129 kH.o _ cq rfl a8)) rfl ?_;rw[show R=(3,Hd.zero,d)from by rw[X'.o];simp[hlen]];exact⟨rfl,(aD p d).AB ((aD p d).same jG.o.1 iw.o.size (fun k hk=>iw.o.block k ((aD p d).lt jG.o.1 k hk) (fun e=>AH))) HS.o (aT jG.o.2.size iw.o.size),jG.o.2.grown iw.o (fun k e=>LN)⟩
 ·have oZ: ¬(B:Int)<(body.length:Int):=by omega
  have aba:=aa (show R=_ from by rw[X'.o,if_neg hlen]);have abf:=HLO.o w2 cu.o;have abf:=aa abf;have alI:=cu.o;clear hlen X' alI;go_wp2_with fail;refine abf.o.mono ?_;rintro e w3 ⟨⟨A',c',rfl,_,_⟩,O4,CN⟩;have EF:=aa (show dF p d1 S w3∧aI S w w3 from⟨O4,jG.o.2.trans CN⟩);have pB:=aa (CN.arr iZ.o Sn.o);clear O4 CN abf HLO;have HFR:=aa (aG.fresh w3 129 #[.int .u64 0,.int .u64 0,.int .i64 0,.int .u32 0]);by_cases o7:er=0
  ·subst o7;go_wp2_with (first|(refine ah rfl 129 _ _ rfl w3.heap.size 129 _ (oc hh) HFR.o rfl rfl rfl a8 (cB hh) ?_;intro w5 fX ft hs5;have ou:=aa fX;have eA:=aa (show Below w3.heap.size w3 w5 from bn (ax (au _ _) _) ft (aQ _));clear fX ft hs5));obtain⟨xh,Ht⟩:=ae w3.heap.size;have CU:aG w5 xh 129 (oc hh):=by rw[←Ht];exact ou.o
   rw[Ht];have x4:w5.cell? ⟨xh,0,none⟩=some (.int .u64 (hh.gen:Nat)):=CU.cell 0;obtain⟨nb,hnb⟩:=ae w5.heap.size;have HXN:=aa (show xh≠nb by have:=CU.lt;omega);have ajC:=aa (pB.o.ai eA.o);have vB:=aa (show dF p d1 S w5∧aI S w w5 from⟨(aD p d1).ak EF.o.1 eA.o,EF.o.2.ak eA.o⟩);have HNB:=aa hnb;have ak9:=aa (vB.o.2.size);clear Ht CU hnb ou HFR pB EF eA;obtain⟨ng,hng,kX,hg2⟩: ∃ ng:Nat,cR.wrap ((hh.gen:Int)+1)=(ng:Nat)∧(hh.gen=18446744073709551615→ng=0)∧(hh.gen≠18446744073709551615→ng=hh.gen+1):=by
    by_cases hq:hh.gen=18446744073709551615
    ·exact⟨0,by rw[hq];decide,fun _=>rfl,fun hn=>absurd hq hn⟩
    refine⟨hh.gen+1,?_,fun hn=>absurd hn hq,fun _=>rfl⟩;have:=HGN.o;rw[mJ];omega
   have Py:=aa kX;have yq:=aa hg2;clear kX hg2;have Zu:=aa (show ∀ W,Below w5.heap.size w5 W→Calls af 300 #[.slice A body.length c] W (fun e w'=>e= .returned (.int .u32 (ic 0 body:Nat))∧w'=W)from fun W hW=>Cr.qG body A c W (ie.o W (vB.o.2.ak hW)) (CY.o W (vB.o.2.ak hW)) aj);go_cut [12] from 41 to 49 (fun s12 wc=>s12= .pointer (some ⟨nb,0,none⟩)∧aG wc nb 129 (oc ⟨ng,l8,body.length,ic 0 body⟩)∧Below w5.heap.size w5 wc)
   case first=>
    refine ud (S:=(fun w'=>w'.cell? ⟨xh,0,none⟩=some (.int .u64 (hh.gen:Nat)))) (by exact x4) fun hHeld=>?_
    refine cS 0 (some 41) hHeld ?_;refine cS 1 (some 42) hHeld ?_;refine cS 2 (some 43) hHeld ?_;refine cS 3 (some 44) hHeld ?_;refine cS 4 (some 45) hHeld ?_;refine cS 5 (some 46) hHeld ?_;refine cS 6 (some 47) hHeld ?_;refine qp 7 9 (fun K hK=>?_) fun K hK=>?_
    ·go_simp;refine ag (Zu.o _ (az (au _ _))) ?_;go_wp2_with fail;refine bW hK (by exact x4) fun o9=>?_
     clear hK K;refine ty 8 ?_;refine cG 9 fun K hK=>?_
     go_simp;obtain⟨w6,og⟩:=ae ((w5.alloc (.cells #[.int .u64 0,.int .u64 0,.int .i64 0,.int .u32 0] 129)).drew);have mY:Below w5.heap.size w5 w6:=Tq;have MC:aG w6 nb 129 #[.int .u64 0,.int .u64 0,.int .i64 0,.int .u32 0]:=by rw[←og,←HNB.o];exact aG.fresh w5 _ _
     rw[og,HNB.o];have x6:w6.cell? ⟨xh,0,none⟩=some (.int .u64 (hh.gen:Nat)):=(mY.cell (p:=⟨xh,0,none⟩) (bD _ _ x4)).trans x4;have ij:=aa mY;have tC:=aa MC;clear og mY MC;refine bW hK (by exact x6) fun F9=>?_
     clear hK K;try simp only[aY]
     exact acM
    go_simp;obtain⟨w6,og⟩:=ae ((w5.alloc (.cells #[.int .u64 0,.int .u64 0,.int .i64 0,.int .u32 0] 129)).drew);have mY:Below w5.heap.size w5 w6:=Tq;have MC:aG w6 nb 129 #[.int .u64 0,.int .u64 0,.int .i64 0,.int .u32 0]:=by rw[←og,←HNB.o];exact aG.fresh w5 _ _
    rw[og,HNB.o];have x6:w6.cell? ⟨xh,0,none⟩=some (.int .u64 (hh.gen:Nat)):=(mY.cell (p:=⟨xh,0,none⟩) (bD _ _ x4)).trans x4;have ij:=aa mY;have tC:=aa MC;clear og mY MC;refine bW hK (by exact x6) fun F9=>?_
    clear hK K;try simp only[aY]
    refine cG 7 fun K hK=>?_
    go_simp;refine ag (Zu.o _ (ij.o)) ?_;go_wp2_with fail;refine bW hK (by exact x6) fun o9=>?_
    clear hK K;refine ty 8 ?_;exact acM
   case rest=>
    obtain⟨rfl,Ek,hB7⟩:=hcut;have yt:=aa Ek;have HD7:=aa (show dF p d1 S wc∧aI S w wc from⟨(aD p d1).ak vB.o.1 hB7,vB.o.2.ak hB7⟩);have RF:=aa (ajC.o.ai hB7);clear Ek hB7 Zu ajC vB hng x4;by_cases eC:hh.gen=18446744073709551615
    ·obtain rfl:ng=0:=Py.o eC;have HHD:=aa (MX ⟨0,l8,body.length,ic 0 body⟩ wc rfl);have sO:=aa (show R=(6,Hd.zero,d1)from by rw[aba.o];simp[eC]);clear eC Py yq aba;go_wp2_with (first|(refine aC rfl 129 _ rfl nb 129 _ yt.o rfl _ cq rfl a8 ?_));refine HHD.o.mono ?_;rintro e w8 ⟨rfl,mX⟩;have Yq:=aa (show dF p d1 S w8∧aI S w w8 from⟨(aD p d1).ak HD7.o.1 mX,HD7.o.2.ak mX⟩);have KS:=aa (RF.o.ai mX);clear mX;go_wp2_with (first|(refine ah rfl 129 _ _ rfl rr 129 _ #[.int .u64 0,.int .u64 0,.int .i64 0,.int .u32 0] KS.o rfl rfl rfl a8 (cB Hd.zero) ?_;intro wz gz eC hsz;have kH:=aa gz;have iw:=aa eC;clear gz eC hsz));refine bodyPost_ret (results_cell_tmp oT _ im (aJ 129 kH.o _ cq rfl a8)) rfl ?_;rw[sO.o];exact⟨rfl,(aD p d1).AB ((aD p d1).same Yq.o.1 iw.o.size (fun k hk=>iw.o.block k ((aD p d1).lt Yq.o.1 k hk) (fun e=>AH))) HS.o (aT Yq.o.2.size iw.o.size),Yq.o.2.grown iw.o (fun k e=>LN)⟩
    obtain rfl:ng=hh.gen+1:=yq.o eC;obtain⟨nx,D5⟩:=ae ((⟨hh.gen+1,l8,body.length,ic 0 body⟩:Hd):Hd);rw[D5] at yt;have BO:nx.may=true:=by rw[←D5];unfold Hd.may;simp;omega
    have zr:nx.Fit:=by
     have h1:=HGN.o;have h2:=HCV.o;rw[←D5];exact⟨by show hh.gen+1<_;omega,h2,by show body.length≤_;omega,Cr.MM 0 _ aN⟩
    have HHD:=aa (MY nx wc BO zr (CY.o wc HD7.o.2));have CX:=aa D5;have Yk:=aa eC;clear eC Py yq BO zr D5;go_wp2_with (first|(refine aC rfl 129 _ rfl nb 129 _ yt.o rfl _ cq rfl a8 ?_));refine HHD.o.mono ?_;rintro e w8 ⟨A2,c2,rfl,hB8,mX,hc2,KN⟩;have Yq:=aa (show dF p d1 S w8∧aI S w w8 from⟨(aD p d1).ak HD7.o.1 mX,HD7.o.2.ak mX⟩);have KS:=aa (RF.o.ai mX);have HN8:=aa (yt.o.ai mX);have py:=aa hB8;clear hB8 mX HHD KN;obtain⟨r,hr⟩:=ae ((if at_=0 then rb else ra));have q0:w8.cell? ⟨s,0,none⟩=some (.pointer (some ⟨ra,0,none⟩)):=(Gn.o w8 Yq.o.2).own.cell 0;have q1:w8.cell? ⟨s,1,none⟩=some (.pointer (some ⟨rb,0,none⟩)):=(Gn.o w8 Yq.o.2).own.cell 1;go_upto_if 64 with fail
    obtain⟨bx,mh⟩:=ae w8.heap.size;have yr:=aa mh;have z1:(w8.alloc (.cells #[.pointer (some ⟨ra,0,none⟩)] 90)).cell? ⟨s,1,none⟩=some (.pointer (some ⟨rb,0,none⟩)):=((ax (au w8.heap.size w8) _).cell (p:=⟨s,1,none⟩) (bD _ _ q1)).trans q1;go_cut [] from 63 to 69 (fun wd=>aG wd bx 90 #[.pointer (some ⟨r,0,none⟩)]∧Below w8.heap.size w8 wd)
    case first=>
     by_cases hat:at_=0
     ·have hq:(at_==0)=true:=by simp[hat]
      obtain rfl:rb=r:=by rw[if_pos hat] at hr;exact hr
      exact acx
     have hq:(at_==0)=false:=by simp[hat]
     obtain rfl:ra=r:=by rw[if_neg hat] at hr;exact hr
     exact acx
    case rest=>
     obtain⟨hXd,hBd⟩:=hcut;have HLX:=aa (show w.heap.size≤bx∧w.heap.size≤nb from⟨by have h1:=yr.o;have h2:=Yq.o.2.size;omega,by have h1:=HNB.o;have h2:=ak9.o;omega⟩);have HXD:=aa hXd;have y0:=hXd.cl 0;have Yp:=aa (show dF p d1 S wc∧aI S w wc from⟨(aD p d1).ak Yq.o.1 hBd,Yq.o.2.ak hBd⟩);have nh:=aa (KS.o.ai hBd);have HND:=aa (HN8.o.ai hBd);have Sy:=aa (py.o.ai hBd);have ag8:r=ra∨r=rb:=by rw[←hr];split;exact .inr rfl;exact .inl rfl
     have alh:=aa ag8;clear hXd hBd Yq KS HN8 py q0 q1 z1 ag8;obtain⟨size,hsize⟩:=ae d.dk.size;have Gm:=aa hsize;have HSI:=aa (show ∀ W,aI S w W→Calls af 128 #[.pointer (some ⟨r,0,none⟩)] W (fun e w'=>e= .returned (.int .i64 size)∧w'=W)from fun W hW=>by
      rw[←hsize];rcases alh.o with e|e
      ·rw[e];exact kC (Gn.o W hW).a
      rw[e];exact kC (Gn.o W hW).b)
     have Ib:32≤size:=by rw[←hsize];exact SA.o
     have sr:size≤4096:=by rw[←hsize];exact mi.o.2
     have amb:(size:Int)≤4096:=aj;obtain⟨i0,hi,hz0,hz1,hz2⟩:=info_parts Oc.eY;obtain⟨sg,Y1⟩:=ae wc.heap.size;have Zi:=aa Y1;obtain⟨sec,VV⟩:=ae (H7 nx++dW (size - (H7 nx).length) 0);have HSC:=aa VV;obtain⟨hbV,ahC⟩:=ae (aP (H7 nx));have HHV:=aa ahC;have ahu:(aP (H7 nx)).length=32:=by rw[bu,mW]
     have ai5:=aa ahu;have alj:=aa hr;clear hsize Y1 VV ahC ahu hr;go_wp2_with fail;refine ag (HSI.o wc Yp.o.2) ?_;go_wp2_with (first|(refine wpList_make_full _ rfl _ _ 34 rfl wc.heap.size 5 i0 (.int .u8 0) 1 Tryz.underlying34 hi hz0 hz1 .i64 .i64 _ _ size rfl rfl rfl rfl AY km (aQ _) ?_;intro C9 V0 ahF;have alr:=aa (Z4 V0 aj);have ajw:=aa (show Below wc.heap.size wc C9 from Below.grown (au _ _) ahF (aQ _) dR);clear V0 ahF)|(obtain⟨cur,pU,hcs,hcz⟩:=alr.o;(refine wpList_copy_splice rfl _ _ 34 34 rfl 5 Tryz.underlying34 ZB (some ⟨wc.heap.size,0,none⟩) A2 size size 32 c2 rfl rfl wc.heap.size 0 cur.toList 5 pU (aP (H7 nx)) (by rw[ai5.o];exact(Nat.min_eq_left Ib).symm) (fun _=>⟨rfl,afj (Sy.o.ai ajw.o) (by rw[mW];decide)⟩) (by rw[ai5.o,Array.length_toList];omega) (Oc.bQ _) wc.heap.size wc ajw.o (aQ _) ?_;intro SN ai9 afe;have Pv:=aa (LW ai9.out (by rw[mW];exact Ib) (fun j hj=>by rw[ei];exact hcz j hj));have abg:=aa afe;have y0':SN.cell? ⟨bx,0,none⟩=some (.pointer (some ⟨r,0,none⟩)):=(HXD.o.ai afe).cell 0;clear ai9 afe pU hcs hcz)));refine ag (HSI.o SN (Yp.o.2.ak abg.o)) ?_;clear HSI;obtain⟨lb,OY⟩:=ae SN.heap.size;obtain⟨ZA,aaa⟩:=ae (SN.alloc (.cells #[.int .i64 size,.slice A body.length c,.int .i64 0,.slice (some ⟨wc.heap.size,0,none⟩) size size] 434));have ae3:=aL aaa;have Q6:Below wc.heap.size wc ZA:=av abg.o ae3;have hlr:=nh.o.lt;have hln:=HND.o.lt;have hlx:=HXD.o.lt;have VV:sec.length=size:=by rw[←HSC.o,List.length_append,List.length_replicate,mW];omega
     have ai8:Eu S w rr bx nb lb sg p r size nx A body sec c S d1 ZA:=⟨nh.o.ai Q6,HXD.o.ai Q6,HND.o.ai Q6,by rw[←aaa,←OY,←Zi.o];exact aG.fresh SN _ _,by rw[←HSC.o,←Zi.o];exact Pv.o.same (ae3.block _ Pv.o.lt),ie.o ZA (Yp.o.2.ak Q6),(aD p d1).ak Yp.o.1 Q6,Yp.o.2.ak Q6,fun k hk=>.inl hk,⟨Sn.o,fun hk=>by have:=HS.o _ hk;have:=HLX.o;omega,fun hk=>by have:=HS.o _ hk;have:=HLX.o;omega,fun hk=>by have:=HS.o _ hk;have:=Yp.o.2.size;have:=abg.o.size;omega,fun hk=>by have:=HS.o _ hk;have:=Yp.o.2.size;have:=Zi.o;omega⟩,Bg,HLX.o.1,HLX.o.2,by have:=Yp.o.2.size;have:=abg.o.size;omega,by have:=Yp.o.2.size;have:=Zi.o;omega⟩;have HI:=aa ai8;have ak7:=aa aaa;have pY:=aa VV;have HLB:=aa OY;clear ai8 ae3 Q6 hlr hln hlx VV aaa OY Pv;obtain⟨g,hg⟩:=ae ((if at_=0 then sl.b else sl.a));obtain⟨E1,D1,hP1⟩: ∃ E1 D1,dB g d1 size body=(E1,D1):=⟨_,_,rfl⟩;obtain⟨E2,D2,hP2⟩: ∃ E2 D2,dB g D1 0 sec=(E2,D2):=⟨_,_,rfl⟩;have hRE:R=if E1=0 then(if E2=0 then(0,nx,D2)else(E2,Hd.zero,D2))else(E1,Hd.zero,D1):=by
      have h1:=aba.o;rw[if_neg dR,if_neg Yk.o,hg,Gm.o,CX.o,hP1] at h1;simp only at h1;have hl0:H7 nx++dW (size - 32) 0=sec:=by rw[←HSC.o,mW]
      rw[hl0,hP2] at h1;simp only at h1;rw[h1];by_cases e1:E1=0
      ·by_cases e2:E2=0
       ·simp[e1,e2]
       simp[e1,e2]
      simp[e1]
     have sO:=aa hRE;have HP1:=aa hP1;have Yf:=aa hP2;have hgg:r=ra∧g=sl.a∨r=rb∧g=sl.b:=by
      rw[←hg,←alj.o];split
      ·exact .inr ⟨rfl,rfl⟩
      exact .inl ⟨rfl,rfl⟩
     have HGG:=aa hgg;have Co:=aa (show ∀ (T:Nat→Prop) (D:bK) (at_:Nat) (b:By) (n:Nat) (Ab:Option Addr) (cb:Nat) W W',b.length=n→Eu S w rr bx nb lb sg p r size nx A body sec c T D W→Below W.heap.size W W'→D.dk.size=size→at_≤4096→Bs W' Ab b→(∀ gs off,Ab=some ⟨gs,off,none⟩→gs<W'.heap.size∧¬T gs)→b.length≤cb→b.length≤1000000→D.dk.row.length+b.length≤1000000→Calls af 294 #[.pointer (some ⟨r,0,none⟩),.int .i64 at_,.slice Ab n cb] W' (fun e w3=>e= .returned (.int .i64 (g.write D at_ b).1)∧∃ T',Eu S w rr bx nb lb sg p r size nx A body sec c T' (g.write D at_ b).2 w3)from fun T D at_ b n Ab cb W W' hn hI hB hk hat hBs hAb hcb hbl hrw=>by
      subst hn;have hI':=hI.ak hB;have hrs:=Gn.o W' hI'.cO;have hnT: ¬T r:=fun hk=>by
       have h3:=HRL.o;have h4:=RD.o;rcases hI.sub r hk with h5|h5
       ·rcases HGG.o with⟨e,_⟩|⟨e,_⟩
        ·rw[e] at h5;exact h4.2.1 h5
        rw[e] at h5;exact h4.2.2 h5
       rcases HGG.o with⟨e,_⟩|⟨e,_⟩ <;>omega
      have hrg:fT W' r p g D.dk.size:=by
       rw[hk,←Gm.o];rcases HGG.o with⟨e,e2⟩|⟨e,e2⟩
       ·rw[e,e2];exact hrs.a
       rw[e,e2];exact hrs.b
      exact(Ex hrg hI'.dev hnT at_ aj b Ab cb hBs hAb hcb aj hrw).mono fun e w3 he=>⟨he.1,_,hI'.step HAA.o he.2.1 he.2.2⟩)
     have HSY:=aa (show ∀ (T:Nat→Prop) (D:bK) W,Eu S w rr bx nb lb sg p r size nx A body sec c T D W→D.dk.size=size→D.dk.row.length≤1000000→Calls af 295 #[.pointer (some ⟨r,0,none⟩)] W (fun e w3=>e= .returned (.int .i64 D.sync.1)∧∃ T',Eu S w rr bx nb lb sg p r size nx A body sec c T' D.sync.2 w3)from fun T D W hI hk hrw=>by
      have hrs:=Gn.o W hI.cO;have hrg:fT W r p g size:=by
       rw[←Gm.o];rcases HGG.o with⟨e,e2⟩|⟨e,e2⟩
       ·rw[e,e2];exact hrs.a
       rw[e,e2];exact hrs.b
      exact(Kc hrg hI.dev hrw).mono fun e w3 he=>⟨he.1,_,hI.step HAA.o he.2.1 he.2.2⟩)
     have Wp:d1.dk.size=size∧d1.dk.row.length+body.length≤1000000:=by rw[HK1.o,Gm.o];exact⟨rfl,nY.o⟩
     have hd2:E1=0→D1.dk.size=size∧D1.dk.row.length=0:=by
      have h1:=hP1;unfold dB at h1;have h2:=g.pC d1 size body aj;split at h1
      ·have h3:=bK.FA (g.write d1 size body).2;rw[h1] at h3;exact fun e=>⟨h3.1.trans (h2.1.trans Wp.1),by rw[h3.2 e];rfl⟩
      rename_i hne;rw[h1] at hne;exact fun e=>absurd e hne
     have Ni:=aa Wp;have jG:=aa hd2;clear hg hP1 hP2 hRE hgg Wp hd2;go_wp2_with fail;rw[ak7.o];rw[Zi.o,HLB.o];go_loopw [86] (fun k wr=>(k= .int .i64 0∧∃ T,Eu S w rr bx nb lb sg p r size nx A body sec c T d1 wr)∨(k= .int .i64 1∧E1=0∧∃ T,Eu S w rr bx nb lb sg p r size nx A body sec c T D1 wr)∨(k= .int .i64 2∧(E1=0∧E2=0)∧∃ T,Eu S w rr bx nb lb sg p r size nx A body sec c T D2 wr)) (fun k _=>(2 - intOf k).toNat)
     case atStart=>exact .inl ⟨rfl,S,HI.o⟩
     case round=>
      rcases hrel with⟨rfl,T,hI⟩|⟨rfl,he1,T,hI⟩|⟨rfl,ahK,T,hI⟩
      ·have HI:=aa hI;have l0:=hI.l.cl 0;have l1:=hI.l.cl 1;have l2:=hI.l.cl 2;have l3:wr.cell? ⟨lb,3,none⟩=some (.slice (some ⟨sg,0,none⟩) size size):=hI.l.cell 3;have b0:=hI.x.cl 0;have b0a: ∀ o,(wr.alloc o).cell? ⟨bx,0,none⟩=some (.pointer (some ⟨r,0,none⟩)):=fun o=>((ax (au wr.heap.size wr) o).cell (p:=⟨bx,0,none⟩) hI.x.lt).trans b0
       clear hI;obtain⟨ew,Dw,hwr⟩: ∃ ew Dw,g.write d1 ((size:Nat):Int) body=(ew,Dw):=⟨_,_,rfl⟩;obtain⟨es,Ds,hsy⟩: ∃ es Ds,Dw.sync=(es,Ds):=⟨_,_,rfl⟩;have hps:(E1,D1)=if ew=0 then(es,Ds)else(ew,Dw):=by rw[←HP1.o];unfold dB;rw[hwr];simp only[hsy]
       have hdw:Dw.dk.size=size∧Dw.dk.row.length≤1000000:=by
        have h2:=g.pC d1 size body (by rw[Ni.o.1];omega);rw[hwr] at h2;exact⟨h2.1.trans Ni.o.1,aT h2.2 Ni.o.2⟩
       have HWV:=aa hwr;have X':=aa hsy;have RI:=aa hps;have HDW:=aa hdw;clear hwr hsy hps hdw;go_wp2_with fail;refine(Co.o T d1 size body body.length A c wr _ rfl HI.o (by repeat(first|with_reducible exact au _ _|with_reducible refine ax ?_ _|with_reducible refine az ?_|with_reducible refine bJ ?_ _|(refine eF ?_ uC _)|with_reducible refine av ?_ uy)) Ni.o.1 aj (HI.o.ak (by repeat(first|with_reducible exact au _ _|with_reducible refine ax ?_ _|with_reducible refine az ?_|with_reducible refine bJ ?_ _|(refine eF ?_ uC _)|with_reducible refine av ?_ uy))).body (fun gs off e=>⟨by have h1:=(HAA.o gs off e).1;have h2:=HI.o.cO.size;simp;omega,fun ht=>by rcases HI.o.sub gs ht with h5|h5;exact(HAA.o gs off e).2 h5;have h1:=(HAA.o gs off e).1;omega⟩) HCC.o hbl Ni.o.2).mono ?_;rw[HWV.o];rintro e w3 ⟨rfl,T1,fj⟩;have zA:=aa fj;have b0':=fj.x.cl 0;clear fj;by_cases Sc:ew=0
       ·have abd:=aa (show(E1,D1)=(es,Ds)from by rw[RI.o,if_pos Sc]);subst Sc;clear RI;go_wp2_with fail;refine(HSY.o T1 Dw w3 zA.o HDW.o.1 HDW.o.2).mono ?_;rw[X'.o];rintro e w4 ⟨rfl,T3,fj⟩;have gG:=aa fj;clear fj;by_cases hes:es=0
        ·have Sw:=aa (show E1=0∧D1=Ds from TK);subst hes;go_wp2_with fail;go_roundw
         case rel=>exact .inr (.inl ⟨rfl,Sw.o.1,T3,by rw[Sw.o.2];exact gG.o⟩)
         case measure=>simp[intOf]
        have tu:(es != 0)=true:=by simp[hes]
        have Sw:=aa (show ¬E1=0 from TD);have HED:=aa (show E1=es∧D1=Ds from Tw);clear hes;go_wp2_with (first|(refine ah rfl 129 _ _ rfl rr 129 _ #[.int .u64 0,.int .u64 0,.int .i64 0,.int .u32 0] gG.o.res rfl rfl rfl a8 (cB Hd.zero) ?_;intro wz gz eC hsz;have kH:=aa gz;have iw:=aa eC;clear gz eC hsz));refine bodyPost_ret (results_cell_tmp oT _ im (aJ 129 kH.o _ cq rfl a8)) rfl ?_;rw[show R=(es,Hd.zero,Ds)from by rw[sO.o,if_neg Sw.o];rw[HED.o.1,HED.o.2]];exact gG.o.o (R:=(es,Hd.zero,Ds)) HS.o iw.o rfl
       have tu:(ew != 0)=true:=by simp[Sc]
       have Sw:=aa (show ¬E1=0 from TX);have HED:=aa (show E1=ew∧D1=Dw from TU);clear Sc;go_wp2_with (first|(refine ah rfl 129 _ _ rfl rr 129 _ #[.int .u64 0,.int .u64 0,.int .i64 0,.int .u32 0] zA.o.res rfl rfl rfl a8 (cB Hd.zero) ?_;intro wz gz eC hsz;have kH:=aa gz;have iw:=aa eC;clear gz eC hsz));refine bodyPost_ret (results_cell_tmp oT _ im (aJ 129 kH.o _ cq rfl a8)) rfl ?_;rw[show R=(ew,Hd.zero,Dw)from by rw[sO.o,if_neg Sw.o];rw[HED.o.1,HED.o.2]];exact zA.o.o (R:=(ew,Hd.zero,Dw)) HS.o iw.o rfl
      ·have vA:=aa he1;clear he1;have HI:=aa hI;have l0:=hI.l.cl 0;have l1:=hI.l.cl 1;have l2:=hI.l.cl 2;have l3:wr.cell? ⟨lb,3,none⟩=some (.slice (some ⟨sg,0,none⟩) size size):=hI.l.cell 3;have b0:=hI.x.cl 0;have b0a: ∀ o,(wr.alloc o).cell? ⟨bx,0,none⟩=some (.pointer (some ⟨r,0,none⟩)):=fun o=>((ax (au wr.heap.size wr) o).cell (p:=⟨bx,0,none⟩) hI.x.lt).trans b0
       clear hI;obtain⟨ew,Dw,hwr⟩: ∃ ew Dw,g.write D1 ((0:Nat):Int) sec=(ew,Dw):=⟨_,_,rfl⟩;obtain⟨es,Ds,hsy⟩: ∃ es Ds,Dw.sync=(es,Ds):=⟨_,_,rfl⟩;have hps:(E2,D2)=if ew=0 then(es,Ds)else(ew,Dw):=by rw[←Yf.o];unfold dB;rw[hwr];simp only[hsy]
       have hdw:Dw.dk.size=size∧Dw.dk.row.length≤1000000:=by
        have h2:=g.pC D1 0 sec (by rw[(jG.o vA.o).1];omega);rw[hwr] at h2;exact⟨h2.1.trans (jG.o vA.o).1,aT h2.2 (by have h1:=(jG.o vA.o).2;have h2:=pY.o;omega)⟩
       have HWV:=aa hwr;have X':=aa hsy;have RI:=aa hps;have HDW:=aa hdw;clear hwr hsy hps hdw;go_wp2_with fail;refine(Co.o T D1 0 sec size (some ⟨sg,0,none⟩) size wr _ pY.o HI.o (by repeat(first|with_reducible exact au _ _|with_reducible refine ax ?_ _|with_reducible refine az ?_|with_reducible refine bJ ?_ _|(refine eF ?_ uC _)|with_reducible refine av ?_ uy)) (jG.o vA.o).1 aj ((HI.o.ak (by repeat(first|with_reducible exact au _ _|with_reducible refine ax ?_ _|with_reducible refine az ?_|with_reducible refine bJ ?_ _|(refine eF ?_ uC _)|with_reducible refine av ?_ uy))).sec.bsx) (fun gs off e=>by injection e with e;injection e with e1 e2;subst e1;exact⟨by have:=HI.o.sec.lt;simp;omega,HI.o.no.2.2.2.2⟩) (by have:=pY.o;omega) (by have:=pY.o;omega) (by have h1:=(jG.o vA.o).2;have h2:=pY.o;omega)).mono ?_;rw[HWV.o];rintro e w3 ⟨rfl,T1,fj⟩;have zA:=aa fj;have b0':=fj.x.cl 0;clear fj;by_cases Sc:ew=0
       ·have abd:=aa (show(E2,D2)=(es,Ds)from by rw[RI.o,if_pos Sc]);subst Sc;clear RI;go_wp2_with fail;refine(HSY.o T1 Dw w3 zA.o HDW.o.1 HDW.o.2).mono ?_;rw[X'.o];rintro e w4 ⟨rfl,T3,fj⟩;have gG:=aa fj;clear fj;by_cases hes:es=0
        ·have Sw:=aa (show E2=0∧D2=Ds from TK);subst hes;go_wp2_with fail;go_roundw
         case rel=>exact .inr (.inr ⟨rfl,⟨vA.o,Sw.o.1⟩,T3,by rw[Sw.o.2];exact gG.o⟩)
         case measure=>simp[intOf]
        have tu:(es != 0)=true:=by simp[hes]
        have Sw:=aa (show ¬E2=0 from TD);have HED:=aa (show E2=es∧D2=Ds from Tw);clear hes;go_wp2_with (first|(refine ah rfl 129 _ _ rfl rr 129 _ #[.int .u64 0,.int .u64 0,.int .i64 0,.int .u32 0] gG.o.res rfl rfl rfl a8 (cB Hd.zero) ?_;intro wz gz eC hsz;have kH:=aa gz;have iw:=aa eC;clear gz eC hsz));refine bodyPost_ret (results_cell_tmp oT _ im (aJ 129 kH.o _ cq rfl a8)) rfl ?_;rw[show R=(es,Hd.zero,Ds)from TA];exact gG.o.o (R:=(es,Hd.zero,Ds)) HS.o iw.o rfl
       have tu:(ew != 0)=true:=by simp[Sc]
       have Sw:=aa (show ¬E2=0 from TX);have HED:=aa (show E2=ew∧D2=Dw from TU);clear Sc;go_wp2_with (first|(refine ah rfl 129 _ _ rfl rr 129 _ #[.int .u64 0,.int .u64 0,.int .i64 0,.int .u32 0] zA.o.res rfl rfl rfl a8 (cB Hd.zero) ?_;intro wz gz eC hsz;have kH:=aa gz;have iw:=aa eC;clear gz eC hsz));refine bodyPost_ret (results_cell_tmp oT _ im (aJ 129 kH.o _ cq rfl a8)) rfl ?_;rw[show R=(ew,Hd.zero,Dw)from TA];exact zA.o.o (R:=(ew,Hd.zero,Dw)) HS.o iw.o rfl
      have HI:=aa hI;have ajl:=aa ahK;clear hI ahK;go_wp2_with (first|(refine aC rfl 129 _ rfl nb 129 _ HI.o.h rfl _ cq rfl a8 ?_)|(refine ah rfl 129 _ _ rfl rr 129 _ (oc nx) HI.o.res rfl rfl rfl a8 (cB nx) ?_;intro wz gz eC hsz;have kH:=aa gz;have iw:=aa eC;clear gz eC hsz));refine bodyPost_ret (results_cell_tmp oT _ im (aJ 129 kH.o _ cq rfl a8)) rfl ?_;rw[show R=(0,nx,D2)from by rw[sO.o,if_pos ajl.o.1,if_pos ajl.o.2]];exact HI.o.o (R:=(0,nx,D2)) HS.o iw.o rfl
  have tu:(er != 0)=true:=xu;have kV:=aa o7;clear o7;go_wp2_with (first|(refine ah rfl 129 _ _ rfl w3.heap.size 129 _ (oc hh) HFR.o rfl rfl rfl a8 (cB hh) ?_;intro w5 fX ft hs5;have eA:=aa (show Below w3.heap.size w3 w5 from bn (ax (au _ _) _) ft (aQ _));have ou:=aa (pB.o.ai eA.o);clear fX ft hs5)|(refine ah rfl 129 _ _ rfl rr 129 _ #[.int .u64 0,.int .u64 0,.int .i64 0,.int .u32 0] ou.o rfl rfl rfl a8 (cB Hd.zero) ?_;intro wz gz eC hsz;have kH:=aa gz;have iw:=aa eC;clear gz eC hsz));refine bodyPost_ret (results_cell_tmp oT _ im (aJ 129 kH.o _ cq rfl a8)) rfl ?_;have vB:=aa (show dF p d1 S w5∧aI S w w5 from⟨(aD p d1).ak EF.o.1 eA.o,EF.o.2.ak eA.o⟩);rw[show R=(er,Hd.zero,d1)from by rw[aba.o];simp[kV.o]];exact⟨rfl,(aD p d1).AB ((aD p d1).same vB.o.1 iw.o.size (fun k hk=>iw.o.block k ((aD p d1).lt vB.o.1 k hk) (fun e=>AH))) HS.o (aT vB.o.2.size iw.o.size),vB.o.2.grown iw.o (fun k e=>LN)⟩
end En
end
section
namespace En
def uo(b:By)(w:World)(e:Ending)(w':World): Prop:=
 ∃ A c,e= .returned (.tuple #[.slice A b.length c,.int .i64 0])∧Bs w' A b∧Below w.heap.size w w'∧b.length≤c∧(∀ g off,A=some ⟨g,off,none⟩→w.heap.size≤g)∧rh A
theorem uo.of{b:By}{w wl w':World}{A:Option Addr}{c:Nat}{v:Value}{e:Ending}(hA:v= .slice A b.length c)(he:e= .returned (.tuple #[.slice A b.length c,.int .i64 0]))(h1:b≠ []→∃ g,A=some ⟨g,0,none⟩∧wl.heap.size≤g∧jN w' 5 g b)(hb:Below w.heap.size w w')(hc:b.length≤c)(hg: ∀ g off,A=some ⟨g,off,none⟩→wl.heap.size≤g)(hz:w.heap.size≤wl.heap.size)(hne:b≠ []): uo b w e w':=
 ⟨A,c,he,fZ.bs h1,hb,hc,fun g off e=>aT hz (hg g off e),by obtain⟨g,rfl,_⟩:=h1 hne;exact cI _ _⟩
theorem aiv(id aw aS:Nat)(w:World)(hid:1≤id∧id≤4294967295)(ag6:aw≤1023)(Ml:1≤aS∧aS≤1099511627776): Calls af 217 #[.agg (fA ⟨1,(id:Int),(aw:Int),(aS:Int),0⟩)] w (uo (ja ⟨1,(id:Int),(aw:Int),(aS:Int),0⟩) w):=by
 have fq:(⟨1,(id:Int),(aw:Int),(aS:Int),0⟩:Rec).ok=true:=IB;have tO:ja ⟨1,(id:Int),(aw:Int),(aS:Int),0⟩=le 1 1++le id 4++le aw 2++le aS 8:=AM;rw[tO];have jy:=aa (fun W=>fU ⟨1,(id:Int),(aw:Int),(aS:Int),0⟩ W NY);have jy:=aa (show ∀ W,Calls af 68 #[.agg (fA ⟨1,(id:Int),(aw:Int),(aS:Int),0⟩)] W fun e w'=>e= .returned (.int .i64 0)∧Below W.heap.size W w' from fun W=>(jy.o W).mono fun e w' h=>IF);dsimp only[fA] at jy ⊢;have HO:=aa (fun W=>Bx (k:=1) (a1:=true) (a2:=true) (a3:=true) (a4:=false) (ok:=true) rfl rfl W);have ake:IntKind.u16.wrap (aw:Int)=(aw:Int):=by rw[pj];omega
 have al6:cR.wrap (aS:Int)=(aS:Int):=qW;obtain⟨w1,aZ⟩:=ae (w.alloc (.cells #[.int .i64 1,.int .u32 (id:Int),.int .i64 (aw:Int),.int .i64 (aS:Int),.int .i64 0] 58));obtain⟨rb,jI⟩:=ae w.heap.size;have bt:=aK aZ jI;have hb1:=aL aZ;have r0:=bt.cl 0;have r1:=bt.cl 1;have r2:=bt.cl 2;have r3:=bt.cl 3;have r4:=bt.cl 4;have dz:=aa bt;have bz:=aa hb1;have uZ:=aa jI;clear fq bt hb1 tO;go_enter Tryz.func217,Tryz.ntmps217;go_wp2_with fail;refine(jy.o _).mono ?_;rintro e w2 ⟨rfl,hb2⟩;have qz:=dz.o.ai hb2;have ZT:=qz.cl 0;have kU:=aa qz;have cu:=bz.dP hb2;clear hb2 qz r0 r1 r2 r3 r4;go_wp2_with fail;refine(HO.o _).mono ?_;rintro e w3 ⟨rfl,hb3⟩;go_upto_region 5 with fail
 obtain⟨w4,hw4⟩:=ae (w3.alloc (.cells #[.bool true,.bool true,.bool true,.bool false] 266));obtain⟨sb,ky⟩:=ae w3.heap.size;rw[hw4,ky];have JN:=aK hw4 ky;have hb4:=dU hb3 hw4;obtain⟨w5,iX⟩:=ae (w4.alloc (.cells #[.slice none 0 0] 150));obtain⟨p,hp⟩:=ae w4.heap.size;have H9:eG w5 p []:=Bj;have dX:=aL iX;have hR:=(kU.o.ai hb4).ai dX;have hS:=JN.ai dX;have Dm:rb≠p∧sb≠p:=IC;have HT:=aa (aI.refl (· =p) w5);have HW:=aa H9;have HR:=aa hR;have HS:=aa hS;have HN:=aa Dm;have eA:=aa (show Below w.heap.size w w5 from av (av cu.o hb4) dX);have HP:=aa (show w.heap.size≤p from IA);have r0:=HR.o.cl 0;have r1:=HR.o.cl 1;have r2:=HR.o.cl 2;have r3:=HR.o.cl 3;have r4:=HR.o.cl 4;have s0:=HS.o.cl 0;have s1:=HS.o.cl 1;have s2:=HS.o.cl 2;have s3:=HS.o.cl 3;clear hb3 JN hb4 H9 dX hR hS Dm ZT;go_wp2_with fail;refine(Oc.fR p 1 _ w5 HW.o fH aN).mono ?_;rintro e w6 ⟨⟨uw6,rfl⟩,hw,ht⟩;have hR:=ht.arr HR.o HN.o.1;have hS:=ht.arr HS.o HN.o.2;have hT:=HT.o.trans ht;clear HT HW HR HS ht r0 r1 r2 r3 r4 s0 s1 s2 s3;have HT:=aa hT;have HW:=aa hw;have HR:=aa hR;have HS:=aa hS;have r0:=HR.o.cl 0;have r1:=HR.o.cl 1;have r2:=HR.o.cl 2;have r3:=HR.o.cl 3;have r4:=HR.o.cl 4;have s0:=HS.o.cl 0;have s1:=HS.o.cl 1;have s2:=HS.o.cl 2;have s3:=HS.o.cl 3;clear hT hw hR hS;go_wp2_with fail;refine(Oc.cY p id _ w6 HW.o fH aj).mono ?_;rintro e w7 ⟨⟨uw7,rfl⟩,hw,ht⟩;have hR:=ht.arr HR.o HN.o.1;have hS:=ht.arr HS.o HN.o.2;have hT:=HT.o.trans ht;clear HT HW HR HS ht r0 r1 r2 r3 r4 s0 s1 s2 s3;have HT:=aa hT;have HW:=aa hw;have HR:=aa hR;have HS:=aa hS;have r0:=HR.o.cl 0;have r1:=HR.o.cl 1;have r2:=HR.o.cl 2;have r3:=HR.o.cl 3;have r4:=HR.o.cl 4;have s0:=HS.o.cl 0;have s1:=HS.o.cl 1;have s2:=HS.o.cl 2;have s3:=HS.o.cl 3;clear hT hw hR hS;go_wp2_with fail;refine(Oc.eM p aw _ w7 HW.o fH aj).mono ?_;rintro e w8 ⟨⟨uw8,rfl⟩,hw,ht⟩;have hR:=ht.arr HR.o HN.o.1;have hS:=ht.arr HS.o HN.o.2;have hT:=HT.o.trans ht;clear HT HW HR HS ht r0 r1 r2 r3 r4 s0 s1 s2 s3;have HT:=aa hT;have HW:=aa hw;have HR:=aa hR;have HS:=aa hS;have r0:=HR.o.cl 0;have r1:=HR.o.cl 1;have r2:=HR.o.cl 2;have r3:=HR.o.cl 3;have r4:=HR.o.cl 4;have s0:=HS.o.cl 0;have s1:=HS.o.cl 1;have s2:=HS.o.cl 2;have s3:=HS.o.cl 3;clear hT hw hR hS;go_wp2_with fail;refine(Oc.ej p aS _ w8 HW.o fH aj).mono ?_;exact U3
theorem aiu(id:Nat)(w:World)(hid:1≤id∧id≤4294967295): Calls af 217 #[.agg (fA ⟨2,(id:Int),0,0,0⟩)] w (uo (ja ⟨2,(id:Int),0,0,0⟩) w):=by
 have fq:(⟨2,(id:Int),0,0,0⟩:Rec).ok=true:=IB;have tO:ja ⟨2,(id:Int),0,0,0⟩=le 2 1++le id 4:=AM;rw[tO];have jy:=aa (fun W=>fU ⟨2,(id:Int),0,0,0⟩ W NY);have jy:=aa (show ∀ W,Calls af 68 #[.agg (fA ⟨2,(id:Int),0,0,0⟩)] W fun e w'=>e= .returned (.int .i64 0)∧Below W.heap.size W w' from fun W=>(jy.o W).mono fun e w' h=>IF);dsimp only[fA] at jy ⊢;have HO:=aa (fun W=>Bx (k:=2) (a1:=true) (a2:=false) (a3:=false) (a4:=false) (ok:=true) rfl rfl W);obtain⟨w1,aZ⟩:=ae (w.alloc (.cells #[.int .i64 2,.int .u32 (id:Int),.int .i64 0,.int .i64 0,.int .i64 0] 58));obtain⟨rb,jI⟩:=ae w.heap.size;have bt:=aK aZ jI;have hb1:=aL aZ;have r0:=bt.cl 0;have r1:=bt.cl 1;have r2:=bt.cl 2;have r3:=bt.cl 3;have r4:=bt.cl 4;have dz:=aa bt;have bz:=aa hb1;have uZ:=aa jI;clear fq bt hb1 tO;go_enter Tryz.func217,Tryz.ntmps217;go_wp2_with fail;refine(jy.o _).mono ?_;rintro e w2 ⟨rfl,hb2⟩;have qz:=dz.o.ai hb2;have ZT:=qz.cl 0;have kU:=aa qz;have cu:=bz.dP hb2;clear hb2 qz r0 r1 r2 r3 r4;go_wp2_with fail;refine(HO.o _).mono ?_;rintro e w3 ⟨rfl,hb3⟩;go_upto_region 5 with fail
 obtain⟨w4,hw4⟩:=ae (w3.alloc (.cells #[.bool true,.bool false,.bool false,.bool false] 266));obtain⟨sb,ky⟩:=ae w3.heap.size;rw[hw4,ky];have JN:=aK hw4 ky;have hb4:=dU hb3 hw4;obtain⟨w5,iX⟩:=ae (w4.alloc (.cells #[.slice none 0 0] 150));obtain⟨p,hp⟩:=ae w4.heap.size;have H9:eG w5 p []:=Bj;have dX:=aL iX;have hR:=(kU.o.ai hb4).ai dX;have hS:=JN.ai dX;have Dm:rb≠p∧sb≠p:=IC;have HT:=aa (aI.refl (· =p) w5);have HW:=aa H9;have HR:=aa hR;have HS:=aa hS;have HN:=aa Dm;have eA:=aa (show Below w.heap.size w w5 from av (av cu.o hb4) dX);have HP:=aa (show w.heap.size≤p from IA);have r0:=HR.o.cl 0;have r1:=HR.o.cl 1;have r2:=HR.o.cl 2;have r3:=HR.o.cl 3;have r4:=HR.o.cl 4;have s0:=HS.o.cl 0;have s1:=HS.o.cl 1;have s2:=HS.o.cl 2;have s3:=HS.o.cl 3;clear hb3 JN hb4 H9 dX hR hS Dm ZT;go_wp2_with fail;refine(Oc.fR p 2 _ w5 HW.o fH aN).mono ?_;rintro e w6 ⟨⟨uw6,rfl⟩,hw,ht⟩;have hR:=ht.arr HR.o HN.o.1;have hS:=ht.arr HS.o HN.o.2;have hT:=HT.o.trans ht;clear HT HW HR HS ht r0 r1 r2 r3 r4 s0 s1 s2 s3;have HT:=aa hT;have HW:=aa hw;have HR:=aa hR;have HS:=aa hS;have r0:=HR.o.cl 0;have r1:=HR.o.cl 1;have r2:=HR.o.cl 2;have r3:=HR.o.cl 3;have r4:=HR.o.cl 4;have s0:=HS.o.cl 0;have s1:=HS.o.cl 1;have s2:=HS.o.cl 2;have s3:=HS.o.cl 3;clear hT hw hR hS;go_wp2_with fail;refine(Oc.cY p id _ w6 HW.o fH aj).mono ?_;exact U3
theorem ait(id:Nat)(w:World)(hid:1≤id∧id≤4294967295): Calls af 217 #[.agg (fA ⟨3,(id:Int),0,0,0⟩)] w (uo (ja ⟨3,(id:Int),0,0,0⟩) w):=by
 have fq:(⟨3,(id:Int),0,0,0⟩:Rec).ok=true:=IB;have tO:ja ⟨3,(id:Int),0,0,0⟩=le 3 1++le id 4:=AM;rw[tO];have jy:=aa (fun W=>fU ⟨3,(id:Int),0,0,0⟩ W NY);have jy:=aa (show ∀ W,Calls af 68 #[.agg (fA ⟨3,(id:Int),0,0,0⟩)] W fun e w'=>e= .returned (.int .i64 0)∧Below W.heap.size W w' from fun W=>(jy.o W).mono fun e w' h=>IF);dsimp only[fA] at jy ⊢;have HO:=aa (fun W=>Bx (k:=3) (a1:=true) (a2:=false) (a3:=false) (a4:=false) (ok:=true) rfl rfl W);obtain⟨w1,aZ⟩:=ae (w.alloc (.cells #[.int .i64 3,.int .u32 (id:Int),.int .i64 0,.int .i64 0,.int .i64 0] 58));obtain⟨rb,jI⟩:=ae w.heap.size;have bt:=aK aZ jI;have hb1:=aL aZ;have r0:=bt.cl 0;have r1:=bt.cl 1;have r2:=bt.cl 2;have r3:=bt.cl 3;have r4:=bt.cl 4;have dz:=aa bt;have bz:=aa hb1;have uZ:=aa jI;clear fq bt hb1 tO;go_enter Tryz.func217,Tryz.ntmps217;go_wp2_with fail;refine(jy.o _).mono ?_;rintro e w2 ⟨rfl,hb2⟩;have qz:=dz.o.ai hb2;have ZT:=qz.cl 0;have kU:=aa qz;have cu:=bz.dP hb2;clear hb2 qz r0 r1 r2 r3 r4;go_wp2_with fail;refine(HO.o _).mono ?_;rintro e w3 ⟨rfl,hb3⟩;go_upto_region 5 with fail
 obtain⟨w4,hw4⟩:=ae (w3.alloc (.cells #[.bool true,.bool false,.bool false,.bool false] 266));obtain⟨sb,ky⟩:=ae w3.heap.size;rw[hw4,ky];have JN:=aK hw4 ky;have hb4:=dU hb3 hw4;obtain⟨w5,iX⟩:=ae (w4.alloc (.cells #[.slice none 0 0] 150));obtain⟨p,hp⟩:=ae w4.heap.size;have H9:eG w5 p []:=Bj;have dX:=aL iX;have hR:=(kU.o.ai hb4).ai dX;have hS:=JN.ai dX;have Dm:rb≠p∧sb≠p:=IC;have HT:=aa (aI.refl (· =p) w5);have HW:=aa H9;have HR:=aa hR;have HS:=aa hS;have HN:=aa Dm;have eA:=aa (show Below w.heap.size w w5 from av (av cu.o hb4) dX);have HP:=aa (show w.heap.size≤p from IA);have r0:=HR.o.cl 0;have r1:=HR.o.cl 1;have r2:=HR.o.cl 2;have r3:=HR.o.cl 3;have r4:=HR.o.cl 4;have s0:=HS.o.cl 0;have s1:=HS.o.cl 1;have s2:=HS.o.cl 2;have s3:=HS.o.cl 3;clear hb3 JN hb4 H9 dX hR hS Dm ZT;go_wp2_with fail;refine(Oc.fR p 3 _ w5 HW.o fH aN).mono ?_;rintro e w6 ⟨⟨uw6,rfl⟩,hw,ht⟩;have hR:=ht.arr HR.o HN.o.1;have hS:=ht.arr HS.o HN.o.2;have hT:=HT.o.trans ht;clear HT HW HR HS ht r0 r1 r2 r3 r4 s0 s1 s2 s3;have HT:=aa hT;have HW:=aa hw;have HR:=aa hR;have HS:=aa hS;have r0:=HR.o.cl 0;have r1:=HR.o.cl 1;have r2:=HR.o.cl 2;have r3:=HR.o.cl 3;have r4:=HR.o.cl 4;have s0:=HS.o.cl 0;have s1:=HS.o.cl 1;have s2:=HS.o.cl 2;have s3:=HS.o.cl 3;clear hT hw hR hS;go_wp2_with fail;refine(Oc.cY p id _ w6 HW.o fH aj).mono ?_;exact U3
theorem ais(id aw:Nat)(w:World)(hid:1≤id∧id≤4294967295)(ag6:aw≤1023): Calls af 217 #[.agg (fA ⟨4,(id:Int),(aw:Int),0,0⟩)] w (uo (ja ⟨4,(id:Int),(aw:Int),0,0⟩) w):=by
 have fq:(⟨4,(id:Int),(aw:Int),0,0⟩:Rec).ok=true:=IB;have tO:ja ⟨4,(id:Int),(aw:Int),0,0⟩=le 4 1++le id 4++le aw 2:=AM;rw[tO];have jy:=aa (fun W=>fU ⟨4,(id:Int),(aw:Int),0,0⟩ W NY);have jy:=aa (show ∀ W,Calls af 68 #[.agg (fA ⟨4,(id:Int),(aw:Int),0,0⟩)] W fun e w'=>e= .returned (.int .i64 0)∧Below W.heap.size W w' from fun W=>(jy.o W).mono fun e w' h=>IF);dsimp only[fA] at jy ⊢;have HO:=aa (fun W=>Bx (k:=4) (a1:=true) (a2:=true) (a3:=false) (a4:=false) (ok:=true) rfl rfl W);have ake:IntKind.u16.wrap (aw:Int)=(aw:Int):=by rw[pj];omega
 obtain⟨w1,aZ⟩:=ae (w.alloc (.cells #[.int .i64 4,.int .u32 (id:Int),.int .i64 (aw:Int),.int .i64 0,.int .i64 0] 58));obtain⟨rb,jI⟩:=ae w.heap.size;have bt:=aK aZ jI;have hb1:=aL aZ;have r0:=bt.cl 0;have r1:=bt.cl 1;have r2:=bt.cl 2;have r3:=bt.cl 3;have r4:=bt.cl 4;have dz:=aa bt;have bz:=aa hb1;have uZ:=aa jI;clear fq bt hb1 tO;go_enter Tryz.func217,Tryz.ntmps217;go_wp2_with fail;refine(jy.o _).mono ?_;rintro e w2 ⟨rfl,hb2⟩;have qz:=dz.o.ai hb2;have ZT:=qz.cl 0;have kU:=aa qz;have cu:=bz.dP hb2;clear hb2 qz r0 r1 r2 r3 r4;go_wp2_with fail;refine(HO.o _).mono ?_;rintro e w3 ⟨rfl,hb3⟩;go_upto_region 5 with fail
 obtain⟨w4,hw4⟩:=ae (w3.alloc (.cells #[.bool true,.bool true,.bool false,.bool false] 266));obtain⟨sb,ky⟩:=ae w3.heap.size;rw[hw4,ky];have JN:=aK hw4 ky;have hb4:=dU hb3 hw4;obtain⟨w5,iX⟩:=ae (w4.alloc (.cells #[.slice none 0 0] 150));obtain⟨p,hp⟩:=ae w4.heap.size;have H9:eG w5 p []:=Bj;have dX:=aL iX;have hR:=(kU.o.ai hb4).ai dX;have hS:=JN.ai dX;have Dm:rb≠p∧sb≠p:=IC;have HT:=aa (aI.refl (· =p) w5);have HW:=aa H9;have HR:=aa hR;have HS:=aa hS;have HN:=aa Dm;have eA:=aa (show Below w.heap.size w w5 from av (av cu.o hb4) dX);have HP:=aa (show w.heap.size≤p from IA);have r0:=HR.o.cl 0;have r1:=HR.o.cl 1;have r2:=HR.o.cl 2;have r3:=HR.o.cl 3;have r4:=HR.o.cl 4;have s0:=HS.o.cl 0;have s1:=HS.o.cl 1;have s2:=HS.o.cl 2;have s3:=HS.o.cl 3;clear hb3 JN hb4 H9 dX hR hS Dm ZT;go_wp2_with fail;refine(Oc.fR p 4 _ w5 HW.o fH aN).mono ?_;rintro e w6 ⟨⟨uw6,rfl⟩,hw,ht⟩;have hR:=ht.arr HR.o HN.o.1;have hS:=ht.arr HS.o HN.o.2;have hT:=HT.o.trans ht;clear HT HW HR HS ht r0 r1 r2 r3 r4 s0 s1 s2 s3;have HT:=aa hT;have HW:=aa hw;have HR:=aa hR;have HS:=aa hS;have r0:=HR.o.cl 0;have r1:=HR.o.cl 1;have r2:=HR.o.cl 2;have r3:=HR.o.cl 3;have r4:=HR.o.cl 4;have s0:=HS.o.cl 0;have s1:=HS.o.cl 1;have s2:=HS.o.cl 2;have s3:=HS.o.cl 3;clear hT hw hR hS;go_wp2_with fail;refine(Oc.cY p id _ w6 HW.o fH aj).mono ?_;rintro e w7 ⟨⟨uw7,rfl⟩,hw,ht⟩;have hR:=ht.arr HR.o HN.o.1;have hS:=ht.arr HS.o HN.o.2;have hT:=HT.o.trans ht;clear HT HW HR HS ht r0 r1 r2 r3 r4 s0 s1 s2 s3;have HT:=aa hT;have HW:=aa hw;have HR:=aa hR;have HS:=aa hS;have r0:=HR.o.cl 0;have r1:=HR.o.cl 1;have r2:=HR.o.cl 2;have r3:=HR.o.cl 3;have r4:=HR.o.cl 4;have s0:=HS.o.cl 0;have s1:=HS.o.cl 1;have s2:=HS.o.cl 2;have s3:=HS.o.cl 3;clear hT hw hR hS;go_wp2_with fail;refine(Oc.eM p aw _ w7 HW.o fH aj).mono ?_;exact U3
theorem air(aq:Nat)(w:World)(akL:1≤aq∧aq≤1099511627776): Calls af 217 #[.agg (fA ⟨5,0,0,0,(aq:Int)⟩)] w (uo (ja ⟨5,0,0,0,(aq:Int)⟩) w):=by
 have fq:(⟨5,0,0,0,(aq:Int)⟩:Rec).ok=true:=IB;have tO:ja ⟨5,0,0,0,(aq:Int)⟩=le 5 1++le aq 8:=AM;rw[tO];have jy:=aa (fun W=>fU ⟨5,0,0,0,(aq:Int)⟩ W (by first|(exact⟨by show(0:Int)≤0;omega,by show 0<(4294967296:Int);omega⟩)));have jy:=aa (show ∀ W,Calls af 68 #[.agg (fA ⟨5,0,0,0,(aq:Int)⟩)] W fun e w'=>e= .returned (.int .i64 0)∧Below W.heap.size W w' from fun W=>(jy.o W).mono fun e w' h=>IF);dsimp only[fA] at jy ⊢;have HO:=aa (fun W=>Bx (k:=5) (a1:=false) (a2:=false) (a3:=false) (a4:=true) (ok:=true) rfl rfl W);have amz:cR.wrap (aq:Int)=(aq:Int):=qW;obtain⟨w1,aZ⟩:=ae (w.alloc (.cells #[.int .i64 5,.int .u32 0,.int .i64 0,.int .i64 0,.int .i64 (aq:Int)] 58));obtain⟨rb,jI⟩:=ae w.heap.size;have bt:=aK aZ jI;have hb1:=aL aZ;have r0:=bt.cl 0;have r1:=bt.cl 1;have r2:=bt.cl 2;have r3:=bt.cl 3;have r4:=bt.cl 4;have dz:=aa bt;have bz:=aa hb1;have uZ:=aa jI;clear fq bt hb1 tO;go_enter Tryz.func217,Tryz.ntmps217;go_wp2_with fail;refine(jy.o _).mono ?_;rintro e w2 ⟨rfl,hb2⟩;have qz:=dz.o.ai hb2;have ZT:=qz.cl 0;have kU:=aa qz;have cu:=bz.dP hb2;clear hb2 qz r0 r1 r2 r3 r4;go_wp2_with fail;refine(HO.o _).mono ?_;rintro e w3 ⟨rfl,hb3⟩;go_upto_region 5 with fail
 obtain⟨w4,hw4⟩:=ae (w3.alloc (.cells #[.bool false,.bool false,.bool false,.bool true] 266));obtain⟨sb,ky⟩:=ae w3.heap.size;rw[hw4,ky];have JN:=aK hw4 ky;have hb4:=dU hb3 hw4;obtain⟨w5,iX⟩:=ae (w4.alloc (.cells #[.slice none 0 0] 150));obtain⟨p,hp⟩:=ae w4.heap.size;have H9:eG w5 p []:=Bj;have dX:=aL iX;have hR:=(kU.o.ai hb4).ai dX;have hS:=JN.ai dX;have Dm:rb≠p∧sb≠p:=IC;have HT:=aa (aI.refl (· =p) w5);have HW:=aa H9;have HR:=aa hR;have HS:=aa hS;have HN:=aa Dm;have eA:=aa (show Below w.heap.size w w5 from av (av cu.o hb4) dX);have HP:=aa (show w.heap.size≤p from IA);have r0:=HR.o.cl 0;have r1:=HR.o.cl 1;have r2:=HR.o.cl 2;have r3:=HR.o.cl 3;have r4:=HR.o.cl 4;have s0:=HS.o.cl 0;have s1:=HS.o.cl 1;have s2:=HS.o.cl 2;have s3:=HS.o.cl 3;clear hb3 JN hb4 H9 dX hR hS Dm ZT;go_wp2_with fail;refine(Oc.fR p 5 _ w5 HW.o fH aN).mono ?_;rintro e w6 ⟨⟨uw6,rfl⟩,hw,ht⟩;have hR:=ht.arr HR.o HN.o.1;have hS:=ht.arr HS.o HN.o.2;have hT:=HT.o.trans ht;clear HT HW HR HS ht r0 r1 r2 r3 r4 s0 s1 s2 s3;have HT:=aa hT;have HW:=aa hw;have HR:=aa hR;have HS:=aa hS;have r0:=HR.o.cl 0;have r1:=HR.o.cl 1;have r2:=HR.o.cl 2;have r3:=HR.o.cl 3;have r4:=HR.o.cl 4;have s0:=HS.o.cl 0;have s1:=HS.o.cl 1;have s2:=HS.o.cl 2;have s3:=HS.o.cl 3;clear hT hw hR hS;go_wp2_with fail;refine(Oc.ej p aq _ w6 HW.o fH aj).mono ?_;exact U3
