import Derived.Test.YtemighjbfanenaaGreatDoorQk25
import Derived.Deep.CutRange
set_option linter.all false
set_option maxRecDepth 100000
set_option maxHeartbeats 16000000
namespace Go.Proofs.YtemighjbfanenaaGreatDoor
open RowKit
open Oc (ib Bs gl eF fG aO bu le qV eT cM e8 val)
open Cr (cj ij)
open And renaming intro→dz
open Go.IntKind renaming u64→cU,wrap_u16→pn,wrap_u64→lN
open Go.Proofs.Tryz renaming prog→af,results214→oV,underlying129→cq
open Go.Value renaming int→eK
open Go.World renaming block_lt_of_cell?→bE,cell?_of_block→eQ
open List renaming length_map→dZ,replicate→dT,getElem?_append_left→qN,nil_append→PH,getElem?_append_right→qO
open Nat renaming le_trans→aV,le_refl→aY
open RowKit.Below renaming refl→ar
open _root_.Array renaming getElem?_toList→dK
theorem UL{p:Prop}(h:p:=by
 rintro e w9 ⟨⟨uw9,rfl⟩,hw,ht⟩;have hR:=ht.arr HR.o HN.o.1;have hS:=ht.arr HS.o HN.o.2;have hT:=HT.o.trans ht;clear HT HW HR HS ht r0 r1 r2 r3 r4 s0 s1 s2 s3;have HT:=aa hT;have HW:=aa hw;have HR:=aa hR;have HS:=aa hS;have r0:=HR.o.cl 0;have r1:=HR.o.cl 1;have r2:=HR.o.cl 2;have r3:=HR.o.cl 3;have r4:=HR.o.cl 4;have s0:=HS.o.cl 0;have s1:=HS.o.cl 1;have s2:=HS.o.cl 2;have s3:=HS.o.cl 3;clear hT hw hR hS;go_wp2_with fail;refine(Oc.lV p _ w9 HW.o fI).mono ?_;rintro e wz ⟨A,c,rfl,k1,k2,k3,k4⟩;have mZ:Below w.heap.size w w9:=aI.nz eu.o HT.o (fun k hk=>aec);rw[PH] at k1 k2 ⊢;have iL:=aa (av mZ k4.2);have HK:=aa (dz k1 (dz k2 (dz k3 mZ.size)));clear k1 k2 k3 k4 mZ r0 r1 r2 r3 r4 s0 s1 s2 s3 HT HW HR HS;go_wp2_with fail;go_ret2;refine ui.of rfl rfl HK.o.1 iL.o HK.o.2.1 (fun g off e=>(HK.o.2.2.1 g off e).1) HK.o.2.2.2 (by simp[le])):p:=h
theorem acC{p:Prop}(h:p:=by
 refine cJ 10 fun K hK=>?_
 refine cW 129 _ _ rfl nb 129 _ (n9 ⟨ng,mh,body.length,ij 0 body⟩) tx.o rfl rfl rfl bc (cE _) ?_;intro w7 D4 Je hs7;have x7:w7.cell? ⟨xh,0,none⟩=some (.int .u64 (hh.gen:Nat)):=(eQ (a:=⟨xh,0,none⟩) (Je.block xh (bE _ _ x6) (fun e=>by injection e with e;exact HXN.o e))).trans x6;have vq:=aa D4;have nc:=aa (show Below w5.heap.size w5 w7 from br iL.o Je (by have:=HNB.o;omega));clear D4 Je hs7;refine bW hK (by exact x7) fun OP=>?_
 clear hK K;try simp only[aZ]
 refine bM ?_;go_wp2_with fail;go_meet;exact⟨rfl,vq.o,nc.o⟩):p:=h
theorem acm{p:Prop}(h:p:=by
 clear hr hat;go_wp2_with fail;go_meet;exact⟨agi,by repeat(first|with_reducible exact ar _ _|with_reducible refine ay ?_ _|with_reducible refine az ?_|with_reducible refine aQ ?_ _|(refine eD ?_ uw _)|with_reducible refine av ?_ uq)⟩):p:=h
theorem Ie{p:Prop}(h:p:=by unfold Ps at h;rw[fw] at h;exact h):p:=h
theorem NH{p:Prop}(h:p:=by first|(exact⟨by show(0:Int)≤(id:Int);omega,by show(id:Int)<(4294967296:Int);omega⟩)):p:=h
theorem Ia{p:Prop}(h:p:=by have h1:=(oc.o.ah hb4).lt;have h2:=Jq.lt;omega):p:=h
theorem agi{p:Prop}(h:p:=by first|exact aG.new yf.o.symm|exact(aG.new yf.o.symm).put 0 _|exact((aG.new yf.o.symm).put 0 _).put 0 _):p:=h
theorem H9{p:Prop}(h:p:=by simp[Rec.ok,recKind,dN,within];omega):p:=h
theorem H8{p:Prop}(h:p:=by rw[←hp];exact(av cu.o hb4).size):p:=h
theorem Ls{p:Prop}(h:p:=by injection e with e;subst e;exact .inr (by have:=uj.o;omega)):p:=h
theorem AL{p:Prop}(h:p:=by rw[←jD,←hp];exact Oc.eF.fresh w4):p:=h
theorem aec{p:Prop}(h:p:=by have:=HP.o;have e:k=p:=hk;omega):p:=h
theorem TL{p:Prop}(h:p:=by have h1:=Rt.o;rw[if_neg RY] at h1;injection h1 with h1 h2;rw[h1];exact RY):p:=h
theorem TI{p:Prop}(h:p:=by have h1:=Rt.o;rw[if_neg RY] at h1;injection h1 with h1 h2;exact⟨h1,h2⟩):p:=h
theorem ajS{p:Prop}(h:p:=by show(id:Int)<(4294967296:Int);omega):p:=h
theorem TA{p:Prop}(h:p:=by have h1:=aa6.o;injection h1 with h1 h2;exact⟨h1.trans hes,h2⟩):p:=h
theorem Tt{p:Prop}(h:p:=by have h1:=aa6.o;injection h1 with h1 h2;rw[h1];exact hes):p:=h
theorem Tq{p:Prop}(h:p:=by rw[wj.o,if_pos vp.o,if_neg Se.o];rw[HED.o.1,HED.o.2]):p:=h
theorem Tm{p:Prop}(h:p:=by have h1:=aa6.o;injection h1 with h1 h2;exact⟨h1,h2⟩):p:=h
theorem ajP{p:Prop}(h:p:=by show(0:Int)≤(id:Int);omega):p:=h
theorem Tg{p:Prop}(h:p:=by rw[←og];exact az (ay (ar _ _) _)):p:=h
theorem Ao{p:Prop}(h:p:=by simp[jb,dN]):p:=h
section
namespace En
theorem MH(h:Hd)(w:World)(hm:h.may=false): Calls af 301 #[.agg (n9 h)] w (fun e w'=>e= .returned (.tuple #[.slice none 0 0,.int .i64 2])∧Below w.heap.size w w'):=by
 have KC:=aa fun W=>F2 h W
 rw[hm] at KC;unfold n9 at KC ⊢;obtain⟨gen,mh,len,sum⟩:=h;simp only at KC ⊢;clear hm;go_enter Tryz.func301,Tryz.ntmps301;go_wp2_with fail;obtain⟨w0,hw0⟩:=ae (w.alloc (.cells #[.int .u64 (gen:Nat),.int .u64 (mh:Nat),.int .i64 (len:Nat),.int .u32 (sum:Nat)] 129));have hb0:=aK hw0;rw[hw0];have Pq:=aa hb0;clear hw0 hb0;refine(KC.o w0).mono ?_;rintro e wa ⟨rfl,He⟩;have RE:=aa (show Below w.heap.size w wa from av Pq.o He);clear He;go_wp2_with fail;go_ret2;exact⟨rfl,RE.o⟩
variable{w:World}{g:Nat}
theorem aah{b:By}{h:Hd}(hh:Br b=some h): h.gen<18446744073709551616:=by
 unfold Br at hh;split at hh
 ·cases hh
 split at hh
 ·split at hh
  ·injection hh with hh
   subst hh;show val ((b.drop 4).take 8)<256 ^ 8
   exact Nat.lt_of_lt_of_le (Oc.zZ _) (Nat.pow_le_pow_right aM (by rw[List.length_take];exact Nat.min_le_left _ _))
  cases hh
 cases hh
theorem DX(g:Rg)(d:bJ): (dc g d).2.1.gen<18446744073709551616:=by
 unfold dc;split
 ·simp only;split
  ·split
   ·rename_i h hh _;exact aah hh
   decide
  decide
 show 0<_;decide
theorem IK(s:Sl)(d:bJ): (s.load d).hd.gen<18446744073709551616:=by
 unfold Sl.load;have h1:=DX s.a d;have h2:=DX s.b (dc s.a d).2.2;have hz:Hd.zero.gen<18446744073709551616:=aM;have h3: ∀ D i j (hi hj:Hd),hi.gen<18446744073709551616→hj.gen<18446744073709551616→(kz s D i j hi hj).hd.gen<18446744073709551616:=fun D i j hi hj a b=>by
  unfold kz;split
  ·split
   ·exact a
   split
   ·split
    ·exact b
    exact hz
   exact hz
  exact hz
 split
 ·split
  ·split
   ·exact h3 _ _ _ _ _ h2 h1
   exact h3 _ _ _ _ _ h1 h2
  exact hz
 exact hz
theorem bJ.Ff(d:bJ): d.sync.2.dk.size=d.dk.size∧(d.sync.1=0→d.sync.2.dk.row= []):=by
 unfold bJ.sync;split
 ·refine⟨?_,fun _=>rfl⟩;show d.op.2.dk.size=d.dk.size
  rw[bJ.tZ]
 refine⟨?_,fun h=>absurd (show(60:Int)=0 from h) aM⟩;show d.op.2.dk.size=d.dk.size
 rw[bJ.tZ]
theorem Zs: (af.info? 5).map (·.size)=some 1:=bh
theorem _root_.Go.Proofs.YtemighjbfanenaaGreatDoor.jO.bsx{bs:By}(h:jO w 5 g bs): Bs w (some ⟨g,0,none⟩) bs:=fun hne=>by
 have hl:=h.lt;obtain⟨cur,h1,h2⟩:=h;exact⟨g,0,rfl,hl,fun i u hu=>by rw[Nat.zero_add,show w.cell? ⟨g,i,none⟩=cur[i]? from by simp[World.cell?,h1]];exact h2 i u hu⟩
theorem afb{A:Option Addr}{bs:By}(h:Bs w A bs)(hne:0<bs.length): ∃ ad,A=some ad∧∀ j v,(aO bs)[j]? =some v→w.cell? (ad.add j)=some v:=by
 obtain⟨g,off,rfl,_⟩:=h (by intro e;rw[e] at hne;simp at hne);exact⟨_,rfl,fun j v hv=>h.read j v hv⟩
theorem ZU{base n:Nat} (h:w.ownsRow base 5 1 (.slice (some ⟨g,0,none⟩) n n) n (madeCells (eK .u8 0).cells (n*1)).toList)(hn:0<n): ∃ cur:Array Value,w.heap[g]? =some (.cells cur 5 (0,0))∧n≤cur.size∧∀ j,j<n→cur[j]? =some (.int .u8 0):=by
 have hm: ∀ j,j<n→(madeCells (eK .u8 0).cells (n*1)).toList[j]? =some (.int .u8 0):=fun j hj=>by
  have e:(eK .u8 0).cells= #[.int .u8 0]:=rfl;rw[e];unfold madeCells;simp[hj,Nat.mod_one]
 rcases h.2 with⟨h0,_⟩|⟨g',cap,cur,hv,hb,hh,hnc,hcm,hcs,ht⟩
 ·cases h0
 injection hv with e1 _ e2
 injection e1 with e1
 injection e1 with e1
 subst e1 e2;refine⟨cur,hh,ai,fun j hj=>?_⟩;have h1:=hm j hj;rw[←ht,List.getElem?_take_of_lt ai,dK] at h1;exact h1
theorem LC{n:Nat} {cur:List Value}{a:By}(hg:w.heap[g]? =some (.cells (splice cur 0 (aO a)).toArray 5 (0,0)))(ha:a.length≤n)(hz: ∀ j,j<n→cur[j]? =some (.int .u8 0)): jO w 5 g (a++dT (n - a.length) 0):=by
 refine⟨_,hg,fun j u hu=>?_⟩;rw[aO,List.map_append] at hu;unfold splice;simp only[List.take_zero,PH,List.getElem?_toArray,Nat.zero_add];rcases Nat.lt_or_ge j (aO a).length with hj|hj
 ·rw[qN (by rw[dZ];rwa [bu] at hj)] at hu;rw[qN hj];exact hu
 rw[bu] at hj;rw[qO (by rw[dZ];exact hj),dZ,List.map_replicate] at hu;rw[qO (by rw[bu];exact hj),bu,List.getElem?_drop];have hlt:j - a.length<n - a.length:=by
  have:=(List.getElem?_eq_some_iff.1 hu).1;simpa using this
 rw[List.getElem?_replicate,if_pos hlt] at hu;rw[show a.length+(j - a.length)=j from ai,hz j ai,←hu];rfl
def ac1(S:Nat→Prop)(p:Nat)(R:Int × Hd × bJ)(w:World)(e:Ending)(w':World): Prop:=e= .returned (.tuple #[.agg (n9 R.2.1),.int .i64 R.1])∧dB p R.2.2 (Gr S w w') w'∧aI S w w'
structure Kv(S:Nat→Prop)(w:World)(rr bx nb lb sg p r size:Nat)(nx:Hd)(A:Option Addr)(body sec:By)(c:Nat)(T:Nat→Prop)(D:bJ)(W:World): Prop where
 res:aG W rr 129 #[.int .u64 0,.int .u64 0,.int .i64 0,.int .u32 0]
 x:aG W bx 90 #[.pointer (some ⟨r,0,none⟩)]
 h:aG W nb 129 (n9 nx)
 l:aG W lb 434 #[.int .i64 size,.slice A body.length c,.int .i64 0,.slice (some ⟨sg,0,none⟩) size size]
 sec:jO W 5 sg sec
 body:Bs W A body
 dev:dB p D T W
 cR:aI S w W
 sub: ∀ k,T k→S k∨w.heap.size≤k
 no: ¬T rr∧¬T bx∧¬T nb∧¬T lb∧¬T sg
 low:w.heap.size≤rr∧w.heap.size≤bx∧w.heap.size≤nb∧w.heap.size≤lb∧w.heap.size≤sg
section
variable {S:Nat→Prop}{w:World}{rr bx nb lb sg p r size:Nat}{nx:Hd}{A:Option Addr}{body sec:By}{c:Nat}{T:Nat→Prop}{D:bJ}{W W':World}
theorem Kv.ak(h:Kv S w rr bx nb lb sg p r size nx A body sec c T D W)(hb:Below W.heap.size W W'): Kv S w rr bx nb lb sg p r size nx A body sec c T D W':=
 ⟨h.res.ah hb,h.x.ah hb,h.h.ah hb,h.l.ah hb,h.sec.same (hb.block _ h.sec.lt),h.body.ah hb,(aF p D).ak h.dev hb,h.cR.ak hb,h.sub,h.no,h.low⟩
theorem Kv.step{D':bJ}(h:Kv S w rr bx nb lb sg p r size nx A body sec c T D W)(hA: ∀ g off,A=some ⟨g,off,none⟩→g<w.heap.size∧¬S g)(hD:dB p D' (Gr T W W') W')(ht:aI T W W'): Kv S w rr bx nb lb sg p r size nx A body sec c (Gr T W W') D' W':=by
 have hT:=(aF p D).lt h.dev;have ho: ∀ k,Gr T W W' k→k<W.heap.size→T k:=fun k hk hl=>hk.old hl
 obtain⟨n1,n2,n3,n4,n5⟩:=h.no;refine⟨ht.arr h.res n1,ht.arr h.x n2,ht.arr h.h n3,ht.arr h.l n4,h.sec.same (ht.block _ h.sec.lt n5),h.body.cR ht (fun g off e _ hg=>?_),hD,?_,fun k hk=>?_,⟨fun hk=>n1 (ho _ hk h.res.lt),fun hk=>n2 (ho _ hk h.x.lt),fun hk=>n3 (ho _ hk h.h.lt),fun hk=>n4 (ho _ hk h.l.lt),fun hk=>n5 (ho _ hk h.sec.lt)⟩,h.low⟩
 ·obtain⟨h1,h2⟩:=hA g off e;rcases h.sub g hg with h3|h3
  ·exact h2 h3
  omega
 ·exact h.cR.new ((ht.mono fun j _ hj=>h.sub j hj))
 rcases hk with hk|hk
 ·exact h.sub k hk
 have:=h.cR.size;exact .inr ai
theorem Kv.o{R:Int × Hd × bJ}(h:Kv S w rr bx nb lb sg p r size nx A body sec c T D W)(hS: ∀ k,S k→k<w.heap.size)(hg:W.grownBy W' (some rr))(hR:R.2.2=D): ac1 S p R w (.returned (.tuple #[.agg (n9 R.2.1),.int .i64 R.1])) W':=by
 subst hR;have hT:=(aF p R.2.2).lt h.dev;have h1:dB p R.2.2 T W':=(aF p R.2.2).same h.dev hg.size (fun k hk=>hg.block k (hT k hk) (fun e=>by injection e with e;subst e;exact h.no.1 hk));have hl:=h.low;refine⟨rfl,(aF p R.2.2).mono h1 (fun k hk=>?_) (fun k hk=>?_),h.cR.grown hg (fun k e=>by injection e with e;subst e;exact .inr hl.1)⟩
 ·have hz:=hg.size;have:=hT k hk;rcases h.sub k hk with h2|h2
  ·exact .inl h2
  exact .inr ⟨h2,ai⟩
 rcases hk with hk|hk
 ·have:=hS k hk;have:=h.cR.size;have:=hg.size;omega
 exact hk.2
end
theorem Xk{S:Nat→Prop}{s ra rb p:Nat}{sl:Sl}{d:bJ}(h:qC w s ra rb p sl d.dk.size)(hD:dB p d S w)(hs: ¬S s)(I9: ¬S ra)(jJ: ¬S rb)(ht:cj w)(QH: ¬S 1)(Hh:32≤d.dk.size)
  (body:By) (A:Option Addr) (c mh:Nat) (hB:Bs w A body) (hA: ∀ g off,A=some ⟨g,off,none⟩→g<w.heap.size∧¬S g) (hc:body.length≤c) (ahH:mh<18446744073709551616) (hrow:d.dk.row.length+body.length≤1000000) :
  Calls af 214 #[.pointer (some ⟨s,0,none⟩),.slice A body.length c,.int .u64 (mh:Nat)] w (ac1 S p (sl.save d body mh) w):=by
 have hS:=(aF p d).lt hD;obtain⟨rr,vh⟩:=ae w.heap.size;obtain⟨w0,hw0⟩:=ae (w.alloc (.cells #[.int .u64 0,.int .u64 0,.int .i64 0,.int .u32 0] 129));have hb0:=aK hw0;have ha0:=aJ hw0 vh;have x0:w0.cell? ⟨s,0,none⟩=some (.pointer (some ⟨ra,0,none⟩)):=(h.own.ah hb0).cell 0;have C2: ¬S rr:=fun hk=>by have:=hS _ hk;omega
 obtain⟨B,hBe⟩:=ae (sl.bytes d.dk.size);obtain⟨er,hh,bd,at_,d1,hL⟩: ∃ er hh bd at_ d1,sl.load d=⟨er,hh,bd,at_,d1⟩:=⟨_,_,_,_,_,rfl⟩;have yF:d1.dk=d.dk:=by have:=Oo sl d;rw[hL] at this;exact this
 have hgn:hh.gen<18446744073709551616:=by have:=IK sl d;rw[hL] at this;exact this
 have hsz:=h.a.size;have He:=h.a.eU;obtain⟨R,hR⟩:=ae (sl.save d body mh);have CY:R=sl.save d body mh:=hR.symm;unfold Sl.save at CY;rw[hBe,hL] at CY;simp only at CY;have X2:=aa CY;clear CY;have Pf:=aa (ya (h.ah hb0));rw[hBe] at Pf;have HLO:=aa (show ∀ W,Below w.heap.size w W→Calls af 299 #[.pointer (some ⟨s,0,none⟩)] W (XK S p (sl.load d) W)from fun W hW=>Xm (h.ah hW) ((aF p d).ak hD hW) hs I9 jJ (ht.ah hW) QH);rw[hL] at HLO;have F6:=aa (show ∀ W,aI S w W→qC W s ra rb p sl d.dk.size from fun W hW=>h.cR hW hs I9 jJ);have Df:=aa (show ∀ W,aI S w W→cj W from fun W hW=>ht.cR hW QH);have kS:=aa (show ∀ W,aI S w W→Bs W A body from fun W hW=>hB.cR hW fun g off e _ hg=>(hA g off e).2 hg);have HDW:=aa (show dB p d S w0∧aI S w w0 from⟨(aF p d).ak hD hb0,aI.aW hb0⟩);have hbl:body.length≤1000000:=ai;have amx:(body.length:Int)≤1000000:=ai;have HS:=aa hS;have uj:=aa vh;have XZ:=aa hw0;have Pq:=aa hb0;have HA0:=aa ha0;have R8:=aa C2;have HK1:=aa yF;have HGN:=aa hgn;have HAA:=aa hA;have HCC:=aa hc;have HCV:=aa ahH;have rG:=aa hrow;have Sj:=aa Hh;have mz:=aa hsz;have HRL:=aa (show ra<w.heap.size∧rb<w.heap.size from⟨h.a.own.lt,h.b.own.lt⟩);have Rk:=aa (show ¬S s∧¬S ra∧¬S rb from⟨hs,I9,jJ⟩);rw[hR];clear hS vh hw0 hb0 ha0 C2 hBe hL yF hgn hsz He h hD hs I9 jJ ht QH Hh hB hA hc ahH hrow hR;go_enter Tryz.func214,Tryz.ntmps214;go_wp2_with fail;rw[XZ.o,uj.o];refine ag (xZ s ra w0 x0) ?_;go_wp2_with fail;refine Pf.o.mono ?_;rintro e w2 ⟨rfl,hb2⟩;have cu:=aa (show Below w.heap.size w w2 from av Pq.o hb2);have jB:=HA0.jC hb2;have oo:=aa (show dB p d S w2∧aI S w w2 from⟨(aF p d).ak HDW.o.1 hb2,HDW.o.2.ak hb2⟩);clear hb2 Pf HDW;by_cases hlen:B<body.length
 ·have rD:(B:Int)<(body.length:Int):=by omega
  go_wp2_with (first|(refine aj rfl 129 _ _ rfl rr 129 _ #[.int .u64 0,.int .u64 0,.int .i64 0,.int .u32 0] jB.o rfl rfl rfl bc (cE Hd.zero) ?_;intro wz gK eM hsz;have kY:=aa gK;have iF:=aa eM;clear gK eM hsz));refine bodyPost_ret (results_cell_tmp oV _ iI (aL 129 kY.o _ cq rfl bc)) rfl ?_;rw[show R=(3,Hd.zero,d)from by rw[X2.o];simp[hlen]];exact⟨rfl,(aF p d).Ac ((aF p d).same oo.o.1 iF.o.size (fun k hk=>iF.o.block k ((aF p d).lt oo.o.1 k hk) (fun e=>Ah))) HS.o (aV oo.o.2.size iF.o.size),oo.o.2.grown iF.o (fun k e=>Ls)⟩
 ·have rD: ¬(B:Int)<(body.length:Int):=by omega
  have aa3:=aa (show R=_ from by rw[X2.o,if_neg hlen]);have aa8:=HLO.o w2 cu.o;have aa8:=aa aa8;have alE:=cu.o;clear hlen X2 alE;go_wp2_with fail;refine aa8.o.mono ?_;rintro e w3 ⟨⟨A',c',rfl,_,_⟩,OQ,Cw⟩;have Yj:=aa (show dB p d1 S w3∧aI S w w3 from⟨OQ,oo.o.2.trans Cw⟩);have pC:=aa (Cw.arr jB.o R8.o);clear OQ Cw aa8 HLO;have HFR:=aa (aG.fresh w3 129 #[.int .u64 0,.int .u64 0,.int .i64 0,.int .u32 0]);by_cases o6:er=0
  ·subst o6;go_wp2_with (first|(refine aj rfl 129 _ _ rfl w3.heap.size 129 _ (n9 hh) HFR.o rfl rfl rfl bc (cE hh) ?_;intro w5 gB fF hs5;have pj:=aa gB;have eu:=aa (show Below w3.heap.size w3 w5 from br (ay (ar _ _) _) fF (aY _));clear gB fF hs5));obtain⟨xh,G9⟩:=ae w3.heap.size;have CD:aG w5 xh 129 (n9 hh):=by rw[←G9];exact pj.o
   rw[G9];have x4:w5.cell? ⟨xh,0,none⟩=some (.int .u64 (hh.gen:Nat)):=CD.cell 0;obtain⟨nb,hnb⟩:=ae w5.heap.size;have HXN:=aa (show xh≠nb by have:=CD.lt;omega);have ajA:=aa (pC.o.ah eu.o);have Yi:=aa (show dB p d1 S w5∧aI S w w5 from⟨(aF p d1).ak Yj.o.1 eu.o,Yj.o.2.ak eu.o⟩);have HNB:=aa hnb;have ak5:=aa (Yi.o.2.size);clear G9 CD hnb pj HFR pC Yj eu;obtain⟨ng,hng,kB,hg2⟩: ∃ ng:Nat,cU.wrap ((hh.gen:Int)+1)=(ng:Nat)∧(hh.gen=18446744073709551615→ng=0)∧(hh.gen≠18446744073709551615→ng=hh.gen+1):=by
    by_cases hq:hh.gen=18446744073709551615
    ·exact⟨0,by rw[hq];decide,fun _=>rfl,fun hn=>absurd hq hn⟩
    refine⟨hh.gen+1,?_,fun hn=>absurd hn hq,fun _=>rfl⟩;have:=HGN.o;rw[lN];omega
   have Pk:=aa kB;have yc:=aa hg2;clear kB hg2;have Zl:=aa (show ∀ W,Below w5.heap.size w5 W→Calls af 300 #[.slice A body.length c] W (fun e w'=>e= .returned (.int .u32 (ij 0 body:Nat))∧w'=W)from fun W hW=>Cr.qB body A c W (kS.o W (Yi.o.2.ak hW)) (Df.o W (Yi.o.2.ak hW)) ai);go_cut [12] from 41 to 49 (fun s12 wc=>s12= .pointer (some ⟨nb,0,none⟩)∧aG wc nb 129 (n9 ⟨ng,mh,body.length,ij 0 body⟩)∧Below w5.heap.size w5 wc)
   case first=>
    refine tW (S:=(fun w'=>w'.cell? ⟨xh,0,none⟩=some (.int .u64 (hh.gen:Nat)))) (by exact x4) fun hHeld=>?_
    refine cV 0 (some 41) hHeld ?_;refine cV 1 (some 42) hHeld ?_;refine cV 2 (some 43) hHeld ?_;refine cV 3 (some 44) hHeld ?_;refine cV 4 (some 45) hHeld ?_;refine cV 5 (some 46) hHeld ?_;refine cV 6 (some 47) hHeld ?_;refine qh 7 9 (fun K hK=>?_) fun K hK=>?_
    ·go_simp;refine ag (Zl.o _ (az (ar _ _))) ?_;go_wp2_with fail;refine bW hK (by exact x4) fun o8=>?_
     clear hK K;refine ty 8 ?_;refine cJ 9 fun K hK=>?_
     go_simp;obtain⟨w6,og⟩:=ae ((w5.alloc (.cells #[.int .u64 0,.int .u64 0,.int .i64 0,.int .u32 0] 129)).drew);have mZ:Below w5.heap.size w5 w6:=Tg;have Mk:aG w6 nb 129 #[.int .u64 0,.int .u64 0,.int .i64 0,.int .u32 0]:=by rw[←og,←HNB.o];exact aG.fresh w5 _ _
     rw[og,HNB.o];have x6:w6.cell? ⟨xh,0,none⟩=some (.int .u64 (hh.gen:Nat)):=(mZ.cell (p:=⟨xh,0,none⟩) (bE _ _ x4)).trans x4;have iL:=aa mZ;have tx:=aa Mk;clear og mZ Mk;refine bW hK (by exact x6) fun BB=>?_
     clear hK K;try simp only[aZ]
     exact acC
    go_simp;obtain⟨w6,og⟩:=ae ((w5.alloc (.cells #[.int .u64 0,.int .u64 0,.int .i64 0,.int .u32 0] 129)).drew);have mZ:Below w5.heap.size w5 w6:=Tg;have Mk:aG w6 nb 129 #[.int .u64 0,.int .u64 0,.int .i64 0,.int .u32 0]:=by rw[←og,←HNB.o];exact aG.fresh w5 _ _
    rw[og,HNB.o];have x6:w6.cell? ⟨xh,0,none⟩=some (.int .u64 (hh.gen:Nat)):=(mZ.cell (p:=⟨xh,0,none⟩) (bE _ _ x4)).trans x4;have iL:=aa mZ;have tx:=aa Mk;clear og mZ Mk;refine bW hK (by exact x6) fun BB=>?_
    clear hK K;try simp only[aZ]
    refine cJ 7 fun K hK=>?_
    go_simp;refine ag (Zl.o _ (iL.o)) ?_;go_wp2_with fail;refine bW hK (by exact x6) fun o8=>?_
    clear hK K;refine ty 8 ?_;exact acC
   case rest=>
    obtain⟨rfl,D4,hB7⟩:=hcut;have vq:=aa D4;have HD7:=aa (show dB p d1 S wc∧aI S w wc from⟨(aF p d1).ak Yi.o.1 hB7,Yi.o.2.ak hB7⟩);have Rn:=aa (ajA.o.ah hB7);clear D4 hB7 Zl ajA Yi hng x4;by_cases eM:hh.gen=18446744073709551615
    ·obtain rfl:ng=0:=Pk.o eM;have HHD:=aa (MH ⟨0,mh,body.length,ij 0 body⟩ wc rfl);have wj:=aa (show R=(6,Hd.zero,d1)from by rw[aa3.o];simp[eM]);clear eM Pk yc aa3;go_wp2_with (first|(refine aC rfl 129 _ rfl nb 129 _ vq.o rfl _ cq rfl bc ?_));refine HHD.o.mono ?_;rintro e w8 ⟨rfl,mY⟩;have Yh:=aa (show dB p d1 S w8∧aI S w w8 from⟨(aF p d1).ak HD7.o.1 mY,HD7.o.2.ak mY⟩);have Kz:=aa (Rn.o.ah mY);clear mY;go_wp2_with (first|(refine aj rfl 129 _ _ rfl rr 129 _ #[.int .u64 0,.int .u64 0,.int .i64 0,.int .u32 0] Kz.o rfl rfl rfl bc (cE Hd.zero) ?_;intro wz gK eM hsz;have kY:=aa gK;have iF:=aa eM;clear gK eM hsz));refine bodyPost_ret (results_cell_tmp oV _ iI (aL 129 kY.o _ cq rfl bc)) rfl ?_;rw[wj.o];exact⟨rfl,(aF p d1).Ac ((aF p d1).same Yh.o.1 iF.o.size (fun k hk=>iF.o.block k ((aF p d1).lt Yh.o.1 k hk) (fun e=>Ah))) HS.o (aV Yh.o.2.size iF.o.size),Yh.o.2.grown iF.o (fun k e=>Ls)⟩
    obtain rfl:ng=hh.gen+1:=yc.o eM;obtain⟨nx,DL⟩:=ae ((⟨hh.gen+1,mh,body.length,ij 0 body⟩:Hd):Hd);rw[DL] at vq;have Bo:nx.may=true:=by rw[←DL];unfold Hd.may;simp;omega
    have y7:nx.Fit:=by
     have h1:=HGN.o;have h2:=HCV.o;rw[←DL];exact⟨by show hh.gen+1<_;omega,h2,by show body.length≤_;omega,Cr.Mu 0 _ aM⟩
    have HHD:=aa (MI nx wc Bo y7 (Df.o wc HD7.o.2));have F7:=aa DL;have Yc:=aa eM;clear eM Pk yc Bo y7 DL;go_wp2_with (first|(refine aC rfl 129 _ rfl nb 129 _ vq.o rfl _ cq rfl bc ?_));refine HHD.o.mono ?_;rintro e w8 ⟨A2,c2,rfl,hB8,mY,hc2,Kr⟩;have Yh:=aa (show dB p d1 S w8∧aI S w w8 from⟨(aF p d1).ak HD7.o.1 mY,HD7.o.2.ak mY⟩);have Kz:=aa (Rn.o.ah mY);have HN8:=aa (vq.o.ah mY);have ou:=aa hB8;clear hB8 mY HHD Kr;obtain⟨r,hr⟩:=ae ((if at_=0 then rb else ra));have q0:w8.cell? ⟨s,0,none⟩=some (.pointer (some ⟨ra,0,none⟩)):=(F6.o w8 Yh.o.2).own.cell 0;have q1:w8.cell? ⟨s,1,none⟩=some (.pointer (some ⟨rb,0,none⟩)):=(F6.o w8 Yh.o.2).own.cell 1;go_upto_if 64 with fail
    obtain⟨bx,mr⟩:=ae w8.heap.size;have yf:=aa mr;have z1:(w8.alloc (.cells #[.pointer (some ⟨ra,0,none⟩)] 90)).cell? ⟨s,1,none⟩=some (.pointer (some ⟨rb,0,none⟩)):=((ay (ar w8.heap.size w8) _).cell (p:=⟨s,1,none⟩) (bE _ _ q1)).trans q1;go_cut [] from 63 to 69 (fun wd=>aG wd bx 90 #[.pointer (some ⟨r,0,none⟩)]∧Below w8.heap.size w8 wd)
    case first=>
     by_cases hat:at_=0
     ·have hq:(at_==0)=true:=by simp[hat]
      obtain rfl:rb=r:=by rw[if_pos hat] at hr;exact hr
      exact acm
     have hq:(at_==0)=false:=by simp[hat]
     obtain rfl:ra=r:=by rw[if_neg hat] at hr;exact hr
     exact acm
    case rest=>
     obtain⟨hXd,hBd⟩:=hcut;have HLX:=aa (show w.heap.size≤bx∧w.heap.size≤nb from⟨by have h1:=yf.o;have h2:=Yh.o.2.size;omega,by have h1:=HNB.o;have h2:=ak5.o;omega⟩);have HXD:=aa hXd;have y0:=hXd.cl 0;have Yg:=aa (show dB p d1 S wc∧aI S w wc from⟨(aF p d1).ak Yh.o.1 hBd,Yh.o.2.ak hBd⟩);have mj:=aa (Kz.o.ah hBd);have HND:=aa (HN8.o.ah hBd);have Sh:=aa (ou.o.ah hBd);have ag1:r=ra∨r=rb:=by rw[←hr];split;exact .inr rfl;exact .inl rfl
     have ald:=aa ag1;clear hXd hBd Yh Kz HN8 ou q0 q1 z1 ag1;obtain⟨size,hsize⟩:=ae d.dk.size;have F4:=aa hsize;have HSI:=aa (show ∀ W,aI S w W→Calls af 128 #[.pointer (some ⟨r,0,none⟩)] W (fun e w'=>e= .returned (.int .i64 size)∧w'=W)from fun W hW=>by
      rw[←hsize];rcases ald.o with e|e
      ·rw[e];exact kF (F6.o W hW).a
      rw[e];exact kF (F6.o W hW).b)
     have Hh:32≤size:=by rw[←hsize];exact Sj.o
     have tL:size≤4096:=by rw[←hsize];exact mz.o.2
     have al8:(size:Int)≤4096:=ai;obtain⟨i0,hi,hz0,hz1,hz2⟩:=info_parts Oc.e8;obtain⟨sg,YY⟩:=ae wc.heap.size;have Zd:=aa YY;obtain⟨sec,VN⟩:=ae (Hc nx++dT (size - (Hc nx).length) 0);have HSC:=aa VN;obtain⟨hbV,ahv⟩:=ae (aO (Hc nx));have HHV:=aa ahv;have ahn:(aO (Hc nx)).length=32:=by rw[bu,mX]
     have ai2:=aa ahn;have alf:=aa hr;clear hsize YY VN ahv ahn hr;go_wp2_with fail;refine ag (HSI.o wc Yg.o.2) ?_;go_wp2_with (first|(refine wpList_make_full _ rfl _ _ 34 rfl wc.heap.size 5 i0 (.int .u8 0) 1 Tryz.underlying34 hi hz0 hz1 .i64 .i64 _ _ size rfl rfl rfl rfl Az jR (aY _) ?_;intro CM VS ahy;have aln:=aa (ZU VS ai);have aju:=aa (show Below wc.heap.size wc CM from Below.grown (ar _ _) ahy (aY _) dM);clear VS ahy)|(obtain⟨cur,pV,hcs,hcz⟩:=aln.o;(refine wpList_copy_splice rfl _ _ 34 34 rfl 5 Tryz.underlying34 Zs (some ⟨wc.heap.size,0,none⟩) A2 size size 32 c2 rfl rfl wc.heap.size 0 cur.toList 5 pV (aO (Hc nx)) (by rw[ai2.o];exact(Nat.min_eq_left Hh).symm) (fun _=>⟨rfl,afb (Sh.o.ah aju.o) (by rw[mX];decide)⟩) (by rw[ai2.o,Array.length_toList];omega) (Oc.bO _) wc.heap.size wc aju.o (aY _) ?_;intro Sy ai7 ae5;have Pf:=aa (LC ai7.out (by rw[mX];exact Hh) (fun j hj=>by rw[dK];exact hcz j hj));have aa9:=aa ae5;have y0':Sy.cell? ⟨bx,0,none⟩=some (.pointer (some ⟨r,0,none⟩)):=(HXD.o.ah ae5).cell 0;clear ai7 ae5 pV hcs hcz)));refine ag (HSI.o Sy (Yg.o.2.ak aa9.o)) ?_;clear HSI;obtain⟨lb,OE⟩:=ae Sy.heap.size;obtain⟨Zr,Z1⟩:=ae (Sy.alloc (.cells #[.int .i64 size,.slice A body.length c,.int .i64 0,.slice (some ⟨wc.heap.size,0,none⟩) size size] 434));have aeU:=aK Z1;have QP:Below wc.heap.size wc Zr:=av aa9.o aeU;have hlr:=mj.o.lt;have hln:=HND.o.lt;have hlx:=HXD.o.lt;have VN:sec.length=size:=by rw[←HSC.o,List.length_append,List.length_replicate,mX];omega
     have ai5:Kv S w rr bx nb lb sg p r size nx A body sec c S d1 Zr:=⟨mj.o.ah QP,HXD.o.ah QP,HND.o.ah QP,by rw[←Z1,←OE,←Zd.o];exact aG.fresh Sy _ _,by rw[←HSC.o,←Zd.o];exact Pf.o.same (aeU.block _ Pf.o.lt),kS.o Zr (Yg.o.2.ak QP),(aF p d1).ak Yg.o.1 QP,Yg.o.2.ak QP,fun k hk=>.inl hk,⟨R8.o,fun hk=>by have:=HS.o _ hk;have:=HLX.o;omega,fun hk=>by have:=HS.o _ hk;have:=HLX.o;omega,fun hk=>by have:=HS.o _ hk;have:=Yg.o.2.size;have:=aa9.o.size;omega,fun hk=>by have:=HS.o _ hk;have:=Yg.o.2.size;have:=Zd.o;omega⟩,AI,HLX.o.1,HLX.o.2,by have:=Yg.o.2.size;have:=aa9.o.size;omega,by have:=Yg.o.2.size;have:=Zd.o;omega⟩;have HI:=aa ai5;have ak3:=aa Z1;have pY:=aa VN;have HLB:=aa OE;clear ai5 aeU QP hlr hln hlx VN Z1 OE Pf;obtain⟨g,hg⟩:=ae ((if at_=0 then sl.b else sl.a));obtain⟨E1,D1,hP1⟩: ∃ E1 D1,dC g d1 size body=(E1,D1):=⟨_,_,rfl⟩;obtain⟨E2,D2,hP2⟩: ∃ E2 D2,dC g D1 0 sec=(E2,D2):=⟨_,_,rfl⟩;have hRE:R=if E1=0 then(if E2=0 then(0,nx,D2)else(E2,Hd.zero,D2))else(E1,Hd.zero,D1):=by
      have h1:=aa3.o;rw[if_neg dM,if_neg Yc.o,hg,F4.o,F7.o,hP1] at h1;simp only at h1;have hl0:Hc nx++dT (size - 32) 0=sec:=by rw[←HSC.o,mX]
      rw[hl0,hP2] at h1;simp only at h1;rw[h1];by_cases e1:E1=0
      ·by_cases e2:E2=0
       ·simp[e1,e2]
       simp[e1,e2]
      simp[e1]
     have wj:=aa hRE;have HP1:=aa hP1;have X8:=aa hP2;have hgg:r=ra∧g=sl.a∨r=rb∧g=sl.b:=by
      rw[←hg,←alf.o];split
      ·exact .inr ⟨rfl,rfl⟩
      exact .inl ⟨rfl,rfl⟩
     have HGG:=aa hgg;have B5:=aa (show ∀ (T:Nat→Prop) (D:bJ) (at_:Nat) (b:By) (n:Nat) (Ab:Option Addr) (cb:Nat) W W',b.length=n→Kv S w rr bx nb lb sg p r size nx A body sec c T D W→Below W.heap.size W W'→D.dk.size=size→at_≤4096→Bs W' Ab b→(∀ gs off,Ab=some ⟨gs,off,none⟩→gs<W'.heap.size∧¬T gs)→b.length≤cb→b.length≤1000000→D.dk.row.length+b.length≤1000000→Calls af 294 #[.pointer (some ⟨r,0,none⟩),.int .i64 at_,.slice Ab n cb] W' (fun e w3=>e= .returned (.int .i64 (g.write D at_ b).1)∧∃ T',Kv S w rr bx nb lb sg p r size nx A body sec c T' (g.write D at_ b).2 w3)from fun T D at_ b n Ab cb W W' hn hI hB hk hat hBs hAb hcb hbl hrw=>by
      subst hn;have hI':=hI.ak hB;have hrs:=F6.o W' hI'.cR;have hnT: ¬T r:=fun hk=>by
       have h3:=HRL.o;have h4:=Rk.o;rcases hI.sub r hk with h5|h5
       ·rcases HGG.o with⟨e,_⟩|⟨e,_⟩
        ·rw[e] at h5;exact h4.2.1 h5
        rw[e] at h5;exact h4.2.2 h5
       rcases HGG.o with⟨e,_⟩|⟨e,_⟩ <;>omega
      have hrg:fV W' r p g D.dk.size:=by
       rw[hk,←F4.o];rcases HGG.o with⟨e,e2⟩|⟨e,e2⟩
       ·rw[e,e2];exact hrs.a
       rw[e,e2];exact hrs.b
      exact(Ec hrg hI'.dev hnT at_ ai b Ab cb hBs hAb hcb ai hrw).mono fun e w3 he=>⟨he.1,_,hI'.step HAA.o he.2.1 he.2.2⟩)
     have HSY:=aa (show ∀ (T:Nat→Prop) (D:bJ) W,Kv S w rr bx nb lb sg p r size nx A body sec c T D W→D.dk.size=size→D.dk.row.length≤1000000→Calls af 295 #[.pointer (some ⟨r,0,none⟩)] W (fun e w3=>e= .returned (.int .i64 D.sync.1)∧∃ T',Kv S w rr bx nb lb sg p r size nx A body sec c T' D.sync.2 w3)from fun T D W hI hk hrw=>by
      have hrs:=F6.o W hI.cR;have hrg:fV W r p g size:=by
       rw[←F4.o];rcases HGG.o with⟨e,e2⟩|⟨e,e2⟩
       ·rw[e,e2];exact hrs.a
       rw[e,e2];exact hrs.b
      exact(JT hrg hI.dev hrw).mono fun e w3 he=>⟨he.1,_,hI.step HAA.o he.2.1 he.2.2⟩)
     have Wf:d1.dk.size=size∧d1.dk.row.length+body.length≤1000000:=by rw[HK1.o,F4.o];exact⟨rfl,rG.o⟩
     have hd2:E1=0→D1.dk.size=size∧D1.dk.row.length=0:=by
      have h1:=hP1;unfold dC at h1;have h2:=g.pD d1 size body ai;split at h1
      ·have h3:=bJ.Ff (g.write d1 size body).2;rw[h1] at h3;exact fun e=>⟨h3.1.trans (h2.1.trans Wf.1),by rw[h3.2 e];rfl⟩
      rename_i hne;rw[h1] at hne;exact fun e=>absurd e hne
     have M0:=aa Wf;have oo:=aa hd2;clear hg hP1 hP2 hRE hgg Wf hd2;go_wp2_with fail;rw[ak3.o];rw[Zd.o,HLB.o];go_loopw [86] (fun k wr=>(k= .int .i64 0∧∃ T,Kv S w rr bx nb lb sg p r size nx A body sec c T d1 wr)∨(k= .int .i64 1∧E1=0∧∃ T,Kv S w rr bx nb lb sg p r size nx A body sec c T D1 wr)∨(k= .int .i64 2∧(E1=0∧E2=0)∧∃ T,Kv S w rr bx nb lb sg p r size nx A body sec c T D2 wr)) (fun k _=>(2 - intOf k).toNat)
     case atStart=>exact .inl ⟨rfl,S,HI.o⟩
     case round=>
      rcases hrel with⟨rfl,T,hI⟩|⟨rfl,he1,T,hI⟩|⟨rfl,ahD,T,hI⟩
      ·have HI:=aa hI;have l0:=hI.l.cl 0;have l1:=hI.l.cl 1;have l2:=hI.l.cl 2;have l3:wr.cell? ⟨lb,3,none⟩=some (.slice (some ⟨sg,0,none⟩) size size):=hI.l.cell 3;have b0:=hI.x.cl 0;have b0a: ∀ o,(wr.alloc o).cell? ⟨bx,0,none⟩=some (.pointer (some ⟨r,0,none⟩)):=fun o=>((ay (ar wr.heap.size wr) o).cell (p:=⟨bx,0,none⟩) hI.x.lt).trans b0
       clear hI;obtain⟨ew,Dw,hwr⟩: ∃ ew Dw,g.write d1 ((size:Nat):Int) body=(ew,Dw):=⟨_,_,rfl⟩;obtain⟨es,Ds,hsy⟩: ∃ es Ds,Dw.sync=(es,Ds):=⟨_,_,rfl⟩;have hps:(E1,D1)=if ew=0 then(es,Ds)else(ew,Dw):=by rw[←HP1.o];unfold dC;rw[hwr];simp only[hsy]
       have hdw:Dw.dk.size=size∧Dw.dk.row.length≤1000000:=by
        have h2:=g.pD d1 size body (by rw[M0.o.1];omega);rw[hwr] at h2;exact⟨h2.1.trans M0.o.1,aV h2.2 M0.o.2⟩
       have HWV:=aa hwr;have X2:=aa hsy;have Rt:=aa hps;have HDW:=aa hdw;clear hwr hsy hps hdw;go_wp2_with fail;refine(B5.o T d1 size body body.length A c wr _ rfl HI.o (by repeat(first|with_reducible exact ar _ _|with_reducible refine ay ?_ _|with_reducible refine az ?_|with_reducible refine aQ ?_ _|(refine eD ?_ uw _)|with_reducible refine av ?_ uq)) M0.o.1 ai (HI.o.ak (by repeat(first|with_reducible exact ar _ _|with_reducible refine ay ?_ _|with_reducible refine az ?_|with_reducible refine aQ ?_ _|(refine eD ?_ uw _)|with_reducible refine av ?_ uq))).body (fun gs off e=>⟨by have h1:=(HAA.o gs off e).1;have h2:=HI.o.cR.size;simp;omega,fun ht=>by rcases HI.o.sub gs ht with h5|h5;exact(HAA.o gs off e).2 h5;have h1:=(HAA.o gs off e).1;omega⟩) HCC.o hbl M0.o.2).mono ?_;rw[HWV.o];rintro e w3 ⟨rfl,T1,fo⟩;have zg:=aa fo;have b0':=fo.x.cl 0;clear fo;by_cases RY:ew=0
       ·have aa6:=aa (show(E1,D1)=(es,Ds)from by rw[Rt.o,if_pos RY]);subst RY;clear Rt;go_wp2_with fail;refine(HSY.o T1 Dw w3 zg.o HDW.o.1 HDW.o.2).mono ?_;rw[X2.o];rintro e w4 ⟨rfl,T3,fo⟩;have gH:=aa fo;clear fo;by_cases hes:es=0
        ·have Se:=aa (show E1=0∧D1=Ds from TA);subst hes;go_wp2_with fail;go_roundw
         case rel=>exact .inr (.inl ⟨rfl,Se.o.1,T3,by rw[Se.o.2];exact gH.o⟩)
         case measure=>simp[intOf]
        have sZ:(es != 0)=true:=by simp[hes]
        have Se:=aa (show ¬E1=0 from Tt);have HED:=aa (show E1=es∧D1=Ds from Tm);clear hes;go_wp2_with (first|(refine aj rfl 129 _ _ rfl rr 129 _ #[.int .u64 0,.int .u64 0,.int .i64 0,.int .u32 0] gH.o.res rfl rfl rfl bc (cE Hd.zero) ?_;intro wz gK eM hsz;have kY:=aa gK;have iF:=aa eM;clear gK eM hsz));refine bodyPost_ret (results_cell_tmp oV _ iI (aL 129 kY.o _ cq rfl bc)) rfl ?_;rw[show R=(es,Hd.zero,Ds)from by rw[wj.o,if_neg Se.o];rw[HED.o.1,HED.o.2]];exact gH.o.o (R:=(es,Hd.zero,Ds)) HS.o iF.o rfl
       have sZ:(ew != 0)=true:=by simp[RY]
       have Se:=aa (show ¬E1=0 from TL);have HED:=aa (show E1=ew∧D1=Dw from TI);clear RY;go_wp2_with (first|(refine aj rfl 129 _ _ rfl rr 129 _ #[.int .u64 0,.int .u64 0,.int .i64 0,.int .u32 0] zg.o.res rfl rfl rfl bc (cE Hd.zero) ?_;intro wz gK eM hsz;have kY:=aa gK;have iF:=aa eM;clear gK eM hsz));refine bodyPost_ret (results_cell_tmp oV _ iI (aL 129 kY.o _ cq rfl bc)) rfl ?_;rw[show R=(ew,Hd.zero,Dw)from by rw[wj.o,if_neg Se.o];rw[HED.o.1,HED.o.2]];exact zg.o.o (R:=(ew,Hd.zero,Dw)) HS.o iF.o rfl
      ·have vp:=aa he1;clear he1;have HI:=aa hI;have l0:=hI.l.cl 0;have l1:=hI.l.cl 1;have l2:=hI.l.cl 2;have l3:wr.cell? ⟨lb,3,none⟩=some (.slice (some ⟨sg,0,none⟩) size size):=hI.l.cell 3;have b0:=hI.x.cl 0;have b0a: ∀ o,(wr.alloc o).cell? ⟨bx,0,none⟩=some (.pointer (some ⟨r,0,none⟩)):=fun o=>((ay (ar wr.heap.size wr) o).cell (p:=⟨bx,0,none⟩) hI.x.lt).trans b0
       clear hI;obtain⟨ew,Dw,hwr⟩: ∃ ew Dw,g.write D1 ((0:Nat):Int) sec=(ew,Dw):=⟨_,_,rfl⟩;obtain⟨es,Ds,hsy⟩: ∃ es Ds,Dw.sync=(es,Ds):=⟨_,_,rfl⟩;have hps:(E2,D2)=if ew=0 then(es,Ds)else(ew,Dw):=by rw[←X8.o];unfold dC;rw[hwr];simp only[hsy]
       have hdw:Dw.dk.size=size∧Dw.dk.row.length≤1000000:=by
        have h2:=g.pD D1 0 sec (by rw[(oo.o vp.o).1];omega);rw[hwr] at h2;exact⟨h2.1.trans (oo.o vp.o).1,aV h2.2 (by have h1:=(oo.o vp.o).2;have h2:=pY.o;omega)⟩
       have HWV:=aa hwr;have X2:=aa hsy;have Rt:=aa hps;have HDW:=aa hdw;clear hwr hsy hps hdw;go_wp2_with fail;refine(B5.o T D1 0 sec size (some ⟨sg,0,none⟩) size wr _ pY.o HI.o (by repeat(first|with_reducible exact ar _ _|with_reducible refine ay ?_ _|with_reducible refine az ?_|with_reducible refine aQ ?_ _|(refine eD ?_ uw _)|with_reducible refine av ?_ uq)) (oo.o vp.o).1 ai ((HI.o.ak (by repeat(first|with_reducible exact ar _ _|with_reducible refine ay ?_ _|with_reducible refine az ?_|with_reducible refine aQ ?_ _|(refine eD ?_ uw _)|with_reducible refine av ?_ uq))).sec.bsx) (fun gs off e=>by injection e with e;injection e with e1 e2;subst e1;exact⟨by have:=HI.o.sec.lt;simp;omega,HI.o.no.2.2.2.2⟩) (by have:=pY.o;omega) (by have:=pY.o;omega) (by have h1:=(oo.o vp.o).2;have h2:=pY.o;omega)).mono ?_;rw[HWV.o];rintro e w3 ⟨rfl,T1,fo⟩;have zg:=aa fo;have b0':=fo.x.cl 0;clear fo;by_cases RY:ew=0
       ·have aa6:=aa (show(E2,D2)=(es,Ds)from by rw[Rt.o,if_pos RY]);subst RY;clear Rt;go_wp2_with fail;refine(HSY.o T1 Dw w3 zg.o HDW.o.1 HDW.o.2).mono ?_;rw[X2.o];rintro e w4 ⟨rfl,T3,fo⟩;have gH:=aa fo;clear fo;by_cases hes:es=0
        ·have Se:=aa (show E2=0∧D2=Ds from TA);subst hes;go_wp2_with fail;go_roundw
         case rel=>exact .inr (.inr ⟨rfl,⟨vp.o,Se.o.1⟩,T3,by rw[Se.o.2];exact gH.o⟩)
         case measure=>simp[intOf]
        have sZ:(es != 0)=true:=by simp[hes]
        have Se:=aa (show ¬E2=0 from Tt);have HED:=aa (show E2=es∧D2=Ds from Tm);clear hes;go_wp2_with (first|(refine aj rfl 129 _ _ rfl rr 129 _ #[.int .u64 0,.int .u64 0,.int .i64 0,.int .u32 0] gH.o.res rfl rfl rfl bc (cE Hd.zero) ?_;intro wz gK eM hsz;have kY:=aa gK;have iF:=aa eM;clear gK eM hsz));refine bodyPost_ret (results_cell_tmp oV _ iI (aL 129 kY.o _ cq rfl bc)) rfl ?_;rw[show R=(es,Hd.zero,Ds)from Tq];exact gH.o.o (R:=(es,Hd.zero,Ds)) HS.o iF.o rfl
       have sZ:(ew != 0)=true:=by simp[RY]
       have Se:=aa (show ¬E2=0 from TL);have HED:=aa (show E2=ew∧D2=Dw from TI);clear RY;go_wp2_with (first|(refine aj rfl 129 _ _ rfl rr 129 _ #[.int .u64 0,.int .u64 0,.int .i64 0,.int .u32 0] zg.o.res rfl rfl rfl bc (cE Hd.zero) ?_;intro wz gK eM hsz;have kY:=aa gK;have iF:=aa eM;clear gK eM hsz));refine bodyPost_ret (results_cell_tmp oV _ iI (aL 129 kY.o _ cq rfl bc)) rfl ?_;rw[show R=(ew,Hd.zero,Dw)from Tq];exact zg.o.o (R:=(ew,Hd.zero,Dw)) HS.o iF.o rfl
      have HI:=aa hI;have ajj:=aa ahD;clear hI ahD;go_wp2_with (first|(refine aC rfl 129 _ rfl nb 129 _ HI.o.h rfl _ cq rfl bc ?_)|(refine aj rfl 129 _ _ rfl rr 129 _ (n9 nx) HI.o.res rfl rfl rfl bc (cE nx) ?_;intro wz gK eM hsz;have kY:=aa gK;have iF:=aa eM;clear gK eM hsz));refine bodyPost_ret (results_cell_tmp oV _ iI (aL 129 kY.o _ cq rfl bc)) rfl ?_;rw[show R=(0,nx,D2)from by rw[wj.o,if_pos ajj.o.1,if_pos ajj.o.2]];exact HI.o.o (R:=(0,nx,D2)) HS.o iF.o rfl
  have sZ:(er != 0)=true:=wY;have kX:=aa o6;clear o6;go_wp2_with (first|(refine aj rfl 129 _ _ rfl w3.heap.size 129 _ (n9 hh) HFR.o rfl rfl rfl bc (cE hh) ?_;intro w5 gB fF hs5;have eu:=aa (show Below w3.heap.size w3 w5 from br (ay (ar _ _) _) fF (aY _));have pj:=aa (pC.o.ah eu.o);clear gB fF hs5)|(refine aj rfl 129 _ _ rfl rr 129 _ #[.int .u64 0,.int .u64 0,.int .i64 0,.int .u32 0] pj.o rfl rfl rfl bc (cE Hd.zero) ?_;intro wz gK eM hsz;have kY:=aa gK;have iF:=aa eM;clear gK eM hsz));refine bodyPost_ret (results_cell_tmp oV _ iI (aL 129 kY.o _ cq rfl bc)) rfl ?_;have Yi:=aa (show dB p d1 S w5∧aI S w w5 from⟨(aF p d1).ak Yj.o.1 eu.o,Yj.o.2.ak eu.o⟩);rw[show R=(er,Hd.zero,d1)from by rw[aa3.o];simp[kX.o]];exact⟨rfl,(aF p d1).Ac ((aF p d1).same Yi.o.1 iF.o.size (fun k hk=>iF.o.block k ((aF p d1).lt Yi.o.1 k hk) (fun e=>Ah))) HS.o (aV Yi.o.2.size iF.o.size),Yi.o.2.grown iF.o (fun k e=>Ls)⟩
end En
end
section
namespace En
def ui(b:By)(w:World)(e:Ending)(w':World): Prop:=
 ∃ A c,e= .returned (.tuple #[.slice A b.length c,.int .i64 0])∧Bs w' A b∧Below w.heap.size w w'∧b.length≤c∧(∀ g off,A=some ⟨g,off,none⟩→w.heap.size≤g)∧qV A
theorem ui.of{b:By}{w wl w':World}{A:Option Addr}{c:Nat}{v:Value}{e:Ending}(hA:v= .slice A b.length c)(he:e= .returned (.tuple #[.slice A b.length c,.int .i64 0]))(h1:b≠ []→∃ g,A=some ⟨g,0,none⟩∧wl.heap.size≤g∧jO w' 5 g b)(hb:Below w.heap.size w w')(hc:b.length≤c)(hg: ∀ g off,A=some ⟨g,off,none⟩→wl.heap.size≤g)(hz:w.heap.size≤wl.heap.size)(hne:b≠ []): ui b w e w':=
 ⟨A,c,he,gl.bs h1,hb,hc,fun g off e=>aV hz (hg g off e),by obtain⟨g,rfl,_⟩:=h1 hne;exact cM _ _⟩
theorem aiq(id aw aR:Nat)(w:World)(hid:1≤id∧id≤4294967295)(agY:aw≤1023)(LZ:1≤aR∧aR≤1099511627776): Calls af 217 #[.agg (fA ⟨1,(id:Int),(aw:Int),(aR:Int),0⟩)] w (ui (jb ⟨1,(id:Int),(aw:Int),(aR:Int),0⟩) w):=by
 have fw:(⟨1,(id:Int),(aw:Int),(aR:Int),0⟩:Rec).ok=true:=H9;have tM:jb ⟨1,(id:Int),(aw:Int),(aR:Int),0⟩=le 1 1++le id 4++le aw 2++le aR 8:=Ao;rw[tM];have jz:=aa (fun W=>fW ⟨1,(id:Int),(aw:Int),(aR:Int),0⟩ W NH);have jz:=aa (show ∀ W,Calls af 68 #[.agg (fA ⟨1,(id:Int),(aw:Int),(aR:Int),0⟩)] W fun e w'=>e= .returned (.int .i64 0)∧Below W.heap.size W w' from fun W=>(jz.o W).mono fun e w' h=>Ie);dsimp only[fA] at jz ⊢;have HO:=aa (fun W=>A9 (k:=1) (a1:=true) (a2:=true) (a3:=true) (a4:=false) (ok:=true) rfl rfl W);have akb:IntKind.u16.wrap (aw:Int)=(aw:Int):=by rw[pn];omega
 have al3:cU.wrap (aR:Int)=(aR:Int):=ow;obtain⟨w1,a8⟩:=ae (w.alloc (.cells #[.int .i64 1,.int .u32 (id:Int),.int .i64 (aw:Int),.int .i64 (aR:Int),.int .i64 0] 58));obtain⟨rb,jJ⟩:=ae w.heap.size;have bp:=aJ a8 jJ;have hb1:=aK a8;have r0:=bp.cl 0;have r1:=bp.cl 1;have r2:=bp.cl 2;have r3:=bp.cl 3;have r4:=bp.cl 4;have dF:=aa bp;have bA:=aa hb1;have uT:=aa jJ;clear fw bp hb1 tM;go_enter Tryz.func217,Tryz.ntmps217;go_wp2_with fail;refine(jz.o _).mono ?_;rintro e w2 ⟨rfl,hb2⟩;have qp:=dF.o.ah hb2;have ZJ:=qp.cl 0;have oc:=aa qp;have cu:=bA.dQ hb2;clear hb2 qp r0 r1 r2 r3 r4;go_wp2_with fail;refine(HO.o _).mono ?_;rintro e w3 ⟨rfl,hb3⟩;go_upto_region 5 with fail
 obtain⟨w4,hw4⟩:=ae (w3.alloc (.cells #[.bool true,.bool true,.bool true,.bool false] 266));obtain⟨sb,kU⟩:=ae w3.heap.size;rw[hw4,kU];have Jq:=aJ hw4 kU;have hb4:=ek hb3 hw4;obtain⟨w5,jD⟩:=ae (w4.alloc (.cells #[.slice none 0 0] 150));obtain⟨p,hp⟩:=ae w4.heap.size;have Hf:eF w5 p []:=AL;have dU:=aK jD;have hR:=(oc.o.ah hb4).ah dU;have hS:=Jq.ah dU;have C2:rb≠p∧sb≠p:=Ia;have HT:=aa (aI.refl (· =p) w5);have HW:=aa Hf;have HR:=aa hR;have HS:=aa hS;have HN:=aa C2;have eu:=aa (show Below w.heap.size w w5 from av (av cu.o hb4) dU);have HP:=aa (show w.heap.size≤p from H8);have r0:=HR.o.cl 0;have r1:=HR.o.cl 1;have r2:=HR.o.cl 2;have r3:=HR.o.cl 3;have r4:=HR.o.cl 4;have s0:=HS.o.cl 0;have s1:=HS.o.cl 1;have s2:=HS.o.cl 2;have s3:=HS.o.cl 3;clear hb3 Jq hb4 Hf dU hR hS C2 ZJ;go_wp2_with fail;refine(Oc.fS p 1 _ w5 HW.o fI aM).mono ?_;rintro e w6 ⟨⟨uw6,rfl⟩,hw,ht⟩;have hR:=ht.arr HR.o HN.o.1;have hS:=ht.arr HS.o HN.o.2;have hT:=HT.o.trans ht;clear HT HW HR HS ht r0 r1 r2 r3 r4 s0 s1 s2 s3;have HT:=aa hT;have HW:=aa hw;have HR:=aa hR;have HS:=aa hS;have r0:=HR.o.cl 0;have r1:=HR.o.cl 1;have r2:=HR.o.cl 2;have r3:=HR.o.cl 3;have r4:=HR.o.cl 4;have s0:=HS.o.cl 0;have s1:=HS.o.cl 1;have s2:=HS.o.cl 2;have s3:=HS.o.cl 3;clear hT hw hR hS;go_wp2_with fail;refine(Oc.df p id _ w6 HW.o fI ai).mono ?_;rintro e w7 ⟨⟨uw7,rfl⟩,hw,ht⟩;have hR:=ht.arr HR.o HN.o.1;have hS:=ht.arr HS.o HN.o.2;have hT:=HT.o.trans ht;clear HT HW HR HS ht r0 r1 r2 r3 r4 s0 s1 s2 s3;have HT:=aa hT;have HW:=aa hw;have HR:=aa hR;have HS:=aa hS;have r0:=HR.o.cl 0;have r1:=HR.o.cl 1;have r2:=HR.o.cl 2;have r3:=HR.o.cl 3;have r4:=HR.o.cl 4;have s0:=HS.o.cl 0;have s1:=HS.o.cl 1;have s2:=HS.o.cl 2;have s3:=HS.o.cl 3;clear hT hw hR hS;go_wp2_with fail;refine(Oc.eO p aw _ w7 HW.o fI ai).mono ?_;rintro e w8 ⟨⟨uw8,rfl⟩,hw,ht⟩;have hR:=ht.arr HR.o HN.o.1;have hS:=ht.arr HS.o HN.o.2;have hT:=HT.o.trans ht;clear HT HW HR HS ht r0 r1 r2 r3 r4 s0 s1 s2 s3;have HT:=aa hT;have HW:=aa hw;have HR:=aa hR;have HS:=aa hS;have r0:=HR.o.cl 0;have r1:=HR.o.cl 1;have r2:=HR.o.cl 2;have r3:=HR.o.cl 3;have r4:=HR.o.cl 4;have s0:=HS.o.cl 0;have s1:=HS.o.cl 1;have s2:=HS.o.cl 2;have s3:=HS.o.cl 3;clear hT hw hR hS;go_wp2_with fail;refine(Oc.ed p aR _ w8 HW.o fI ai).mono ?_;exact UL
theorem aip(id:Nat)(w:World)(hid:1≤id∧id≤4294967295): Calls af 217 #[.agg (fA ⟨2,(id:Int),0,0,0⟩)] w (ui (jb ⟨2,(id:Int),0,0,0⟩) w):=by
 have fw:(⟨2,(id:Int),0,0,0⟩:Rec).ok=true:=H9;have tM:jb ⟨2,(id:Int),0,0,0⟩=le 2 1++le id 4:=Ao;rw[tM];have jz:=aa (fun W=>fW ⟨2,(id:Int),0,0,0⟩ W NH);have jz:=aa (show ∀ W,Calls af 68 #[.agg (fA ⟨2,(id:Int),0,0,0⟩)] W fun e w'=>e= .returned (.int .i64 0)∧Below W.heap.size W w' from fun W=>(jz.o W).mono fun e w' h=>Ie);dsimp only[fA] at jz ⊢;have HO:=aa (fun W=>A9 (k:=2) (a1:=true) (a2:=false) (a3:=false) (a4:=false) (ok:=true) rfl rfl W);obtain⟨w1,a8⟩:=ae (w.alloc (.cells #[.int .i64 2,.int .u32 (id:Int),.int .i64 0,.int .i64 0,.int .i64 0] 58));obtain⟨rb,jJ⟩:=ae w.heap.size;have bp:=aJ a8 jJ;have hb1:=aK a8;have r0:=bp.cl 0;have r1:=bp.cl 1;have r2:=bp.cl 2;have r3:=bp.cl 3;have r4:=bp.cl 4;have dF:=aa bp;have bA:=aa hb1;have uT:=aa jJ;clear fw bp hb1 tM;go_enter Tryz.func217,Tryz.ntmps217;go_wp2_with fail;refine(jz.o _).mono ?_;rintro e w2 ⟨rfl,hb2⟩;have qp:=dF.o.ah hb2;have ZJ:=qp.cl 0;have oc:=aa qp;have cu:=bA.dQ hb2;clear hb2 qp r0 r1 r2 r3 r4;go_wp2_with fail;refine(HO.o _).mono ?_;rintro e w3 ⟨rfl,hb3⟩;go_upto_region 5 with fail
 obtain⟨w4,hw4⟩:=ae (w3.alloc (.cells #[.bool true,.bool false,.bool false,.bool false] 266));obtain⟨sb,kU⟩:=ae w3.heap.size;rw[hw4,kU];have Jq:=aJ hw4 kU;have hb4:=ek hb3 hw4;obtain⟨w5,jD⟩:=ae (w4.alloc (.cells #[.slice none 0 0] 150));obtain⟨p,hp⟩:=ae w4.heap.size;have Hf:eF w5 p []:=AL;have dU:=aK jD;have hR:=(oc.o.ah hb4).ah dU;have hS:=Jq.ah dU;have C2:rb≠p∧sb≠p:=Ia;have HT:=aa (aI.refl (· =p) w5);have HW:=aa Hf;have HR:=aa hR;have HS:=aa hS;have HN:=aa C2;have eu:=aa (show Below w.heap.size w w5 from av (av cu.o hb4) dU);have HP:=aa (show w.heap.size≤p from H8);have r0:=HR.o.cl 0;have r1:=HR.o.cl 1;have r2:=HR.o.cl 2;have r3:=HR.o.cl 3;have r4:=HR.o.cl 4;have s0:=HS.o.cl 0;have s1:=HS.o.cl 1;have s2:=HS.o.cl 2;have s3:=HS.o.cl 3;clear hb3 Jq hb4 Hf dU hR hS C2 ZJ;go_wp2_with fail;refine(Oc.fS p 2 _ w5 HW.o fI aM).mono ?_;rintro e w6 ⟨⟨uw6,rfl⟩,hw,ht⟩;have hR:=ht.arr HR.o HN.o.1;have hS:=ht.arr HS.o HN.o.2;have hT:=HT.o.trans ht;clear HT HW HR HS ht r0 r1 r2 r3 r4 s0 s1 s2 s3;have HT:=aa hT;have HW:=aa hw;have HR:=aa hR;have HS:=aa hS;have r0:=HR.o.cl 0;have r1:=HR.o.cl 1;have r2:=HR.o.cl 2;have r3:=HR.o.cl 3;have r4:=HR.o.cl 4;have s0:=HS.o.cl 0;have s1:=HS.o.cl 1;have s2:=HS.o.cl 2;have s3:=HS.o.cl 3;clear hT hw hR hS;go_wp2_with fail;refine(Oc.df p id _ w6 HW.o fI ai).mono ?_;exact UL
theorem aio(id:Nat)(w:World)(hid:1≤id∧id≤4294967295): Calls af 217 #[.agg (fA ⟨3,(id:Int),0,0,0⟩)] w (ui (jb ⟨3,(id:Int),0,0,0⟩) w):=by
 have fw:(⟨3,(id:Int),0,0,0⟩:Rec).ok=true:=H9;have tM:jb ⟨3,(id:Int),0,0,0⟩=le 3 1++le id 4:=Ao;rw[tM];have jz:=aa (fun W=>fW ⟨3,(id:Int),0,0,0⟩ W NH);have jz:=aa (show ∀ W,Calls af 68 #[.agg (fA ⟨3,(id:Int),0,0,0⟩)] W fun e w'=>e= .returned (.int .i64 0)∧Below W.heap.size W w' from fun W=>(jz.o W).mono fun e w' h=>Ie);dsimp only[fA] at jz ⊢;have HO:=aa (fun W=>A9 (k:=3) (a1:=true) (a2:=false) (a3:=false) (a4:=false) (ok:=true) rfl rfl W);obtain⟨w1,a8⟩:=ae (w.alloc (.cells #[.int .i64 3,.int .u32 (id:Int),.int .i64 0,.int .i64 0,.int .i64 0] 58));obtain⟨rb,jJ⟩:=ae w.heap.size;have bp:=aJ a8 jJ;have hb1:=aK a8;have r0:=bp.cl 0;have r1:=bp.cl 1;have r2:=bp.cl 2;have r3:=bp.cl 3;have r4:=bp.cl 4;have dF:=aa bp;have bA:=aa hb1;have uT:=aa jJ;clear fw bp hb1 tM;go_enter Tryz.func217,Tryz.ntmps217;go_wp2_with fail;refine(jz.o _).mono ?_;rintro e w2 ⟨rfl,hb2⟩;have qp:=dF.o.ah hb2;have ZJ:=qp.cl 0;have oc:=aa qp;have cu:=bA.dQ hb2;clear hb2 qp r0 r1 r2 r3 r4;go_wp2_with fail;refine(HO.o _).mono ?_;rintro e w3 ⟨rfl,hb3⟩;go_upto_region 5 with fail
 obtain⟨w4,hw4⟩:=ae (w3.alloc (.cells #[.bool true,.bool false,.bool false,.bool false] 266));obtain⟨sb,kU⟩:=ae w3.heap.size;rw[hw4,kU];have Jq:=aJ hw4 kU;have hb4:=ek hb3 hw4;obtain⟨w5,jD⟩:=ae (w4.alloc (.cells #[.slice none 0 0] 150));obtain⟨p,hp⟩:=ae w4.heap.size;have Hf:eF w5 p []:=AL;have dU:=aK jD;have hR:=(oc.o.ah hb4).ah dU;have hS:=Jq.ah dU;have C2:rb≠p∧sb≠p:=Ia;have HT:=aa (aI.refl (· =p) w5);have HW:=aa Hf;have HR:=aa hR;have HS:=aa hS;have HN:=aa C2;have eu:=aa (show Below w.heap.size w w5 from av (av cu.o hb4) dU);have HP:=aa (show w.heap.size≤p from H8);have r0:=HR.o.cl 0;have r1:=HR.o.cl 1;have r2:=HR.o.cl 2;have r3:=HR.o.cl 3;have r4:=HR.o.cl 4;have s0:=HS.o.cl 0;have s1:=HS.o.cl 1;have s2:=HS.o.cl 2;have s3:=HS.o.cl 3;clear hb3 Jq hb4 Hf dU hR hS C2 ZJ;go_wp2_with fail;refine(Oc.fS p 3 _ w5 HW.o fI aM).mono ?_;rintro e w6 ⟨⟨uw6,rfl⟩,hw,ht⟩;have hR:=ht.arr HR.o HN.o.1;have hS:=ht.arr HS.o HN.o.2;have hT:=HT.o.trans ht;clear HT HW HR HS ht r0 r1 r2 r3 r4 s0 s1 s2 s3;have HT:=aa hT;have HW:=aa hw;have HR:=aa hR;have HS:=aa hS;have r0:=HR.o.cl 0;have r1:=HR.o.cl 1;have r2:=HR.o.cl 2;have r3:=HR.o.cl 3;have r4:=HR.o.cl 4;have s0:=HS.o.cl 0;have s1:=HS.o.cl 1;have s2:=HS.o.cl 2;have s3:=HS.o.cl 3;clear hT hw hR hS;go_wp2_with fail;refine(Oc.df p id _ w6 HW.o fI ai).mono ?_;exact UL
theorem ain(id aw:Nat)(w:World)(hid:1≤id∧id≤4294967295)(agY:aw≤1023): Calls af 217 #[.agg (fA ⟨4,(id:Int),(aw:Int),0,0⟩)] w (ui (jb ⟨4,(id:Int),(aw:Int),0,0⟩) w):=by
 have fw:(⟨4,(id:Int),(aw:Int),0,0⟩:Rec).ok=true:=H9;have tM:jb ⟨4,(id:Int),(aw:Int),0,0⟩=le 4 1++le id 4++le aw 2:=Ao;rw[tM];have jz:=aa (fun W=>fW ⟨4,(id:Int),(aw:Int),0,0⟩ W NH);have jz:=aa (show ∀ W,Calls af 68 #[.agg (fA ⟨4,(id:Int),(aw:Int),0,0⟩)] W fun e w'=>e= .returned (.int .i64 0)∧Below W.heap.size W w' from fun W=>(jz.o W).mono fun e w' h=>Ie);dsimp only[fA] at jz ⊢;have HO:=aa (fun W=>A9 (k:=4) (a1:=true) (a2:=true) (a3:=false) (a4:=false) (ok:=true) rfl rfl W);have akb:IntKind.u16.wrap (aw:Int)=(aw:Int):=by rw[pn];omega
 obtain⟨w1,a8⟩:=ae (w.alloc (.cells #[.int .i64 4,.int .u32 (id:Int),.int .i64 (aw:Int),.int .i64 0,.int .i64 0] 58));obtain⟨rb,jJ⟩:=ae w.heap.size;have bp:=aJ a8 jJ;have hb1:=aK a8;have r0:=bp.cl 0;have r1:=bp.cl 1;have r2:=bp.cl 2;have r3:=bp.cl 3;have r4:=bp.cl 4;have dF:=aa bp;have bA:=aa hb1;have uT:=aa jJ;clear fw bp hb1 tM;go_enter Tryz.func217,Tryz.ntmps217;go_wp2_with fail;refine(jz.o _).mono ?_;rintro e w2 ⟨rfl,hb2⟩;have qp:=dF.o.ah hb2;have ZJ:=qp.cl 0;have oc:=aa qp;have cu:=bA.dQ hb2;clear hb2 qp r0 r1 r2 r3 r4;go_wp2_with fail;refine(HO.o _).mono ?_;rintro e w3 ⟨rfl,hb3⟩;go_upto_region 5 with fail
 obtain⟨w4,hw4⟩:=ae (w3.alloc (.cells #[.bool true,.bool true,.bool false,.bool false] 266));obtain⟨sb,kU⟩:=ae w3.heap.size;rw[hw4,kU];have Jq:=aJ hw4 kU;have hb4:=ek hb3 hw4;obtain⟨w5,jD⟩:=ae (w4.alloc (.cells #[.slice none 0 0] 150));obtain⟨p,hp⟩:=ae w4.heap.size;have Hf:eF w5 p []:=AL;have dU:=aK jD;have hR:=(oc.o.ah hb4).ah dU;have hS:=Jq.ah dU;have C2:rb≠p∧sb≠p:=Ia;have HT:=aa (aI.refl (· =p) w5);have HW:=aa Hf;have HR:=aa hR;have HS:=aa hS;have HN:=aa C2;have eu:=aa (show Below w.heap.size w w5 from av (av cu.o hb4) dU);have HP:=aa (show w.heap.size≤p from H8);have r0:=HR.o.cl 0;have r1:=HR.o.cl 1;have r2:=HR.o.cl 2;have r3:=HR.o.cl 3;have r4:=HR.o.cl 4;have s0:=HS.o.cl 0;have s1:=HS.o.cl 1;have s2:=HS.o.cl 2;have s3:=HS.o.cl 3;clear hb3 Jq hb4 Hf dU hR hS C2 ZJ;go_wp2_with fail;refine(Oc.fS p 4 _ w5 HW.o fI aM).mono ?_;rintro e w6 ⟨⟨uw6,rfl⟩,hw,ht⟩;have hR:=ht.arr HR.o HN.o.1;have hS:=ht.arr HS.o HN.o.2;have hT:=HT.o.trans ht;clear HT HW HR HS ht r0 r1 r2 r3 r4 s0 s1 s2 s3;have HT:=aa hT;have HW:=aa hw;have HR:=aa hR;have HS:=aa hS;have r0:=HR.o.cl 0;have r1:=HR.o.cl 1;have r2:=HR.o.cl 2;have r3:=HR.o.cl 3;have r4:=HR.o.cl 4;have s0:=HS.o.cl 0;have s1:=HS.o.cl 1;have s2:=HS.o.cl 2;have s3:=HS.o.cl 3;clear hT hw hR hS;go_wp2_with fail;refine(Oc.df p id _ w6 HW.o fI ai).mono ?_;rintro e w7 ⟨⟨uw7,rfl⟩,hw,ht⟩;have hR:=ht.arr HR.o HN.o.1;have hS:=ht.arr HS.o HN.o.2;have hT:=HT.o.trans ht;clear HT HW HR HS ht r0 r1 r2 r3 r4 s0 s1 s2 s3;have HT:=aa hT;have HW:=aa hw;have HR:=aa hR;have HS:=aa hS;have r0:=HR.o.cl 0;have r1:=HR.o.cl 1;have r2:=HR.o.cl 2;have r3:=HR.o.cl 3;have r4:=HR.o.cl 4;have s0:=HS.o.cl 0;have s1:=HS.o.cl 1;have s2:=HS.o.cl 2;have s3:=HS.o.cl 3;clear hT hw hR hS;go_wp2_with fail;refine(Oc.eO p aw _ w7 HW.o fI ai).mono ?_;exact UL
theorem aim(aq:Nat)(w:World)(akI:1≤aq∧aq≤1099511627776): Calls af 217 #[.agg (fA ⟨5,0,0,0,(aq:Int)⟩)] w (ui (jb ⟨5,0,0,0,(aq:Int)⟩) w):=by
 have fw:(⟨5,0,0,0,(aq:Int)⟩:Rec).ok=true:=H9;have tM:jb ⟨5,0,0,0,(aq:Int)⟩=le 5 1++le aq 8:=Ao;rw[tM];have jz:=aa (fun W=>fW ⟨5,0,0,0,(aq:Int)⟩ W (by first|(exact⟨by show(0:Int)≤0;omega,by show 0<(4294967296:Int);omega⟩)));have jz:=aa (show ∀ W,Calls af 68 #[.agg (fA ⟨5,0,0,0,(aq:Int)⟩)] W fun e w'=>e= .returned (.int .i64 0)∧Below W.heap.size W w' from fun W=>(jz.o W).mono fun e w' h=>Ie);dsimp only[fA] at jz ⊢;have HO:=aa (fun W=>A9 (k:=5) (a1:=false) (a2:=false) (a3:=false) (a4:=true) (ok:=true) rfl rfl W);have amt:cU.wrap (aq:Int)=(aq:Int):=ow;obtain⟨w1,a8⟩:=ae (w.alloc (.cells #[.int .i64 5,.int .u32 0,.int .i64 0,.int .i64 0,.int .i64 (aq:Int)] 58));obtain⟨rb,jJ⟩:=ae w.heap.size;have bp:=aJ a8 jJ;have hb1:=aK a8;have r0:=bp.cl 0;have r1:=bp.cl 1;have r2:=bp.cl 2;have r3:=bp.cl 3;have r4:=bp.cl 4;have dF:=aa bp;have bA:=aa hb1;have uT:=aa jJ;clear fw bp hb1 tM;go_enter Tryz.func217,Tryz.ntmps217;go_wp2_with fail;refine(jz.o _).mono ?_;rintro e w2 ⟨rfl,hb2⟩;have qp:=dF.o.ah hb2;have ZJ:=qp.cl 0;have oc:=aa qp;have cu:=bA.dQ hb2;clear hb2 qp r0 r1 r2 r3 r4;go_wp2_with fail;refine(HO.o _).mono ?_;rintro e w3 ⟨rfl,hb3⟩;go_upto_region 5 with fail
 obtain⟨w4,hw4⟩:=ae (w3.alloc (.cells #[.bool false,.bool false,.bool false,.bool true] 266));obtain⟨sb,kU⟩:=ae w3.heap.size;rw[hw4,kU];have Jq:=aJ hw4 kU;have hb4:=ek hb3 hw4;obtain⟨w5,jD⟩:=ae (w4.alloc (.cells #[.slice none 0 0] 150));obtain⟨p,hp⟩:=ae w4.heap.size;have Hf:eF w5 p []:=AL;have dU:=aK jD;have hR:=(oc.o.ah hb4).ah dU;have hS:=Jq.ah dU;have C2:rb≠p∧sb≠p:=Ia;have HT:=aa (aI.refl (· =p) w5);have HW:=aa Hf;have HR:=aa hR;have HS:=aa hS;have HN:=aa C2;have eu:=aa (show Below w.heap.size w w5 from av (av cu.o hb4) dU);have HP:=aa (show w.heap.size≤p from H8);have r0:=HR.o.cl 0;have r1:=HR.o.cl 1;have r2:=HR.o.cl 2;have r3:=HR.o.cl 3;have r4:=HR.o.cl 4;have s0:=HS.o.cl 0;have s1:=HS.o.cl 1;have s2:=HS.o.cl 2;have s3:=HS.o.cl 3;clear hb3 Jq hb4 Hf dU hR hS C2 ZJ;go_wp2_with fail;refine(Oc.fS p 5 _ w5 HW.o fI aM).mono ?_;rintro e w6 ⟨⟨uw6,rfl⟩,hw,ht⟩;have hR:=ht.arr HR.o HN.o.1;have hS:=ht.arr HS.o HN.o.2;have hT:=HT.o.trans ht;clear HT HW HR HS ht r0 r1 r2 r3 r4 s0 s1 s2 s3;have HT:=aa hT;have HW:=aa hw;have HR:=aa hR;have HS:=aa hS;have r0:=HR.o.cl 0;have r1:=HR.o.cl 1;have r2:=HR.o.cl 2;have r3:=HR.o.cl 3;have r4:=HR.o.cl 4;have s0:=HS.o.cl 0;have s1:=HS.o.cl 1;have s2:=HS.o.cl 2;have s3:=HS.o.cl 3;clear hT hw hR hS;go_wp2_with fail;refine(Oc.ed p aq _ w6 HW.o fI ai).mono ?_;exact UL
