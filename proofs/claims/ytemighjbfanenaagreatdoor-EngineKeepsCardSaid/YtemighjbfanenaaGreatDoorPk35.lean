import Derived.Test.YtemighjbfanenaaGreatDoorPk34
import Derived.Deep.CutRange
set_option linter.all false
set_option maxRecDepth 100000
set_option maxHeartbeats 16000000
namespace Go.Proofs.YtemighjbfanenaaGreatDoor
open List renaming getElem?_toArray→GZ,getElem?_cons_zero→Ow,getElem?_cons_succ→ZY
open RowKit
open Oc (iq Bs gj eL fJ aN bn le rU eZ dm dX val)
open Cr (cn iy)
open And renaming intro→dy
open Go.IntKind renaming u64→cL,wrap_u64→mH,wrap_u16→o7
open Go.Value renaming int→gJ
open Go.World renaming block_lt_of_cell?→bz,cell?_of_block→eF
open List renaming replicate→dW,nil_append→Qr,getElem?_append_left→mI,length_map→hZ,getElem?_append_right→qI
open Nat renaming le_trans→bf,le_refl→aL
open RowKit.Below renaming refl→aq
open Tryz renaming underlying129→cm,prog→af,results214→oK
open _root_.Array renaming getElem?_toList→eG
theorem VU{p:Prop}(h:p:=by
 rintro e w9 ⟨⟨uw9,rfl⟩,hw,ht⟩;have hR:=ht.arr HR.o HN.o.1;have hS:=ht.arr HS.o HN.o.2;have hT:=HT.o.trans ht;clear HT HW HR HS ht r0 r1 r2 r3 r4 s0 s1 s2 s3;have HT:=aa hT;have HW:=aa hw;have HR:=aa hR;have HS:=aa hS;have r0:=HR.o.cl 0;have r1:=HR.o.cl 1;have r2:=HR.o.cl 2;have r3:=HR.o.cl 3;have r4:=HR.o.cl 4;have s0:=HS.o.cl 0;have s1:=HS.o.cl 1;have s2:=HS.o.cl 2;have s3:=HS.o.cl 3;clear hT hw hR hS;go_wp2_with fail;refine(Oc.lQ p _ w9 HW.o dC).mono ?_;rintro e wz ⟨A,c,rfl,k1,k2,k3,k4⟩;have kB:Below w.heap.size w w9:=aG.nz eQ.o HT.o (fun k hk=>ae8);rw[Qr] at k1 k2 ⊢;have jy:=aa (ar kB k4.2);have HK:=aa (dy k1 (dy k2 (dy k3 kB.size)));clear k1 k2 k3 k4 kB r0 r1 r2 r3 r4 s0 s1 s2 s3 HT HW HR HS;go_wp2_with fail;go_ret2;refine uo.of rfl rfl HK.o.1 jy.o HK.o.2.1 (fun g off e=>(HK.o.2.2.1 g off e).1) HK.o.2.2.2 (by simp[le])):p:=h
theorem ady{p:Prop}(h:p:=by
 refine cD 10 fun K hK=>?_
 refine cT 129 _ _ rfl nb 129 _ (od ⟨ng,lZ,body.length,iy 0 body⟩) wA.o rfl rfl rfl aY (cz _) ?_;intro w7 Ik Xs hs7;have x7:w7.cell? ⟨xh,0,none⟩=some (.int .u64 (hh.gen:Nat)):=(eF (a:=⟨xh,0,none⟩) (Xs.block xh (bz _ _ x6) (fun e=>by injection e with e;exact HXN.o e))).trans x6;have zh:=aa Ik;have pj:=aa (show Below w5.heap.size w5 w7 from br jy.o Xs (by have:=HNB.o;omega));clear Ik Xs hs7;refine bW hK (by exact x7) fun PG=>?_
 clear hK K;try simp only[aQ]
 refine bF ?_;go_wp2_with fail;go_meet;exact⟨rfl,zh.o,pj.o⟩):p:=h
theorem adj{p:Prop}(h:p:=by
 clear hr hat;go_wp2_with fail;go_meet;exact⟨ahu,by repeat(first|with_reducible exact aq _ _|with_reducible refine aw ?_ _|with_reducible refine ay ?_|with_reducible refine bK ?_ _|(refine eK ?_ uz _)|with_reducible refine ar ?_ Am)⟩):p:=h
theorem IU{p:Prop}(h:p:=by unfold Qd at h;rw[fz] at h;exact h):p:=h
theorem OI{p:Prop}(h:p:=by first|(exact⟨by show(0:Int)≤(id:Int);omega,by show(id:Int)<(4294967296:Int);omega⟩)):p:=h
theorem IM{p:Prop}(h:p:=by have h1:=(pU.o.keep hb4).lt;have h2:=JU.lt;omega):p:=h
theorem ahu{p:Prop}(h:p:=by first|exact aD.new yb.o.symm|exact(aD.new yb.o.symm).put 0 _|exact((aD.new yb.o.symm).put 0 _).put 0 _):p:=h
theorem IL{p:Prop}(h:p:=by simp[Rec.ok,recKind,dK,within];omega):p:=h
theorem IK{p:Prop}(h:p:=by rw[←hp];exact(ar cx.o hb4).size):p:=h
theorem Mc{p:Prop}(h:p:=by injection e with e;subst e;exact .inr (by have:=CQ.o;omega)):p:=h
theorem AV{p:Prop}(h:p:=by rw[←jK,←hp];exact Oc.eL.fresh w4):p:=h
theorem ae8{p:Prop}(h:p:=by have:=HP.o;have e:k=p:=hk;omega):p:=h
theorem UU{p:Prop}(h:p:=by have h1:=Sv.o;rw[if_neg Tf] at h1;injection h1 with h1 h2;rw[h1];exact Tf):p:=h
theorem UQ{p:Prop}(h:p:=by have h1:=Sv.o;rw[if_neg Tf] at h1;injection h1 with h1 h2;exact⟨h1,h2⟩):p:=h
theorem alb{p:Prop}(h:p:=by show(id:Int)<(4294967296:Int);omega):p:=h
theorem UI{p:Prop}(h:p:=by have h1:=abU.o;injection h1 with h1 h2;exact⟨h1.trans hes,h2⟩):p:=h
theorem UC{p:Prop}(h:p:=by have h1:=abU.o;injection h1 with h1 h2;rw[h1];exact hes):p:=h
theorem Uy{p:Prop}(h:p:=by rw[vw.o,if_pos vy.o,if_neg Tt.o];rw[HED.o.1,HED.o.2]):p:=h
theorem Uu{p:Prop}(h:p:=by have h1:=abU.o;injection h1 with h1 h2;exact⟨h1,h2⟩):p:=h
theorem ak7{p:Prop}(h:p:=by show(0:Int)≤(id:Int);omega):p:=h
theorem Ur{p:Prop}(h:p:=by rw[←mM];exact ay (aw (aq _ _) _)):p:=h
theorem Ay{p:Prop}(h:p:=by simp[jf,dK]):p:=h
section
namespace En
theorem ND(h:Hd)(w:World)(hm:h.may=false): Calls af 301 #[.agg (od h)] w (fun e w'=>e=.returned (.tuple #[.slice none 0 0,.int .i64 2])∧Below w.heap.size w w'):=by
 have Lf:=aa fun W=>Gw h W
 rw[hm] at Lf;unfold od at Lf ⊢;obtain⟨gen,lZ,len,sum⟩:=h;simp only at Lf ⊢;clear hm;go_enter Tryz.func301,Tryz.ntmps301;go_wp2_with fail;obtain⟨w0,hw0⟩:=ae (w.alloc (.cells #[.int .u64 (gen:Nat),.int .u64 (lZ:Nat),.int .i64 (len:Nat),.int .u32 (sum:Nat)] 129));have hb0:=aJ hw0;rw[hw0];have Iv:=aa hb0;clear hw0 hb0;refine(Lf.o w0).mono ?_;rintro e wa ⟨rfl,Ih⟩;have Tx:=aa (show Below w.heap.size w wa from ar Iv.o Ih);clear Ih;go_wp2_with fail;go_ret2;exact⟨rfl,Tx.o⟩
variable{w:World}{g:Nat}
theorem aa1{b:By}{h:Hd}(hh:BF b=some h): h.gen<18446744073709551616:=by
 unfold BF at hh;split at hh
 ·cases hh
 split at hh
 ·split at hh
  ·injection hh with hh
   subst hh;show val ((b.drop 4).take 8)<256^8
   exact Nat.lt_of_lt_of_le (Oc.Ae _) (Nat.pow_le_pow_right aM (by rw[List.length_take];exact Nat.min_le_left _ _))
  cases hh
 cases hh
theorem Eu(g:Rg)(d:bG): (cX g d).2.1.gen<18446744073709551616:=by
 unfold cX;split
 ·simp only;split
  ·split
   ·rename_i h hh _;exact aa1 hh
   decide
  decide
 show 0<_;decide
theorem Jg(s:Sl)(d:bG): (s.load d).hd.gen<18446744073709551616:=by
 unfold Sl.load;have h1:=Eu s.a d;have h2:=Eu s.b (cX s.a d).2.2;have hz:Hd.zero.gen<18446744073709551616:=aM;have h3:∀D i j (hi hj:Hd),hi.gen<18446744073709551616→hj.gen<18446744073709551616→(kG s D i j hi hj).hd.gen<18446744073709551616:=fun D i j hi hj a b=>by
  unfold kG;split
  ·split
   ·exact a
   split
   ·split
    ·exact b
    exact hz
   exact hz
  exact hz
 split
 ·split
  ·split
   ·exact h3 _ _ _ _ _ h2 h1
   exact h3 _ _ _ _ _ h1 h2
  exact hz
 exact hz
theorem bG.FN(d:bG): d.sync.2.dk.size=d.dk.size∧(d.sync.1=0→d.sync.2.dk.row= []):=by
 unfold bG.sync;split
 ·refine⟨?_,fun _=>rfl⟩;show d.op.2.dk.size=d.dk.size
  rw[bG.uf]
 refine⟨?_,fun h=>absurd (show(60:Int)=0 from h) aM⟩;show d.op.2.dk.size=d.dk.size
 rw[bG.uf]
theorem aac: (af.info? 5).map (·.size)=some 1:=aW
theorem _root_.Go.Proofs.YtemighjbfanenaaGreatDoor.eC.bsx{bs:By}(h:eC w 5 g bs): Bs w (some ⟨g,0,none⟩) bs:=fun hne=>by
 have hl:=h.lt;obtain⟨cur,h1,h2⟩:=h;exact⟨g,0,rfl,hl,fun i u hu=>by rw[Nat.zero_add,show w.cell? ⟨g,i,none⟩=cur[i]? from by simp[World.cell?,h1]];exact h2 i u hu⟩
theorem agr{A:Option Addr}{bs:By}(h:Bs w A bs)(hne:0<bs.length):∃ad,A=some ad∧∀j v,(aN bs)[j]? =some v→w.cell? (ad.add j)=some v:=by
 obtain⟨g,off,rfl,_⟩:=h (by intro e;rw[e] at hne;simp at hne);exact⟨_,rfl,fun j v hv=>h.read j v hv⟩
theorem aaH{base n:Nat} (h:w.ownsRow base 5 1 (.slice (some ⟨g,0,none⟩) n n) n (madeCells (gJ .u8 0).cells (n*1)).toList)(hn:0<n):∃cur:Array Value,w.heap[g]? =some (.cells cur 5 (0,0))∧n≤cur.size∧∀j,j<n→cur[j]? =some (.int .u8 0):=by
 have hm:∀j,j<n→(madeCells (gJ .u8 0).cells (n*1)).toList[j]? =some (.int .u8 0):=fun j hj=>by
  have e:(gJ .u8 0).cells= #[.int .u8 0]:=rfl;rw[e];unfold madeCells;simp[hj,Nat.mod_one]
 rcases h.2 with⟨h0,_⟩|⟨g',cap,cur,hv,hb,hh,RL,hcm,hcs,ht⟩
 ·cases h0
 injection hv with e1 _ e2
 injection e1 with e1
 injection e1 with e1
 subst e1 e2;refine⟨cur,hh,ag,fun j hj=>?_⟩;have h1:=hm j hj;rw[←ht,List.getElem?_take_of_lt ag,eG] at h1;exact h1
theorem Ml{n:Nat} {cur:List Value}{a:By}(hg:w.heap[g]? =some (.cells (splice cur 0 (aN a)).toArray 5 (0,0)))(ha:a.length≤n)(hz:∀j,j<n→cur[j]? =some (.int .u8 0)): eC w 5 g (a++dW (n-a.length) 0):=by
 refine⟨_,hg,fun j u hu=>?_⟩;rw[aN,List.map_append] at hu;unfold splice;simp only[List.take_zero,Qr,List.getElem?_toArray,Nat.zero_add];rcases Nat.lt_or_ge j (aN a).length with hj|hj
 ·rw[mI (by rw[hZ];rwa [bn] at hj)] at hu;rw[mI hj];exact hu
 rw[bn] at hj;rw[qI (by rw[hZ];exact hj),hZ,List.map_replicate] at hu;rw[qI (by rw[bn];exact hj),bn,List.getElem?_drop];have hlt:j-a.length<n-a.length:=by
  have:=(List.getElem?_eq_some_iff.1 hu).1;simpa using this
 rw[List.getElem?_replicate,if_pos hlt] at hu;rw[show a.length+(j-a.length)=j from ag,hz j ag,←hu];rfl
def ad0(S:Nat→Prop)(p:Nat)(R:Int × Hd × bG)(w:World)(e:Ending)(w':World): Prop:=e=.returned (.tuple #[.agg (od R.2.1),.int .i64 R.1])∧dI p R.2.2 (Gr S w w') w'∧aG S w w'
structure K9(S:Nat→Prop)(w:World)(rr bx nb lb sg p r size:Nat)(nx:Hd)(A:Option Addr)(body sec:By)(c:Nat)(T:Nat→Prop)(D:bG)(W:World): Prop where
 res:aD W rr 129 #[.int .u64 0,.int .u64 0,.int .i64 0,.int .u32 0]
 x:aD W bx 90 #[.pointer (some ⟨r,0,none⟩)]
 h:aD W nb 129 (od nx)
 l:aD W lb 434 #[.int .i64 size,.slice A body.length c,.int .i64 0,.slice (some ⟨sg,0,none⟩) size size]
 sec:eC W 5 sg sec
 body:Bs W A body
 dev:dI p D T W
 cG:aG S w W
 sub:∀k,T k→S k∨w.heap.size≤k
 no:¬T rr∧¬T bx∧¬T nb∧¬T lb∧¬T sg
 low:w.heap.size≤rr∧w.heap.size≤bx∧w.heap.size≤nb∧w.heap.size≤lb∧w.heap.size≤sg
section
variable {S:Nat→Prop}{w:World}{rr bx nb lb sg p r size:Nat}{nx:Hd}{A:Option Addr}{body sec:By}{c:Nat}{T:Nat→Prop}{D:bG}{W W':World}
theorem K9.ai(h:K9 S w rr bx nb lb sg p r size nx A body sec c T D W)(hb:Below W.heap.size W W'): K9 S w rr bx nb lb sg p r size nx A body sec c T D W':=
 ⟨h.res.keep hb,h.x.keep hb,h.h.keep hb,h.l.keep hb,h.sec.same (hb.block _ h.sec.lt),h.body.keep hb,(aC p D).ai h.dev hb,h.cG.ai hb,h.sub,h.no,h.low⟩
theorem K9.step{D':bG}(h:K9 S w rr bx nb lb sg p r size nx A body sec c T D W)(hA:∀g off,A=some ⟨g,off,none⟩→g<w.heap.size∧¬S g)(hD:dI p D' (Gr T W W') W')(ht:aG T W W'): K9 S w rr bx nb lb sg p r size nx A body sec c (Gr T W W') D' W':=by
 have hT:=(aC p D).lt h.dev;have ho:∀k,Gr T W W' k→k<W.heap.size→T k:=fun k hk hl=>hk.old hl
 obtain⟨n1,n2,n3,n4,n5⟩:=h.no;refine⟨ht.arr h.res n1,ht.arr h.x n2,ht.arr h.h n3,ht.arr h.l n4,h.sec.same (ht.block _ h.sec.lt n5),h.body.cG ht (fun g off e _ hg=>?_),hD,?_,fun k hk=>?_,⟨fun hk=>n1 (ho _ hk h.res.lt),fun hk=>n2 (ho _ hk h.x.lt),fun hk=>n3 (ho _ hk h.h.lt),fun hk=>n4 (ho _ hk h.l.lt),fun hk=>n5 (ho _ hk h.sec.lt)⟩,h.low⟩
 ·obtain⟨h1,h2⟩:=hA g off e;rcases h.sub g hg with h3|h3
  ·exact h2 h3
  omega
 ·exact h.cG.new ((ht.mono fun j _ hj=>h.sub j hj))
 rcases hk with hk|hk
 ·exact h.sub k hk
 have:=h.cG.size;exact .inr ag
theorem K9.o{R:Int × Hd × bG}(h:K9 S w rr bx nb lb sg p r size nx A body sec c T D W)(hS:∀k,S k→k<w.heap.size)(hg:W.grownBy W' (some rr))(hR:R.2.2=D): ad0 S p R w (.returned (.tuple #[.agg (od R.2.1),.int .i64 R.1])) W':=by
 subst hR;have hT:=(aC p R.2.2).lt h.dev;have h1:dI p R.2.2 T W':=(aC p R.2.2).same h.dev hg.size (fun k hk=>hg.block k (hT k hk) (fun e=>by injection e with e;subst e;exact h.no.1 hk));have hl:=h.low;refine⟨rfl,(aC p R.2.2).mono h1 (fun k hk=>?_) (fun k hk=>?_),h.cG.grown hg (fun k e=>by injection e with e;subst e;exact .inr hl.1)⟩
 ·have hz:=hg.size;have:=hT k hk;rcases h.sub k hk with h2|h2
  ·exact .inl h2
  exact .inr ⟨h2,ag⟩
 rcases hk with hk|hk
 ·have:=hS k hk;have:=h.cG.size;have:=hg.size;omega
 exact hk.2
end
theorem Yv{S:Nat→Prop}{s ra rb p:Nat}{sl:Sl}{d:bG}(h:qz w s ra rb p sl d.dk.size)(hD:dI p d S w)(hs:¬S s)(JC:¬S ra)(jc:¬S rb)(ht:cn w)(RI:¬S 1)(Il:32≤d.dk.size)
  (body:By) (A:Option Addr) (c lZ:Nat) (hB:Bs w A body) (hA:∀g off,A=some ⟨g,off,none⟩→g<w.heap.size∧¬S g) (hc:body.length≤c) (ai4:lZ<18446744073709551616) (hrow:d.dk.row.length+body.length≤1000000) :
  Calls af 214 #[.pointer (some ⟨s,0,none⟩),.slice A body.length c,.int .u64 (lZ:Nat)] w (ad0 S p (sl.save d body lZ) w):=by
 have hS:=(aC p d).lt hD;obtain⟨rr,vq⟩:=ae w.heap.size;obtain⟨w0,hw0⟩:=ae (w.alloc (.cells #[.int .u64 0,.int .u64 0,.int .i64 0,.int .u32 0] 129));have hb0:=aJ hw0;have ha0:=aH hw0 vq;have x0:w0.cell? ⟨s,0,none⟩=some (.pointer (some ⟨ra,0,none⟩)):=(h.own.keep hb0).cell 0;have Dm:¬S rr:=fun hk=>by have:=hS _ hk;omega
 obtain⟨B,hBe⟩:=ae (sl.bytes d.dk.size);obtain⟨er,hh,bd,at_,d1,hL⟩:∃er hh bd at_ d1,sl.load d=⟨er,hh,bd,at_,d1⟩:=⟨_,_,_,_,_,rfl⟩;have vV:d1.dk=d.dk:=by have:=Pm sl d;rw[hL] at this;exact this
 have hgn:hh.gen<18446744073709551616:=by have:=Jg sl d;rw[hL] at this;exact this
 have hsz:=h.a.size;have Ih:=h.a.e8;obtain⟨R,hR⟩:=ae (sl.save d body lZ);have Di:R=sl.save d body lZ:=hR.symm;unfold Sl.save at Di;rw[hBe,hL] at Di;simp only at Di;have Zb:=aa Di;clear Di;have P6:=aa (ya (h.keep hb0));rw[hBe] at P6;have HLO:=aa (show ∀W,Below w.heap.size w W→Calls af 299 #[.pointer (some ⟨s,0,none⟩)] W (YU S p (sl.load d) W)from fun W hW=>Yx (h.keep hW) ((aC p d).ai hD hW) hs JC jc (ht.keep hW) RI);rw[hL] at HLO;have GC:=aa (show ∀W,aG S w W→qz W s ra rb p sl d.dk.size from fun W hW=>h.cG hW hs JC jc);have Dy:=aa (show ∀W,aG S w W→cn W from fun W hW=>ht.cG hW RI);have jl:=aa (show ∀W,aG S w W→Bs W A body from fun W hW=>hB.cG hW fun g off e _ hg=>(hA g off e).2 hg);have HDW:=aa (show dI p d S w0∧aG S w w0 from⟨(aC p d).ai hD hb0,aG.aU hb0⟩);have hbl:body.length≤1000000:=ag;have aor:(body.length:Int)≤1000000:=ag;have HS:=aa hS;have CQ:=aa vq;have Y9:=aa hw0;have Iv:=aa hb0;have HA0:=aa ha0;have To:=aa Dm;have HK1:=aa vV;have HGN:=aa hgn;have HAA:=aa hA;have HCC:=aa hc;have HCV:=aa ai4;have rB:=aa hrow;have Tz:=aa Il;have mi:=aa hsz;have HRL:=aa (show ra<w.heap.size∧rb<w.heap.size from⟨h.a.own.lt,h.b.own.lt⟩);have NN:=aa (show ¬S s∧¬S ra∧¬S rb from⟨hs,JC,jc⟩);rw[hR];clear hS vq hw0 hb0 ha0 Dm hBe hL vV hgn hsz Ih h hD hs JC jc ht RI Il hB hA hc ai4 hrow hR;go_enter Tryz.func214,Tryz.ntmps214;go_wp2_with fail;rw[Y9.o,CQ.o];refine ah (xZ s ra w0 x0) ?_;go_wp2_with fail;refine P6.o.mono ?_;rintro e w2 ⟨rfl,hb2⟩;have cx:=aa (show Below w.heap.size w w2 from ar Iv.o hb2);have jI:=HA0.jS hb2;have om:=aa (show dI p d S w2∧aG S w w2 from⟨(aC p d).ai HDW.o.1 hb2,HDW.o.2.ai hb2⟩);clear hb2 P6 HDW;by_cases hlen:B<body.length
 ·have tr:(B:Int)<(body.length:Int):=by omega
  go_wp2_with (first|(refine aj rfl 129 _ _ rfl rr 129 _ #[.int .u64 0,.int .u64 0,.int .i64 0,.int .u32 0] jI.o rfl rfl rfl aY (cz Hd.zero) ?_;intro wz il eT hsz;have lI:=aa il;have iP:=aa eT;clear il eT hsz));refine bodyPost_ret (results_cell_tmp oK _ iN (aI 129 lI.o _ cm rfl aY)) rfl ?_;rw[show R=(3,Hd.zero,d)from by rw[Zb.o];simp[hlen]];exact⟨rfl,(aC p d).Ag ((aC p d).same om.o.1 iP.o.size (fun k hk=>iP.o.block k ((aC p d).lt om.o.1 k hk) (fun e=>Ao))) HS.o (bf om.o.2.size iP.o.size),om.o.2.grown iP.o (fun k e=>Mc)⟩
 ·have tr:¬(B:Int)<(body.length:Int):=by omega
  have abR:=aa (show R=_ from by rw[Zb.o,if_neg hlen]);have abW:=HLO.o w2 cx.o;have abW:=aa abW;have anq:=cx.o;clear hlen Zb anq;go_wp2_with fail;refine abW.o.mono ?_;rintro e w3 ⟨⟨A',c',rfl,_,_⟩,PH,CH⟩;have Zx:=aa (show dI p d1 S w3∧aG S w w3 from⟨PH,om.o.2.trans CH⟩);have pq:=aa (CH.arr jI.o To.o);clear PH CH abW HLO;have HFR:=aa (aD.fresh w3 129 #[.int .u64 0,.int .u64 0,.int .i64 0,.int .u32 0]);by_cases oU:er=0
  ·subst oU;go_wp2_with (first|(refine aj rfl 129 _ _ rfl w3.heap.size 129 _ (od hh) HFR.o rfl rfl rfl aY (cz hh) ?_;intro w5 fY cJ hs5;have o6:=aa fY;have eQ:=aa (show Below w3.heap.size w3 w5 from br (aw (aq _ _) _) cJ (aL _));clear fY cJ hs5));obtain⟨xh,H8⟩:=ae w3.heap.size;have CO:aD w5 xh 129 (od hh):=by rw[←H8];exact o6.o
   rw[H8];have x4:w5.cell? ⟨xh,0,none⟩=some (.int .u64 (hh.gen:Nat)):=CO.cell 0;obtain⟨nb,hnb⟩:=ae w5.heap.size;have HXN:=aa (show xh≠nb by have:=CO.lt;omega);have akT:=aa (pq.o.keep eQ.o);have Zw:=aa (show dI p d1 S w5∧aG S w w5 from⟨(aC p d1).ai Zx.o.1 eQ.o,Zx.o.2.ai eQ.o⟩);have HNB:=aa hnb;have amR:=aa (Zw.o.2.size);clear H8 CO hnb o6 HFR pq Zx eQ;obtain⟨ng,hng,kY,hg2⟩:∃ng:Nat,cL.wrap ((hh.gen:Int)+1)=(ng:Nat)∧(hh.gen=18446744073709551615→ng=0)∧(hh.gen≠18446744073709551615→ng=hh.gen+1):=by
    by_cases hq:hh.gen=18446744073709551615
    ·exact⟨0,by rw[hq];decide,fun _=>rfl,fun hn=>absurd hq hn⟩
    refine⟨hh.gen+1,?_,fun hn=>absurd hn hq,fun _=>rfl⟩;have:=HGN.o;rw[mH];omega
   have P9:=aa kY;have tR:=aa hg2;clear kY hg2;have HCR:=aa (show ∀W,Below w5.heap.size w5 W→Calls af 300 #[.slice A body.length c] W (fun e w'=>e=.returned (.int .u32 (iy 0 body:Nat))∧w'=W)from fun W hW=>Cr.qy body A c W (jl.o W (Zw.o.2.ai hW)) (Dy.o W (Zw.o.2.ai hW)) ag);go_cut [12] from 41 to 49 (fun s12 wc=>s12=.pointer (some ⟨nb,0,none⟩)∧aD wc nb 129 (od ⟨ng,lZ,body.length,iy 0 body⟩)∧Below w5.heap.size w5 wc)
   case first=>
    refine sY (S:=(fun w'=>w'.cell? ⟨xh,0,none⟩=some (.int .u64 (hh.gen:Nat)))) (by exact x4) fun hHeld=>?_
    refine cS 0 (some 41) hHeld ?_;refine cS 1 (some 42) hHeld ?_;refine cS 2 (some 43) hHeld ?_;refine cS 3 (some 44) hHeld ?_;refine cS 4 (some 45) hHeld ?_;refine cS 5 (some 46) hHeld ?_;refine cS 6 (some 47) hHeld ?_;refine qc 7 9 (fun K hK=>?_) fun K hK=>?_
    ·go_simp;refine ah (HCR.o _ (ay (aq _ _))) ?_;go_wp2_with fail;refine bW hK (by exact x4) fun nK=>?_
     clear hK K;refine ty 8 ?_;refine cD 9 fun K hK=>?_
     go_simp;obtain⟨w6,mM⟩:=ae ((w5.alloc (.cells #[.int .u64 0,.int .u64 0,.int .i64 0,.int .u32 0] 129)).drew);have kB:Below w5.heap.size w5 w6:=Ur;have Nb:aD w6 nb 129 #[.int .u64 0,.int .u64 0,.int .i64 0,.int .u32 0]:=by rw[←mM,←HNB.o];exact aD.fresh w5 _ _
     rw[mM,HNB.o];have x6:w6.cell? ⟨xh,0,none⟩=some (.int .u64 (hh.gen:Nat)):=(kB.cell (p:=⟨xh,0,none⟩) (bz _ _ x4)).trans x4;have jy:=aa kB;have wA:=aa Nb;clear mM kB Nb;refine bW hK (by exact x6) fun oW=>?_
     clear hK K;try simp only[aQ]
     exact ady
    go_simp;obtain⟨w6,mM⟩:=ae ((w5.alloc (.cells #[.int .u64 0,.int .u64 0,.int .i64 0,.int .u32 0] 129)).drew);have kB:Below w5.heap.size w5 w6:=Ur;have Nb:aD w6 nb 129 #[.int .u64 0,.int .u64 0,.int .i64 0,.int .u32 0]:=by rw[←mM,←HNB.o];exact aD.fresh w5 _ _
    rw[mM,HNB.o];have x6:w6.cell? ⟨xh,0,none⟩=some (.int .u64 (hh.gen:Nat)):=(kB.cell (p:=⟨xh,0,none⟩) (bz _ _ x4)).trans x4;have jy:=aa kB;have wA:=aa Nb;clear mM kB Nb;refine bW hK (by exact x6) fun oW=>?_
    clear hK K;try simp only[aQ]
    refine cD 7 fun K hK=>?_
    go_simp;refine ah (HCR.o _ (jy.o)) ?_;go_wp2_with fail;refine bW hK (by exact x6) fun nK=>?_
    clear hK K;refine ty 8 ?_;exact ady
   case rest=>
    obtain⟨rfl,Ik,hB7⟩:=hcut;have zh:=aa Ik;have HD7:=aa (show dI p d1 S wc∧aG S w wc from⟨(aC p d1).ai Zw.o.1 hB7,Zw.o.2.ai hB7⟩);have Sr:=aa (akT.o.keep hB7);clear Ik hB7 HCR akT Zw hng x4;by_cases eT:hh.gen=18446744073709551615
    ·obtain rfl:ng=0:=P9.o eT;have HHD:=aa (ND ⟨0,lZ,body.length,iy 0 body⟩ wc rfl);have vw:=aa (show R=(6,Hd.zero,d1)from by rw[abR.o];simp[eT]);clear eT P9 tR abR;go_wp2_with (first|(refine aB rfl 129 _ rfl nb 129 _ zh.o rfl _ cm rfl aY ?_));refine HHD.o.mono ?_;rintro e w8 ⟨rfl,mC⟩;have Zv:=aa (show dI p d1 S w8∧aG S w w8 from⟨(aC p d1).ai HD7.o.1 mC,HD7.o.2.ai mC⟩);have La:=aa (Sr.o.keep mC);clear mC;go_wp2_with (first|(refine aj rfl 129 _ _ rfl rr 129 _ #[.int .u64 0,.int .u64 0,.int .i64 0,.int .u32 0] La.o rfl rfl rfl aY (cz Hd.zero) ?_;intro wz il eT hsz;have lI:=aa il;have iP:=aa eT;clear il eT hsz));refine bodyPost_ret (results_cell_tmp oK _ iN (aI 129 lI.o _ cm rfl aY)) rfl ?_;rw[vw.o];exact⟨rfl,(aC p d1).Ag ((aC p d1).same Zv.o.1 iP.o.size (fun k hk=>iP.o.block k ((aC p d1).lt Zv.o.1 k hk) (fun e=>Ao))) HS.o (bf Zv.o.2.size iP.o.size),Zv.o.2.grown iP.o (fun k e=>Mc)⟩
    obtain rfl:ng=hh.gen+1:=tR.o eT;obtain⟨nx,Ef⟩:=ae ((⟨hh.gen+1,lZ,body.length,iy 0 body⟩:Hd):Hd);rw[Ef] at zh;have Bz:nx.may=true:=by rw[←Ef];unfold Hd.may;simp;omega
    have y6:nx.Fit:=by
     have h1:=HGN.o;have h2:=HCV.o;rw[←Ef];exact⟨by show hh.gen+1<_;omega,h2,by show body.length≤_;omega,Cr.Nq 0 _ aM⟩
    have HHD:=aa (NF nx wc Bz y6 (Dy.o wc HD7.o.2));have GF:=aa Ef;have Zp:=aa eT;clear eT P9 tR Bz y6 Ef;go_wp2_with (first|(refine aB rfl 129 _ rfl nb 129 _ zh.o rfl _ cm rfl aY ?_));refine HHD.o.mono ?_;rintro e w8 ⟨A2,c2,rfl,hB8,mC,hc2,K4⟩;have Zv:=aa (show dI p d1 S w8∧aG S w w8 from⟨(aC p d1).ai HD7.o.1 mC,HD7.o.2.ai mC⟩);have La:=aa (Sr.o.keep mC);have HN8:=aa (zh.o.keep mC);have ru:=aa hB8;clear hB8 mC HHD K4;obtain⟨r,hr⟩:=ae ((if at_=0 then rb else ra));have q0:w8.cell? ⟨s,0,none⟩=some (.pointer (some ⟨ra,0,none⟩)):=(GC.o w8 Zv.o.2).own.cell 0;have q1:w8.cell? ⟨s,1,none⟩=some (.pointer (some ⟨rb,0,none⟩)):=(GC.o w8 Zv.o.2).own.cell 1;go_upto_if 64 with fail
    obtain⟨bx,mg⟩:=ae w8.heap.size;have yb:=aa mg;have z1:(w8.alloc (.cells #[.pointer (some ⟨ra,0,none⟩)] 90)).cell? ⟨s,1,none⟩=some (.pointer (some ⟨rb,0,none⟩)):=((aw (aq w8.heap.size w8) _).cell (p:=⟨s,1,none⟩) (bz _ _ q1)).trans q1;go_cut [] from 63 to 69 (fun wd=>aD wd bx 90 #[.pointer (some ⟨r,0,none⟩)]∧Below w8.heap.size w8 wd)
    case first=>
     by_cases hat:at_=0
     ·have hq:(at_==0)=true:=by simp[hat]
      obtain rfl:rb=r:=by rw[if_pos hat] at hr;exact hr
      exact adj
     have hq:(at_==0)=false:=by simp[hat]
     obtain rfl:ra=r:=by rw[if_neg hat] at hr;exact hr
     exact adj
    case rest=>
     obtain⟨hXd,hBd⟩:=hcut;have HLX:=aa (show w.heap.size≤bx∧w.heap.size≤nb from⟨by have h1:=yb.o;have h2:=Zv.o.2.size;omega,by have h1:=HNB.o;have h2:=amR.o;omega⟩);have HXD:=aa hXd;have y0:=hXd.cl 0;have Zu:=aa (show dI p d1 S wc∧aG S w wc from⟨(aC p d1).ai Zv.o.1 hBd,Zv.o.2.ai hBd⟩);have oH:=aa (La.o.keep hBd);have HND:=aa (HN8.o.keep hBd);have Tw:=aa (ru.o.keep hBd);have ain:r=ra∨r=rb:=by rw[←hr];split;exact .inr rfl;exact .inl rfl
     have amZ:=aa ain;clear hXd hBd Zv La HN8 ru q0 q1 z1 ain;obtain⟨size,hsize⟩:=ae d.dk.size;have GA:=aa hsize;have HSI:=aa (show ∀W,aG S w W→Calls af 128 #[.pointer (some ⟨r,0,none⟩)] W (fun e w'=>e=.returned (.int .i64 size)∧w'=W)from fun W hW=>by
      rw[←hsize];rcases amZ.o with e|e
      ·rw[e];exact kJ (GC.o W hW).a
      rw[e];exact kJ (GC.o W hW).b)
     have Il:32≤size:=by rw[←hsize];exact Tz.o
     have tL:size≤4096:=by rw[←hsize];exact mi.o.2
     have anY:(size:Int)≤4096:=ag;obtain⟨i0,hi,hz0,hz1,hz2⟩:=info_parts Oc.dX;obtain⟨sg,Z8⟩:=ae wc.heap.size;have HSG:=aa Z8;obtain⟨sec,WY⟩:=ae (Ig nx++dW (size-(Ig nx).length) 0);have HSC:=aa WY;obtain⟨hbV,aiQ⟩:=ae (aN (Ig nx));have HHV:=aa aiQ;have aiI:(aN (Ig nx)).length=32:=by rw[bn,mX]
     have akn:=aa aiI;have am1:=aa hr;clear hsize Z8 WY aiQ aiI hr;go_wp2_with fail;refine ah (HSI.o wc Zu.o.2) ?_;go_wp2_with (first|(refine wpList_make_full _ rfl _ _ 34 rfl wc.heap.size 5 i0 (.int .u8 0) 1 Tryz.underlying34 hi hz0 hz1 .i64 .i64 _ _ size rfl rfl rfl rfl AG iM (aL _) ?_;intro yS Xb aiU;have am9:=aa (aaH Xb ag);have akN:=aa (show Below wc.heap.size wc yS from Below.grown (aq _ _) aiU (aL _) dA);clear Xb aiU)|(obtain⟨cur,og,hcs,Tg⟩:=am9.o;(refine wpList_copy_splice rfl _ _ 34 34 rfl 5 Tryz.underlying34 aac (some ⟨wc.heap.size,0,none⟩) A2 size size 32 c2 rfl rfl wc.heap.size 0 cur.toList 5 og (aN (Ig nx)) (by rw[akn.o];exact(Nat.min_eq_left Il).symm) (fun _=>⟨rfl,agr (Tw.o.keep akN.o) (by rw[mX];decide)⟩) (by rw[akn.o,Array.length_toList];omega) (Oc.bO _) wc.heap.size wc akN.o (aL _) ?_;intro QK akr agb;have P6:=aa (Ml akr.out (by rw[mX];exact Il) (fun j hj=>by rw[eG];exact Tg j hj));have abY:=aa agb;have y0':QK.cell? ⟨bx,0,none⟩=some (.pointer (some ⟨r,0,none⟩)):=(HXD.o.keep agb).cell 0;clear akr agb og hcs Tg)));refine ah (HSI.o QK (Zu.o.2.ai abY.o)) ?_;clear HSI;obtain⟨lb,Pz⟩:=ae QK.heap.size;obtain⟨TM,aaL⟩:=ae (QK.alloc (.cells #[.int .i64 size,.slice A body.length c,.int .i64 0,.slice (some ⟨wc.heap.size,0,none⟩) size size] 434));have af0:=aJ aaL;have RS:Below wc.heap.size wc TM:=ar abY.o af0;have hlr:=oH.o.lt;have hln:=HND.o.lt;have hlx:=HXD.o.lt;have WY:sec.length=size:=by rw[←HSC.o,List.length_append,List.length_replicate,mX];omega
     have akq:K9 S w rr bx nb lb sg p r size nx A body sec c S d1 TM:=⟨oH.o.keep RS,HXD.o.keep RS,HND.o.keep RS,by rw[←aaL,←Pz,←HSG.o];exact aD.fresh QK _ _,by rw[←HSC.o,←HSG.o];exact P6.o.same (af0.block _ P6.o.lt),jl.o TM (Zu.o.2.ai RS),(aC p d1).ai Zu.o.1 RS,Zu.o.2.ai RS,fun k hk=>.inl hk,⟨To.o,fun hk=>by have:=HS.o _ hk;have:=HLX.o;omega,fun hk=>by have:=HS.o _ hk;have:=HLX.o;omega,fun hk=>by have:=HS.o _ hk;have:=Zu.o.2.size;have:=abY.o.size;omega,fun hk=>by have:=HS.o _ hk;have:=Zu.o.2.size;have:=HSG.o;omega⟩,AP,HLX.o.1,HLX.o.2,by have:=Zu.o.2.size;have:=abY.o.size;omega,by have:=Zu.o.2.size;have:=HSG.o;omega⟩;have HI:=aa akq;have amP:=aa aaL;have pT:=aa WY;have HLB:=aa Pz;clear akq af0 RS hlr hln hlx WY aaL Pz P6;obtain⟨g,hg⟩:=ae ((if at_=0 then sl.b else sl.a));obtain⟨E1,D1,hP1⟩:∃E1 D1,dG g d1 size body=(E1,D1):=⟨_,_,rfl⟩;obtain⟨E2,D2,hP2⟩:∃E2 D2,dG g D1 0 sec=(E2,D2):=⟨_,_,rfl⟩;have hRE:R=if E1=0 then(if E2=0 then(0,nx,D2)else(E2,Hd.zero,D2))else(E1,Hd.zero,D1):=by
      have h1:=abR.o;rw[if_neg dA,if_neg Zp.o,hg,GA.o,GF.o,hP1] at h1;simp only at h1;have hl0:Ig nx++dW (size-32) 0=sec:=by rw[←HSC.o,mX]
      rw[hl0,hP2] at h1;simp only at h1;rw[h1];by_cases e1:E1=0
      ·by_cases e2:E2=0
       ·simp[e1,e2]
       simp[e1,e2]
      simp[e1]
     have vw:=aa hRE;have HP1:=aa hP1;have Zi:=aa hP2;have hgg:r=ra∧g=sl.a∨r=rb∧g=sl.b:=by
      rw[←hg,←am1.o];split
      ·exact .inr ⟨rfl,rfl⟩
      exact .inl ⟨rfl,rfl⟩
     have HGG:=aa hgg;have Cg:=aa (show ∀(T:Nat→Prop) (D:bG) (at_:Nat) (b:By) (n:Nat) (Ab:Option Addr) (cb:Nat) W W',b.length=n→K9 S w rr bx nb lb sg p r size nx A body sec c T D W→Below W.heap.size W W'→D.dk.size=size→at_≤4096→Bs W' Ab b→(∀gs off,Ab=some ⟨gs,off,none⟩→gs<W'.heap.size∧¬T gs)→b.length≤cb→b.length≤1000000→D.dk.row.length+b.length≤1000000→Calls af 294 #[.pointer (some ⟨r,0,none⟩),.int .i64 at_,.slice Ab n cb] W' (fun e w3=>e=.returned (.int .i64 (g.write D at_ b).1)∧∃T',K9 S w rr bx nb lb sg p r size nx A body sec c T' (g.write D at_ b).2 w3)from fun T D at_ b n Ab cb W W' hn hI hB hk hat hBs hAb hcb hbl hrw=>by
      subst hn;have hI':=hI.ai hB;have hrs:=GC.o W' hI'.cG;have hnT:¬T r:=fun hk=>by
       have h3:=HRL.o;have h4:=NN.o;rcases hI.sub r hk with h5|h5
       ·rcases HGG.o with⟨e,_⟩|⟨e,_⟩
        ·rw[e] at h5;exact h4.2.1 h5
        rw[e] at h5;exact h4.2.2 h5
       rcases HGG.o with⟨e,_⟩|⟨e,_⟩ <;>omega
      have hrg:fV W' r p g D.dk.size:=by
       rw[hk,←GA.o];rcases HGG.o with⟨e,e2⟩|⟨e,e2⟩
       ·rw[e,e2];exact hrs.a
       rw[e,e2];exact hrs.b
      exact(EF hrg hI'.dev hnT at_ ag b Ab cb hBs hAb hcb ag hrw).mono fun e w3 he=>⟨he.1,_,hI'.step HAA.o he.2.1 he.2.2⟩)
     have HSY:=aa (show ∀(T:Nat→Prop) (D:bG) W,K9 S w rr bx nb lb sg p r size nx A body sec c T D W→D.dk.size=size→D.dk.row.length≤1000000→Calls af 295 #[.pointer (some ⟨r,0,none⟩)] W (fun e w3=>e=.returned (.int .i64 D.sync.1)∧∃T',K9 S w rr bx nb lb sg p r size nx A body sec c T' D.sync.2 w3)from fun T D W hI hk hrw=>by
      have hrs:=GC.o W hI.cG;have hrg:fV W r p g size:=by
       rw[←GA.o];rcases HGG.o with⟨e,e2⟩|⟨e,e2⟩
       ·rw[e,e2];exact hrs.a
       rw[e,e2];exact hrs.b
      exact(Ko hrg hI.dev hrw).mono fun e w3 he=>⟨he.1,_,hI.step HAA.o he.2.1 he.2.2⟩)
     have Xx:d1.dk.size=size∧d1.dk.row.length+body.length≤1000000:=by rw[HK1.o,GA.o];exact⟨rfl,rB.o⟩
     have hd2:E1=0→D1.dk.size=size∧D1.dk.row.length=0:=by
      have h1:=hP1;unfold dG at h1;have h2:=g.pw d1 size body ag;split at h1
      ·have h3:=bG.FN (g.write d1 size body).2;rw[h1] at h3;exact fun e=>⟨h3.1.trans (h2.1.trans Xx.1),by rw[h3.2 e];rfl⟩
      rename_i hne;rw[h1] at hne;exact fun e=>absurd e hne
     have NX:=aa Xx;have om:=aa hd2;clear hg hP1 hP2 hRE hgg Xx hd2;go_wp2_with fail;rw[amP.o];rw[HSG.o,HLB.o];go_loopw [86] (fun k wr=>(k=.int .i64 0∧∃T,K9 S w rr bx nb lb sg p r size nx A body sec c T d1 wr)∨(k=.int .i64 1∧E1=0∧∃T,K9 S w rr bx nb lb sg p r size nx A body sec c T D1 wr)∨(k=.int .i64 2∧(E1=0∧E2=0)∧∃T,K9 S w rr bx nb lb sg p r size nx A body sec c T D2 wr)) (fun k _=>(2-intOf k).toNat)
     case atStart=>exact .inl ⟨rfl,S,HI.o⟩
     case round=>
      rcases hrel with⟨rfl,T,hI⟩|⟨rfl,he1,T,hI⟩|⟨rfl,aiZ,T,hI⟩
      ·have HI:=aa hI;have l0:=hI.l.cl 0;have l1:=hI.l.cl 1;have l2:=hI.l.cl 2;have l3:wr.cell? ⟨lb,3,none⟩=some (.slice (some ⟨sg,0,none⟩) size size):=hI.l.cell 3;have b0:=hI.x.cl 0;have b0a:∀o,(wr.alloc o).cell? ⟨bx,0,none⟩=some (.pointer (some ⟨r,0,none⟩)):=fun o=>((aw (aq wr.heap.size wr) o).cell (p:=⟨bx,0,none⟩) hI.x.lt).trans b0
       clear hI;obtain⟨ew,Dw,hwr⟩:∃ew Dw,g.write d1 ((size:Nat):Int) body=(ew,Dw):=⟨_,_,rfl⟩;obtain⟨es,Ds,hsy⟩:∃es Ds,Dw.sync=(es,Ds):=⟨_,_,rfl⟩;have hps:(E1,D1)=if ew=0 then(es,Ds)else(ew,Dw):=by rw[←HP1.o];unfold dG;rw[hwr];simp only[hsy]
       have hdw:Dw.dk.size=size∧Dw.dk.row.length≤1000000:=by
        have h2:=g.pw d1 size body (by rw[NX.o.1];omega);rw[hwr] at h2;exact⟨h2.1.trans NX.o.1,bf h2.2 NX.o.2⟩
       have HWV:=aa hwr;have Zb:=aa hsy;have Sv:=aa hps;have HDW:=aa hdw;clear hwr hsy hps hdw;go_wp2_with fail;refine(Cg.o T d1 size body body.length A c wr _ rfl HI.o (by repeat(first|with_reducible exact aq _ _|with_reducible refine aw ?_ _|with_reducible refine ay ?_|with_reducible refine bK ?_ _|(refine eK ?_ uz _)|with_reducible refine ar ?_ Am)) NX.o.1 ag (HI.o.ai (by repeat(first|with_reducible exact aq _ _|with_reducible refine aw ?_ _|with_reducible refine ay ?_|with_reducible refine bK ?_ _|(refine eK ?_ uz _)|with_reducible refine ar ?_ Am))).body (fun gs off e=>⟨by have h1:=(HAA.o gs off e).1;have h2:=HI.o.cG.size;simp;omega,fun ht=>by rcases HI.o.sub gs ht with h5|h5;exact(HAA.o gs off e).2 h5;have h1:=(HAA.o gs off e).1;omega⟩) HCC.o hbl NX.o.2).mono ?_;rw[HWV.o];rintro e w3 ⟨rfl,T1,fw⟩;have ze:=aa fw;have b0':=fw.x.cl 0;clear fw;by_cases Tf:ew=0
       ·have abU:=aa (show(E1,D1)=(es,Ds)from by rw[Sv.o,if_pos Tf]);subst Tf;clear Sv;go_wp2_with fail;refine(HSY.o T1 Dw w3 ze.o HDW.o.1 HDW.o.2).mono ?_;rw[Zb.o];rintro e w4 ⟨rfl,T3,fw⟩;have gH:=aa fw;clear fw;by_cases hes:es=0
        ·have Tt:=aa (show E1=0∧D1=Ds from UI);subst hes;go_wp2_with fail;go_roundw
         case rel=>exact .inr (.inl ⟨rfl,Tt.o.1,T3,by rw[Tt.o.2];exact gH.o⟩)
         case measure=>simp[intOf]
        have pN:(es != 0)=true:=by simp[hes]
        have Tt:=aa (show ¬E1=0 from UC);have HED:=aa (show E1=es∧D1=Ds from Uu);clear hes;go_wp2_with (first|(refine aj rfl 129 _ _ rfl rr 129 _ #[.int .u64 0,.int .u64 0,.int .i64 0,.int .u32 0] gH.o.res rfl rfl rfl aY (cz Hd.zero) ?_;intro wz il eT hsz;have lI:=aa il;have iP:=aa eT;clear il eT hsz));refine bodyPost_ret (results_cell_tmp oK _ iN (aI 129 lI.o _ cm rfl aY)) rfl ?_;rw[show R=(es,Hd.zero,Ds)from by rw[vw.o,if_neg Tt.o];rw[HED.o.1,HED.o.2]];exact gH.o.o (R:=(es,Hd.zero,Ds)) HS.o iP.o rfl
       have pN:(ew != 0)=true:=by simp[Tf]
       have Tt:=aa (show ¬E1=0 from UU);have HED:=aa (show E1=ew∧D1=Dw from UQ);clear Tf;go_wp2_with (first|(refine aj rfl 129 _ _ rfl rr 129 _ #[.int .u64 0,.int .u64 0,.int .i64 0,.int .u32 0] ze.o.res rfl rfl rfl aY (cz Hd.zero) ?_;intro wz il eT hsz;have lI:=aa il;have iP:=aa eT;clear il eT hsz));refine bodyPost_ret (results_cell_tmp oK _ iN (aI 129 lI.o _ cm rfl aY)) rfl ?_;rw[show R=(ew,Hd.zero,Dw)from by rw[vw.o,if_neg Tt.o];rw[HED.o.1,HED.o.2]];exact ze.o.o (R:=(ew,Hd.zero,Dw)) HS.o iP.o rfl
      ·have vy:=aa he1;clear he1;have HI:=aa hI;have l0:=hI.l.cl 0;have l1:=hI.l.cl 1;have l2:=hI.l.cl 2;have l3:wr.cell? ⟨lb,3,none⟩=some (.slice (some ⟨sg,0,none⟩) size size):=hI.l.cell 3;have b0:=hI.x.cl 0;have b0a:∀o,(wr.alloc o).cell? ⟨bx,0,none⟩=some (.pointer (some ⟨r,0,none⟩)):=fun o=>((aw (aq wr.heap.size wr) o).cell (p:=⟨bx,0,none⟩) hI.x.lt).trans b0
       clear hI;obtain⟨ew,Dw,hwr⟩:∃ew Dw,g.write D1 ((0:Nat):Int) sec=(ew,Dw):=⟨_,_,rfl⟩;obtain⟨es,Ds,hsy⟩:∃es Ds,Dw.sync=(es,Ds):=⟨_,_,rfl⟩;have hps:(E2,D2)=if ew=0 then(es,Ds)else(ew,Dw):=by rw[←Zi.o];unfold dG;rw[hwr];simp only[hsy]
       have hdw:Dw.dk.size=size∧Dw.dk.row.length≤1000000:=by
        have h2:=g.pw D1 0 sec (by rw[(om.o vy.o).1];omega);rw[hwr] at h2;exact⟨h2.1.trans (om.o vy.o).1,bf h2.2 (by have h1:=(om.o vy.o).2;have h2:=pT.o;omega)⟩
       have HWV:=aa hwr;have Zb:=aa hsy;have Sv:=aa hps;have HDW:=aa hdw;clear hwr hsy hps hdw;go_wp2_with fail;refine(Cg.o T D1 0 sec size (some ⟨sg,0,none⟩) size wr _ pT.o HI.o (by repeat(first|with_reducible exact aq _ _|with_reducible refine aw ?_ _|with_reducible refine ay ?_|with_reducible refine bK ?_ _|(refine eK ?_ uz _)|with_reducible refine ar ?_ Am)) (om.o vy.o).1 ag ((HI.o.ai (by repeat(first|with_reducible exact aq _ _|with_reducible refine aw ?_ _|with_reducible refine ay ?_|with_reducible refine bK ?_ _|(refine eK ?_ uz _)|with_reducible refine ar ?_ Am))).sec.bsx) (fun gs off e=>by injection e with e;injection e with e1 e2;subst e1;exact⟨by have:=HI.o.sec.lt;simp;omega,HI.o.no.2.2.2.2⟩) (by have:=pT.o;omega) (by have:=pT.o;omega) (by have h1:=(om.o vy.o).2;have h2:=pT.o;omega)).mono ?_;rw[HWV.o];rintro e w3 ⟨rfl,T1,fw⟩;have ze:=aa fw;have b0':=fw.x.cl 0;clear fw;by_cases Tf:ew=0
       ·have abU:=aa (show(E2,D2)=(es,Ds)from by rw[Sv.o,if_pos Tf]);subst Tf;clear Sv;go_wp2_with fail;refine(HSY.o T1 Dw w3 ze.o HDW.o.1 HDW.o.2).mono ?_;rw[Zb.o];rintro e w4 ⟨rfl,T3,fw⟩;have gH:=aa fw;clear fw;by_cases hes:es=0
        ·have Tt:=aa (show E2=0∧D2=Ds from UI);subst hes;go_wp2_with fail;go_roundw
         case rel=>exact .inr (.inr ⟨rfl,⟨vy.o,Tt.o.1⟩,T3,by rw[Tt.o.2];exact gH.o⟩)
         case measure=>simp[intOf]
        have pN:(es != 0)=true:=by simp[hes]
        have Tt:=aa (show ¬E2=0 from UC);have HED:=aa (show E2=es∧D2=Ds from Uu);clear hes;go_wp2_with (first|(refine aj rfl 129 _ _ rfl rr 129 _ #[.int .u64 0,.int .u64 0,.int .i64 0,.int .u32 0] gH.o.res rfl rfl rfl aY (cz Hd.zero) ?_;intro wz il eT hsz;have lI:=aa il;have iP:=aa eT;clear il eT hsz));refine bodyPost_ret (results_cell_tmp oK _ iN (aI 129 lI.o _ cm rfl aY)) rfl ?_;rw[show R=(es,Hd.zero,Ds)from Uy];exact gH.o.o (R:=(es,Hd.zero,Ds)) HS.o iP.o rfl
       have pN:(ew != 0)=true:=by simp[Tf]
       have Tt:=aa (show ¬E2=0 from UU);have HED:=aa (show E2=ew∧D2=Dw from UQ);clear Tf;go_wp2_with (first|(refine aj rfl 129 _ _ rfl rr 129 _ #[.int .u64 0,.int .u64 0,.int .i64 0,.int .u32 0] ze.o.res rfl rfl rfl aY (cz Hd.zero) ?_;intro wz il eT hsz;have lI:=aa il;have iP:=aa eT;clear il eT hsz));refine bodyPost_ret (results_cell_tmp oK _ iN (aI 129 lI.o _ cm rfl aY)) rfl ?_;rw[show R=(ew,Hd.zero,Dw)from Uy];exact ze.o.o (R:=(ew,Hd.zero,Dw)) HS.o iP.o rfl
      have HI:=aa hI;have akC:=aa aiZ;clear hI aiZ;go_wp2_with (first|(refine aB rfl 129 _ rfl nb 129 _ HI.o.h rfl _ cm rfl aY ?_)|(refine aj rfl 129 _ _ rfl rr 129 _ (od nx) HI.o.res rfl rfl rfl aY (cz nx) ?_;intro wz il eT hsz;have lI:=aa il;have iP:=aa eT;clear il eT hsz));refine bodyPost_ret (results_cell_tmp oK _ iN (aI 129 lI.o _ cm rfl aY)) rfl ?_;rw[show R=(0,nx,D2)from by rw[vw.o,if_pos akC.o.1,if_pos akC.o.2]];exact HI.o.o (R:=(0,nx,D2)) HS.o iP.o rfl
  have pN:(er != 0)=true:=wW;have jV:=aa oU;clear oU;go_wp2_with (first|(refine aj rfl 129 _ _ rfl w3.heap.size 129 _ (od hh) HFR.o rfl rfl rfl aY (cz hh) ?_;intro w5 fY cJ hs5;have eQ:=aa (show Below w3.heap.size w3 w5 from br (aw (aq _ _) _) cJ (aL _));have o6:=aa (pq.o.keep eQ.o);clear fY cJ hs5)|(refine aj rfl 129 _ _ rfl rr 129 _ #[.int .u64 0,.int .u64 0,.int .i64 0,.int .u32 0] o6.o rfl rfl rfl aY (cz Hd.zero) ?_;intro wz il eT hsz;have lI:=aa il;have iP:=aa eT;clear il eT hsz));refine bodyPost_ret (results_cell_tmp oK _ iN (aI 129 lI.o _ cm rfl aY)) rfl ?_;have Zw:=aa (show dI p d1 S w5∧aG S w w5 from⟨(aC p d1).ai Zx.o.1 eQ.o,Zx.o.2.ai eQ.o⟩);rw[show R=(er,Hd.zero,d1)from by rw[abR.o];simp[jV.o]];exact⟨rfl,(aC p d1).Ag ((aC p d1).same Zw.o.1 iP.o.size (fun k hk=>iP.o.block k ((aC p d1).lt Zw.o.1 k hk) (fun e=>Ao))) HS.o (bf Zw.o.2.size iP.o.size),Zw.o.2.grown iP.o (fun k e=>Mc)⟩
end En
end
section
namespace En
def uo(b:By)(w:World)(e:Ending)(w':World): Prop:=
 ∃A c,e=.returned (.tuple #[.slice A b.length c,.int .i64 0])∧Bs w' A b∧Below w.heap.size w w'∧b.length≤c∧(∀g off,A=some ⟨g,off,none⟩→w.heap.size≤g)∧rU A
theorem uo.of{b:By}{w wl w':World}{A:Option Addr}{c:Nat}{v:Value}{e:Ending}(hA:v=.slice A b.length c)(he:e=.returned (.tuple #[.slice A b.length c,.int .i64 0]))(h1:b≠ []→∃g,A=some ⟨g,0,none⟩∧wl.heap.size≤g∧eC w' 5 g b)(hb:Below w.heap.size w w')(hc:b.length≤c)(hg:∀g off,A=some ⟨g,off,none⟩→wl.heap.size≤g)(hz:w.heap.size≤wl.heap.size)(hne:b≠ []): uo b w e w':=
 ⟨A,c,he,gj.bs h1,hb,hc,fun g off e=>bf hz (hg g off e),by obtain⟨g,rfl,_⟩:=h1 hne;exact dm _ _⟩
theorem ajL(id av aR:Nat)(w:World)(hid:1≤id∧id≤4294967295)(aik:av≤1023)(MR:1≤aR∧aR≤1099511627776): Calls af 217 #[.agg (fF ⟨1,(id:Int),(av:Int),(aR:Int),0⟩)] w (uo (jf ⟨1,(id:Int),(av:Int),(aR:Int),0⟩) w):=by
 have fz:(⟨1,(id:Int),(av:Int),(aR:Int),0⟩:Rec).ok=true:=IL;have tN:jf ⟨1,(id:Int),(av:Int),(aR:Int),0⟩=le 1 1++le id 4++le av 2++le aR 8:=Ay;rw[tN];have jH:=aa (fun W=>fW ⟨1,(id:Int),(av:Int),(aR:Int),0⟩ W OI);have jH:=aa (show ∀W,Calls af 68 #[.agg (fF ⟨1,(id:Int),(av:Int),(aR:Int),0⟩)] W fun e w'=>e=.returned (.int .i64 0)∧Below W.heap.size W w' from fun W=>(jH.o W).mono fun e w' h=>IU);dsimp only[fF] at jH ⊢;have HO:=aa (fun W=>Bg (k:=1) (a1:=true) (a2:=true) (a3:=true) (a4:=false) (ok:=true) rfl rfl W);have alF:IntKind.u16.wrap (av:Int)=(av:Int):=by rw[o7];omega
 have anS:cL.wrap (aR:Int)=(aR:Int):=py;obtain⟨w1,aX⟩:=ae (w.alloc (.cells #[.int .i64 1,.int .u32 (id:Int),.int .i64 (av:Int),.int .i64 (aR:Int),.int .i64 0] 58));obtain⟨rb,jc⟩:=ae w.heap.size;have bh:=aH aX jc;have hb1:=aJ aX;have r0:=bh.cl 0;have r1:=bh.cl 1;have r2:=bh.cl 2;have r3:=bh.cl 3;have r4:=bh.cl 4;have dH:=aa bh;have bu:=aa hb1;have tP:=aa jc;clear fz bh hb1 tN;go_enter Tryz.func217,Tryz.ntmps217;go_wp2_with fail;refine(jH.o _).mono ?_;rintro e w2 ⟨rfl,hb2⟩;have qo:=dH.o.keep hb2;have r0':=qo.cl 0;have pU:=aa qo;have cx:=bu.eo hb2;clear hb2 qo r0 r1 r2 r3 r4;go_wp2_with fail;refine(HO.o _).mono ?_;rintro e w3 ⟨rfl,hb3⟩;go_upto_region 5 with fail
 obtain⟨w4,hw4⟩:=ae (w3.alloc (.cells #[.bool true,.bool true,.bool true,.bool false] 266));obtain⟨sb,k8⟩:=ae w3.heap.size;rw[hw4,k8];have JU:=aH hw4 k8;have hb4:=eH hb3 hw4;obtain⟨w5,jK⟩:=ae (w4.alloc (.cells #[.slice none 0 0] 150));obtain⟨p,hp⟩:=ae w4.heap.size;have Ii:eL w5 p []:=AV;have dR:=aJ jK;have hR:=(pU.o.keep hb4).keep dR;have hS:=JU.keep dR;have Dm:rb≠p∧sb≠p:=IM;have HT:=aa (aG.refl (· =p) w5);have HW:=aa Ii;have HR:=aa hR;have HS:=aa hS;have HN:=aa Dm;have eQ:=aa (show Below w.heap.size w w5 from ar (ar cx.o hb4) dR);have HP:=aa (show w.heap.size≤p from IK);have r0:=HR.o.cl 0;have r1:=HR.o.cl 1;have r2:=HR.o.cl 2;have r3:=HR.o.cl 3;have r4:=HR.o.cl 4;have s0:=HS.o.cl 0;have s1:=HS.o.cl 1;have s2:=HS.o.cl 2;have s3:=HS.o.cl 3;clear hb3 JU hb4 Ii dR hR hS Dm r0';go_wp2_with fail;refine(Oc.fS p 1 _ w5 HW.o dC aM).mono ?_;rintro e w6 ⟨⟨uw6,rfl⟩,hw,ht⟩;have hR:=ht.arr HR.o HN.o.1;have hS:=ht.arr HS.o HN.o.2;have hT:=HT.o.trans ht;clear HT HW HR HS ht r0 r1 r2 r3 r4 s0 s1 s2 s3;have HT:=aa hT;have HW:=aa hw;have HR:=aa hR;have HS:=aa hS;have r0:=HR.o.cl 0;have r1:=HR.o.cl 1;have r2:=HR.o.cl 2;have r3:=HR.o.cl 3;have r4:=HR.o.cl 4;have s0:=HS.o.cl 0;have s1:=HS.o.cl 1;have s2:=HS.o.cl 2;have s3:=HS.o.cl 3;clear hT hw hR hS;go_wp2_with fail;refine(Oc.cY p id _ w6 HW.o dC ag).mono ?_;rintro e w7 ⟨⟨uw7,rfl⟩,hw,ht⟩;have hR:=ht.arr HR.o HN.o.1;have hS:=ht.arr HS.o HN.o.2;have hT:=HT.o.trans ht;clear HT HW HR HS ht r0 r1 r2 r3 r4 s0 s1 s2 s3;have HT:=aa hT;have HW:=aa hw;have HR:=aa hR;have HS:=aa hS;have r0:=HR.o.cl 0;have r1:=HR.o.cl 1;have r2:=HR.o.cl 2;have r3:=HR.o.cl 3;have r4:=HR.o.cl 4;have s0:=HS.o.cl 0;have s1:=HS.o.cl 1;have s2:=HS.o.cl 2;have s3:=HS.o.cl 3;clear hT hw hR hS;go_wp2_with fail;refine(Oc.eV p av _ w7 HW.o dC ag).mono ?_;rintro e w8 ⟨⟨uw8,rfl⟩,hw,ht⟩;have hR:=ht.arr HR.o HN.o.1;have hS:=ht.arr HS.o HN.o.2;have hT:=HT.o.trans ht;clear HT HW HR HS ht r0 r1 r2 r3 r4 s0 s1 s2 s3;have HT:=aa hT;have HW:=aa hw;have HR:=aa hR;have HS:=aa hS;have r0:=HR.o.cl 0;have r1:=HR.o.cl 1;have r2:=HR.o.cl 2;have r3:=HR.o.cl 3;have r4:=HR.o.cl 4;have s0:=HS.o.cl 0;have s1:=HS.o.cl 1;have s2:=HS.o.cl 2;have s3:=HS.o.cl 3;clear hT hw hR hS;go_wp2_with fail;refine(Oc.ej p aR _ w8 HW.o dC ag).mono ?_;exact VU
theorem ajK(id:Nat)(w:World)(hid:1≤id∧id≤4294967295): Calls af 217 #[.agg (fF ⟨2,(id:Int),0,0,0⟩)] w (uo (jf ⟨2,(id:Int),0,0,0⟩) w):=by
 have fz:(⟨2,(id:Int),0,0,0⟩:Rec).ok=true:=IL;have tN:jf ⟨2,(id:Int),0,0,0⟩=le 2 1++le id 4:=Ay;rw[tN];have jH:=aa (fun W=>fW ⟨2,(id:Int),0,0,0⟩ W OI);have jH:=aa (show ∀W,Calls af 68 #[.agg (fF ⟨2,(id:Int),0,0,0⟩)] W fun e w'=>e=.returned (.int .i64 0)∧Below W.heap.size W w' from fun W=>(jH.o W).mono fun e w' h=>IU);dsimp only[fF] at jH ⊢;have HO:=aa (fun W=>Bg (k:=2) (a1:=true) (a2:=false) (a3:=false) (a4:=false) (ok:=true) rfl rfl W);obtain⟨w1,aX⟩:=ae (w.alloc (.cells #[.int .i64 2,.int .u32 (id:Int),.int .i64 0,.int .i64 0,.int .i64 0] 58));obtain⟨rb,jc⟩:=ae w.heap.size;have bh:=aH aX jc;have hb1:=aJ aX;have r0:=bh.cl 0;have r1:=bh.cl 1;have r2:=bh.cl 2;have r3:=bh.cl 3;have r4:=bh.cl 4;have dH:=aa bh;have bu:=aa hb1;have tP:=aa jc;clear fz bh hb1 tN;go_enter Tryz.func217,Tryz.ntmps217;go_wp2_with fail;refine(jH.o _).mono ?_;rintro e w2 ⟨rfl,hb2⟩;have qo:=dH.o.keep hb2;have r0':=qo.cl 0;have pU:=aa qo;have cx:=bu.eo hb2;clear hb2 qo r0 r1 r2 r3 r4;go_wp2_with fail;refine(HO.o _).mono ?_;rintro e w3 ⟨rfl,hb3⟩;go_upto_region 5 with fail
 obtain⟨w4,hw4⟩:=ae (w3.alloc (.cells #[.bool true,.bool false,.bool false,.bool false] 266));obtain⟨sb,k8⟩:=ae w3.heap.size;rw[hw4,k8];have JU:=aH hw4 k8;have hb4:=eH hb3 hw4;obtain⟨w5,jK⟩:=ae (w4.alloc (.cells #[.slice none 0 0] 150));obtain⟨p,hp⟩:=ae w4.heap.size;have Ii:eL w5 p []:=AV;have dR:=aJ jK;have hR:=(pU.o.keep hb4).keep dR;have hS:=JU.keep dR;have Dm:rb≠p∧sb≠p:=IM;have HT:=aa (aG.refl (· =p) w5);have HW:=aa Ii;have HR:=aa hR;have HS:=aa hS;have HN:=aa Dm;have eQ:=aa (show Below w.heap.size w w5 from ar (ar cx.o hb4) dR);have HP:=aa (show w.heap.size≤p from IK);have r0:=HR.o.cl 0;have r1:=HR.o.cl 1;have r2:=HR.o.cl 2;have r3:=HR.o.cl 3;have r4:=HR.o.cl 4;have s0:=HS.o.cl 0;have s1:=HS.o.cl 1;have s2:=HS.o.cl 2;have s3:=HS.o.cl 3;clear hb3 JU hb4 Ii dR hR hS Dm r0';go_wp2_with fail;refine(Oc.fS p 2 _ w5 HW.o dC aM).mono ?_;rintro e w6 ⟨⟨uw6,rfl⟩,hw,ht⟩;have hR:=ht.arr HR.o HN.o.1;have hS:=ht.arr HS.o HN.o.2;have hT:=HT.o.trans ht;clear HT HW HR HS ht r0 r1 r2 r3 r4 s0 s1 s2 s3;have HT:=aa hT;have HW:=aa hw;have HR:=aa hR;have HS:=aa hS;have r0:=HR.o.cl 0;have r1:=HR.o.cl 1;have r2:=HR.o.cl 2;have r3:=HR.o.cl 3;have r4:=HR.o.cl 4;have s0:=HS.o.cl 0;have s1:=HS.o.cl 1;have s2:=HS.o.cl 2;have s3:=HS.o.cl 3;clear hT hw hR hS;go_wp2_with fail;refine(Oc.cY p id _ w6 HW.o dC ag).mono ?_;exact VU
theorem ajJ(id:Nat)(w:World)(hid:1≤id∧id≤4294967295): Calls af 217 #[.agg (fF ⟨3,(id:Int),0,0,0⟩)] w (uo (jf ⟨3,(id:Int),0,0,0⟩) w):=by
 have fz:(⟨3,(id:Int),0,0,0⟩:Rec).ok=true:=IL;have tN:jf ⟨3,(id:Int),0,0,0⟩=le 3 1++le id 4:=Ay;rw[tN];have jH:=aa (fun W=>fW ⟨3,(id:Int),0,0,0⟩ W OI);have jH:=aa (show ∀W,Calls af 68 #[.agg (fF ⟨3,(id:Int),0,0,0⟩)] W fun e w'=>e=.returned (.int .i64 0)∧Below W.heap.size W w' from fun W=>(jH.o W).mono fun e w' h=>IU);dsimp only[fF] at jH ⊢;have HO:=aa (fun W=>Bg (k:=3) (a1:=true) (a2:=false) (a3:=false) (a4:=false) (ok:=true) rfl rfl W);obtain⟨w1,aX⟩:=ae (w.alloc (.cells #[.int .i64 3,.int .u32 (id:Int),.int .i64 0,.int .i64 0,.int .i64 0] 58));obtain⟨rb,jc⟩:=ae w.heap.size;have bh:=aH aX jc;have hb1:=aJ aX;have r0:=bh.cl 0;have r1:=bh.cl 1;have r2:=bh.cl 2;have r3:=bh.cl 3;have r4:=bh.cl 4;have dH:=aa bh;have bu:=aa hb1;have tP:=aa jc;clear fz bh hb1 tN;go_enter Tryz.func217,Tryz.ntmps217;go_wp2_with fail;refine(jH.o _).mono ?_;rintro e w2 ⟨rfl,hb2⟩;have qo:=dH.o.keep hb2;have r0':=qo.cl 0;have pU:=aa qo;have cx:=bu.eo hb2;clear hb2 qo r0 r1 r2 r3 r4;go_wp2_with fail;refine(HO.o _).mono ?_;rintro e w3 ⟨rfl,hb3⟩;go_upto_region 5 with fail
 obtain⟨w4,hw4⟩:=ae (w3.alloc (.cells #[.bool true,.bool false,.bool false,.bool false] 266));obtain⟨sb,k8⟩:=ae w3.heap.size;rw[hw4,k8];have JU:=aH hw4 k8;have hb4:=eH hb3 hw4;obtain⟨w5,jK⟩:=ae (w4.alloc (.cells #[.slice none 0 0] 150));obtain⟨p,hp⟩:=ae w4.heap.size;have Ii:eL w5 p []:=AV;have dR:=aJ jK;have hR:=(pU.o.keep hb4).keep dR;have hS:=JU.keep dR;have Dm:rb≠p∧sb≠p:=IM;have HT:=aa (aG.refl (· =p) w5);have HW:=aa Ii;have HR:=aa hR;have HS:=aa hS;have HN:=aa Dm;have eQ:=aa (show Below w.heap.size w w5 from ar (ar cx.o hb4) dR);have HP:=aa (show w.heap.size≤p from IK);have r0:=HR.o.cl 0;have r1:=HR.o.cl 1;have r2:=HR.o.cl 2;have r3:=HR.o.cl 3;have r4:=HR.o.cl 4;have s0:=HS.o.cl 0;have s1:=HS.o.cl 1;have s2:=HS.o.cl 2;have s3:=HS.o.cl 3;clear hb3 JU hb4 Ii dR hR hS Dm r0';go_wp2_with fail;refine(Oc.fS p 3 _ w5 HW.o dC aM).mono ?_;rintro e w6 ⟨⟨uw6,rfl⟩,hw,ht⟩;have hR:=ht.arr HR.o HN.o.1;have hS:=ht.arr HS.o HN.o.2;have hT:=HT.o.trans ht;clear HT HW HR HS ht r0 r1 r2 r3 r4 s0 s1 s2 s3;have HT:=aa hT;have HW:=aa hw;have HR:=aa hR;have HS:=aa hS;have r0:=HR.o.cl 0;have r1:=HR.o.cl 1;have r2:=HR.o.cl 2;have r3:=HR.o.cl 3;have r4:=HR.o.cl 4;have s0:=HS.o.cl 0;have s1:=HS.o.cl 1;have s2:=HS.o.cl 2;have s3:=HS.o.cl 3;clear hT hw hR hS;go_wp2_with fail;refine(Oc.cY p id _ w6 HW.o dC ag).mono ?_;exact VU
theorem ajI(id av:Nat)(w:World)(hid:1≤id∧id≤4294967295)(aik:av≤1023): Calls af 217 #[.agg (fF ⟨4,(id:Int),(av:Int),0,0⟩)] w (uo (jf ⟨4,(id:Int),(av:Int),0,0⟩) w):=by
 have fz:(⟨4,(id:Int),(av:Int),0,0⟩:Rec).ok=true:=IL;have tN:jf ⟨4,(id:Int),(av:Int),0,0⟩=le 4 1++le id 4++le av 2:=Ay;rw[tN];have jH:=aa (fun W=>fW ⟨4,(id:Int),(av:Int),0,0⟩ W OI);have jH:=aa (show ∀W,Calls af 68 #[.agg (fF ⟨4,(id:Int),(av:Int),0,0⟩)] W fun e w'=>e=.returned (.int .i64 0)∧Below W.heap.size W w' from fun W=>(jH.o W).mono fun e w' h=>IU);dsimp only[fF] at jH ⊢;have HO:=aa (fun W=>Bg (k:=4) (a1:=true) (a2:=true) (a3:=false) (a4:=false) (ok:=true) rfl rfl W);have alF:IntKind.u16.wrap (av:Int)=(av:Int):=by rw[o7];omega
 obtain⟨w1,aX⟩:=ae (w.alloc (.cells #[.int .i64 4,.int .u32 (id:Int),.int .i64 (av:Int),.int .i64 0,.int .i64 0] 58));obtain⟨rb,jc⟩:=ae w.heap.size;have bh:=aH aX jc;have hb1:=aJ aX;have r0:=bh.cl 0;have r1:=bh.cl 1;have r2:=bh.cl 2;have r3:=bh.cl 3;have r4:=bh.cl 4;have dH:=aa bh;have bu:=aa hb1;have tP:=aa jc;clear fz bh hb1 tN;go_enter Tryz.func217,Tryz.ntmps217;go_wp2_with fail;refine(jH.o _).mono ?_;rintro e w2 ⟨rfl,hb2⟩;have qo:=dH.o.keep hb2;have r0':=qo.cl 0;have pU:=aa qo;have cx:=bu.eo hb2;clear hb2 qo r0 r1 r2 r3 r4;go_wp2_with fail;refine(HO.o _).mono ?_;rintro e w3 ⟨rfl,hb3⟩;go_upto_region 5 with fail
 obtain⟨w4,hw4⟩:=ae (w3.alloc (.cells #[.bool true,.bool true,.bool false,.bool false] 266));obtain⟨sb,k8⟩:=ae w3.heap.size;rw[hw4,k8];have JU:=aH hw4 k8;have hb4:=eH hb3 hw4;obtain⟨w5,jK⟩:=ae (w4.alloc (.cells #[.slice none 0 0] 150));obtain⟨p,hp⟩:=ae w4.heap.size;have Ii:eL w5 p []:=AV;have dR:=aJ jK;have hR:=(pU.o.keep hb4).keep dR;have hS:=JU.keep dR;have Dm:rb≠p∧sb≠p:=IM;have HT:=aa (aG.refl (· =p) w5);have HW:=aa Ii;have HR:=aa hR;have HS:=aa hS;have HN:=aa Dm;have eQ:=aa (show Below w.heap.size w w5 from ar (ar cx.o hb4) dR);have HP:=aa (show w.heap.size≤p from IK);have r0:=HR.o.cl 0;have r1:=HR.o.cl 1;have r2:=HR.o.cl 2;have r3:=HR.o.cl 3;have r4:=HR.o.cl 4;have s0:=HS.o.cl 0;have s1:=HS.o.cl 1;have s2:=HS.o.cl 2;have s3:=HS.o.cl 3;clear hb3 JU hb4 Ii dR hR hS Dm r0';go_wp2_with fail;refine(Oc.fS p 4 _ w5 HW.o dC aM).mono ?_;rintro e w6 ⟨⟨uw6,rfl⟩,hw,ht⟩;have hR:=ht.arr HR.o HN.o.1;have hS:=ht.arr HS.o HN.o.2;have hT:=HT.o.trans ht;clear HT HW HR HS ht r0 r1 r2 r3 r4 s0 s1 s2 s3;have HT:=aa hT;have HW:=aa hw;have HR:=aa hR;have HS:=aa hS;have r0:=HR.o.cl 0;have r1:=HR.o.cl 1;have r2:=HR.o.cl 2;have r3:=HR.o.cl 3;have r4:=HR.o.cl 4;have s0:=HS.o.cl 0;have s1:=HS.o.cl 1;have s2:=HS.o.cl 2;have s3:=HS.o.cl 3;clear hT hw hR hS;go_wp2_with fail;refine(Oc.cY p id _ w6 HW.o dC ag).mono ?_;rintro e w7 ⟨⟨uw7,rfl⟩,hw,ht⟩;have hR:=ht.arr HR.o HN.o.1;have hS:=ht.arr HS.o HN.o.2;have hT:=HT.o.trans ht;clear HT HW HR HS ht r0 r1 r2 r3 r4 s0 s1 s2 s3;have HT:=aa hT;have HW:=aa hw;have HR:=aa hR;have HS:=aa hS;have r0:=HR.o.cl 0;have r1:=HR.o.cl 1;have r2:=HR.o.cl 2;have r3:=HR.o.cl 3;have r4:=HR.o.cl 4;have s0:=HS.o.cl 0;have s1:=HS.o.cl 1;have s2:=HS.o.cl 2;have s3:=HS.o.cl 3;clear hT hw hR hS;go_wp2_with fail;refine(Oc.eV p av _ w7 HW.o dC ag).mono ?_;exact VU
theorem ajH(ak:Nat)(w:World)(amq:1≤ak∧ak≤1099511627776): Calls af 217 #[.agg (fF ⟨5,0,0,0,(ak:Int)⟩)] w (uo (jf ⟨5,0,0,0,(ak:Int)⟩) w):=by
 have fz:(⟨5,0,0,0,(ak:Int)⟩:Rec).ok=true:=IL;have tN:jf ⟨5,0,0,0,(ak:Int)⟩=le 5 1++le ak 8:=Ay;rw[tN];have jH:=aa (fun W=>fW ⟨5,0,0,0,(ak:Int)⟩ W (by first|(exact⟨by show(0:Int)≤0;omega,by show 0<(4294967296:Int);omega⟩)));have jH:=aa (show ∀W,Calls af 68 #[.agg (fF ⟨5,0,0,0,(ak:Int)⟩)] W fun e w'=>e=.returned (.int .i64 0)∧Below W.heap.size W w' from fun W=>(jH.o W).mono fun e w' h=>IU);dsimp only[fF] at jH ⊢;have HO:=aa (fun W=>Bg (k:=5) (a1:=false) (a2:=false) (a3:=false) (a4:=true) (ok:=true) rfl rfl W);have aon:cL.wrap (ak:Int)=(ak:Int):=py;obtain⟨w1,aX⟩:=ae (w.alloc (.cells #[.int .i64 5,.int .u32 0,.int .i64 0,.int .i64 0,.int .i64 (ak:Int)] 58));obtain⟨rb,jc⟩:=ae w.heap.size;have bh:=aH aX jc;have hb1:=aJ aX;have r0:=bh.cl 0;have r1:=bh.cl 1;have r2:=bh.cl 2;have r3:=bh.cl 3;have r4:=bh.cl 4;have dH:=aa bh;have bu:=aa hb1;have tP:=aa jc;clear fz bh hb1 tN;go_enter Tryz.func217,Tryz.ntmps217;go_wp2_with fail;refine(jH.o _).mono ?_;rintro e w2 ⟨rfl,hb2⟩;have qo:=dH.o.keep hb2;have r0':=qo.cl 0;have pU:=aa qo;have cx:=bu.eo hb2;clear hb2 qo r0 r1 r2 r3 r4;go_wp2_with fail;refine(HO.o _).mono ?_;rintro e w3 ⟨rfl,hb3⟩;go_upto_region 5 with fail
 obtain⟨w4,hw4⟩:=ae (w3.alloc (.cells #[.bool false,.bool false,.bool false,.bool true] 266));obtain⟨sb,k8⟩:=ae w3.heap.size;rw[hw4,k8];have JU:=aH hw4 k8;have hb4:=eH hb3 hw4;obtain⟨w5,jK⟩:=ae (w4.alloc (.cells #[.slice none 0 0] 150));obtain⟨p,hp⟩:=ae w4.heap.size;have Ii:eL w5 p []:=AV;have dR:=aJ jK;have hR:=(pU.o.keep hb4).keep dR;have hS:=JU.keep dR;have Dm:rb≠p∧sb≠p:=IM;have HT:=aa (aG.refl (· =p) w5);have HW:=aa Ii;have HR:=aa hR;have HS:=aa hS;have HN:=aa Dm;have eQ:=aa (show Below w.heap.size w w5 from ar (ar cx.o hb4) dR);have HP:=aa (show w.heap.size≤p from IK);have r0:=HR.o.cl 0;have r1:=HR.o.cl 1;have r2:=HR.o.cl 2;have r3:=HR.o.cl 3;have r4:=HR.o.cl 4;have s0:=HS.o.cl 0;have s1:=HS.o.cl 1;have s2:=HS.o.cl 2;have s3:=HS.o.cl 3;clear hb3 JU hb4 Ii dR hR hS Dm r0';go_wp2_with fail;refine(Oc.fS p 5 _ w5 HW.o dC aM).mono ?_;rintro e w6 ⟨⟨uw6,rfl⟩,hw,ht⟩;have hR:=ht.arr HR.o HN.o.1;have hS:=ht.arr HS.o HN.o.2;have hT:=HT.o.trans ht;clear HT HW HR HS ht r0 r1 r2 r3 r4 s0 s1 s2 s3;have HT:=aa hT;have HW:=aa hw;have HR:=aa hR;have HS:=aa hS;have r0:=HR.o.cl 0;have r1:=HR.o.cl 1;have r2:=HR.o.cl 2;have r3:=HR.o.cl 3;have r4:=HR.o.cl 4;have s0:=HS.o.cl 0;have s1:=HS.o.cl 1;have s2:=HS.o.cl 2;have s3:=HS.o.cl 3;clear hT hw hR hS;go_wp2_with fail;refine(Oc.ej p ak _ w6 HW.o dC ag).mono ?_;exact VU
