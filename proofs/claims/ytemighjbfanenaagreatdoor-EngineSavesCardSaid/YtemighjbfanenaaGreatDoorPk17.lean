import Derived.Test.YtemighjbfanenaaGreatDoorPk16
set_option linter.all false
set_option maxRecDepth 100000
set_option maxHeartbeats 16000000
namespace Go.Proofs.YtemighjbfanenaaGreatDoor
open RowKit
open yy (fS hasB)
open ki (Find dS eU Slot CV home uL fP fe vL Ur sX Bq)
open Oc (le val)
open Cr (ic)
open Bk (bS)
open Bool renaming true_and→tM,not_eq_true'→Hn,or_eq_false_iff→yC
open Go.IntKind renaming i64→aO
open Go.Proofs.Tryz renaming prog→af,underlying171→wM
open Go.Value renaming oneCell'→fw
open Int renaming toNat_natCast→hZ
open List renaming mem_cons_self→jl,getElem?_eq_getElem→bY,mem_cons_of_mem→gv,getD_eq_getElem?_getD→bN,length_append→dh
open Nat renaming mul_le_mul_right→gV,zero_le→cm,le_refl→aQ
open RowKit.Below renaming refl→au
theorem acD{p:Prop}(h:p:=by
 refine bodyPost_ret (results_cell_tmp Tryz.results71 _ im (aJ 171 pB.o _ wM rfl eT)) rfl ⟨rfl,?_,?_⟩
 ·exact HH2.o.lV (HH2.o.bf.same Aa.o.size (fun k hS hk=>Aa.o.block k hk (fun e=>by
   injection e with e
   have h9:=ze.o;have:=HH.o.bf.lt k hS;omega)))
 ·exact gh.o.grown Aa.o (fun k hk=>aea)):p:=h
theorem acg{p:Prop}(h:p:=by
 have wV:=aa kS;have jq:=aa sB;clear kS sB;go_wp2_with fail;go_ret2;exact⟨rfl,⟨⟨_,wV.o⟩,HH.o.tab,HH.o.full,HH.o.WH,HH.o.bg⟩,jq.o⟩):p:=h
theorem acf{p:Prop}(h:p:=by
 refine bodyPost_ret (results_cell_tmp Tryz.results293 _ im (aJ 171 pB.o _ wM rfl eT)) rfl ⟨rfl,bn bz.o Aa.o K5⟩):p:=h
theorem aea{p:Prop}(h:p:=by injection hk with hk;exact .inr (by have h9:=ze.o;omega)):p:=h
theorem xy{p:Prop}(h:p:=by rw[h.up];decide):p:=h
theorem K5{p:Prop}(h:p:=by have:=HR.o;omega):p:=h
section
section
namespace Bk
structure Raw where
 id:Int
 aw:Int
 aS:Int
def Dg(n:Nat)(next aq:Int)(L:List bS)(last:Int)(x:Raw): Bool:=
 decide (last<x.id) && (decide (x.id<next) && (decide (0≤x.aw) && (decide (x.aw<n) && (L.all (fun y=>!decide ((y.aw:Int)=x.aw)) && (x.aS==0||(decide (aq<x.aS) && decide (x.aS≤1099511627776)))))))
def toB(x:Raw): bS:=⟨x.id,x.aw.toNat,x.aS⟩
def R5(n:Nat)(next aq:Int): List bS→Int→List Raw→Option (List bS)
 | L,_,[]=>some L
 | L,last,x::r=>if Dg n next aq L last x=true then R5 n next aq (L++ [toB x]) x.id r else none
def nT(n ar:Nat)(next aq:Int)(l:List Raw): Option (List bS):=
 if next<1∨aq<0∨1099511627776<aq∨ar<l.length then none else R5 n next aq [] 0 l
theorem Uk{S:Nat→Prop}{w:World}{b n ar:Nat}{aA next aq:Int}{L:List bS}{q:bH}(h:bm S w b n ar aA next aq L q){i:Nat}(hi:i<n): hasB q.ws i= !(L.all (fun y=>!decide ((y.aw:Int)=(i:Int)))):=by
 rw[Bool.eq_iff_iff,h.bits i hi];constructor
 ·rintro⟨x,hx,e⟩;rw[Hn,List.all_eq_false];exact⟨x,hx,by simp[e]⟩
 intro hh;rw[Hn,List.all_eq_false] at hh;obtain⟨x,hx,e⟩:=hh;refine⟨x,hx,?_⟩;simp at e;omega
theorem aeB(S:Nat→Prop)(b n ar:Nat)(aA next aq:Int)(L:List bS)(q:bH)(x:Raw)(last:Int)(w:World)(h:bm S w b n ar aA next aq L q):
  Calls af 240 #[.pointer (some ⟨b,0,none⟩),.agg #[.int .u32 x.id,.int .i64 x.aw,.int .i64 x.aS],.int .u32 last] w fun e w'=>e= .returned (.bool (Dg n next aq L last x))∧Below w.heap.size w w':=by
 obtain⟨id,aw,aS⟩:=x;have hm:Dg n next aq L last ⟨id,aw,aS⟩=(decide (last<id) && (decide (id<next) && (decide (0≤aw) && (decide (aw<n) && (L.all (fun y=>!decide ((y.aw:Int)=aw)) && (aS==0||(decide (aq<aS) && decide (aS≤1099511627776)))))))):=rfl;show Calls _ _ #[.pointer (some ⟨b,0,none⟩),.agg #[.int .u32 id,.int .i64 aw,.int .i64 aS],.int .u32 last] w _
 by_cases c0:id≤last
 ·rw[hm,decide_eq_false (show ¬last<id from aj)];exact Z3 S b n ar aA next aq L q id aw aS last w h (decide_eq_true c0)
 have d0:decide (id≤last)=false:=decide_eq_false c0;rw[hm,decide_eq_true (show last<id from aj),tM];by_cases c1:next≤id
 ·rw[decide_eq_false (show ¬id<next from aj)];exact Z2 S b n ar aA next aq L q id aw aS last w h d0 (decide_eq_true c1)
 have d1:decide (next≤id)=false:=decide_eq_false c1;rw[decide_eq_true (show id<next from aj),tM];by_cases c2:aw<0
 ·rw[decide_eq_false (show ¬0≤aw from aj)];exact Z1 S b n ar aA next aq L q id aw aS last w h d0 d1 (decide_eq_true c2)
 have d2:decide (aw<0)=false:=decide_eq_false c2;rw[decide_eq_true (show 0≤aw from aj),tM];by_cases c3:(n:Int)≤aw
 ·rw[decide_eq_false (show ¬aw<n from aj)];exact Z0 S b n ar aA next aq L q id aw aS last w h d0 d1 d2 (decide_eq_true c3)
 rw[decide_eq_true (show aw<n from aj),tM];obtain⟨i,rfl⟩: ∃ i:Nat,aw=(i:Int):=⟨aw.toNat,aj⟩;have hi:i<n:=aj;have ht:=Uk h hi;cases ha:L.all (fun y=>!decide ((y.aw:Int)=(i:Int)))
 ·rw[ha] at ht;exact QG S b n ar aA next aq L q id aS last i w h d0 d1 hi ht
 rw[ha] at ht;rw[tM];cases c6:(aS==0)
 case true=>exact US S b n ar aA next aq L q id aS last i w h d0 d1 hi ht c6
 case false=>
  rw[Bool.false_or];cases c7:decide (aq<aS)
  case false=>exact UT S b n ar aA next aq L q id aS last i w h d0 d1 hi ht c6 c7
  case true=>
   rw[tM];cases c8:decide (aS≤1099511627776)
   case false=>exact UU S b n ar aA next aq L q id aS last i w h d0 d1 hi ht c6 c7 c8
   case true=>exact FR S b n ar aA next aq L q id aS last i w h d0 d1 hi ht c6 c7 c8
end Bk
end
section
namespace Bk
theorem cV(b:Nat)(v:Bool)(w:World)(h:w.cell? ⟨b,3,none⟩=some (.bool v)): Calls af 67 #[.pointer (some ⟨b,0,none⟩)] w fun e w'=>e= .returned (.bool v)∧w'=w:=by
 go_enter Tryz.func67,Tryz.ntmps67;go_wp2_with fail;go_ret;exact⟨rfl,rfl⟩
theorem dA: (af.info? 80).map (·.size)=some 3:=br
theorem ZD(b:Nat)(s0 s1 s2:Int)(w:World)(h0:w.cell? ⟨b,0,none⟩=some (.int .i64 s0))(h1:w.cell? ⟨b,1,none⟩=some (.int .i64 s1))(h2:w.cell? ⟨b,2,none⟩=some (.int .i64 s2))(hbl:b<w.heap.size): Calls af 105 #[.pointer (some ⟨b,0,none⟩)] w fun e w'=>e= .returned (.agg #[.int .i64 s0,.int .i64 s1,.int .i64 s2])∧Below w.heap.size w w':=by
 go_enter Tryz.func105,Tryz.ntmps105;go_wp2_with fail;refine bodyPost_ret (dw Tryz.results105 _ im (aJ 80 (aG.fresh w 80 #[.int .i64 s0,.int .i64 s1,.int .i64 s2]) _ Tryz.underlying80 rfl dA)) rfl ⟨rfl,ax (au _ _) _⟩
theorem gB{S:Nat→Prop}{w:World}{b n ar:Nat}{aA next aq:Int}{len:Nat}{q:bH}(h:cC S w b n ar aA next aq len q): Calls af 38 #[.pointer (some ⟨b,0,none⟩)] w fun e w'=>e= .returned (.agg #[.int .i64 n,.int .i64 ar,.int .i64 aA])∧Below w.heap.size w w':=by
 have HH:=aa h;clear h;go_enter Tryz.func38,Tryz.ntmps38;go_wp2_with fail;have hb1:Below w.heap.size w (w.alloc (.cells #[.int .i64 0,.int .i64 0,.int .i64 0] 80)):=ax (au _ _) _;have bt:aG (w.alloc (.cells #[.int .i64 0,.int .i64 0,.int .i64 0] 80)) w.heap.size 80 #[.int .i64 0,.int .i64 0,.int .i64 0]:=aG.fresh w _ _;obtain⟨w1,aZ⟩:=ae (w.alloc (.cells #[.int .i64 0,.int .i64 0,.int .i64 0] 80));obtain⟨r,hr⟩:=ae w.heap.size;rw[aZ] at hb1 bt ⊢;have hc1:=HH.o.ak hb1;have bz:=aa hb1;clear hb1;rw[hr] at bt ⊢;clear aZ;refine ag (cV b true w1 (hc1.own.cell 3)) ?_;have kR:=aa hc1;have dz:=aa bt;have HR:=aa hr;clear hc1 bt hr;go_wp2_with fail;refine(ZD b n ar aA w1 (kR.o.own.cell 0) (kR.o.own.cell 1) (kR.o.own.cell 2) kR.o.own.lt).mono ?_;rintro e w2 ⟨rfl,hb2⟩;have ia:=dz.o.ai hb2;have Mz:=av bz.o hb2;clear kR bz dz hb2;have iZ:=aa ia;have cu:=aa Mz;clear ia Mz;go_wp2_with (refine ah rfl 80 _ _ rfl r 80 _ #[.int .i64 n,.int .i64 ar,.int .i64 aA] iZ.o rfl rfl rfl dA qY ?_;intro w3 dD hg3 hs3;have pB:=aa dD;have Aa:=aa hg3;clear dD hg3 hs3);refine bodyPost_ret (dw Tryz.results38 _ im (aJ 80 pB.o _ Tryz.underlying80 rfl dA)) rfl ⟨rfl,bn cu.o Aa.o K5⟩
end Bk
end
section
namespace Bk
theorem ajK{S:Nat→Prop}{w:World}{b n ar:Nat}{aA next aq:Int}{len:Nat}{q:bH}(h:cC S w b n ar aA next aq len q)(i:Nat)(hi:i<n)(hn:n≤1024)(hv:hasB q.ws i=true): Calls af 293 #[.pointer (some ⟨b,0,none⟩),.int .i64 i] w fun e w'=>e= .returned (.tuple #[.agg #[.int .u32 (q.sb i).id,.int .i64 (q.sb i).aw,.int .i64 (q.sb i).aS],.int .i64 0])∧Below w.heap.size w w':=by
 have HH:=aa h;have HV:=aa hv;have Mv:(i:Int)<(n:Int):=aj;have CT:(0:Int)≤(i:Int):=aj;have V7:(n:Int)≤1024:=aj;clear h hv;go_enter Tryz.func293,Tryz.ntmps293;go_wp2_with fail;have hb1:Below w.heap.size w (w.alloc (.cells #[.int .u32 0,.int .i64 0,.int .i64 0] 171)):=ax (au _ _) _;have bt:aG (w.alloc (.cells #[.int .u32 0,.int .i64 0,.int .i64 0] 171)) w.heap.size 171 #[.int .u32 0,.int .i64 0,.int .i64 0]:=aG.fresh w _ _;obtain⟨w1,aZ⟩:=ae (w.alloc (.cells #[.int .u32 0,.int .i64 0,.int .i64 0] 171));obtain⟨r,hr⟩:=ae w.heap.size;rw[aZ] at hb1 bt ⊢;have hc1:=HH.o.ak hb1;have bz:=aa hb1;clear hb1;rw[hr] at bt ⊢;clear aZ;refine ag (cV b true w1 (hc1.own.cell 3)) ?_;have x0:w1.cell? ⟨b,0,none⟩=some (.int .i64 n):=hc1.own.cell 0;have x6:w1.cell? ⟨b,6,none⟩=some (.pointer (some ⟨q.tp,0,none⟩)):=hc1.own.cell 6;have x8:w1.cell? ⟨b,8,none⟩=some (.slice (some ⟨q.sg,0,none⟩) n q.sc):=hc1.own.cell 8;have kR:=aa hc1;have dz:=aa bt;have HR:=aa hr;clear hc1 bt hr;go_wp2_with fail;refine(yy.pd q.tp q.tg q.tc n i q.ws w1 kR.o.taken hi aj).mono ?_;rw[HV.o];rintro e w2 ⟨rfl,hw2⟩;rw[hw2];clear hw2 w2;go_wp2_with (first|(refine dQ rfl 171 _ rfl kR.o.fW (fun _=>rfl) i hi rfl _ wM rfl eT ?_)|(refine ah rfl 171 _ _ rfl r 171 _ #[.int .u32 (q.sb i).id,.int .i64 (q.sb i).aw,.int .i64 (q.sb i).aS] dz.o rfl rfl rfl eT qY ?_;intro w3 dD hg3 hs3;have pB:=aa dD;have Aa:=aa hg3;clear dD hg3 hs3));exact acf
theorem abt{S:Nat→Prop}{w:World}{b n ar:Nat}{aA next aq:Int}{len:Nat}{q:bH}(h:cC S w b n ar aA next aq len q)(i:Nat)(hi:i<n)(hn:n≤1024)(hv:hasB q.ws i=false): Calls af 293 #[.pointer (some ⟨b,0,none⟩),.int .i64 i] w fun e w'=>e= .returned (.tuple #[.agg #[.int .u32 0,.int .i64 0,.int .i64 0],.int .i64 171])∧Below w.heap.size w w':=by
 have HH:=aa h;have HV:=aa hv;have Mv:(i:Int)<(n:Int):=aj;have CT:(0:Int)≤(i:Int):=aj;have V7:(n:Int)≤1024:=aj;clear h hv;go_enter Tryz.func293,Tryz.ntmps293;go_wp2_with fail;have hb1:Below w.heap.size w (w.alloc (.cells #[.int .u32 0,.int .i64 0,.int .i64 0] 171)):=ax (au _ _) _;have bt:aG (w.alloc (.cells #[.int .u32 0,.int .i64 0,.int .i64 0] 171)) w.heap.size 171 #[.int .u32 0,.int .i64 0,.int .i64 0]:=aG.fresh w _ _;obtain⟨w1,aZ⟩:=ae (w.alloc (.cells #[.int .u32 0,.int .i64 0,.int .i64 0] 171));obtain⟨r,hr⟩:=ae w.heap.size;rw[aZ] at hb1 bt ⊢;have hc1:=HH.o.ak hb1;have bz:=aa hb1;clear hb1;rw[hr] at bt ⊢;clear aZ;refine ag (cV b true w1 (hc1.own.cell 3)) ?_;have x0:w1.cell? ⟨b,0,none⟩=some (.int .i64 n):=hc1.own.cell 0;have x6:w1.cell? ⟨b,6,none⟩=some (.pointer (some ⟨q.tp,0,none⟩)):=hc1.own.cell 6;have kR:=aa hc1;have dz:=aa bt;have HR:=aa hr;clear hc1 bt hr;go_wp2_with fail;refine(yy.pd q.tp q.tg q.tc n i q.ws w1 kR.o.taken hi aj).mono ?_;rw[HV.o];rintro e w2 ⟨rfl,hw2⟩;rw[hw2];clear hw2 w2;go_wp2_with (refine ah rfl 171 _ _ rfl r 171 _ #[.int .u32 0,.int .i64 0,.int .i64 0] dz.o rfl rfl rfl eT qY ?_;intro w3 dD hg3 hs3;have pB:=aa dD;have Aa:=aa hg3;clear dD hg3 hs3);exact acf
end Bk
end
section
namespace Bk
def agD(x:Raw): List Value:=[.int .u32 x.id,.int .i64 x.aw,.int .i64 x.aS]
def XG(w:World)(A:Option Addr)(l:List Raw): Prop:=l≠ []→∃ g off,A=some ⟨g,off,none⟩∧g<w.heap.size∧∀ k,k<l.length→w.rangeAt g (off+k*3) (agD (l.getD k ⟨0,0,0⟩))
variable{w w':World}{S:Nat→Prop}{b n:Nat}{aA aq:Int}
theorem XG.ai{A:Option Addr}{l:List Raw}(h:XG w A l)(hb:Below w.heap.size w w'): XG w' A l:=fun hne=>by
 obtain⟨g,off,h1,h2,h3⟩:=h hne;exact⟨g,off,h1,Nat.lt_of_lt_of_le h2 hb.size,fun k hk j v hj=>(hb.cell (p:=⟨g,off+k*3+j,none⟩) h2).trans (h3 k hk j v hj)⟩
theorem cC.lV{ar:Nat} {next next' clock':Int} {len:Nat}{q:bH}(h:cC S w b n ar aA next aq len q)(ht:aI (· =b) w w')(hi:aG w' b 102 #[.int .i64 n,.int .i64 ar,.int .i64 aA,.bool true,.int .i64 clock',.int .u32 next',.pointer (some ⟨q.tp,0,none⟩),.pointer (some ⟨q.ip,0,none⟩),.slice (some ⟨q.sg,0,none⟩) n q.sc,.pointer (some ⟨q.hp,0,none⟩),.map (some q.mb)]): cC S w' b n ar aA next' clock' len q:=by
 obtain⟨⟨_,a0⟩,⟨_,a1⟩,⟨_,a2⟩,⟨_,a3⟩,⟨_,a4⟩,⟨_,a5⟩⟩:=h.Ce;exact⟨hi,h.lC ht (iB a1 a0 aN) (iB a2 a0 aN),h.qx ht (iB a3 a0 aN) (iB a4 a0 aN),h.lD ht (iB a5 a0 aN),h.tr ht (fun k hk=>(h.apart k hk).2.1),h.nL ht (fun e=>Hp.dm h.held a0 e.symm),h.bA,h.apart,fun k hk=>Nat.lt_of_lt_of_le (h.lt k hk) ht.size⟩
theorem bm.lV{ar:Nat} {next next' clock':Int} {L:List bS}{q:bH}(h:bm S w b n ar aA next aq L q)(hc:cC S w' b n ar aA next' clock' L.length q)(hle:next≤next':=by first|exact Int.le_refl _|omega): bm S w' b n ar aA next' clock' L q:=
 ⟨hc,h.bits,h.cQ,h.under,h.listed,⟨h.small.1,⟨Int.le_trans h.small.2.1.1 hle,fun e=>by
  have h1:=h.small.2.1.1;obtain⟨x,hx,e2⟩:=h.small.2.1.2 aj;exact⟨x,hx,aj⟩⟩,h.small.2.2⟩,h.qy⟩
theorem bm.ak{ar:Nat} {next:Int} {L:List bS}{q:bH}(h:bm S w b n ar aA next aq L q)(hb:Below w.heap.size w w'): bm S w' b n ar aA next aq L q:=h.lV (h.bf.ak hb) (Int.le_refl _)
theorem UW{next:Int} {L:List bS}{last:Int}{x:Raw}(h:Dg n next aq L last x=true): last<x.id∧x.id<next∧0≤x.aw∧x.aw<n∧(∀ y∈L,(y.aw:Int)≠x.aw)∧(x.aS=0∨aq<x.aS∧x.aS≤1099511627776):=by
 simp only[Dg,Bool.and_eq_true,Bool.or_eq_true,decide_eq_true_eq,List.all_eq_true,Hn,decide_eq_false_iff_not,beq_iff_eq] at h;exact h
def rE(n ar:Nat)(aA next aq:Int)(l:List Raw)(w:World)(e:Ending)(w':World): Prop:=Below w.heap.size w w'∧
 match nT n ar next aq l with
 | none=>e= .returned (.tuple #[.pointer none,.int .i64 180])
 | some L=>∃ b S q,e= .returned (.tuple #[.pointer (some ⟨b,0,none⟩),.int .i64 0])∧bm S w' b n ar aA next aq L q∧(∀ k,S k→w.heap.size≤k)
theorem rE.no{ar:Nat} {next:Int} {l:List Raw}(h:nT n ar next aq l=none)(hb:Below w.heap.size w w'): rE n ar aA next aq l w (.returned (.tuple #[.pointer none,.int .i64 180])) w':=by
 refine⟨hb,?_⟩;rw[h]
theorem za(n ar:Nat)(aA next aq:Int)(l:List Raw)(A:Option Addr)(cap:Nat)(w:World)(h:tR.CL n ar aA=true)(hr:XG w A l)(hl:l.length≤17592186043904)(D5:0≤next∧next<4294967296)(BQ: ∀ x∈l,0≤x.id∧x.id<4294967296):
  Calls af 154 #[.agg #[.int .i64 n,.int .i64 ar,.int .i64 aA],.int .u32 next,.int .i64 aq,.slice A l.length cap] w (rE n ar aA next aq l w):=by
 have fq:=tR.lL h;have tu:1≤n∧n≤1024:=aj;have aap:1≤ar∧ar≤4096:=aj;have ur:=aa h;have HR:=aa hr;have Nf:=aa BQ;clear h hr fq BQ;go_enter Tryz.func154,Tryz.ntmps154;go_wp2_with fail;have hb1:Below w.heap.size w (w.alloc (.cells #[.int .i64 n,.int .i64 ar,.int .i64 aA] 80)):=ax (au _ _) _;have bt:aG (w.alloc (.cells #[.int .i64 n,.int .i64 ar,.int .i64 aA] 80)) w.heap.size 80 #[.int .i64 n,.int .i64 ar,.int .i64 aA]:=aG.fresh w _ _;obtain⟨w1,aZ⟩:=ae (w.alloc (.cells #[.int .i64 n,.int .i64 ar,.int .i64 aA] 80));obtain⟨sh,uL⟩:=ae w.heap.size;rw[aZ] at hb1 bt ⊢;have bz:=aa hb1;clear hb1 aZ;rw[uL] at bt ⊢;refine(Ph n ar aA w1 ur.o).mono ?_;rintro e w2 ⟨b,S,q,rfl,cL,hS,hb2⟩;have ia:=bt.ai hb2;have ag5: ¬sh=b:=by
  have h1:=hS b cL.bf.bA.1;have h2:=bt.lt;omega
 have z1:=ia.cl 1;have x4:w2.cell? ⟨b,4,none⟩=some (.int .i64 0):=cL.bf.own.cell 4;have x5:w2.cell? ⟨b,5,none⟩=some (.int .u32 1):=cL.bf.own.cell 5;have m4:=cL.bf.own.mark 4;have m5:=cL.bf.own.mark 5;have hbl:=cL.bf.own.lt;have pc:=av bz.o hb2;have fC:=aa cL;have HS:=aa hS;have cu:=aa pc;have Pu:=aa uL;have Ig:=aa (show w.heap.size≤w1.heap.size from bz.o.size);clear cL hS hb2 pc bt ia bz uL;cases c0:decide (next<1)
 case true=>
  have HN:=aa (show nT n ar next aq l=none from if_pos (.inl (of_decide_eq_true c0)));go_wp2_with fail;go_ret2;exact rE.no HN.o cu.o
 case false=>
  cases c1:decide (aq<0)
  case true=>
   have HN:=aa (show nT n ar next aq l=none from if_pos (.inr (.inl (of_decide_eq_true c1))));go_wp2_with fail;go_ret2;exact rE.no HN.o cu.o
  case false=>
   cases c2:decide (1099511627776<aq)
   case true=>
    have HN:=aa (show nT n ar next aq l=none from if_pos (.inr (.inr (.inl (of_decide_eq_true c2)))));go_wp2_with fail;go_ret2;exact rE.no HN.o cu.o
   case false=>
    cases c3:decide (ar<l.length)
    case true=>
     have c3':decide ((ar:Int)<(l.length:Int))=true:=decide_eq_true (by have:=of_decide_eq_true c3;omega);have HN:=aa (show nT n ar next aq l=none from if_pos (.inr (.inr (.inr (of_decide_eq_true c3)))));go_wp2_with fail;go_ret2;exact rE.no HN.o cu.o
    case false=>
     have c3':decide ((ar:Int)<(l.length:Int))=false:=decide_eq_false (by have:=of_decide_eq_false c3;omega);have hBO:nT n ar next aq l=R5 n next aq [] 0 l:=if_neg (by
      have h0:=of_decide_eq_false c0;have h1:=of_decide_eq_false c1;have h2:=of_decide_eq_false c2;have h3:=of_decide_eq_false c3;rintro(h|h|h|h)
      ·exact h0 h
      ·exact h1 h
      ·exact h2 h
      exact h3 h)
     have oo:=aa hBO;have Yr:=aa (And.intro (of_decide_eq_false c1) (And.intro (of_decide_eq_false c2) (of_decide_eq_false c3)));clear hBO;go_wp2_with fail;have T3:=((aI.refl (fun j=>j=b) w2).put (p:=⟨b,5,none⟩) (.inl rfl) (.int .u32 next)).put (p:=⟨b,4,none⟩) (.inl rfl) (.int .i64 aq);have VY:=(fC.o.bf.own.put 5 (.int .u32 next)).put 4 (.int .i64 aq);obtain⟨w3,hw3⟩:=ae ((w2.setCell ⟨b,5,none⟩ (.int .u32 next)).setCell ⟨b,4,none⟩ (.int .i64 aq));rw[hw3] at T3 VY ⊢;have HHN:=aa (show q.hn≤0 from by
      have h1:=fC.o.small.2.1;rcases Int.lt_or_le q.hn 1 with h2|h2
      ·omega
      obtain⟨x,hx,_⟩:=h1.2 aj;cases hx)
     have ahP:bm S w3 b n ar aA next aq [] q:=fC.o.lV (fC.o.bf.lV T3 VY) (by have:=of_decide_eq_false c0;omega);have WD:Below w.heap.size w w3:=aI.nD cu.o T3 (fun j hj=>by have:j=b:=hj;have h1:=HS.o b fC.o.bf.bA.1;have h2:=Ig.o;omega);have Zb: ∀ j,S j→w.heap.size≤j:=fun j hj=>Nat.le_trans Ig.o (HS.o j hj)
     clear hw3 z1 x4 x5 m4 m5 hbl T3 VY fC cu HS;have Mr:(l.length:Int)≤17592186043904:=aj;go_loopw [12,50] (fun la iv wr=>∃ (k:Nat) (L:List bS) (last:Int) (T:Nat→Prop) (q':bH),k≤l.length∧la= .int .u32 last∧iv= .int .i64 k∧bm T wr b n ar aA next aq L q'∧(∀ j,T j→w.heap.size≤j)∧Below w.heap.size w wr∧R5 n next aq L last (l.drop k)=R5 n next aq [] 0 l∧(∀ y∈L,y.id≤last)∧L.length≤k∧q'.hn≤last) (fun _ iv _=>(l.length - intOf iv).toNat)
     case atStart=>exact⟨0,[],0,S,q,cm _,rfl,rfl,ahP,Zb,WD,rfl,(fun y hy=>by cases hy),aQ _,HHN.o⟩
     case round=>
      obtain⟨k,L,last,T,q',hk,rfl,rfl,cL,hT,hB,QX,JB,hLk,Wi⟩:=hrel;clear ahP WD Zb Ig;have fC:=aa cL;have HT:=aa hT;have HB:=aa hB;have M8:=aa QX;have adz:=aa JB;clear cL hT hB QX JB;by_cases Hx:k<l.length
      ·have yU:(k:Int)<(l.length:Int):=by omega
       have D6:(0:Int)≤(k:Int):=aj;have hne:l≠ []:=fun e=>by rw[e] at Hx;simp at Hx
       obtain⟨g,off,hA,sw,ahb⟩:=HR.o hne;subst hA;have Dq:ar<l.length→False:=Yr.o.2.2;have Wm:l.drop k=l.getD k ⟨0,0,0⟩::l.drop (k+1):=by rw[List.drop_eq_getElem_cons Hx];simp[bN,Hx]
       have ahp:l.getD k ⟨0,0,0⟩∈l:=by simp[bN,Hx]
       have Mu:=Nf.o _ ahp;have hrg:wr.rangeAt g (off+k*3) (agD (l.getD k ⟨0,0,0⟩)):=fun j v hj=>(HB.o.cell (p:=⟨g,off+k*3+j,none⟩) sw).trans (ahb k Hx j v hj)
       obtain⟨x,hx⟩:=ae (l.getD k ⟨0,0,0⟩);rw[hx] at Wm Mu hrg;obtain⟨id,aw,aS⟩:=x;have ahd:wr.rangeAt g (off+k*3) [.int .u32 id,.int .i64 aw,.int .i64 aS]:=hrg;have Gn:=aa ahd;have adE:=aa Wm;have alv:=aa Mu;have alA:=aa Dq;clear hrg ahd Wm Mu ahp ahb hx hne Dq;go_wp2_with (refine wpList_load_mid rfl 171 _ rfl g (off+k*3) rfl [.int .u32 id,.int .i64 aw,.int .i64 aS] _ Gn.o wM rfl rfl ?_);have hb4:Below wr.heap.size wr (wr.alloc (.cells #[.int .u32 id,.int .i64 aw,.int .i64 aS] 171)):=ax (au _ _) _;have mZ:aG (wr.alloc (.cells #[.int .u32 id,.int .i64 aw,.int .i64 aS] 171)) wr.heap.size 171 #[.int .u32 id,.int .i64 aw,.int .i64 aS]:=aG.fresh wr _ _;obtain⟨w4,hw4⟩:=ae (wr.alloc (.cells #[.int .u32 id,.int .i64 aw,.int .i64 aS] 171));obtain⟨xb,zm⟩:=ae wr.heap.size;rw[hw4] at hb4 mZ ⊢;have af4:=aa (fC.o.ak hb4);have gH:=HB.dP hb4;have hTx: ¬T xb:=fun h=>by have h1:=fC.o.bf.lt xb h;omega
       rw[zm] at mZ ⊢;clear hw4 zm hb4;refine(aeB T b n ar aA next aq L q' ⟨id,aw,aS⟩ last w4 af4.o).mono ?_;rintro e w5 ⟨rfl,dX⟩;have Yv:=aa (af4.o.ak dX);have eA:=gH.dP dX;have fX:=mZ.ai dX;clear mZ dX af4 gH;cases hm:Dg n next aq L last ⟨id,aw,aS⟩
       case false=>
        have HN:=aa (show nT n ar next aq l=none from by
         rw[oo.o,←M8.o,adE.o];show(if Dg n next aq L last ⟨id,aw,aS⟩=true then _ else none)=none
         rw[hm];rfl)
        clear fX;go_wp2_with fail;go_ret2;exact rE.no HN.o eA.o
       case true=>
        obtain⟨h1,h2,h3,h4,h5,h6⟩:=UW hm;have h3':0≤aw:=h3;obtain⟨i,rfl⟩: ∃ i:Nat,aw=(i:Int):=⟨aw.toNat,aj⟩;have Dn:i<n:=by have h4':(i:Int)<(n:Int):=h4;omega
        have Jk:toB ⟨id,(i:Int),aS⟩=⟨id,i,aS⟩:=by simp[toB]
        have hstep:R5 n next aq (L++ [⟨id,i,aS⟩]) id (l.drop (k+1))=R5 n next aq [] 0 l:=by
         rw[←M8.o,adE.o];show _=(if Dg n next aq L last ⟨id,(i:Int),aS⟩=true then R5 n next aq (L++ [toB ⟨id,(i:Int),aS⟩]) id (l.drop (k+1))else none)
         rw[hm,if_pos rfl,Jk]
        have V': ∀ y∈L++ [(⟨id,i,aS⟩:bS)],y.id≤id:=fun y hy=>by
         rcases List.mem_append.1 hy with hy|hy
         ·have:=adz.o y hy;have Sg:last<id:=h1;omega
         obtain rfl:y=⟨id,i,aS⟩:=oV;exact Int.le_refl _
        have mB: ∀ y∈L,y.id≠id:=fun y hy=>by
         have:=adz.o y hy;have Sg:last<id:=h1;omega
        have kA: ∀ y∈L,y.aw≠i:=fun y hy e=>h5 y hy mm
        have hlc:L.length<ar:=by
         have: ¬ar<l.length:=alA.o;omega
        have Ml:0≤aS∧aS≤1099511627776:=by
         have h6':aS=0∨aq<aS∧aS≤1099511627776:=h6;have hc1:=Yr.o.1;omega
        have ah4:=UB T b n ar aA next aq L ⟨id,i,aS⟩ q' w5 Yv.o alv.o mB kA Dn hlc Ml ⟨Int.lt_of_le_of_lt Wi h1,Int.le_of_lt h2⟩;have RH:=aa ah4;have aiM:=aa hstep;have alu:=aa h1;have afT:=aa V';have y0:=fX.cl 0;have y1:w5.cell? ⟨xb,1,none⟩=some (.int .i64 (i:Int)):=fX.cell 1;have y2:=fX.cl 2;have ou:=aa fX;clear h1 h2 h3 h4 h5 h6 h3' Jk hstep V' mB kA hlc Ml ah4 fX;go_wp2_with fail;refine RH.o.mono ?_;rintro e w6 ⟨⟨v6,rfl⟩,⟨q6,hq6,hn6⟩,pV⟩;have KU:=aa (show q6.hn≤id from by have Sg:last<id:=alu.o;omega);have yV:=pV.arr ou.o hTx;have WC:Below w.heap.size w w6:=aI.nD eA.o pV (fun j hj=>HT.o j hj);have z0:=yV.cl 0;have KT:=aa hq6;have ij:=aa WC;have HZ5:=aa eA.o.size;clear y0 y1 y2 hq6 hn6 pV yV WC ou eA Yv HB fC M8;go_wp2_with fail;go_roundw
        case rel=>exact⟨k+1,L++ [⟨id,i,aS⟩],id,_,q6,aj,rfl,by go_num,KT.o,(fun j hj=>by rcases hj.1 with h|h;exact HT.o j h;exact Nat.le_trans HZ5.o h),ij.o,aiM.o,afT.o,fV,KU.o⟩
        case measure=>simp[intOf];omega
      obtain rfl:k=l.length:=aj;have QX:=M8.o;rw[List.drop_length] at QX;have aiN:=aa (show nT n ar next aq l=some L from oo.o.trans QX.symm);clear QX;go_wp2_with fail;go_ret2;refine⟨HB.o,?_⟩;rw[aiN.o];exact⟨b,T,q',rfl,fC.o,HT.o⟩
end Bk
end
end
section
namespace Bk
theorem XV(p g n bU len aV:Nat)(f:Nat→ki.Slot)(w:World)(h:ki.eU w p g n bU len aV f):
  Calls af 108 #[.pointer (some ⟨p,0,none⟩)] w fun e w'=>e= .returned (.int .i64 len)∧w'=w:=by
 obtain⟨steps,hI⟩:=h.cQ;have x0:w.cell? ⟨p,0,none⟩=some (.slice (some ⟨g,0,none⟩) n n):=hI.own.cell 0;have x2:w.cell? ⟨p,2,none⟩=some (.int .i64 len):=hI.own.cell 2;clear h hI;go_enter Tryz.func108,Tryz.ntmps108;go_wp2_with fail;refine ag (ki.fP p g n w x0) ?_;go_wp2_with fail;go_ret;exact⟨rfl,rfl⟩
variable{S:Nat→Prop}{w:World}{b n:Nat}{aA aq:Int}
theorem uY{ar:Nat} {next:Int} {len:Nat}{q:bH}(h:cC S w b n ar aA next aq len q):
  Calls af 41 #[.pointer (some ⟨b,0,none⟩)] w fun e w'=>e= .returned (.int .i64 len)∧w'=w:=by
 have x7:w.cell? ⟨b,7,none⟩=some (.pointer (some ⟨q.ip,0,none⟩)):=h.own.cell 7;have HT:=aa (cV b true w (h.own.cell 3));have HI:=aa (XV q.ip q.ig q.m ar len q.gr q.f w h.ids);clear h;go_enter Tryz.func41,Tryz.ntmps41;go_wp2_with fail;refine ag HT.o ?_;go_wp2_with fail;refine ag HI.o ?_;go_wp2_with fail;go_ret;exact⟨rfl,rfl⟩
theorem wE{ar:Nat} {next:Int} {len:Nat}{q:bH}(h:cC S w b n ar aA next aq len q):
  Calls af 297 #[.pointer (some ⟨b,0,none⟩)] w fun e w'=>e= .returned (.int .u32 next)∧w'=w:=by
 have x7:w.cell? ⟨b,5,none⟩=some (.int .u32 next):=h.own.cell 5;have HT:=aa (cV b true w (h.own.cell 3));clear h;go_enter Tryz.func297,Tryz.ntmps297;go_wp2_with fail;refine ag HT.o ?_;go_wp2_with fail;go_ret;exact⟨rfl,rfl⟩
theorem wI{ar:Nat} {next:Int} {len:Nat}{q:bH}(h:cC S w b n ar aA next aq len q):
  Calls af 16 #[.pointer (some ⟨b,0,none⟩)] w fun e w'=>e= .returned (.int .i64 aq)∧w'=w:=by
 have x7:w.cell? ⟨b,4,none⟩=some (.int .i64 aq):=h.own.cell 4;have HT:=aa (cV b true w (h.own.cell 3));clear h;go_enter Tryz.func16,Tryz.ntmps16;go_wp2_with fail;refine ag HT.o ?_;go_wp2_with fail;go_ret;exact⟨rfl,rfl⟩
end Bk
end
section
namespace Bk
theorem afJ(p g n bU len aV:Nat)(id v:Int)(f:Nat→Slot)(w:World)(h:eU w p g n bU len aV f)(hid:0≤id∧id<4294967296)(ht: ∃ i,i<n∧(f i).state=1∧(f i).id=id∧(f i).v=v):
  Calls af 160 #[.pointer (some ⟨p,0,none⟩),.int .u32 id] w fun e w'=>e= .returned (.tuple #[.int .i64 v,.bool true])∧eU w' p g n bU len aV f∧aI (· =p) w w':=by
 obtain⟨steps,hI⟩:=h.cQ;obtain⟨i,hi,hs,he,hv⟩:=ht;have hsk:vL f n id=((i:Int),true):=LC;have x0:w.cell? ⟨p,0,none⟩=some (.slice (some ⟨g,0,none⟩) n n):=hI.own.cell 0;have hn:=h.bg;have HF:=Find p g n bU len aV steps id f w hI aj hn.2.2.2.2 hid h.tab.states;have hF:Calls af 245 #[.pointer (some ⟨p,0,none⟩),.int .u32 id] w fun e w'=>e= .returned (.tuple #[.int .i64 (i:Int),.bool true])∧(∃ s,dS w' p g n bU len aV s f)∧aI (· =p) w w':=HF.mono fun e w' h1=>by
  exact U0
 have HH:=aa h;have HG:=aa hF;have Mv:(i:Int)<(n:Int):=aj;have CT:(0:Int)≤(i:Int):=aj;have HV:=aa hv;clear h hF HF hI hsk hs he hv;go_enter Tryz.func160,Tryz.ntmps160;go_wp2_with fail;refine ag (fP p g n w x0) ?_;go_wp2_with fail;refine HG.o.mono ?_;rintro e w1 ⟨rfl,⟨s,kS⟩,sB⟩;have y0:w1.cell? ⟨p,0,none⟩=some (.slice (some ⟨g,0,none⟩) n n):=kS.own.cell 0;have y2:w1.cell? ⟨g,i*3+2,none⟩=some (.int .i64 v):=by rw[←HV.o];exact(kS.rows.cell hi).2.2
 exact acg
theorem RA(p g n bU len aV:Nat)(id:Int)(f:Nat→Slot)(w:World)(h:eU w p g n bU len aV f)(hid:0≤id∧id<4294967296)(ht: ∀ i,i<n→(f i).state=1→(f i).id≠id):
  Calls af 160 #[.pointer (some ⟨p,0,none⟩),.int .u32 id] w fun e w'=>e= .returned (.tuple #[.int .i64 0,.bool false])∧eU w' p g n bU len aV f∧aI (· =p) w w':=by
 obtain⟨steps,hI⟩:=h.cQ;have hn:=h.bg;obtain⟨i,hi,hsk,_⟩:=ki.xN h.tab (by have:=h.full;omega) ht;have x0:w.cell? ⟨p,0,none⟩=some (.slice (some ⟨g,0,none⟩) n n):=hI.own.cell 0;have HF:=Find p g n bU len aV steps id f w hI aj hn.2.2.2.2 hid h.tab.states;have hF:Calls af 245 #[.pointer (some ⟨p,0,none⟩),.int .u32 id] w fun e w'=>e= .returned (.tuple #[.int .i64 (i:Int),.bool false])∧(∃ s,dS w' p g n bU len aV s f)∧aI (· =p) w w':=HF.mono fun e w' h1=>by
  exact U1
 have HH:=aa h;have HG:=aa hF;clear h hF HF hI hsk ht;go_enter Tryz.func160,Tryz.ntmps160;go_wp2_with fail;refine ag (fP p g n w x0) ?_;go_wp2_with fail;refine HG.o.mono ?_;rintro e w1 ⟨rfl,⟨s,kS⟩,sB⟩;exact acg
variable{S:Nat→Prop}{w:World}{b n:Nat}{aA aq:Int}
theorem bm.looked{w':World} {ar:Nat} {next:Int} {L:List bS}{q:bH}(h:bm S w b n ar aA next aq L q)(hi:eU w' q.ip q.ig q.m ar L.length q.gr q.f)(ht:aI (· =q.ip) w w'): bm S w' b n ar aA next aq L q:=
 h.lV (h.bf.vX (ht.mono fun _ _ e=>.inl e) hi)
def agf(S:Nat→Prop)(w:World)(b n ar:Nat)(aA next aq:Int)(L:List bS)(q:bH)(x:bS)(e:Ending)(w':World): Prop:=
 e= .returned (.tuple #[.agg #[.int .u32 x.id,.int .i64 x.aw,.int .i64 x.aS],.int .i64 0])∧bm S w' b n ar aA next aq L q∧aI (· =q.ip) w w'
theorem CC{ar:Nat} {next:Int} {L:List bS}{q:bH}(h:bm S w b n ar aA next aq L q)(x:bS)(hx:x∈L)(hid:0≤x.id∧x.id<4294967296):
  Calls af 71 #[.pointer (some ⟨b,0,none⟩),.int .u32 x.id] w (agf S w b n ar aA next aq L q x):=by
 obtain⟨rB,ky⟩:=h.cQ x hx;obtain⟨j,hj,j1,j2,j3⟩:=h.listed x hx;have hn:=h.small.2.2.2;obtain⟨id,aw,aS⟩:=x;simp only at hid rB ky j2 j3;have hb1:=ax (au w.heap.size w) (.cells #[.int .u32 0,.int .i64 0,.int .i64 0] 171);have bt:=aG.fresh w 171 #[.int .u32 0,.int .i64 0,.int .i64 0];obtain⟨w1,aZ⟩:=ae (w.alloc (.cells #[.int .u32 0,.int .i64 0,.int .i64 0] 171));obtain⟨r,hr⟩:=ae w.heap.size;have sN:=aa aZ;have ze:=aa hr;rw[aZ] at hb1 bt;rw[hr] at bt;have h1:=h.ak hb1;have HIG:=aa (afJ q.ip q.ig q.m ar L.length q.gr id aw q.f w1 h1.bf.ids hid ⟨j,hj,j1,j2,j3⟩);have HT:=aa (cV b true w1 (h1.bf.own.cell 3));have Pv:=aa ky;have HH1:=aa h1;have bz:=aa hb1;have dz:=aa bt;have HH:=aa h;have HHX:=aa hx;have x7:w1.cell? ⟨b,7,none⟩=some (.pointer (some ⟨q.ip,0,none⟩)):=h1.bf.own.cell 7;have hs1:(aw:Int)<(n:Int):=aj;have hs0:(0:Int)≤(aw:Int):=aj;clear h h1 hb1 bt j1 j2 j3 ky aZ hr hx;go_enter Tryz.func71,Tryz.ntmps71;go_wp2_with fail;rw[sN.o,ze.o];refine ag HT.o ?_;go_wp2_with fail;refine HIG.o.mono ?_;rintro e w2 ⟨rfl,rC,jB⟩;have h2:=HH1.o.looked rC jB;have hne: ¬r=q.ip:=fun e=>by
  have:=HH.o.bf.lt q.ip HH.o.bf.bA.2.2.2.1;have h9:=ze.o;omega
 have iZ:=aa (jB.arr dz.o hne);have HH2:=aa h2;have gh:=aa (show aI (· =q.ip) w w2 from((aI.refl _ w).ak bz.o).trans jB);have y8:w2.cell? ⟨b,8,none⟩=some (.slice (some ⟨q.sg,0,none⟩) n q.sc):=h2.bf.own.cell 8;clear rC jB h2;have hrg:=HH2.o.bf.fW;have Gn:=aa hrg;have hq:je (q.sb aw)= [.int .u32 id,.int .i64 (aw:Int),.int .i64 aS]:=by rw[Pv.o];rfl
 have Mp:=Gn.o.range (fun _=>rfl) (show aw<n from rB);rw[hq] at Mp;have HQ:=aa Mp;clear hrg hq Mp;go_wp2_with (first|(refine wpList_load_mid rfl 171 _ rfl q.sg (aw*3) rfl _ _ HQ.o wM rfl rfl ?_)|(refine ah rfl 171 _ _ rfl r 171 _ #[.int .u32 id,.int .i64 (aw:Int),.int .i64 aS] iZ.o rfl rfl rfl eT qY ?_;intro w3 dD hg3 hs3;have pB:=aa dD;have Aa:=aa hg3;clear dD hg3 hs3));exact acD
def ajE(S:Nat→Prop)(w:World)(b n ar:Nat)(aA next aq:Int)(L:List bS)(q:bH)(e:Ending)(w':World): Prop:=
 e= .returned (.tuple #[.agg #[.int .u32 0,.int .i64 0,.int .i64 0],.int .i64 171])∧bm S w' b n ar aA next aq L q∧aI (· =q.ip) w w'
theorem YC{ar:Nat} {next:Int} {L:List bS}{q:bH}(h:bm S w b n ar aA next aq L q)(id:Int)(hx: ∀ x∈L,x.id≠id)(hid:0≤id∧id<4294967296):
  Calls af 71 #[.pointer (some ⟨b,0,none⟩),.int .u32 id] w (ajE S w b n ar aA next aq L q):=by
 have hb1:=ax (au w.heap.size w) (.cells #[.int .u32 0,.int .i64 0,.int .i64 0] 171);have bt:=aG.fresh w 171 #[.int .u32 0,.int .i64 0,.int .i64 0];obtain⟨w1,aZ⟩:=ae (w.alloc (.cells #[.int .u32 0,.int .i64 0,.int .i64 0] 171));obtain⟨r,hr⟩:=ae w.heap.size;have sN:=aa aZ;have ze:=aa hr;rw[aZ] at hb1 bt;rw[hr] at bt;have h1:=h.ak hb1;have HIG:=aa (RA q.ip q.ig q.m ar L.length q.gr id q.f w1 h1.bf.ids hid (fun i hi hs e=>by
  obtain⟨x,hx1,e2⟩:=h.under i hi hs;exact hx x hx1 (e2.symm.trans e)))
 have HT:=aa (cV b true w1 (h1.bf.own.cell 3));have HH1:=aa h1;have bz:=aa hb1;have dz:=aa bt;have HH:=aa h;have x7:w1.cell? ⟨b,7,none⟩=some (.pointer (some ⟨q.ip,0,none⟩)):=h1.bf.own.cell 7;clear h h1 hb1 bt aZ hr hx;go_enter Tryz.func71,Tryz.ntmps71;go_wp2_with fail;rw[sN.o,ze.o];refine ag HT.o ?_;go_wp2_with fail;refine HIG.o.mono ?_;rintro e w2 ⟨rfl,rC,jB⟩;have h2:=HH1.o.looked rC jB;have hne: ¬r=q.ip:=fun e=>by
  have:=HH.o.bf.lt q.ip HH.o.bf.bA.2.2.2.1;have h9:=ze.o;omega
 have iZ:=aa (jB.arr dz.o hne);have HH2:=aa h2;have gh:=aa (show aI (· =q.ip) w w2 from((aI.refl _ w).ak bz.o).trans jB);clear rC jB h2;go_wp2_with (refine ah rfl 171 _ _ rfl r 171 _ #[.int .u32 0,.int .i64 0,.int .i64 0] iZ.o rfl rfl rfl eT qY ?_;intro w3 dD hg3 hs3;have pB:=aa dD;have Aa:=aa hg3;clear dD hg3 hs3);exact acD
end Bk
end
section
namespace En
structure dK where
 n:Nat
 ar:Nat
 aA:Nat
 next:Int
 aq:Int
 L:List bS
def dK.find(b:dK)(id:Int): Option bS:=b.L.find? fun x=>decide (x.id=id)
def dK.on(b:dK)(aw:Int): Option bS:=b.L.find? fun x=>decide ((x.aw:Int)=aw)
def dK.hold(b:dK)(r:Rec): Int × dK:=
 if r.id≠b.next then(2,b)else if(b.n:Int)≤r.aw then(140,b)else if r.aS≤b.aq then(173,b)else if(b.on r.aw).isSome=true then(170,b)
 else if b.ar≤b.L.length∨b.next=4294967295 then(6,b)else(0,{b with L:=b.L++ [⟨r.id,r.aw.toNat,r.aS⟩],next:=b.next+1})
def dK.tick(b:dK)(aq:Int): Int × dK:=
 if aq≤b.aq then(173,b)else(0,{b with aq:=aq,L:=b.L.filter fun x=>decide (x.aS=0)||decide (aq<x.aS)})
def dK.apply(b:dK)(r:Rec): Int × dK:=
 if r.ok=false then(160,b)else if r.ay=1 then b.hold r else if r.ay=5 then b.tick r.aq
 else match b.find r.id with
 | none=>(171,b)
 | some x=>
  if r.ay=2 then(0,{b with L:=b.L.map fun y=>if y.id=r.id then {y with aS:=0}else y})
  else if r.ay=3 then(0,{b with L:=b.L.filter fun y=>!decide (y.id=r.id)})
  else if(b.n:Int)≤r.aw then(140,b)else if(x.aw:Int)=r.aw then(0,b)else if(b.on r.aw).isSome=true then(170,b)
  else(0,{b with L:=b.L.map fun y=>if y.id=r.id then {y with aw:=r.aw.toNat}else y})
structure dK.Ok(b:dK): Prop where
 n:1≤b.n∧b.n≤1024
 ar:1≤b.ar∧b.ar≤4096
 aA:1≤b.aA∧b.aA≤64
 next:1≤b.next∧b.next<4294967296
 aq:0≤b.aq∧b.aq≤1099511627776
 len:b.L.length≤b.ar
 Uw:b.L.Pairwise fun x y=>x.id<y.id
 ids: ∀ x∈b.L,1≤x.id∧x.id<b.next
 fW: ∀ x∈b.L,x.aw<b.n
 alone:b.L.Pairwise fun x y=>x.aw≠y.aw
 aS: ∀ x∈b.L,x.aS=0∨b.aq<x.aS∧x.aS≤1099511627776
def bB(b:dK)(q:Rq): Rec:=
 if q.ay=1 then⟨1,b.next,q.aw,b.aq+q.bT,0⟩else if q.ay=2 then⟨2,q.id,0,0,0⟩else if q.ay=3 then⟨3,q.id,0,0,0⟩
 else if q.ay=4 then⟨4,q.id,q.aw,0,0⟩else⟨5,0,0,0,b.aq+q.bT⟩
def dT(b:dK)(q:Rq): Bool:=match b.on q.aw with|some x=>!decide (x.id=q.id)|none=>false
def bE(b:dK)(bg:Int)(q:Rq): Int:=
 if q.ay=1 then
  if(b.n:Int)≤q.aw then 140 else if q.bT<1∨1073741824<q.bT then 2 else if 1099511627776<b.aq+q.bT then 172 else if dT b q=true then 170
  else if b.ar≤b.L.length∨b.next=4294967295 then 6 else if bg<37 then 220 else 0
 else if q.ay=2∨q.ay=3 then if(b.find q.id).isNone=true then 171 else if bg<27 then 220 else 0
 else if q.ay=4 then if(b.find q.id).isNone=true then 171 else if(b.n:Int)≤q.aw then 140 else if dT b q=true then 170 else if bg<29 then 220 else 0
 else if q.bT<1∨1073741824<q.bT then 2 else if 1099511627776<b.aq+q.bT then 172 else if bg<31 then 220 else 0
def bP(q:Rq)(r:Rec): Rp:=
 if q.ay=1 then⟨q.tag,q.ay,0,r.id,0,r.aS,0⟩else if q.ay=4 then⟨q.tag,q.ay,0,0,r.aw,0,0⟩else if q.ay=7 then⟨q.tag,q.ay,0,0,0,r.aq,0⟩
 else⟨q.tag,q.ay,0,0,0,0,0⟩
def bZ(q:Rq)(e:Int): Rp:=⟨q.tag,q.ay,e,0,0,0,0⟩
def dZ(b:dK)(q:Rq): Rp:=
 if q.ay=5 then match b.find q.id with
  | some x=>⟨q.tag,q.ay,0,0,x.aw,x.aS,0⟩
  | none=>bZ q 171
 else if q.ay=6 then(if(b.n:Int)≤q.aw then bZ q 140 else match b.on q.aw with
  | some x=>⟨q.tag,q.ay,0,x.id,0,x.aS,0⟩
  | none=>bZ q 171)
 else⟨q.tag,q.ay,0,0,0,0,b.L.length⟩
def yl(x:bS): By:=le x.id.toNat 4++le x.aw 2++le x.aS.toNat 8
def jS(b:dK): By:=le b.n 2++le b.ar 4++le b.next.toNat 4++le b.aq.toNat 8++le b.L.length 2++(b.L.map yl).flatten
structure Es where
 up:Bool
 dev:bK
 rg:Rg
 log:Lg
 sl:Sl
 bk:dK
 aF:List Rp
def Es.down(e:Es)(d:bK)(l:Lg): Es:={e with up:=false,dev:=d,log:=l,aF:=[]}
def Es.ask(e:Es)(q:Rq): List Rp × Es:=([dZ e.bk q],e)
def Es.bg(e:Es): Int:=(e.rg.bytes e.dev.dk.size:Int) - e.log.used
def Es.change(e:Es)(q:Rq): List Rp × Es:=
 if bE e.bk e.bg q≠0 then([bZ q (bE e.bk e.bg q)],e)
 else if e.log.last=18446744073709551615 then([bZ q 220],e)
 else
  let e1:Es:={e with log:=e.log.append (ja (bB e.bk q)),bk:=(e.bk.apply (bB e.bk q)).2,aF:=e.aF++ [bP q (bB e.bk q)]}
  if e1.aF.length<e.bk.aA then([],e1)
  else if(e1.log.flush e.rg e.dev).1≠0 then([],e1.down (e1.log.flush e.rg e.dev).2.2 (e1.log.flush e.rg e.dev).2.1)
  else(e1.aF,{e1 with dev:=(e1.log.flush e.rg e.dev).2.2,log:=(e1.log.flush e.rg e.dev).2.1,aF:=[]})
def counted(e:Es)(q:Rq): List Rp:=e.aF++ [⟨q.tag,q.ay,0,0,0,0,e.aF.length⟩]
def Es.flush(e:Es)(q:Rq): List Rp × Es:=
 if(e.log.flush e.rg e.dev).1≠0 then([bZ q 230],e.down (e.log.flush e.rg e.dev).2.2 (e.log.flush e.rg e.dev).2.1)
 else(counted e q,{e with dev:=(e.log.flush e.rg e.dev).2.2,log:=(e.log.flush e.rg e.dev).2.1,aF:=[]})
def Es.save(e:Es)(q:Rq): List Rp × Es:=
 if(e.sl.save e.dev (jS e.bk) e.log.last).1=0 then(counted e q,{e with dev:=(e.sl.save e.dev (jS e.bk) e.log.last).2.2,log:=e.log.reset (e.sl.save e.dev (jS e.bk) e.log.last).2.1.gen,aF:=[]})
 else if(e.sl.save e.dev (jS e.bk) e.log.last).1=60 then([bZ q 230],e.down (e.sl.save e.dev (jS e.bk) e.log.last).2.2 e.log)
 else([bZ q (e.sl.save e.dev (jS e.bk) e.log.last).1],{e with dev:=(e.sl.save e.dev (jS e.bk) e.log.last).2.2})
def Es.rep(e:Es)(q:Rq): List Rp × Es:=
 if e.up=false then([bZ q 230],e)
 else if q.ay=5∨q.ay=6∨q.ay=10 then e.ask q else if q.ay=8 then e.flush q else if q.ay=9 then e.save q else e.change q
end En
end
section
namespace En
structure bK.kK(d:bK): Prop where
 up:d.down=false
 eo:d.eo= -1
 ok:d.dk.Ok
structure bK.kE(d d':bK): Prop where
 free:d'.kK
 size:d'.dk.size=d.dk.size
 len:d'.dk.df.length=d.dk.df.length
variable{i:Nat}
theorem bK.kE.refl{d:bK}(h:d.kK): d.kE d:=⟨h,rfl,rfl⟩
theorem bK.kE.trans{a b c:bK}(h:a.kE b)(k:b.kE c): a.kE c:=⟨k.free,k.size.trans h.size,k.len.trans h.len⟩
theorem bK.kK.UL{d:bK}(h:d.kK): d.op=(true,{d with count:=aO.wrap (d.count+1)}):=by
 unfold bK.op;rw[if_neg xy,if_neg (by rw[h.eo];decide),if_neg (by rw[h.eo];decide)]
theorem Dk.Ok.vV{d:Dk}(h:d.Ok)(hi:i<d.df.length): (d.look i).length=d.size:=by
 unfold Dk.look;have h1: ∀ (l:List (Nat × By)) (i:Nat) (b:By),gP l i=Option.some b→(i,b)∈l:=by
  intro l
  induction l with
  | nil=>intro i b hb;cases hb
  | cons x r ih=>
   intro i b hb;rw[gP] at hb;cases hr:gP r i with
   | some c=>rw[hr] at hb;injection hb with hb;subst hb;exact gv _ (ih i c hr)
   | none=>
    rw[hr] at hb;simp only at hb;by_cases hx:x.1=i
    ·rw[if_pos hx] at hb;injection hb with hb;subst hb;subst hx;exact jl
    rw[if_neg hx] at hb;cases hb
 cases hr:gP d.row i with
 | some b=>exact(h.aF _ (h1 _ _ _ hr)).2
 | none=>
  simp only[Option.getD_none];rw[bN,bY hi,Option.getD_some];exact h.each _ (List.getElem_mem hi)
theorem Dk.OB{d:Dk}(hi:i<d.df.length): d.bad (i:Int)=false:=by
 unfold Dk.bad;rw[yC,decide_eq_false_iff_not,decide_eq_false_iff_not];omega
theorem bK.kK.Oj{d:bK}(h:d.kK)(hi:i<d.dk.df.length): d.read (i:Int)=(0,d.dk.look i,{d with count:=aO.wrap (d.count+1)}):=by
 unfold bK.read;rw[h.UL];simp only[if_true];unfold Dk.read;rw[if_neg (by rw[Dk.OB hi];decide)];rfl
theorem bK.kK.DS{d:bK}(h:d.kK)(n:Int): d.kE {d with count:=n}:=⟨⟨h.up,h.eo,h.ok⟩,rfl,rfl⟩
theorem bK.kK.Iq{d:bK}(h:d.kK)(hi:i<d.dk.df.length){b:By}(hb:b.length=d.dk.size):
  d.write (i:Int) b=(0,{d with dk:={d.dk with row:=d.dk.row++ [(i,b)]},count:=aO.wrap (d.count+1)}):=by
 unfold bK.write;rw[h.UL];simp only[if_true];unfold Dk.write;rw[if_neg (by rw[Dk.OB hi];decide),if_pos hb];rfl
theorem bK.kK.Av{d:bK}(h:d.kK)(hi:i<d.dk.df.length){b:By}(hb:b.length=d.dk.size)(n:Int): d.kE {d with dk:={d.dk with row:=d.dk.row++ [(i,b)]},count:=n}:=
 ⟨⟨h.up,h.eo,⟨h.ok.size,h.ok.some,h.ok.each,fun x hx=>by
  rcases List.mem_append.1 hx with hx|hx
  ·exact h.ok.aF x hx
  rw[List.mem_singleton] at hx;subst hx;exact⟨hi,hb⟩⟩⟩,rfl,rfl⟩
theorem I5(s b:By)(k:Nat)(h:b.length=s.length): (over s b k).length=s.length:=I6 h
theorem vK(of:Nat→Nat)(size:Nat): ∀ (r:List (Nat × By)) (df:List By) (i:Nat),(∀ b∈df,b.length=size)→(∀ x∈r,x.1<df.length∧x.2.length=size)→∀ b∈e8 of df i r,b.length=size
 | [],_,_,h,_=>h
 | x::r,df,i,h,hr=>by
  rw[e8];have hx:=hr x jl;refine vK of size r _ (i+1) (fun b hb=>?_) (fun y hy=>by rw[List.length_set];exact hr y (gv _ hy));rcases List.mem_or_eq_of_mem_set hb with hb|hb
  ·exact h b hb
  subst hb;have e1:(df.getD x.1 []).length=size:=by
   rw[bN,bY hx.1,Option.getD_some];exact h _ (List.getElem_mem hx.1)
  rw[I5 _ _ _ (by rw[hx.2,e1]),e1]
theorem bK.kK.ZJ{d:bK}(h:d.kK): d.sync=(0,{d with dk:=d.dk.settle (fun _=>d.dk.size),count:=aO.wrap (d.count+1)}):=by
 unfold bK.sync;rw[h.UL];simp only[if_true]
theorem bK.kK.DJ{d:bK}(h:d.kK): d.sync.1=0∧d.kE d.sync.2∧d.sync.2.dk.row= []:=by
 rw[h.ZJ];refine⟨rfl,⟨⟨h.up,h.eo,⟨h.ok.size,?_,?_,fun x hx=>by cases hx⟩⟩,rfl,oB _ _ _ _⟩,rfl⟩
 ·show 1≤(e8 _ d.dk.df 0 d.dk.row).length∧(e8 _ d.dk.df 0 d.dk.row).length≤65536
  rw[oB];exact h.ok.some
 exact vK _ _ _ _ _ h.ok.each h.ok.aF
structure Rg.In(g:Rg)(d:bK): Prop where
 some:1≤g.count
 fits:g.from_+g.count≤d.dk.df.length
theorem Rg.In.qu{g:Rg}{d d':bK}(h:g.In d)(k:d.kE d'): g.In d':=⟨h.some,by rw[k.len];exact h.fits⟩
theorem uH{size:Nat}(hs:1≤size)(c:Nat): ∀ (k at_ n:Nat),at_+n≤c*size→∀ x∈pieces size k at_ n,x.s<c∧x.f<x.t∧x.t≤size
 | 0,_,_,_,x,hx=>by cases hx
 | k+1,at_,n,h,x,hx=>by
  rw[pieces] at hx;by_cases h0:n=0
  ·rw[if_pos h0] at hx;cases hx
  rw[if_neg h0] at hx;have hm:at_ % size<size:=Nat.mod_lt _ aj;have hd:=Nat.div_add_mod at_ size;rcases List.mem_cons.1 hx with rfl|hx
  ·refine⟨?_,?_,Nat.min_le_left _ _⟩
   ·show at_ / size<c
    rw[Nat.div_lt_iff_lt_mul aj];omega
   show at_ % size<min size (at_ % size+n)
   omega
  refine uH hs c k _ _ ?_ x hx;have:min size (at_ % size+n)≤at_ % size+n:=Nat.min_le_right _ _;omega
theorem Bv{size:Nat}(hs:1≤size): ∀ (k at_ n:Nat),n≤k→((pieces size k at_ n).map fun x=>x.t - x.f).sum=n
 | 0,_,n,h=>by
  have:n=0:=aj;subst this;rfl
 | k+1,at_,n,h=>by
  rw[pieces];by_cases h0:n=0
  ·rw[if_pos h0];subst h0;rfl
  rw[if_neg h0,List.map_cons,List.sum_cons];have hm:at_ % size<size:=Nat.mod_lt _ aj;rw[Bv hs k _ _ aj];show min size (at_ % size+n) - at_ % size+_=n
  omega
theorem SI{g:Rg}{d:bK}{x:Piece}{b:By}(h:d.kK)(hg:g.In d)(hx:x.s<g.count∧x.f<x.t∧x.t≤d.dk.size)(hb:x.t - x.f≤b.length): (EK g d x b).1=0∧d.kE (EK g d x b).2:=by
 have hi:g.from_+x.s<d.dk.df.length:=by have:=hg.fits;omega
 unfold EK;by_cases c:x.t - x.f<d.dk.size
 ·rw[if_pos c,h.Oj hi];simp only[if_true];have hl:=h.ok.vV hi;have h1:=h.DS (aO.wrap (d.count+1));have hb2:((d.dk.look (g.from_+x.s)).take x.f++b.take (x.t - x.f)++(d.dk.look (g.from_+x.s)).drop x.t).length=d.dk.size:=by simp only[dh,List.length_take,List.length_drop,hl];omega
  rw[h1.free.Iq hi hb2];exact⟨rfl,h1.trans (h1.free.Av hi hb2 _)⟩
 rw[if_neg c];have hb2:(b.take (x.t - x.f)).length=d.dk.size:=Bb;rw[h.Iq hi hb2];exact⟨rfl,h.Av hi hb2 _⟩
theorem Iu{g:Rg}: ∀ (ps:List Piece) (d:bK) (b:By),d.kK→g.In d→(∀ x∈ps,x.s<g.count∧x.f<x.t∧x.t≤d.dk.size)→(ps.map fun x=>x.t - x.f).sum≤b.length→(KZ g d ps b).1=0∧d.kE (KZ g d ps b).2
 | [],d,b,h,_,_,_=>⟨rfl,bK.kE.refl h⟩
 | x::ps,d,b,h,hg,hp,hs=>by
  rw[List.map_cons,List.sum_cons] at hs;obtain⟨h1,h2⟩:=SI h hg (hp x jl) (b:=b) aj;rw[KZ,if_pos h1];obtain⟨h3,h4⟩:=Iu ps (EK g d x b).2 (b.drop (x.t - x.f)) h2.free (hg.qu h2) (fun y hy=>by rw[h2.size];exact hp y (gv _ hy)) (by rw[List.length_drop];omega);exact⟨h3,h2.trans h4⟩
theorem Rg.Aw{g:Rg}{d:bK}(h:d.kK)(hg:g.In d)(at_:Nat)(b:By)(hb:at_+b.length≤g.bytes d.dk.size): (g.write d at_ b).1=0∧d.kE (g.write d at_ b).2:=by
 unfold Rg.write;have nN:g.bad d.dk.size (at_:Int) b.length=false:=by
  unfold Rg.bad;simp only[yC,decide_eq_false_iff_not];omega
 rw[if_neg (by rw[nN];decide)];rw[hZ];exact Iu _ d b h hg (uH h.ok.size.1 g.count _ _ _ hb) (by rw[Bv h.ok.size.1 _ _ _ (aQ _)];exact aQ _)
theorem I2{g:Rg}: ∀ (ps:List Piece) (d:bK) (acc:By),d.kK→g.In d→(∀ x∈ps,x.s<g.count∧x.f<x.t∧x.t≤d.dk.size)→(Hs g d ps acc).1=0∧d.kE (Hs g d ps acc).2.2∧(Hs g d ps acc).2.2.dk=d.dk
 | [],d,acc,h,_,_=>⟨rfl,bK.kE.refl h,rfl⟩
 | x::ps,d,acc,h,hg,hp=>by
  have hi:g.from_+x.s<d.dk.df.length:=by have:=hg.fits;have:=hp x jl;omega
  rw[Hs,h.Oj hi,if_pos rfl];have h1:=h.DS (aO.wrap (d.count+1));obtain⟨h3,h4,h5⟩:=I2 ps {d with count:=aO.wrap (d.count+1)} (acc++((d.dk.look (g.from_+x.s)).take x.t).drop x.f) h1.free (hg.qu h1) (fun y hy=>hp y (gv _ hy));exact⟨h3,h1.trans h4,h5⟩
theorem Rg.DT{g:Rg}{d:bK}(h:d.kK)(hg:g.In d)(at_ n:Nat)(hb:at_+n≤g.bytes d.dk.size): (g.read d at_ n).1=0∧d.kE (g.read d at_ n).2.2∧(g.read d at_ n).2.2.dk=d.dk:=by
 unfold Rg.read;have nN:g.bad d.dk.size (at_:Int) (n:Int)=false:=by
  unfold Rg.bad;simp only[yC,decide_eq_false_iff_not];omega
 rw[if_neg (by rw[nN];decide)];rw[hZ,hZ];exact I2 _ d [] h hg (uH h.ok.size.1 g.count _ _ _ hb)
theorem Lg.nP{l:Lg}{g:Rg}{d:bK}(h:d.kK)(hg:g.In d)(hl:l.done≤l.eD.length)(hu:l.used≤g.bytes d.dk.size)(hr:d.dk.row= []):
  (l.flush g d).1=0∧(l.flush g d).2.1= {l with done:=l.eD.length}∧d.kE (l.flush g d).2.2∧(l.flush g d).2.2.dk.row= []:=by
 unfold Lg.flush;by_cases c:l.done=l.eD.length
 ·rw[if_pos c];refine⟨rfl,?_,bK.kE.refl h,hr⟩;show l= {l with done:=l.eD.length}
  rw[←c]
 ·rw[if_neg c];obtain⟨h1,h2⟩:=Rg.Aw h hg l.cw.length l.aF (by rw[←l.uw hl];exact hu);obtain⟨h3,h4,h5⟩:=h2.free.DJ;rw[if_pos h1,if_pos h3];exact⟨rfl,rfl,h2.trans h4,h5⟩
theorem BS{g:Rg}{d:bK}(h:d.kK)(hg:g.In d): (cX g d).1=0∧d.kE (cX g d).2.2∧(cX g d).2.2.dk=d.dk∧(cX g d).2.1.len≤g.bytes d.dk.size - d.dk.size:=by
 obtain⟨h1,h2,h3⟩:=Rg.DT h hg 0 d.dk.size (by unfold Rg.bytes;have:=gV d.dk.size hg.some;omega);have Sg:(g.read d 0 d.dk.size).1=0:=h1;have Q8:d.kE (g.read d 0 d.dk.size).2.2:=h2;have h3':(g.read d 0 d.dk.size).2.2.dk=d.dk:=h3;unfold cX;rw[if_pos Sg];refine⟨rfl,Q8,h3',?_⟩;show(match BR (g.read d 0 d.dk.size).2.1 with|some h=>if h.len≤g.bytes d.dk.size - d.dk.size then h else Hd.zero|none=>Hd.zero).len≤_
 cases BR (g.read d 0 d.dk.size).2.1 with
 | none=>exact cm _
 | some x=>
  show(if x.len≤g.bytes d.dk.size - d.dk.size then x else Hd.zero).len≤_
  by_cases c:x.len≤g.bytes d.dk.size - d.dk.size
  ·rw[if_pos c];exact c
  rw[if_neg c];exact cm _
theorem yG{s:Sl}{d:bK}{x:Hd}(h:d.kK)(hg:(s.one i).In d)(hx:x.len≤(s.one i).bytes d.dk.size - d.dk.size): (dc s d i x).1=0∧d.kE (dc s d i x).2.2∧(dc s d i x).2.2.dk=d.dk:=by
 unfold dc;by_cases c:x.gen=0
 ·rw[if_pos c];exact⟨rfl,bK.kE.refl h,rfl⟩
 rw[if_neg c];obtain⟨h1,h2,h3⟩:=Rg.DT h hg d.dk.size x.len (by unfold Rg.bytes at *;have:=gV d.dk.size hg.some;omega);rw[if_pos h1];exact⟨rfl,h2,h3⟩
structure Sl.In(s:Sl)(d:bK): Prop where
 a:s.a.In d
 b:s.b.In d
 same:s.b.count=s.a.count
 two:2≤s.a.count
theorem Sl.In.qu{s:Sl}{d d':bK}(h:s.In d)(k:d.kE d'): s.In d':=⟨h.a.qu k,h.b.qu k,h.same,h.two⟩
theorem BG{s:Sl}{d:bK}{j:Nat} {hi hj:Hd}(h:d.kK)(h1:(s.one i).In d)(h2:(s.one j).In d)(h3:hi.len≤(s.one i).bytes d.dk.size - d.dk.size)(h4:hj.len≤(s.one j).bytes d.dk.size - d.dk.size):
  (kx s d i j hi hj).err=0∧d.kE (kx s d i j hi hj).dev∧(kx s d i j hi hj).dev.dk=d.dk:=by
 obtain⟨a1,a2,a3⟩:=yG (x:=hi) h h1 h3;obtain⟨b1,b2,b3⟩:=yG (x:=hj) a2.free (h2.qu a2) (by rw[a2.size];exact h4);unfold kx;rw[if_pos a1];cases(dc s d i hi).2.1 with
 | some b=>exact⟨rfl,a2,a3⟩
 | none=>
  simp only;rw[if_pos b1];cases(dc s (dc s d i hi).2.2 j hj).2.1 with
  | some b=>exact⟨rfl,a2.trans b2,b3.trans a3⟩
  | none=>exact⟨rfl,a2.trans b2,b3.trans a3⟩
theorem Sl.QM{s:Sl}{d:bK}(h:d.kK)(hs:s.In d): (s.load d).err=0∧d.kE (s.load d).dev∧(s.load d).dev.dk=d.dk:=by
 obtain⟨a1,a2,a3,a4⟩:=BS h hs.a;obtain⟨b1,b2,b3,b4⟩:=BS a2.free (hs.b.qu a2);have hL:=a2.trans b2;unfold Sl.load;rw[if_pos a1,if_pos b1];have e0:s.one 0=s.a:=rfl;have e1:s.one 1=s.b:=rfl;rw[a2.size] at b4;by_cases c:(cX s.a d).2.1.gen<(cX s.b (cX s.a d).2.2).2.1.gen
 ·rw[if_pos c];obtain⟨c1,c2,c3⟩:=BG (s:=s) (i:=1) (j:=0) (hi:=(cX s.b (cX s.a d).2.2).2.1) (hj:=(cX s.a d).2.1) hL.free (by rw[e1];exact hs.b.qu hL) (by rw[e0];exact hs.a.qu hL) (by rw[e1,hL.size];exact b4) (by rw[e0,hL.size];exact a4);exact⟨c1,hL.trans c2,c3.trans (b3.trans a3)⟩
 rw[if_neg c];obtain⟨c1,c2,c3⟩:=BG (s:=s) (i:=0) (j:=1) (hi:=(cX s.a d).2.1) (hj:=(cX s.b (cX s.a d).2.2).2.1) hL.free (by rw[e0];exact hs.a.qu hL) (by rw[e1];exact hs.b.qu hL) (by rw[e0,hL.size];exact a4) (by rw[e1,hL.size];exact b4);exact⟨c1,hL.trans c2,c3.trans (b3.trans a3)⟩
theorem vP{g:Rg}{d:bK}(h:d.kK)(hg:g.In d)(at_:Nat)(b:By)(hb:at_+b.length≤g.bytes d.dk.size): (dB g d at_ b).1=0∧d.kE (dB g d at_ b).2∧(dB g d at_ b).2.dk.row= []:=by
 obtain⟨h1,h2⟩:=Rg.Aw h hg at_ b hb;obtain⟨h3,h4,h5⟩:=h2.free.DJ;unfold dB;rw[if_pos h1];exact⟨h3,h2.trans h4,h5⟩
theorem mW(h:Hd): (H7 h).length=32:=by simp only[H7,uN,uO,dh,Oc.bF,List.length_cons,List.length_nil]
theorem Sl.xO{s:Sl}{d:bK}(h:d.kK)(hs:s.In d)(hr:d.dk.row= [])(Ib:32≤d.dk.size)(body:By)(l8:Nat):
  ((s.save d body l8).1=0∨(s.save d body l8).1=3∨(s.save d body l8).1=6)∧d.kE (s.save d body l8).2.2∧(s.save d body l8).2.2.dk.row= []:=by
 unfold Sl.save;by_cases c1:s.bytes d.dk.size<body.length
 ·rw[if_pos c1];exact⟨.inr (.inl rfl),bK.kE.refl h,hr⟩
 ·rw[if_neg c1];obtain⟨a1,a2,a3⟩:=Sl.QM h hs;rw[if_neg (by rw[a1];decide)];by_cases c2:(s.load d).hd.gen=18446744073709551615
  ·rw[if_pos c2];exact⟨.inr (.inr rfl),a2,by rw[a3];exact hr⟩
  rw[if_neg c2];simp only;obtain⟨r,QY,jI⟩: ∃ r,(if(s.load d).at_=0 then s.b else s.a)=r∧r.In d∧r.count=s.a.count:=by
   by_cases c3:(s.load d).at_=0
   ·exact⟨s.b,if_pos c3,hs.b,hs.same⟩
   exact⟨s.a,if_neg c3,hs.a,rfl⟩
  obtain⟨jI,Y2⟩:=jI;rw[QY];have hby:r.bytes d.dk.size=s.a.bytes d.dk.size:=by unfold Rg.bytes;rw[Y2]
  have h2:=gV d.dk.size hs.two;have hB:d.dk.size+body.length≤r.bytes d.dk.size:=by unfold Sl.bytes at c1;rw[hby];unfold Rg.bytes at c1 ⊢;omega
  obtain⟨b1,b2,b3⟩:=vP a2.free (jI.qu a2) d.dk.size body (by rw[a2.size];exact hB);rw[if_neg (by rw[b1];decide)];have hL:=a2.trans b2;obtain⟨x,hx⟩:=ae ((⟨(s.load d).hd.gen+1,l8,body.length,Cr.ic 0 body⟩:Hd):Hd);rw[hx];obtain⟨e1,e2,e3⟩:=vP hL.free (jI.qu hL) 0 (H7 x++List.replicate (d.dk.size - 32) 0) (by rw[hL.size,hby,dh,mW,List.length_replicate];unfold Rg.bytes;omega);rw[if_neg (by rw[e1];decide)];dsimp only;exact⟨.inl rfl,hL.trans e2,e3⟩
