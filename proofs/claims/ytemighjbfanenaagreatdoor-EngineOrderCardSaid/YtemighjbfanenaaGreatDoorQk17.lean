import Derived.Test.YtemighjbfanenaaGreatDoorQk16
set_option linter.all false
set_option maxRecDepth 100000
set_option maxHeartbeats 16000000
namespace Go.Proofs.YtemighjbfanenaaGreatDoor
open RowKit
open yj (fU hasB)
open km (Find dR eW Slot CE home uI fQ fh vC Uf sS AU)
open Oc (le val)
open Cr (ij)
open Bk (bS)
open Bool renaming or_eq_false_iff→ym,true_and→tH,not_eq_true'→G3
open Go.IntKind renaming i64→aN
open Go.Proofs.Tryz renaming underlying171→wC,prog→af
open Go.Value renaming oneCell'→fY
open Int renaming toNat_natCast→gY
open List renaming mem_cons_self→jn,getD_eq_getElem?_getD→bR,mem_cons_of_mem→gz,length_append→bZ,getElem?_eq_getElem→bY
open Nat renaming zero_le→cx,le_refl→aY,mul_le_mul_right→gX
open RowKit.Below renaming refl→ar
theorem acs{p:Prop}(h:p:=by
 refine bodyPost_ret (results_cell_tmp Tryz.results71 _ iI (aL 171 pC.o _ wC rfl eV)) rfl ⟨rfl,?_,?_⟩
 ·exact HH2.o.kT (HH2.o.bg.same zF.o.size (fun k hS hk=>zF.o.block k hk (fun e=>by
   injection e with e
   have h9:=yO.o;have:=HH.o.bg.lt k hS;omega)))
 ·exact gI.o.grown zF.o (fun k hk=>adZ)):p:=h
theorem ab6{p:Prop}(h:p:=by
 have wK:=aa kV;have iN:=aa sx;clear kV sx;go_wp2_with fail;go_ret2;exact⟨rfl,⟨⟨_,wK.o⟩,HH.o.tab,HH.o.full,HH.o.Wy,HH.o.bj⟩,iN.o⟩):p:=h
theorem ab5{p:Prop}(h:p:=by
 refine bodyPost_ret (results_cell_tmp Tryz.results293 _ iI (aL 171 pC.o _ wC rfl eV)) rfl ⟨rfl,br bA.o zF.o KO⟩):p:=h
theorem adZ{p:Prop}(h:p:=by injection hk with hk;exact .inr (by have h9:=yO.o;omega)):p:=h
theorem Al{p:Prop}(h:p:=by rw[h.up];decide):p:=h
theorem KO{p:Prop}(h:p:=by have:=HR.o;omega):p:=h
section
section
namespace Bk
structure Raw where
 id:Int
 aw:Int
 aR:Int
def CU(n:Nat)(next aq:Int)(L:List bS)(last:Int)(x:Raw): Bool:=
 decide (last<x.id) && (decide (x.id<next) && (decide (0≤x.aw) && (decide (x.aw<n) && (L.all (fun y=>!decide ((y.aw:Int)=x.aw)) && (x.aR==0||(decide (aq<x.aR) && decide (x.aR≤1099511627776)))))))
def toB(x:Raw): bS:=⟨x.id,x.aw.toNat,x.aR⟩
def RQ(n:Nat)(next aq:Int): List bS→Int→List Raw→Option (List bS)
 | L,_,[]=>some L
 | L,last,x::r=>if CU n next aq L last x=true then RQ n next aq (L++ [toB x]) x.id r else none
def nP(n au:Nat)(next aq:Int)(l:List Raw): Option (List bS):=
 if next<1∨aq<0∨1099511627776<aq∨au<l.length then none else RQ n next aq [] 0 l
theorem T8{S:Nat→Prop}{w:World}{b n au:Nat}{aA next aq:Int}{L:List bS}{q:bI}(h:bo S w b n au aA next aq L q){i:Nat}(hi:i<n): hasB q.ws i= !(L.all (fun y=>!decide ((y.aw:Int)=(i:Int)))):=by
 rw[Bool.eq_iff_iff,h.bits i hi];constructor
 ·rintro⟨x,hx,e⟩;rw[G3,List.all_eq_false];exact⟨x,hx,by simp[e]⟩
 intro hh;rw[G3,List.all_eq_false] at hh;obtain⟨x,hx,e⟩:=hh;refine⟨x,hx,?_⟩;simp at e;omega
theorem aeq(S:Nat→Prop)(b n au:Nat)(aA next aq:Int)(L:List bS)(q:bI)(x:Raw)(last:Int)(w:World)(h:bo S w b n au aA next aq L q):
  Calls af 240 #[.pointer (some ⟨b,0,none⟩),.agg #[.int .u32 x.id,.int .i64 x.aw,.int .i64 x.aR],.int .u32 last] w fun e w'=>e= .returned (.bool (CU n next aq L last x))∧Below w.heap.size w w':=by
 obtain⟨id,aw,aR⟩:=x;have hm:CU n next aq L last ⟨id,aw,aR⟩=(decide (last<id) && (decide (id<next) && (decide (0≤aw) && (decide (aw<n) && (L.all (fun y=>!decide ((y.aw:Int)=aw)) && (aR==0||(decide (aq<aR) && decide (aR≤1099511627776)))))))):=rfl;show Calls _ _ #[.pointer (some ⟨b,0,none⟩),.agg #[.int .u32 id,.int .i64 aw,.int .i64 aR],.int .u32 last] w _
 by_cases c0:id≤last
 ·rw[hm,decide_eq_false (show ¬last<id from ai)];exact ZT S b n au aA next aq L q id aw aR last w h (decide_eq_true c0)
 have d0:decide (id≤last)=false:=decide_eq_false c0;rw[hm,decide_eq_true (show last<id from ai),tH];by_cases c1:next≤id
 ·rw[decide_eq_false (show ¬id<next from ai)];exact ZS S b n au aA next aq L q id aw aR last w h d0 (decide_eq_true c1)
 have d1:decide (next≤id)=false:=decide_eq_false c1;rw[decide_eq_true (show id<next from ai),tH];by_cases c2:aw<0
 ·rw[decide_eq_false (show ¬0≤aw from ai)];exact ZR S b n au aA next aq L q id aw aR last w h d0 d1 (decide_eq_true c2)
 have d2:decide (aw<0)=false:=decide_eq_false c2;rw[decide_eq_true (show 0≤aw from ai),tH];by_cases c3:(n:Int)≤aw
 ·rw[decide_eq_false (show ¬aw<n from ai)];exact ZQ S b n au aA next aq L q id aw aR last w h d0 d1 d2 (decide_eq_true c3)
 rw[decide_eq_true (show aw<n from ai),tH];obtain⟨i,rfl⟩: ∃ i:Nat,aw=(i:Int):=⟨aw.toNat,ai⟩;have hi:i<n:=ai;have ht:=T8 h hi;cases ha:L.all (fun y=>!decide ((y.aw:Int)=(i:Int)))
 ·rw[ha] at ht;exact Qu S b n au aA next aq L q id aR last i w h d0 d1 hi ht
 rw[ha] at ht;rw[tH];cases c6:(aR==0)
 case true=>exact UG S b n au aA next aq L q id aR last i w h d0 d1 hi ht c6
 case false=>
  rw[Bool.false_or];cases c7:decide (aq<aR)
  case false=>exact UH S b n au aA next aq L q id aR last i w h d0 d1 hi ht c6 c7
  case true=>
   rw[tH];cases c8:decide (aR≤1099511627776)
   case false=>exact UI S b n au aA next aq L q id aR last i w h d0 d1 hi ht c6 c7 c8
   case true=>exact Fz S b n au aA next aq L q id aR last i w h d0 d1 hi ht c6 c7 c8
end Bk
end
section
namespace Bk
theorem cY(b:Nat)(v:Bool)(w:World)(h:w.cell? ⟨b,3,none⟩=some (.bool v)): Calls af 67 #[.pointer (some ⟨b,0,none⟩)] w fun e w'=>e= .returned (.bool v)∧w'=w:=by
 go_enter Tryz.func67,Tryz.ntmps67;go_wp2_with fail;go_ret;exact⟨rfl,rfl⟩
theorem dA: (af.info? 80).map (·.size)=some 3:=bh
theorem Zt(b:Nat)(s0 s1 s2:Int)(w:World)(h0:w.cell? ⟨b,0,none⟩=some (.int .i64 s0))(h1:w.cell? ⟨b,1,none⟩=some (.int .i64 s1))(h2:w.cell? ⟨b,2,none⟩=some (.int .i64 s2))(hbl:b<w.heap.size): Calls af 105 #[.pointer (some ⟨b,0,none⟩)] w fun e w'=>e= .returned (.agg #[.int .i64 s0,.int .i64 s1,.int .i64 s2])∧Below w.heap.size w w':=by
 go_enter Tryz.func105,Tryz.ntmps105;go_wp2_with fail;refine bodyPost_ret (dy Tryz.results105 _ iI (aL 80 (aG.fresh w 80 #[.int .i64 s0,.int .i64 s1,.int .i64 s2]) _ Tryz.underlying80 rfl dA)) rfl ⟨rfl,ay (ar _ _) _⟩
theorem fT{S:Nat→Prop}{w:World}{b n au:Nat}{aA next aq:Int}{len:Nat}{q:bI}(h:cG S w b n au aA next aq len q): Calls af 38 #[.pointer (some ⟨b,0,none⟩)] w fun e w'=>e= .returned (.agg #[.int .i64 n,.int .i64 au,.int .i64 aA])∧Below w.heap.size w w':=by
 have HH:=aa h;clear h;go_enter Tryz.func38,Tryz.ntmps38;go_wp2_with fail;have hb1:Below w.heap.size w (w.alloc (.cells #[.int .i64 0,.int .i64 0,.int .i64 0] 80)):=ay (ar _ _) _;have bp:aG (w.alloc (.cells #[.int .i64 0,.int .i64 0,.int .i64 0] 80)) w.heap.size 80 #[.int .i64 0,.int .i64 0,.int .i64 0]:=aG.fresh w _ _;obtain⟨w1,a8⟩:=ae (w.alloc (.cells #[.int .i64 0,.int .i64 0,.int .i64 0] 80));obtain⟨r,hr⟩:=ae w.heap.size;rw[a8] at hb1 bp ⊢;have hc1:=HH.o.ak hb1;have bA:=aa hb1;clear hb1;rw[hr] at bp ⊢;clear a8;refine ag (cY b true w1 (hc1.own.cell 3)) ?_;have ku:=aa hc1;have dF:=aa bp;have HR:=aa hr;clear hc1 bp hr;go_wp2_with fail;refine(Zt b n au aA w1 (ku.o.own.cell 0) (ku.o.own.cell 1) (ku.o.own.cell 2) ku.o.own.lt).mono ?_;rintro e w2 ⟨rfl,hb2⟩;have gZ:=dF.o.ah hb2;have Mh:=av bA.o hb2;clear ku bA dF hb2;have jB:=aa gZ;have cu:=aa Mh;clear gZ Mh;go_wp2_with (refine aj rfl 80 _ _ rfl r 80 _ #[.int .i64 n,.int .i64 au,.int .i64 aA] jB.o rfl rfl rfl dA qR ?_;intro w3 dE hg3 hs3;have pC:=aa dE;have zF:=aa hg3;clear dE hg3 hs3);refine bodyPost_ret (dy Tryz.results38 _ iI (aL 80 pC.o _ Tryz.underlying80 rfl dA)) rfl ⟨rfl,br cu.o zF.o KO⟩
end Bk
end
section
namespace Bk
theorem ajI{S:Nat→Prop}{w:World}{b n au:Nat}{aA next aq:Int}{len:Nat}{q:bI}(h:cG S w b n au aA next aq len q)(i:Nat)(hi:i<n)(hn:n≤1024)(hv:hasB q.ws i=true): Calls af 293 #[.pointer (some ⟨b,0,none⟩),.int .i64 i] w fun e w'=>e= .returned (.tuple #[.agg #[.int .u32 (q.sb i).id,.int .i64 (q.sb i).aw,.int .i64 (q.sb i).aR],.int .i64 0])∧Below w.heap.size w w':=by
 have HH:=aa h;have HV:=aa hv;have Md:(i:Int)<(n:Int):=ai;have CB:(0:Int)≤(i:Int):=ai;have VY:(n:Int)≤1024:=ai;clear h hv;go_enter Tryz.func293,Tryz.ntmps293;go_wp2_with fail;have hb1:Below w.heap.size w (w.alloc (.cells #[.int .u32 0,.int .i64 0,.int .i64 0] 171)):=ay (ar _ _) _;have bp:aG (w.alloc (.cells #[.int .u32 0,.int .i64 0,.int .i64 0] 171)) w.heap.size 171 #[.int .u32 0,.int .i64 0,.int .i64 0]:=aG.fresh w _ _;obtain⟨w1,a8⟩:=ae (w.alloc (.cells #[.int .u32 0,.int .i64 0,.int .i64 0] 171));obtain⟨r,hr⟩:=ae w.heap.size;rw[a8] at hb1 bp ⊢;have hc1:=HH.o.ak hb1;have bA:=aa hb1;clear hb1;rw[hr] at bp ⊢;clear a8;refine ag (cY b true w1 (hc1.own.cell 3)) ?_;have x0:w1.cell? ⟨b,0,none⟩=some (.int .i64 n):=hc1.own.cell 0;have x6:w1.cell? ⟨b,6,none⟩=some (.pointer (some ⟨q.tp,0,none⟩)):=hc1.own.cell 6;have x8:w1.cell? ⟨b,8,none⟩=some (.slice (some ⟨q.sg,0,none⟩) n q.sc):=hc1.own.cell 8;have ku:=aa hc1;have dF:=aa bp;have HR:=aa hr;clear hc1 bp hr;go_wp2_with fail;refine(yj.pc q.tp q.tg q.tc n i q.ws w1 ku.o.taken hi ai).mono ?_;rw[HV.o];rintro e w2 ⟨rfl,hw2⟩;rw[hw2];clear hw2 w2;go_wp2_with (first|(refine fq rfl 171 _ rfl ku.o.gh (fun _=>rfl) i hi rfl _ wC rfl eV ?_)|(refine aj rfl 171 _ _ rfl r 171 _ #[.int .u32 (q.sb i).id,.int .i64 (q.sb i).aw,.int .i64 (q.sb i).aR] dF.o rfl rfl rfl eV qR ?_;intro w3 dE hg3 hs3;have pC:=aa dE;have zF:=aa hg3;clear dE hg3 hs3));exact ab5
theorem abl{S:Nat→Prop}{w:World}{b n au:Nat}{aA next aq:Int}{len:Nat}{q:bI}(h:cG S w b n au aA next aq len q)(i:Nat)(hi:i<n)(hn:n≤1024)(hv:hasB q.ws i=false): Calls af 293 #[.pointer (some ⟨b,0,none⟩),.int .i64 i] w fun e w'=>e= .returned (.tuple #[.agg #[.int .u32 0,.int .i64 0,.int .i64 0],.int .i64 171])∧Below w.heap.size w w':=by
 have HH:=aa h;have HV:=aa hv;have Md:(i:Int)<(n:Int):=ai;have CB:(0:Int)≤(i:Int):=ai;have VY:(n:Int)≤1024:=ai;clear h hv;go_enter Tryz.func293,Tryz.ntmps293;go_wp2_with fail;have hb1:Below w.heap.size w (w.alloc (.cells #[.int .u32 0,.int .i64 0,.int .i64 0] 171)):=ay (ar _ _) _;have bp:aG (w.alloc (.cells #[.int .u32 0,.int .i64 0,.int .i64 0] 171)) w.heap.size 171 #[.int .u32 0,.int .i64 0,.int .i64 0]:=aG.fresh w _ _;obtain⟨w1,a8⟩:=ae (w.alloc (.cells #[.int .u32 0,.int .i64 0,.int .i64 0] 171));obtain⟨r,hr⟩:=ae w.heap.size;rw[a8] at hb1 bp ⊢;have hc1:=HH.o.ak hb1;have bA:=aa hb1;clear hb1;rw[hr] at bp ⊢;clear a8;refine ag (cY b true w1 (hc1.own.cell 3)) ?_;have x0:w1.cell? ⟨b,0,none⟩=some (.int .i64 n):=hc1.own.cell 0;have x6:w1.cell? ⟨b,6,none⟩=some (.pointer (some ⟨q.tp,0,none⟩)):=hc1.own.cell 6;have ku:=aa hc1;have dF:=aa bp;have HR:=aa hr;clear hc1 bp hr;go_wp2_with fail;refine(yj.pc q.tp q.tg q.tc n i q.ws w1 ku.o.taken hi ai).mono ?_;rw[HV.o];rintro e w2 ⟨rfl,hw2⟩;rw[hw2];clear hw2 w2;go_wp2_with (refine aj rfl 171 _ _ rfl r 171 _ #[.int .u32 0,.int .i64 0,.int .i64 0] dF.o rfl rfl rfl eV qR ?_;intro w3 dE hg3 hs3;have pC:=aa dE;have zF:=aa hg3;clear dE hg3 hs3);exact ab5
end Bk
end
section
namespace Bk
def agu(x:Raw): List Value:=[.int .u32 x.id,.int .i64 x.aw,.int .i64 x.aR]
def Xy(w:World)(A:Option Addr)(l:List Raw): Prop:=l≠ []→∃ g off,A=some ⟨g,off,none⟩∧g<w.heap.size∧∀ k,k<l.length→w.rangeAt g (off+k*3) (agu (l.getD k ⟨0,0,0⟩))
variable{w w':World}{S:Nat→Prop}{b n:Nat}{aA aq:Int}
theorem Xy.ah{A:Option Addr}{l:List Raw}(h:Xy w A l)(hb:Below w.heap.size w w'): Xy w' A l:=fun hne=>by
 obtain⟨g,off,h1,h2,h3⟩:=h hne;exact⟨g,off,h1,Nat.lt_of_lt_of_le h2 hb.size,fun k hk j v hj=>(hb.cell (p:=⟨g,off+k*3+j,none⟩) h2).trans (h3 k hk j v hj)⟩
theorem cG.kT{au:Nat} {next next' clock':Int} {len:Nat}{q:bI}(h:cG S w b n au aA next aq len q)(ht:aI (· =b) w w')(hi:aG w' b 102 #[.int .i64 n,.int .i64 au,.int .i64 aA,.bool true,.int .i64 clock',.int .u32 next',.pointer (some ⟨q.tp,0,none⟩),.pointer (some ⟨q.ip,0,none⟩),.slice (some ⟨q.sg,0,none⟩) n q.sc,.pointer (some ⟨q.hp,0,none⟩),.map (some q.mb)]): cG S w' b n au aA next' clock' len q:=by
 obtain⟨⟨_,a0⟩,⟨_,a1⟩,⟨_,a2⟩,⟨_,a3⟩,⟨_,a4⟩,⟨_,a5⟩⟩:=h.BR;exact⟨hi,h.lF ht (iq a1 a0 aM) (iq a2 a0 aM),h.qm ht (iq a3 a0 aM) (iq a4 a0 aM),h.lG ht (iq a5 a0 aM),h.sY ht (fun k hk=>(h.apart k hk).2.1),h.nI ht (fun e=>Hp.dp h.held a0 e.symm),h.bB,h.apart,fun k hk=>Nat.lt_of_lt_of_le (h.lt k hk) ht.size⟩
theorem bo.kT{au:Nat} {next next' clock':Int} {L:List bS}{q:bI}(h:bo S w b n au aA next aq L q)(hc:cG S w' b n au aA next' clock' L.length q)(hle:next≤next':=by first|exact Int.le_refl _|omega): bo S w' b n au aA next' clock' L q:=
 ⟨hc,h.bits,h.cw,h.under,h.listed,⟨h.small.1,⟨Int.le_trans h.small.2.1.1 hle,fun e=>by
  have h1:=h.small.2.1.1;obtain⟨x,hx,e2⟩:=h.small.2.1.2 ai;exact⟨x,hx,ai⟩⟩,h.small.2.2⟩,h.qo⟩
theorem bo.ak{au:Nat} {next:Int} {L:List bS}{q:bI}(h:bo S w b n au aA next aq L q)(hb:Below w.heap.size w w'): bo S w' b n au aA next aq L q:=h.kT (h.bg.ak hb) (Int.le_refl _)
theorem UJ{next:Int} {L:List bS}{last:Int}{x:Raw}(h:CU n next aq L last x=true): last<x.id∧x.id<next∧0≤x.aw∧x.aw<n∧(∀ y∈L,(y.aw:Int)≠x.aw)∧(x.aR=0∨aq<x.aR∧x.aR≤1099511627776):=by
 simp only[CU,Bool.and_eq_true,Bool.or_eq_true,decide_eq_true_eq,List.all_eq_true,G3,decide_eq_false_iff_not,beq_iff_eq] at h;exact h
def ru(n au:Nat)(aA next aq:Int)(l:List Raw)(w:World)(e:Ending)(w':World): Prop:=Below w.heap.size w w'∧
 match nP n au next aq l with
 | none=>e= .returned (.tuple #[.pointer none,.int .i64 180])
 | some L=>∃ b S q,e= .returned (.tuple #[.pointer (some ⟨b,0,none⟩),.int .i64 0])∧bo S w' b n au aA next aq L q∧(∀ k,S k→w.heap.size≤k)
theorem ru.no{au:Nat} {next:Int} {l:List Raw}(h:nP n au next aq l=none)(hb:Below w.heap.size w w'): ru n au aA next aq l w (.returned (.tuple #[.pointer none,.int .i64 180])) w':=by
 refine⟨hb,?_⟩;rw[h]
theorem yM(n au:Nat)(aA next aq:Int)(l:List Raw)(A:Option Addr)(cap:Nat)(w:World)(h:tP.Ct n au aA=true)(hr:Xy w A l)(hl:l.length≤17592186043904)(DL:0≤next∧next<4294967296)(Bq: ∀ x∈l,0≤x.id∧x.id<4294967296):
  Calls af 154 #[.agg #[.int .i64 n,.int .i64 au,.int .i64 aA],.int .u32 next,.int .i64 aq,.slice A l.length cap] w (ru n au aA next aq l w):=by
 have fw:=tP.lR h;have sZ:1≤n∧n≤1024:=ai;have aai:1≤au∧au≤4096:=ai;have uk:=aa h;have HR:=aa hr;have MX:=aa Bq;clear h hr fw Bq;go_enter Tryz.func154,Tryz.ntmps154;go_wp2_with fail;have hb1:Below w.heap.size w (w.alloc (.cells #[.int .i64 n,.int .i64 au,.int .i64 aA] 80)):=ay (ar _ _) _;have bp:aG (w.alloc (.cells #[.int .i64 n,.int .i64 au,.int .i64 aA] 80)) w.heap.size 80 #[.int .i64 n,.int .i64 au,.int .i64 aA]:=aG.fresh w _ _;obtain⟨w1,a8⟩:=ae (w.alloc (.cells #[.int .i64 n,.int .i64 au,.int .i64 aA] 80));obtain⟨sh,uI⟩:=ae w.heap.size;rw[a8] at hb1 bp ⊢;have bA:=aa hb1;clear hb1 a8;rw[uI] at bp ⊢;refine(O4 n au aA w1 uk.o).mono ?_;rintro e w2 ⟨b,S,q,rfl,cL,hS,hb2⟩;have gZ:=bp.ah hb2;have agX: ¬sh=b:=by
  have h1:=hS b cL.bg.bB.1;have h2:=bp.lt;omega
 have z1:=gZ.cl 1;have x4:w2.cell? ⟨b,4,none⟩=some (.int .i64 0):=cL.bg.own.cell 4;have x5:w2.cell? ⟨b,5,none⟩=some (.int .u32 1):=cL.bg.own.cell 5;have m4:=cL.bg.own.mark 4;have m5:=cL.bg.own.mark 5;have hbl:=cL.bg.own.lt;have o9:=av bA.o hb2;have fC:=aa cL;have HS:=aa hS;have cu:=aa o9;have Hj:=aa uI;have Hk:=aa (show w.heap.size≤w1.heap.size from bA.o.size);clear cL hS hb2 o9 bp gZ bA uI;cases c0:decide (next<1)
 case true=>
  have HN:=aa (show nP n au next aq l=none from if_pos (.inl (of_decide_eq_true c0)));go_wp2_with fail;go_ret2;exact ru.no HN.o cu.o
 case false=>
  cases c1:decide (aq<0)
  case true=>
   have HN:=aa (show nP n au next aq l=none from if_pos (.inr (.inl (of_decide_eq_true c1))));go_wp2_with fail;go_ret2;exact ru.no HN.o cu.o
  case false=>
   cases c2:decide (1099511627776<aq)
   case true=>
    have HN:=aa (show nP n au next aq l=none from if_pos (.inr (.inr (.inl (of_decide_eq_true c2)))));go_wp2_with fail;go_ret2;exact ru.no HN.o cu.o
   case false=>
    cases c3:decide (au<l.length)
    case true=>
     have c3':decide ((au:Int)<(l.length:Int))=true:=decide_eq_true (by have:=of_decide_eq_true c3;omega);have HN:=aa (show nP n au next aq l=none from if_pos (.inr (.inr (.inr (of_decide_eq_true c3)))));go_wp2_with fail;go_ret2;exact ru.no HN.o cu.o
    case false=>
     have c3':decide ((au:Int)<(l.length:Int))=false:=decide_eq_false (by have:=of_decide_eq_false c3;omega);have hBO:nP n au next aq l=RQ n next aq [] 0 l:=if_neg (by
      have h0:=of_decide_eq_false c0;have h1:=of_decide_eq_false c1;have h2:=of_decide_eq_false c2;have h3:=of_decide_eq_false c3;rintro(h|h|h|h)
      ·exact h0 h
      ·exact h1 h
      ·exact h2 h
      exact h3 h)
     have pg:=aa hBO;have Yk:=aa (And.intro (of_decide_eq_false c1) (And.intro (of_decide_eq_false c2) (of_decide_eq_false c3)));clear hBO;go_wp2_with fail;have T3:=((aI.refl (fun j=>j=b) w2).put (p:=⟨b,5,none⟩) (.inl rfl) (.int .u32 next)).put (p:=⟨b,4,none⟩) (.inl rfl) (.int .i64 aq);have VQ:=(fC.o.bg.own.put 5 (.int .u32 next)).put 4 (.int .i64 aq);obtain⟨w3,hw3⟩:=ae ((w2.setCell ⟨b,5,none⟩ (.int .u32 next)).setCell ⟨b,4,none⟩ (.int .i64 aq));rw[hw3] at T3 VQ ⊢;have HHN:=aa (show q.hn≤0 from by
      have h1:=fC.o.small.2.1;rcases Int.lt_or_le q.hn 1 with h2|h2
      ·omega
      obtain⟨x,hx,_⟩:=h1.2 ai;cases hx)
     have ahK:bo S w3 b n au aA next aq [] q:=fC.o.kT (fC.o.bg.kT T3 VQ) (by have:=of_decide_eq_false c0;omega);have Wu:Below w.heap.size w w3:=aI.nz cu.o T3 (fun j hj=>by have:j=b:=hj;have h1:=HS.o b fC.o.bg.bB.1;have h2:=Hk.o;omega);have Y7: ∀ j,S j→w.heap.size≤j:=fun j hj=>Nat.le_trans Hk.o (HS.o j hj)
     clear hw3 z1 x4 x5 m4 m5 hbl T3 VQ fC cu HS;have C7:(l.length:Int)≤17592186043904:=ai;go_loopw [12,50] (fun la iv wr=>∃ (k:Nat) (L:List bS) (last:Int) (T:Nat→Prop) (q':bI),k≤l.length∧la= .int .u32 last∧iv= .int .i64 k∧bo T wr b n au aA next aq L q'∧(∀ j,T j→w.heap.size≤j)∧Below w.heap.size w wr∧RQ n next aq L last (l.drop k)=RQ n next aq [] 0 l∧(∀ y∈L,y.id≤last)∧L.length≤k∧q'.hn≤last) (fun _ iv _=>(l.length - intOf iv).toNat)
     case atStart=>exact⟨0,[],0,S,q,cx _,rfl,rfl,ahK,Y7,Wu,rfl,(fun y hy=>by cases hy),aY _,HHN.o⟩
     case round=>
      obtain⟨k,L,last,T,q',hk,rfl,rfl,cL,hT,hB,QK,Jd,hLk,V5⟩:=hrel;clear ahK Wu Y7 Hk;have fC:=aa cL;have HT:=aa hT;have HB:=aa hB;have MR:=aa QK;have adq:=aa Jd;clear cL hT hB QK Jd;by_cases OG:k<l.length
      ·have yF:(k:Int)<(l.length:Int):=by omega
       have DN:(0:Int)≤(k:Int):=ai;have hne:l≠ []:=fun e=>by rw[e] at OG;simp at OG
       obtain⟨g,off,hA,pU,ag4⟩:=HR.o hne;subst hA;have C9:au<l.length→False:=Yk.o.2.2;have V9:l.drop k=l.getD k ⟨0,0,0⟩::l.drop (k+1):=by rw[List.drop_eq_getElem_cons OG];simp[bR,OG]
       have ahi:l.getD k ⟨0,0,0⟩∈l:=by simp[bR,OG]
       have Mc:=MX.o _ ahi;have hrg:wr.rangeAt g (off+k*3) (agu (l.getD k ⟨0,0,0⟩)):=fun j v hj=>(HB.o.cell (p:=⟨g,off+k*3+j,none⟩) pU).trans (ag4 k OG j v hj)
       obtain⟨x,hx⟩:=ae (l.getD k ⟨0,0,0⟩);rw[hx] at V9 Mc hrg;obtain⟨id,aw,aR⟩:=x;have ag6:wr.rangeAt g (off+k*3) [.int .u32 id,.int .i64 aw,.int .i64 aR]:=hrg;have F6:=aa ag6;have adv:=aa V9;have alq:=aa Mc;have alw:=aa C9;clear hrg ag6 V9 Mc ahi ag4 hx hne C9;go_wp2_with (refine wpList_load_mid rfl 171 _ rfl g (off+k*3) rfl [.int .u32 id,.int .i64 aw,.int .i64 aR] _ F6.o wC rfl rfl ?_);have hb4:Below wr.heap.size wr (wr.alloc (.cells #[.int .u32 id,.int .i64 aw,.int .i64 aR] 171)):=ay (ar _ _) _;have oa:aG (wr.alloc (.cells #[.int .u32 id,.int .i64 aw,.int .i64 aR] 171)) wr.heap.size 171 #[.int .u32 id,.int .i64 aw,.int .i64 aR]:=aG.fresh wr _ _;obtain⟨w4,hw4⟩:=ae (wr.alloc (.cells #[.int .u32 id,.int .i64 aw,.int .i64 aR] 171));obtain⟨xb,yX⟩:=ae wr.heap.size;rw[hw4] at hb4 oa ⊢;have afU:=aa (fC.o.ak hb4);have gj:=HB.dQ hb4;have hTx: ¬T xb:=fun h=>by have h1:=fC.o.bg.lt xb h;omega
       rw[yX] at oa ⊢;clear hw4 yX hb4;refine(aeq T b n au aA next aq L q' ⟨id,aw,aR⟩ last w4 afU.o).mono ?_;rintro e w5 ⟨rfl,dU⟩;have Yo:=aa (afU.o.ak dU);have eu:=gj.dQ dU;have gB:=oa.ah dU;clear oa dU afU gj;cases hm:CU n next aq L last ⟨id,aw,aR⟩
       case false=>
        have HN:=aa (show nP n au next aq l=none from by
         rw[pg.o,←MR.o,adv.o];show(if CU n next aq L last ⟨id,aw,aR⟩=true then _ else none)=none
         rw[hm];rfl)
        clear gB;go_wp2_with fail;go_ret2;exact ru.no HN.o eu.o
       case true=>
        obtain⟨h1,h2,h3,h4,h5,h6⟩:=UJ hm;have h3':0≤aw:=h3;obtain⟨i,rfl⟩: ∃ i:Nat,aw=(i:Int):=⟨aw.toNat,ai⟩;have zy:i<n:=by have h4':(i:Int)<(n:Int):=h4;omega
        have zu:toB ⟨id,(i:Int),aR⟩=⟨id,i,aR⟩:=by simp[toB]
        have hstep:RQ n next aq (L++ [⟨id,i,aR⟩]) id (l.drop (k+1))=RQ n next aq [] 0 l:=by
         rw[←MR.o,adv.o];show _=(if CU n next aq L last ⟨id,(i:Int),aR⟩=true then RQ n next aq (L++ [toB ⟨id,(i:Int),aR⟩]) id (l.drop (k+1))else none)
         rw[hm,if_pos rfl,zu]
        have V1: ∀ y∈L++ [(⟨id,i,aR⟩:bS)],y.id≤id:=fun y hy=>by
         rcases List.mem_append.1 hy with hy|hy
         ·have:=adq.o y hy;have R2:last<id:=h1;omega
         obtain rfl:y=⟨id,i,aR⟩:=oX;exact Int.le_refl _
        have mH: ∀ y∈L,y.id≠id:=fun y hy=>by
         have:=adq.o y hy;have R2:last<id:=h1;omega
        have kC: ∀ y∈L,y.aw≠i:=fun y hy e=>h5 y hy mA
        have hlc:L.length<au:=by
         have: ¬au<l.length:=alw.o;omega
        have LZ:0≤aR∧aR≤1099511627776:=by
         have h6':aR=0∨aq<aR∧aR≤1099511627776:=h6;have hc1:=Yk.o.1;omega
        have ahZ:=Uo T b n au aA next aq L ⟨id,i,aR⟩ q' w5 Yo.o alq.o mH kC zy hlc LZ ⟨Int.lt_of_le_of_lt V5 h1,Int.le_of_lt h2⟩;have Rs:=aa ahZ;have aiI:=aa hstep;have alp:=aa h1;have afJ:=aa V1;have y0:=gB.cl 0;have y1:w5.cell? ⟨xb,1,none⟩=some (.int .i64 (i:Int)):=gB.cell 1;have y2:=gB.cl 2;have pj:=aa gB;clear h1 h2 h3 h4 h5 h6 h3' zu hstep V1 mH kC hlc LZ ahZ gB;go_wp2_with fail;refine Rs.o.mono ?_;rintro e w6 ⟨⟨v6,rfl⟩,⟨q6,hq6,hn6⟩,pW⟩;have KB:=aa (show q6.hn≤id from by have R2:last<id:=alp.o;omega);have yG:=pW.arr pj.o hTx;have Wt:Below w.heap.size w w6:=aI.nz eu.o pW (fun j hj=>HT.o j hj);have z0:=yG.cl 0;have KA:=aa hq6;have iL:=aa Wt;have HZ5:=aa eu.o.size;clear y0 y1 y2 hq6 hn6 pW yG Wt pj eu Yo HB fC MR;go_wp2_with fail;go_roundw
        case rel=>exact⟨k+1,L++ [⟨id,i,aR⟩],id,_,q6,ai,rfl,by go_num,KA.o,(fun j hj=>by rcases hj.1 with h|h;exact HT.o j h;exact Nat.le_trans HZ5.o h),iL.o,aiI.o,afJ.o,fZ,KB.o⟩
        case measure=>simp[intOf];omega
      obtain rfl:k=l.length:=ai;have QK:=MR.o;rw[List.drop_length] at QK;have aiJ:=aa (show nP n au next aq l=some L from pg.o.trans QK.symm);clear QK;go_wp2_with fail;go_ret2;refine⟨HB.o,?_⟩;rw[aiJ.o];exact⟨b,T,q',rfl,fC.o,HT.o⟩
end Bk
end
end
section
namespace Bk
theorem XN(p g n bT len aT:Nat)(f:Nat→km.Slot)(w:World)(h:km.eW w p g n bT len aT f):
  Calls af 108 #[.pointer (some ⟨p,0,none⟩)] w fun e w'=>e= .returned (.int .i64 len)∧w'=w:=by
 obtain⟨steps,hI⟩:=h.cw;have x0:w.cell? ⟨p,0,none⟩=some (.slice (some ⟨g,0,none⟩) n n):=hI.own.cell 0;have x2:w.cell? ⟨p,2,none⟩=some (.int .i64 len):=hI.own.cell 2;clear h hI;go_enter Tryz.func108,Tryz.ntmps108;go_wp2_with fail;refine ag (km.fQ p g n w x0) ?_;go_wp2_with fail;go_ret;exact⟨rfl,rfl⟩
variable{S:Nat→Prop}{w:World}{b n:Nat}{aA aq:Int}
theorem uS{au:Nat} {next:Int} {len:Nat}{q:bI}(h:cG S w b n au aA next aq len q):
  Calls af 41 #[.pointer (some ⟨b,0,none⟩)] w fun e w'=>e= .returned (.int .i64 len)∧w'=w:=by
 have x7:w.cell? ⟨b,7,none⟩=some (.pointer (some ⟨q.ip,0,none⟩)):=h.own.cell 7;have HT:=aa (cY b true w (h.own.cell 3));have HI:=aa (XN q.ip q.ig q.m au len q.gr q.f w h.ids);clear h;go_enter Tryz.func41,Tryz.ntmps41;go_wp2_with fail;refine ag HT.o ?_;go_wp2_with fail;refine ag HI.o ?_;go_wp2_with fail;go_ret;exact⟨rfl,rfl⟩
theorem vY{au:Nat} {next:Int} {len:Nat}{q:bI}(h:cG S w b n au aA next aq len q):
  Calls af 297 #[.pointer (some ⟨b,0,none⟩)] w fun e w'=>e= .returned (.int .u32 next)∧w'=w:=by
 have x7:w.cell? ⟨b,5,none⟩=some (.int .u32 next):=h.own.cell 5;have HT:=aa (cY b true w (h.own.cell 3));clear h;go_enter Tryz.func297,Tryz.ntmps297;go_wp2_with fail;refine ag HT.o ?_;go_wp2_with fail;go_ret;exact⟨rfl,rfl⟩
theorem wu{au:Nat} {next:Int} {len:Nat}{q:bI}(h:cG S w b n au aA next aq len q):
  Calls af 16 #[.pointer (some ⟨b,0,none⟩)] w fun e w'=>e= .returned (.int .i64 aq)∧w'=w:=by
 have x7:w.cell? ⟨b,4,none⟩=some (.int .i64 aq):=h.own.cell 4;have HT:=aa (cY b true w (h.own.cell 3));clear h;go_enter Tryz.func16,Tryz.ntmps16;go_wp2_with fail;refine ag HT.o ?_;go_wp2_with fail;go_ret;exact⟨rfl,rfl⟩
end Bk
end
section
namespace Bk
theorem afA(p g n bT len aT:Nat)(id v:Int)(f:Nat→Slot)(w:World)(h:eW w p g n bT len aT f)(hid:0≤id∧id<4294967296)(ht: ∃ i,i<n∧(f i).state=1∧(f i).id=id∧(f i).v=v):
  Calls af 160 #[.pointer (some ⟨p,0,none⟩),.int .u32 id] w fun e w'=>e= .returned (.tuple #[.int .i64 v,.bool true])∧eW w' p g n bT len aT f∧aI (· =p) w w':=by
 obtain⟨steps,hI⟩:=h.cw;obtain⟨i,hi,hs,he,hv⟩:=ht;have hsk:vC f n id=((i:Int),true):=Lj;have x0:w.cell? ⟨p,0,none⟩=some (.slice (some ⟨g,0,none⟩) n n):=hI.own.cell 0;have hn:=h.bj;have HF:=Find p g n bT len aT steps id f w hI ai hn.2.2.2.2 hid h.tab.states;have hF:Calls af 245 #[.pointer (some ⟨p,0,none⟩),.int .u32 id] w fun e w'=>e= .returned (.tuple #[.int .i64 (i:Int),.bool true])∧(∃ s,dR w' p g n bT len aT s f)∧aI (· =p) w w':=HF.mono fun e w' h1=>by
  exact UO
 have HH:=aa h;have HG:=aa hF;have Md:(i:Int)<(n:Int):=ai;have CB:(0:Int)≤(i:Int):=ai;have HV:=aa hv;clear h hF HF hI hsk hs he hv;go_enter Tryz.func160,Tryz.ntmps160;go_wp2_with fail;refine ag (fQ p g n w x0) ?_;go_wp2_with fail;refine HG.o.mono ?_;rintro e w1 ⟨rfl,⟨s,kV⟩,sx⟩;have y0:w1.cell? ⟨p,0,none⟩=some (.slice (some ⟨g,0,none⟩) n n):=kV.own.cell 0;have y2:w1.cell? ⟨g,i*3+2,none⟩=some (.int .i64 v):=by rw[←HV.o];exact(kV.rows.cell hi).2.2
 exact ab6
theorem Ri(p g n bT len aT:Nat)(id:Int)(f:Nat→Slot)(w:World)(h:eW w p g n bT len aT f)(hid:0≤id∧id<4294967296)(ht: ∀ i,i<n→(f i).state=1→(f i).id≠id):
  Calls af 160 #[.pointer (some ⟨p,0,none⟩),.int .u32 id] w fun e w'=>e= .returned (.tuple #[.int .i64 0,.bool false])∧eW w' p g n bT len aT f∧aI (· =p) w w':=by
 obtain⟨steps,hI⟩:=h.cw;have hn:=h.bj;obtain⟨i,hi,hsk,_⟩:=km.xD h.tab (by have:=h.full;omega) ht;have x0:w.cell? ⟨p,0,none⟩=some (.slice (some ⟨g,0,none⟩) n n):=hI.own.cell 0;have HF:=Find p g n bT len aT steps id f w hI ai hn.2.2.2.2 hid h.tab.states;have hF:Calls af 245 #[.pointer (some ⟨p,0,none⟩),.int .u32 id] w fun e w'=>e= .returned (.tuple #[.int .i64 (i:Int),.bool false])∧(∃ s,dR w' p g n bT len aT s f)∧aI (· =p) w w':=HF.mono fun e w' h1=>by
  exact UP
 have HH:=aa h;have HG:=aa hF;clear h hF HF hI hsk ht;go_enter Tryz.func160,Tryz.ntmps160;go_wp2_with fail;refine ag (fQ p g n w x0) ?_;go_wp2_with fail;refine HG.o.mono ?_;rintro e w1 ⟨rfl,⟨s,kV⟩,sx⟩;exact ab6
variable{S:Nat→Prop}{w:World}{b n:Nat}{aA aq:Int}
theorem bo.looked{w':World} {au:Nat} {next:Int} {L:List bS}{q:bI}(h:bo S w b n au aA next aq L q)(hi:eW w' q.ip q.ig q.m au L.length q.gr q.f)(ht:aI (· =q.ip) w w'): bo S w' b n au aA next aq L q:=
 h.kT (h.bg.vN (ht.mono fun _ _ e=>.inl e) hi)
def af5(S:Nat→Prop)(w:World)(b n au:Nat)(aA next aq:Int)(L:List bS)(q:bI)(x:bS)(e:Ending)(w':World): Prop:=
 e= .returned (.tuple #[.agg #[.int .u32 x.id,.int .i64 x.aw,.int .i64 x.aR],.int .i64 0])∧bo S w' b n au aA next aq L q∧aI (· =q.ip) w w'
theorem Cj{au:Nat} {next:Int} {L:List bS}{q:bI}(h:bo S w b n au aA next aq L q)(x:bS)(hx:x∈L)(hid:0≤x.id∧x.id<4294967296):
  Calls af 71 #[.pointer (some ⟨b,0,none⟩),.int .u32 x.id] w (af5 S w b n au aA next aq L q x):=by
 obtain⟨rh,kU⟩:=h.cw x hx;obtain⟨j,hj,j1,j2,j3⟩:=h.listed x hx;have hn:=h.small.2.2.2;obtain⟨id,aw,aR⟩:=x;simp only at hid rh kU j2 j3;have hb1:=ay (ar w.heap.size w) (.cells #[.int .u32 0,.int .i64 0,.int .i64 0] 171);have bp:=aG.fresh w 171 #[.int .u32 0,.int .i64 0,.int .i64 0];obtain⟨w1,a8⟩:=ae (w.alloc (.cells #[.int .u32 0,.int .i64 0,.int .i64 0] 171));obtain⟨r,hr⟩:=ae w.heap.size;have sK:=aa a8;have yO:=aa hr;rw[a8] at hb1 bp;rw[hr] at bp;have h1:=h.ak hb1;have HIG:=aa (afA q.ip q.ig q.m au L.length q.gr id aw q.f w1 h1.bg.ids hid ⟨j,hj,j1,j2,j3⟩);have HT:=aa (cY b true w1 (h1.bg.own.cell 3));have Pf:=aa kU;have HH1:=aa h1;have bA:=aa hb1;have dF:=aa bp;have HH:=aa h;have HHX:=aa hx;have x7:w1.cell? ⟨b,7,none⟩=some (.pointer (some ⟨q.ip,0,none⟩)):=h1.bg.own.cell 7;have hs1:(aw:Int)<(n:Int):=ai;have hs0:(0:Int)≤(aw:Int):=ai;clear h h1 hb1 bp j1 j2 j3 kU a8 hr hx;go_enter Tryz.func71,Tryz.ntmps71;go_wp2_with fail;rw[sK.o,yO.o];refine ag HT.o ?_;go_wp2_with fail;refine HIG.o.mono ?_;rintro e w2 ⟨rfl,rj,jE⟩;have h2:=HH1.o.looked rj jE;have hne: ¬r=q.ip:=fun e=>by
  have:=HH.o.bg.lt q.ip HH.o.bg.bB.2.2.2.1;have h9:=yO.o;omega
 have jB:=aa (jE.arr dF.o hne);have HH2:=aa h2;have gI:=aa (show aI (· =q.ip) w w2 from((aI.refl _ w).ak bA.o).trans jE);have y8:w2.cell? ⟨b,8,none⟩=some (.slice (some ⟨q.sg,0,none⟩) n q.sc):=h2.bg.own.cell 8;clear rj jE h2;have hrg:=HH2.o.bg.gh;have F6:=aa hrg;have hq:jf (q.sb aw)= [.int .u32 id,.int .i64 (aw:Int),.int .i64 aR]:=by rw[Pf.o];rfl
 have L9:=F6.o.range (fun _=>rfl) (show aw<n from rh);rw[hq] at L9;have HQ:=aa L9;clear hrg hq L9;go_wp2_with (first|(refine wpList_load_mid rfl 171 _ rfl q.sg (aw*3) rfl _ _ HQ.o wC rfl rfl ?_)|(refine aj rfl 171 _ _ rfl r 171 _ #[.int .u32 id,.int .i64 (aw:Int),.int .i64 aR] jB.o rfl rfl rfl eV qR ?_;intro w3 dE hg3 hs3;have pC:=aa dE;have zF:=aa hg3;clear dE hg3 hs3));exact acs
def ajC(S:Nat→Prop)(w:World)(b n au:Nat)(aA next aq:Int)(L:List bS)(q:bI)(e:Ending)(w':World): Prop:=
 e= .returned (.tuple #[.agg #[.int .u32 0,.int .i64 0,.int .i64 0],.int .i64 171])∧bo S w' b n au aA next aq L q∧aI (· =q.ip) w w'
theorem Yu{au:Nat} {next:Int} {L:List bS}{q:bI}(h:bo S w b n au aA next aq L q)(id:Int)(hx: ∀ x∈L,x.id≠id)(hid:0≤id∧id<4294967296):
  Calls af 71 #[.pointer (some ⟨b,0,none⟩),.int .u32 id] w (ajC S w b n au aA next aq L q):=by
 have hb1:=ay (ar w.heap.size w) (.cells #[.int .u32 0,.int .i64 0,.int .i64 0] 171);have bp:=aG.fresh w 171 #[.int .u32 0,.int .i64 0,.int .i64 0];obtain⟨w1,a8⟩:=ae (w.alloc (.cells #[.int .u32 0,.int .i64 0,.int .i64 0] 171));obtain⟨r,hr⟩:=ae w.heap.size;have sK:=aa a8;have yO:=aa hr;rw[a8] at hb1 bp;rw[hr] at bp;have h1:=h.ak hb1;have HIG:=aa (Ri q.ip q.ig q.m au L.length q.gr id q.f w1 h1.bg.ids hid (fun i hi hs e=>by
  obtain⟨x,hx1,e2⟩:=h.under i hi hs;exact hx x hx1 (e2.symm.trans e)))
 have HT:=aa (cY b true w1 (h1.bg.own.cell 3));have HH1:=aa h1;have bA:=aa hb1;have dF:=aa bp;have HH:=aa h;have x7:w1.cell? ⟨b,7,none⟩=some (.pointer (some ⟨q.ip,0,none⟩)):=h1.bg.own.cell 7;clear h h1 hb1 bp a8 hr hx;go_enter Tryz.func71,Tryz.ntmps71;go_wp2_with fail;rw[sK.o,yO.o];refine ag HT.o ?_;go_wp2_with fail;refine HIG.o.mono ?_;rintro e w2 ⟨rfl,rj,jE⟩;have h2:=HH1.o.looked rj jE;have hne: ¬r=q.ip:=fun e=>by
  have:=HH.o.bg.lt q.ip HH.o.bg.bB.2.2.2.1;have h9:=yO.o;omega
 have jB:=aa (jE.arr dF.o hne);have HH2:=aa h2;have gI:=aa (show aI (· =q.ip) w w2 from((aI.refl _ w).ak bA.o).trans jE);clear rj jE h2;go_wp2_with (refine aj rfl 171 _ _ rfl r 171 _ #[.int .u32 0,.int .i64 0,.int .i64 0] jB.o rfl rfl rfl eV qR ?_;intro w3 dE hg3 hs3;have pC:=aa dE;have zF:=aa hg3;clear dE hg3 hs3);exact acs
end Bk
end
section
namespace En
structure dI where
 n:Nat
 au:Nat
 aA:Nat
 next:Int
 aq:Int
 L:List bS
def dI.find(b:dI)(id:Int): Option bS:=b.L.find? fun x=>decide (x.id=id)
def dI.on(b:dI)(aw:Int): Option bS:=b.L.find? fun x=>decide ((x.aw:Int)=aw)
def dI.hold(b:dI)(r:Rec): Int × dI:=
 if r.id≠b.next then(2,b)else if(b.n:Int)≤r.aw then(140,b)else if r.aR≤b.aq then(173,b)else if(b.on r.aw).isSome=true then(170,b)
 else if b.au≤b.L.length∨b.next=4294967295 then(6,b)else(0,{b with L:=b.L++ [⟨r.id,r.aw.toNat,r.aR⟩],next:=b.next+1})
def dI.tick(b:dI)(aq:Int): Int × dI:=
 if aq≤b.aq then(173,b)else(0,{b with aq:=aq,L:=b.L.filter fun x=>decide (x.aR=0)||decide (aq<x.aR)})
def dI.apply(b:dI)(r:Rec): Int × dI:=
 if r.ok=false then(160,b)else if r.ax=1 then b.hold r else if r.ax=5 then b.tick r.aq
 else match b.find r.id with
 | none=>(171,b)
 | some x=>
  if r.ax=2 then(0,{b with L:=b.L.map fun y=>if y.id=r.id then {y with aR:=0}else y})
  else if r.ax=3 then(0,{b with L:=b.L.filter fun y=>!decide (y.id=r.id)})
  else if(b.n:Int)≤r.aw then(140,b)else if(x.aw:Int)=r.aw then(0,b)else if(b.on r.aw).isSome=true then(170,b)
  else(0,{b with L:=b.L.map fun y=>if y.id=r.id then {y with aw:=r.aw.toNat}else y})
structure dI.Ok(b:dI): Prop where
 n:1≤b.n∧b.n≤1024
 au:1≤b.au∧b.au≤4096
 aA:1≤b.aA∧b.aA≤64
 next:1≤b.next∧b.next<4294967296
 aq:0≤b.aq∧b.aq≤1099511627776
 len:b.L.length≤b.au
 Uj:b.L.Pairwise fun x y=>x.id<y.id
 ids: ∀ x∈b.L,1≤x.id∧x.id<b.next
 gh: ∀ x∈b.L,x.aw<b.n
 alone:b.L.Pairwise fun x y=>x.aw≠y.aw
 aR: ∀ x∈b.L,x.aR=0∨b.aq<x.aR∧x.aR≤1099511627776
def bC(b:dI)(q:Rq): Rec:=
 if q.ax=1 then⟨1,b.next,q.aw,b.aq+q.bV,0⟩else if q.ax=2 then⟨2,q.id,0,0,0⟩else if q.ax=3 then⟨3,q.id,0,0,0⟩
 else if q.ax=4 then⟨4,q.id,q.aw,0,0⟩else⟨5,0,0,0,b.aq+q.bV⟩
def dS(b:dI)(q:Rq): Bool:=match b.on q.aw with|some x=>!decide (x.id=q.id)|none=>false
def bF(b:dI)(bj:Int)(q:Rq): Int:=
 if q.ax=1 then
  if(b.n:Int)≤q.aw then 140 else if q.bV<1∨1073741824<q.bV then 2 else if 1099511627776<b.aq+q.bV then 172 else if dS b q=true then 170
  else if b.au≤b.L.length∨b.next=4294967295 then 6 else if bj<37 then 220 else 0
 else if q.ax=2∨q.ax=3 then if(b.find q.id).isNone=true then 171 else if bj<27 then 220 else 0
 else if q.ax=4 then if(b.find q.id).isNone=true then 171 else if(b.n:Int)≤q.aw then 140 else if dS b q=true then 170 else if bj<29 then 220 else 0
 else if q.bV<1∨1073741824<q.bV then 2 else if 1099511627776<b.aq+q.bV then 172 else if bj<31 then 220 else 0
def bN(q:Rq)(r:Rec): Rp:=
 if q.ax=1 then⟨q.tag,q.ax,0,r.id,0,r.aR,0⟩else if q.ax=4 then⟨q.tag,q.ax,0,0,r.aw,0,0⟩else if q.ax=7 then⟨q.tag,q.ax,0,0,0,r.aq,0⟩
 else⟨q.tag,q.ax,0,0,0,0,0⟩
def cf(q:Rq)(e:Int): Rp:=⟨q.tag,q.ax,e,0,0,0,0⟩
def dW(b:dI)(q:Rq): Rp:=
 if q.ax=5 then match b.find q.id with
  | some x=>⟨q.tag,q.ax,0,0,x.aw,x.aR,0⟩
  | none=>cf q 171
 else if q.ax=6 then(if(b.n:Int)≤q.aw then cf q 140 else match b.on q.aw with
  | some x=>⟨q.tag,q.ax,0,x.id,0,x.aR,0⟩
  | none=>cf q 171)
 else⟨q.tag,q.ax,0,0,0,0,b.L.length⟩
def xY(x:bS): By:=le x.id.toNat 4++le x.aw 2++le x.aR.toNat 8
def jT(b:dI): By:=le b.n 2++le b.au 4++le b.next.toNat 4++le b.aq.toNat 8++le b.L.length 2++(b.L.map xY).flatten
structure Es where
 up:Bool
 dev:bJ
 rg:Rg
 log:Lg
 sl:Sl
 bk:dI
 aD:List Rp
def Es.down(e:Es)(d:bJ)(l:Lg): Es:={e with up:=false,dev:=d,log:=l,aD:=[]}
def Es.ask(e:Es)(q:Rq): List Rp × Es:=([dW e.bk q],e)
def Es.bj(e:Es): Int:=(e.rg.bytes e.dev.dk.size:Int) - e.log.used
def Es.change(e:Es)(q:Rq): List Rp × Es:=
 if bF e.bk e.bj q≠0 then([cf q (bF e.bk e.bj q)],e)
 else if e.log.last=18446744073709551615 then([cf q 220],e)
 else
  let e1:Es:={e with log:=e.log.append (jb (bC e.bk q)),bk:=(e.bk.apply (bC e.bk q)).2,aD:=e.aD++ [bN q (bC e.bk q)]}
  if e1.aD.length<e.bk.aA then([],e1)
  else if(e1.log.flush e.rg e.dev).1≠0 then([],e1.down (e1.log.flush e.rg e.dev).2.2 (e1.log.flush e.rg e.dev).2.1)
  else(e1.aD,{e1 with dev:=(e1.log.flush e.rg e.dev).2.2,log:=(e1.log.flush e.rg e.dev).2.1,aD:=[]})
def counted(e:Es)(q:Rq): List Rp:=e.aD++ [⟨q.tag,q.ax,0,0,0,0,e.aD.length⟩]
def Es.flush(e:Es)(q:Rq): List Rp × Es:=
 if(e.log.flush e.rg e.dev).1≠0 then([cf q 230],e.down (e.log.flush e.rg e.dev).2.2 (e.log.flush e.rg e.dev).2.1)
 else(counted e q,{e with dev:=(e.log.flush e.rg e.dev).2.2,log:=(e.log.flush e.rg e.dev).2.1,aD:=[]})
def Es.save(e:Es)(q:Rq): List Rp × Es:=
 if(e.sl.save e.dev (jT e.bk) e.log.last).1=0 then(counted e q,{e with dev:=(e.sl.save e.dev (jT e.bk) e.log.last).2.2,log:=e.log.reset (e.sl.save e.dev (jT e.bk) e.log.last).2.1.gen,aD:=[]})
 else if(e.sl.save e.dev (jT e.bk) e.log.last).1=60 then([cf q 230],e.down (e.sl.save e.dev (jT e.bk) e.log.last).2.2 e.log)
 else([cf q (e.sl.save e.dev (jT e.bk) e.log.last).1],{e with dev:=(e.sl.save e.dev (jT e.bk) e.log.last).2.2})
def Es.rep(e:Es)(q:Rq): List Rp × Es:=
 if e.up=false then([cf q 230],e)
 else if q.ax=5∨q.ax=6∨q.ax=10 then e.ask q else if q.ax=8 then e.flush q else if q.ax=9 then e.save q else e.change q
end En
end
section
namespace En
structure bJ.kM(d:bJ): Prop where
 up:d.down=false
 ei:d.ei= -1
 ok:d.dk.Ok
structure bJ.kH(d d':bJ): Prop where
 free:d'.kM
 size:d'.dk.size=d.dk.size
 len:d'.dk.dh.length=d.dk.dh.length
variable{i:Nat}
theorem bJ.kH.refl{d:bJ}(h:d.kM): d.kH d:=⟨h,rfl,rfl⟩
theorem bJ.kH.trans{a b c:bJ}(h:a.kH b)(k:b.kH c): a.kH c:=⟨k.free,k.size.trans h.size,k.len.trans h.len⟩
theorem bJ.kM.Uz{d:bJ}(h:d.kM): d.op=(true,{d with count:=aN.wrap (d.count+1)}):=by
 unfold bJ.op;rw[if_neg Al,if_neg (by rw[h.ei];decide),if_neg (by rw[h.ei];decide)]
theorem Dk.Ok.vL{d:Dk}(h:d.Ok)(hi:i<d.dh.length): (d.look i).length=d.size:=by
 unfold Dk.look;have h1: ∀ (l:List (Nat × By)) (i:Nat) (b:By),gN l i=Option.some b→(i,b)∈l:=by
  intro l
  induction l with
  | nil=>intro i b hb;cases hb
  | cons x r ih=>
   intro i b hb;rw[gN] at hb;cases hr:gN r i with
   | some c=>rw[hr] at hb;injection hb with hb;subst hb;exact gz _ (ih i c hr)
   | none=>
    rw[hr] at hb;simp only at hb;by_cases hx:x.1=i
    ·rw[if_pos hx] at hb;injection hb with hb;subst hb;subst hx;exact jn
    rw[if_neg hx] at hb;cases hb
 cases hr:gN d.row i with
 | some b=>exact(h.aD _ (h1 _ _ _ hr)).2
 | none=>
  simp only[Option.getD_none];rw[bR,bY hi,Option.getD_some];exact h.each _ (List.getElem_mem hi)
theorem Dk.Oh{d:Dk}(hi:i<d.dh.length): d.bad (i:Int)=false:=by
 unfold Dk.bad;rw[ym,decide_eq_false_iff_not,decide_eq_false_iff_not];omega
theorem bJ.kM.NZ{d:bJ}(h:d.kM)(hi:i<d.dk.dh.length): d.read (i:Int)=(0,d.dk.look i,{d with count:=aN.wrap (d.count+1)}):=by
 unfold bJ.read;rw[h.Uz];simp only[if_true];unfold Dk.read;rw[if_neg (by rw[Dk.Oh hi];decide)];rfl
theorem bJ.kM.DA{d:bJ}(h:d.kM)(n:Int): d.kH {d with count:=n}:=⟨⟨h.up,h.ei,h.ok⟩,rfl,rfl⟩
theorem bJ.kM.Ht{d:bJ}(h:d.kM)(hi:i<d.dk.dh.length){b:By}(hb:b.length=d.dk.size):
  d.write (i:Int) b=(0,{d with dk:={d.dk with row:=d.dk.row++ [(i,b)]},count:=aN.wrap (d.count+1)}):=by
 unfold bJ.write;rw[h.Uz];simp only[if_true];unfold Dk.write;rw[if_neg (by rw[Dk.Oh hi];decide),if_pos hb];rfl
theorem bJ.kM.zV{d:bJ}(h:d.kM)(hi:i<d.dk.dh.length){b:By}(hb:b.length=d.dk.size)(n:Int): d.kH {d with dk:={d.dk with row:=d.dk.row++ [(i,b)]},count:=n}:=
 ⟨⟨h.up,h.ei,⟨h.ok.size,h.ok.some,h.ok.each,fun x hx=>by
  rcases List.mem_append.1 hx with hx|hx
  ·exact h.ok.aD x hx
  rw[List.mem_singleton] at hx;subst hx;exact⟨hi,hb⟩⟩⟩,rfl,rfl⟩
theorem ID(s b:By)(k:Nat)(h:b.length=s.length): (over s b k).length=s.length:=IE h
theorem vB(of:Nat→Nat)(size:Nat): ∀ (r:List (Nat × By)) (dh:List By) (i:Nat),(∀ b∈dh,b.length=size)→(∀ x∈r,x.1<dh.length∧x.2.length=size)→∀ b∈fe of dh i r,b.length=size
 | [],_,_,h,_=>h
 | x::r,dh,i,h,hr=>by
  rw[fe];have hx:=hr x jn;refine vB of size r _ (i+1) (fun b hb=>?_) (fun y hy=>by rw[List.length_set];exact hr y (gz _ hy));rcases List.mem_or_eq_of_mem_set hb with hb|hb
  ·exact h b hb
  subst hb;have e1:(dh.getD x.1 []).length=size:=by
   rw[bR,bY hx.1,Option.getD_some];exact h _ (List.getElem_mem hx.1)
  rw[ID _ _ _ (by rw[hx.2,e1]),e1]
theorem bJ.kM.Zz{d:bJ}(h:d.kM): d.sync=(0,{d with dk:=d.dk.settle (fun _=>d.dk.size),count:=aN.wrap (d.count+1)}):=by
 unfold bJ.sync;rw[h.Uz];simp only[if_true]
theorem bJ.kM.Dt{d:bJ}(h:d.kM): d.sync.1=0∧d.kH d.sync.2∧d.sync.2.dk.row= []:=by
 rw[h.Zz];refine⟨rfl,⟨⟨h.up,h.ei,⟨h.ok.size,?_,?_,fun x hx=>by cases hx⟩⟩,rfl,oC _ _ _ _⟩,rfl⟩
 ·show 1≤(fe _ d.dk.dh 0 d.dk.row).length∧(fe _ d.dk.dh 0 d.dk.row).length≤65536
  rw[oC];exact h.ok.some
 exact vB _ _ _ _ _ h.ok.each h.ok.aD
structure Rg.In(g:Rg)(d:bJ): Prop where
 some:1≤g.count
 fits:g.from_+g.count≤d.dk.dh.length
theorem Rg.In.qi{g:Rg}{d d':bJ}(h:g.In d)(k:d.kH d'): g.In d':=⟨h.some,by rw[k.len];exact h.fits⟩
theorem uD{size:Nat}(hs:1≤size)(c:Nat): ∀ (k at_ n:Nat),at_+n≤c*size→∀ x∈pieces size k at_ n,x.s<c∧x.f<x.t∧x.t≤size
 | 0,_,_,_,x,hx=>by cases hx
 | k+1,at_,n,h,x,hx=>by
  rw[pieces] at hx;by_cases h0:n=0
  ·rw[if_pos h0] at hx;cases hx
  rw[if_neg h0] at hx;have hm:at_ % size<size:=Nat.mod_lt _ ai;have hd:=Nat.div_add_mod at_ size;rcases List.mem_cons.1 hx with rfl|hx
  ·refine⟨?_,?_,Nat.min_le_left _ _⟩
   ·show at_ / size<c
    rw[Nat.div_lt_iff_lt_mul ai];omega
   show at_ % size<min size (at_ % size+n)
   omega
  refine uD hs c k _ _ ?_ x hx;have:min size (at_ % size+n)≤at_ % size+n:=Nat.min_le_right _ _;omega
theorem AZ{size:Nat}(hs:1≤size): ∀ (k at_ n:Nat),n≤k→((pieces size k at_ n).map fun x=>x.t - x.f).sum=n
 | 0,_,n,h=>by
  have:n=0:=ai;subst this;rfl
 | k+1,at_,n,h=>by
  rw[pieces];by_cases h0:n=0
  ·rw[if_pos h0];subst h0;rfl
  rw[if_neg h0,List.map_cons,List.sum_cons];have hm:at_ % size<size:=Nat.mod_lt _ ai;rw[AZ hs k _ _ ai];show min size (at_ % size+n) - at_ % size+_=n
  omega
theorem Ss{g:Rg}{d:bJ}{x:Piece}{b:By}(h:d.kM)(hg:g.In d)(hx:x.s<g.count∧x.f<x.t∧x.t≤d.dk.size)(hb:x.t - x.f≤b.length): (Et g d x b).1=0∧d.kH (Et g d x b).2:=by
 have hi:g.from_+x.s<d.dk.dh.length:=by have:=hg.fits;omega
 unfold Et;by_cases c:x.t - x.f<d.dk.size
 ·rw[if_pos c,h.NZ hi];simp only[if_true];have hl:=h.ok.vL hi;have h1:=h.DA (aN.wrap (d.count+1));have hb2:((d.dk.look (g.from_+x.s)).take x.f++b.take (x.t - x.f)++(d.dk.look (g.from_+x.s)).drop x.t).length=d.dk.size:=by simp only[bZ,List.length_take,List.length_drop,hl];omega
  rw[h1.free.Ht hi hb2];exact⟨rfl,h1.trans (h1.free.zV hi hb2 _)⟩
 rw[if_neg c];have hb2:(b.take (x.t - x.f)).length=d.dk.size:=EN;rw[h.Ht hi hb2];exact⟨rfl,h.zV hi hb2 _⟩
theorem Hv{g:Rg}: ∀ (ps:List Piece) (d:bJ) (b:By),d.kM→g.In d→(∀ x∈ps,x.s<g.count∧x.f<x.t∧x.t≤d.dk.size)→(ps.map fun x=>x.t - x.f).sum≤b.length→(KH g d ps b).1=0∧d.kH (KH g d ps b).2
 | [],d,b,h,_,_,_=>⟨rfl,bJ.kH.refl h⟩
 | x::ps,d,b,h,hg,hp,hs=>by
  rw[List.map_cons,List.sum_cons] at hs;obtain⟨h1,h2⟩:=Ss h hg (hp x jn) (b:=b) ai;rw[KH,if_pos h1];obtain⟨h3,h4⟩:=Hv ps (Et g d x b).2 (b.drop (x.t - x.f)) h2.free (hg.qi h2) (fun y hy=>by rw[h2.size];exact hp y (gz _ hy)) (by rw[List.length_drop];omega);exact⟨h3,h2.trans h4⟩
theorem Rg.zW{g:Rg}{d:bJ}(h:d.kM)(hg:g.In d)(at_:Nat)(b:By)(hb:at_+b.length≤g.bytes d.dk.size): (g.write d at_ b).1=0∧d.kH (g.write d at_ b).2:=by
 unfold Rg.write;have nK:g.bad d.dk.size (at_:Int) b.length=false:=by
  unfold Rg.bad;simp only[ym,decide_eq_false_iff_not];omega
 rw[if_neg (by rw[nK];decide)];rw[gY];exact Hv _ d b h hg (uD h.ok.size.1 g.count _ _ _ hb) (by rw[AZ h.ok.size.1 _ _ _ (aY _)];exact aY _)
theorem IA{g:Rg}: ∀ (ps:List Piece) (d:bJ) (acc:By),d.kM→g.In d→(∀ x∈ps,x.s<g.count∧x.f<x.t∧x.t≤d.dk.size)→(G8 g d ps acc).1=0∧d.kH (G8 g d ps acc).2.2∧(G8 g d ps acc).2.2.dk=d.dk
 | [],d,acc,h,_,_=>⟨rfl,bJ.kH.refl h,rfl⟩
 | x::ps,d,acc,h,hg,hp=>by
  have hi:g.from_+x.s<d.dk.dh.length:=by have:=hg.fits;have:=hp x jn;omega
  rw[G8,h.NZ hi,if_pos rfl];have h1:=h.DA (aN.wrap (d.count+1));obtain⟨h3,h4,h5⟩:=IA ps {d with count:=aN.wrap (d.count+1)} (acc++((d.dk.look (g.from_+x.s)).take x.t).drop x.f) h1.free (hg.qi h1) (fun y hy=>hp y (gz _ hy));exact⟨h3,h1.trans h4,h5⟩
theorem Rg.DB{g:Rg}{d:bJ}(h:d.kM)(hg:g.In d)(at_ n:Nat)(hb:at_+n≤g.bytes d.dk.size): (g.read d at_ n).1=0∧d.kH (g.read d at_ n).2.2∧(g.read d at_ n).2.2.dk=d.dk:=by
 unfold Rg.read;have nK:g.bad d.dk.size (at_:Int) (n:Int)=false:=by
  unfold Rg.bad;simp only[ym,decide_eq_false_iff_not];omega
 rw[if_neg (by rw[nK];decide)];rw[gY,gY];exact IA _ d [] h hg (uD h.ok.size.1 g.count _ _ _ hb)
theorem Lg.nM{l:Lg}{g:Rg}{d:bJ}(h:d.kM)(hg:g.In d)(hl:l.done≤l.eC.length)(hu:l.used≤g.bytes d.dk.size)(hr:d.dk.row= []):
  (l.flush g d).1=0∧(l.flush g d).2.1= {l with done:=l.eC.length}∧d.kH (l.flush g d).2.2∧(l.flush g d).2.2.dk.row= []:=by
 unfold Lg.flush;by_cases c:l.done=l.eC.length
 ·rw[if_pos c];refine⟨rfl,?_,bJ.kH.refl h,hr⟩;show l= {l with done:=l.eC.length}
  rw[←c]
 ·rw[if_neg c];obtain⟨h1,h2⟩:=Rg.zW h hg l.cz.length l.aD (by rw[←l.uo hl];exact hu);obtain⟨h3,h4,h5⟩:=h2.free.Dt;rw[if_pos h1,if_pos h3];exact⟨rfl,rfl,h2.trans h4,h5⟩
theorem Bt{g:Rg}{d:bJ}(h:d.kM)(hg:g.In d): (dc g d).1=0∧d.kH (dc g d).2.2∧(dc g d).2.2.dk=d.dk∧(dc g d).2.1.len≤g.bytes d.dk.size - d.dk.size:=by
 obtain⟨h1,h2,h3⟩:=Rg.DB h hg 0 d.dk.size (by unfold Rg.bytes;have:=gX d.dk.size hg.some;omega);have R2:(g.read d 0 d.dk.size).1=0:=h1;have Y9:d.kH (g.read d 0 d.dk.size).2.2:=h2;have h3':(g.read d 0 d.dk.size).2.2.dk=d.dk:=h3;unfold dc;rw[if_pos R2];refine⟨rfl,Y9,h3',?_⟩;show(match Br (g.read d 0 d.dk.size).2.1 with|some h=>if h.len≤g.bytes d.dk.size - d.dk.size then h else Hd.zero|none=>Hd.zero).len≤_
 cases Br (g.read d 0 d.dk.size).2.1 with
 | none=>exact cx _
 | some x=>
  show(if x.len≤g.bytes d.dk.size - d.dk.size then x else Hd.zero).len≤_
  by_cases c:x.len≤g.bytes d.dk.size - d.dk.size
  ·rw[if_pos c];exact c
  rw[if_neg c];exact cx _
theorem yq{s:Sl}{d:bJ}{x:Hd}(h:d.kM)(hg:(s.one i).In d)(hx:x.len≤(s.one i).bytes d.dk.size - d.dk.size): (dg s d i x).1=0∧d.kH (dg s d i x).2.2∧(dg s d i x).2.2.dk=d.dk:=by
 unfold dg;by_cases c:x.gen=0
 ·rw[if_pos c];exact⟨rfl,bJ.kH.refl h,rfl⟩
 rw[if_neg c];obtain⟨h1,h2,h3⟩:=Rg.DB h hg d.dk.size x.len (by unfold Rg.bytes at *;have:=gX d.dk.size hg.some;omega);rw[if_pos h1];exact⟨rfl,h2,h3⟩
structure Sl.In(s:Sl)(d:bJ): Prop where
 a:s.a.In d
 b:s.b.In d
 same:s.b.count=s.a.count
 two:2≤s.a.count
theorem Sl.In.qi{s:Sl}{d d':bJ}(h:s.In d)(k:d.kH d'): s.In d':=⟨h.a.qi k,h.b.qi k,h.same,h.two⟩
theorem Be{s:Sl}{d:bJ}{j:Nat} {hi hj:Hd}(h:d.kM)(h1:(s.one i).In d)(h2:(s.one j).In d)(h3:hi.len≤(s.one i).bytes d.dk.size - d.dk.size)(h4:hj.len≤(s.one j).bytes d.dk.size - d.dk.size):
  (kz s d i j hi hj).err=0∧d.kH (kz s d i j hi hj).dev∧(kz s d i j hi hj).dev.dk=d.dk:=by
 obtain⟨a1,a2,a3⟩:=yq (x:=hi) h h1 h3;obtain⟨b1,b2,b3⟩:=yq (x:=hj) a2.free (h2.qi a2) (by rw[a2.size];exact h4);unfold kz;rw[if_pos a1];cases(dg s d i hi).2.1 with
 | some b=>exact⟨rfl,a2,a3⟩
 | none=>
  simp only;rw[if_pos b1];cases(dg s (dg s d i hi).2.2 j hj).2.1 with
  | some b=>exact⟨rfl,a2.trans b2,b3.trans a3⟩
  | none=>exact⟨rfl,a2.trans b2,b3.trans a3⟩
theorem Sl.QA{s:Sl}{d:bJ}(h:d.kM)(hs:s.In d): (s.load d).err=0∧d.kH (s.load d).dev∧(s.load d).dev.dk=d.dk:=by
 obtain⟨a1,a2,a3,a4⟩:=Bt h hs.a;obtain⟨b1,b2,b3,b4⟩:=Bt a2.free (hs.b.qi a2);have hL:=a2.trans b2;unfold Sl.load;rw[if_pos a1,if_pos b1];have e0:s.one 0=s.a:=rfl;have e1:s.one 1=s.b:=rfl;rw[a2.size] at b4;by_cases c:(dc s.a d).2.1.gen<(dc s.b (dc s.a d).2.2).2.1.gen
 ·rw[if_pos c];obtain⟨c1,c2,c3⟩:=Be (s:=s) (i:=1) (j:=0) (hi:=(dc s.b (dc s.a d).2.2).2.1) (hj:=(dc s.a d).2.1) hL.free (by rw[e1];exact hs.b.qi hL) (by rw[e0];exact hs.a.qi hL) (by rw[e1,hL.size];exact b4) (by rw[e0,hL.size];exact a4);exact⟨c1,hL.trans c2,c3.trans (b3.trans a3)⟩
 rw[if_neg c];obtain⟨c1,c2,c3⟩:=Be (s:=s) (i:=0) (j:=1) (hi:=(dc s.a d).2.1) (hj:=(dc s.b (dc s.a d).2.2).2.1) hL.free (by rw[e0];exact hs.a.qi hL) (by rw[e1];exact hs.b.qi hL) (by rw[e0,hL.size];exact a4) (by rw[e1,hL.size];exact b4);exact⟨c1,hL.trans c2,c3.trans (b3.trans a3)⟩
theorem vF{g:Rg}{d:bJ}(h:d.kM)(hg:g.In d)(at_:Nat)(b:By)(hb:at_+b.length≤g.bytes d.dk.size): (dC g d at_ b).1=0∧d.kH (dC g d at_ b).2∧(dC g d at_ b).2.dk.row= []:=by
 obtain⟨h1,h2⟩:=Rg.zW h hg at_ b hb;obtain⟨h3,h4,h5⟩:=h2.free.Dt;unfold dC;rw[if_pos h1];exact⟨h3,h2.trans h4,h5⟩
theorem mX(h:Hd): (Hc h).length=32:=by simp only[Hc,uK,uL,bZ,Oc.bG,List.length_cons,List.length_nil]
theorem Sl.xE{s:Sl}{d:bJ}(h:d.kM)(hs:s.In d)(hr:d.dk.row= [])(Hh:32≤d.dk.size)(body:By)(mh:Nat):
  ((s.save d body mh).1=0∨(s.save d body mh).1=3∨(s.save d body mh).1=6)∧d.kH (s.save d body mh).2.2∧(s.save d body mh).2.2.dk.row= []:=by
 unfold Sl.save;by_cases c1:s.bytes d.dk.size<body.length
 ·rw[if_pos c1];exact⟨.inr (.inl rfl),bJ.kH.refl h,hr⟩
 ·rw[if_neg c1];obtain⟨a1,a2,a3⟩:=Sl.QA h hs;rw[if_neg (by rw[a1];decide)];by_cases c2:(s.load d).hd.gen=18446744073709551615
  ·rw[if_pos c2];exact⟨.inr (.inr rfl),a2,by rw[a3];exact hr⟩
  rw[if_neg c2];simp only;obtain⟨r,Z7,jJ⟩: ∃ r,(if(s.load d).at_=0 then s.b else s.a)=r∧r.In d∧r.count=s.a.count:=by
   by_cases c3:(s.load d).at_=0
   ·exact⟨s.b,if_pos c3,hs.b,hs.same⟩
   exact⟨s.a,if_neg c3,hs.a,rfl⟩
  obtain⟨jJ,YZ⟩:=jJ;rw[Z7];have hby:r.bytes d.dk.size=s.a.bytes d.dk.size:=by unfold Rg.bytes;rw[YZ]
  have h2:=gX d.dk.size hs.two;have hB:d.dk.size+body.length≤r.bytes d.dk.size:=by unfold Sl.bytes at c1;rw[hby];unfold Rg.bytes at c1 ⊢;omega
  obtain⟨b1,b2,b3⟩:=vF a2.free (jJ.qi a2) d.dk.size body (by rw[a2.size];exact hB);rw[if_neg (by rw[b1];decide)];have hL:=a2.trans b2;obtain⟨x,hx⟩:=ae ((⟨(s.load d).hd.gen+1,mh,body.length,Cr.ij 0 body⟩:Hd):Hd);rw[hx];obtain⟨e1,e2,e3⟩:=vF hL.free (jJ.qi hL) 0 (Hc x++List.replicate (d.dk.size - 32) 0) (by rw[hL.size,hby,bZ,mX,List.length_replicate];unfold Rg.bytes;omega);rw[if_neg (by rw[e1];decide)];dsimp only;exact⟨.inl rfl,hL.trans e2,e3⟩
