import Derived.Test.YtemighjbfanenaaGreatDoorPk16
import Derived.Test.YtemighjbfanenaaGreatDoorPk15
import Derived.Test.YtemighjbfanenaaGreatDoorPk2
set_option linter.all false
set_option maxRecDepth 100000
set_option maxHeartbeats 16000000
namespace Go.Proofs.YtemighjbfanenaaGreatDoor
open RowKit
open yj (fU hasB)
open Oc (le val)
open Cr (iy)
open Bk (bU)
open ky (Find dU fc Slot CP home uJ fR ft vG Vj sW A9)
open Bool renaming not_eq_true'→Hx,or_eq_false_iff→yn,true_and→tI
open Go.IntKind renaming i64→aT
open Go.Value renaming oneCell'→eA
open Int renaming toNat_natCast→ia
open List renaming length_append→dz,mem_cons_of_mem→gy,mem_cons_self→jt,getElem?_eq_getElem→cI,getD_eq_getElem?_getD→bQ
open Nat renaming zero_le→cu,le_refl→aL,mul_le_mul_right→ib
open RowKit.Below renaming refl→aq
open Tryz renaming prog→af,underlying171→wD
theorem adp{p:Prop}(h:p:=by
 refine bodyPost_ret (results_cell_tmp Tryz.results71 _ iN (aI 171 pq.o _ wD rfl e9)) rfl ⟨rfl,?_,?_⟩
 ·exact HH2.o.mQ (HH2.o.bg.same zI.o.size (fun k hS hk=>zI.o.block k hk (fun e=>by
   injection e with e
   have h9:=yO.o;have:=HH.o.bg.lt k hS;omega)))
 ·exact gV.o.grown zI.o (fun k hk=>aeV)):p:=h
theorem ac2{p:Prop}(h:p:=by
 have wK:=aa lf;have jx:=aa su;clear lf su;go_wp2_with fail;go_ret2;exact⟨rfl,⟨⟨_,wK.o⟩,HH.o.tab,HH.o.full,HH.o.XQ,HH.o.a8⟩,jx.o⟩):p:=h
theorem ac1{p:Prop}(h:p:=by
 refine bodyPost_ret (results_cell_tmp Tryz.results293 _ iN (aI 171 pq.o _ wD rfl e9)) rfl ⟨rfl,br bu.o zI.o Ls⟩):p:=h
theorem aeV{p:Prop}(h:p:=by injection hk with hk;exact .inr (by have h9:=yO.o;omega)):p:=h
theorem Aw{p:Prop}(h:p:=by rw[h.up];decide):p:=h
theorem Ls{p:Prop}(h:p:=by have:=HR.o;omega):p:=h
section
section
namespace Bk
structure Raw where
 id:Int
 av:Int
 aR:Int
def Db(n:Nat)(next ak:Int)(L:List bU)(last:Int)(x:Raw): Bool:=
 decide (last<x.id) && (decide (x.id<next) && (decide (0≤x.av) && (decide (x.av<n) && (L.all (fun y=>!decide ((y.av:Int)=x.av)) && (x.aR==0||(decide (ak<x.aR) && decide (x.aR≤1099511627776)))))))
def toB(x:Raw): bU:=⟨x.id,x.av.toNat,x.aR⟩
def S5(n:Nat)(next ak:Int): List bU→Int→List Raw→Option (List bU)
 | L,_,[]=>some L
 | L,last,x::r=>if Db n next ak L last x=true then S5 n next ak (L++ [toB x]) x.id r else none
def nP(n au:Nat)(next ak:Int)(l:List Raw): Option (List bU):=
 if next<1∨ak<0∨1099511627776<ak∨au<l.length then none else S5 n next ak [] 0 l
theorem Vc{S:Nat→Prop}{w:World}{b n au:Nat}{az next ak:Int}{L:List bU}{q:bD}(h:bl S w b n au az next ak L q){i:Nat}(hi:i<n): hasB q.ws i= !(L.all (fun y=>!decide ((y.av:Int)=(i:Int)))):=by
 rw[Bool.eq_iff_iff,h.bits i hi];constructor
 ·rintro⟨x,hx,e⟩;rw[Hx,List.all_eq_false];exact⟨x,hx,by simp[e]⟩
 intro hh;rw[Hx,List.all_eq_false] at hh;obtain⟨x,hx,e⟩:=hh;refine⟨x,hx,?_⟩;simp at e;omega
theorem afn(S:Nat→Prop)(b n au:Nat)(az next ak:Int)(L:List bU)(q:bD)(x:Raw)(last:Int)(w:World)(h:bl S w b n au az next ak L q):
  Calls af 240 #[.pointer (some ⟨b,0,none⟩),.agg #[.int .u32 x.id,.int .i64 x.av,.int .i64 x.aR],.int .u32 last] w fun e w'=>e= .returned (.bool (Db n next ak L last x))∧Below w.heap.size w w':=by
 obtain⟨id,av,aR⟩:=x;have hm:Db n next ak L last ⟨id,av,aR⟩=(decide (last<id) && (decide (id<next) && (decide (0≤av) && (decide (av<n) && (L.all (fun y=>!decide ((y.av:Int)=av)) && (aR==0||(decide (ak<aR) && decide (aR≤1099511627776)))))))):=rfl;show Calls _ _ #[.pointer (some ⟨b,0,none⟩),.agg #[.int .u32 id,.int .i64 av,.int .i64 aR],.int .u32 last] w _
 by_cases c0:id≤last
 ·rw[hm,decide_eq_false (show ¬last<id from ag)];exact aaF S b n au az next ak L q id av aR last w h (decide_eq_true c0)
 have d0:decide (id≤last)=false:=decide_eq_false c0;rw[hm,decide_eq_true (show last<id from ag),tI];by_cases c1:next≤id
 ·rw[decide_eq_false (show ¬id<next from ag)];exact aaE S b n au az next ak L q id av aR last w h d0 (decide_eq_true c1)
 have d1:decide (next≤id)=false:=decide_eq_false c1;rw[decide_eq_true (show id<next from ag),tI];by_cases c2:av<0
 ·rw[decide_eq_false (show ¬0≤av from ag)];exact aaD S b n au az next ak L q id av aR last w h d0 d1 (decide_eq_true c2)
 have d2:decide (av<0)=false:=decide_eq_false c2;rw[decide_eq_true (show 0≤av from ag),tI];by_cases c3:(n:Int)≤av
 ·rw[decide_eq_false (show ¬av<n from ag)];exact aaC S b n au az next ak L q id av aR last w h d0 d1 d2 (decide_eq_true c3)
 rw[decide_eq_true (show av<n from ag),tI];obtain⟨i,rfl⟩: ∃ i:Nat,av=(i:Int):=⟨av.toNat,ag⟩;have hi:i<n:=ag;have ht:=Vc h hi;cases ha:L.all (fun y=>!decide ((y.av:Int)=(i:Int)))
 ·rw[ha] at ht;exact Ro S b n au az next ak L q id aR last i w h d0 d1 hi ht
 rw[ha] at ht;rw[tI];cases c6:(aR==0)
 case true=>exact VL S b n au az next ak L q id aR last i w h d0 d1 hi ht c6
 case false=>
  rw[Bool.false_or];cases c7:decide (ak<aR)
  case false=>exact VM S b n au az next ak L q id aR last i w h d0 d1 hi ht c6 c7
  case true=>
   rw[tI];cases c8:decide (aR≤1099511627776)
   case false=>exact VN S b n au az next ak L q id aR last i w h d0 d1 hi ht c6 c7 c8
   case true=>exact F3 S b n au az next ak L q id aR last i w h d0 d1 hi ht c6 c7 c8
end Bk
end
section
namespace Bk
theorem dD(b:Nat)(v:Bool)(w:World)(h:w.cell? ⟨b,3,none⟩=some (.bool v)): Calls af 67 #[.pointer (some ⟨b,0,none⟩)] w fun e w'=>e= .returned (.bool v)∧w'=w:=by
 go_enter Tryz.func67,Tryz.ntmps67;go_wp2_with fail;go_ret;exact⟨rfl,rfl⟩
theorem dF: (af.info? 80).map (·.size)=some 3:=aW
theorem aad(b:Nat)(s0 s1 s2:Int)(w:World)(h0:w.cell? ⟨b,0,none⟩=some (.int .i64 s0))(h1:w.cell? ⟨b,1,none⟩=some (.int .i64 s1))(h2:w.cell? ⟨b,2,none⟩=some (.int .i64 s2))(hbl:b<w.heap.size): Calls af 105 #[.pointer (some ⟨b,0,none⟩)] w fun e w'=>e= .returned (.agg #[.int .i64 s0,.int .i64 s1,.int .i64 s2])∧Below w.heap.size w w':=by
 go_enter Tryz.func105,Tryz.ntmps105;go_wp2_with fail;refine bodyPost_ret (dx Tryz.results105 _ iN (aI 80 (aD.fresh w 80 #[.int .i64 s0,.int .i64 s1,.int .i64 s2]) _ Tryz.underlying80 rfl dF)) rfl ⟨rfl,aw (aq _ _) _⟩
theorem fT{S:Nat→Prop}{w:World}{b n au:Nat}{az next ak:Int}{len:Nat}{q:bD}(h:cA S w b n au az next ak len q): Calls af 38 #[.pointer (some ⟨b,0,none⟩)] w fun e w'=>e= .returned (.agg #[.int .i64 n,.int .i64 au,.int .i64 az])∧Below w.heap.size w w':=by
 have HH:=aa h;clear h;go_enter Tryz.func38,Tryz.ntmps38;go_wp2_with fail;have hb1:Below w.heap.size w (w.alloc (.cells #[.int .i64 0,.int .i64 0,.int .i64 0] 80)):=aw (aq _ _) _;have bh:aD (w.alloc (.cells #[.int .i64 0,.int .i64 0,.int .i64 0] 80)) w.heap.size 80 #[.int .i64 0,.int .i64 0,.int .i64 0]:=aD.fresh w _ _;obtain⟨w1,aX⟩:=ae (w.alloc (.cells #[.int .i64 0,.int .i64 0,.int .i64 0] 80));obtain⟨r,hr⟩:=ae w.heap.size;rw[aX] at hb1 bh ⊢;have hc1:=HH.o.ai hb1;have bu:=aa hb1;clear hb1;rw[hr] at bh ⊢;clear aX;refine ah (dD b true w1 (hc1.own.cell 3)) ?_;have kZ:=aa hc1;have dH:=aa bh;have HR:=aa hr;clear hc1 bh hr;go_wp2_with fail;refine(aad b n au az w1 (kZ.o.own.cell 0) (kZ.o.own.cell 1) (kZ.o.own.cell 2) kZ.o.own.lt).mono ?_;rintro e w2 ⟨rfl,hb2⟩;have gK:=dH.o.keep hb2;have M8:=ar bu.o hb2;clear kZ bu dH hb2;have jI:=aa gK;have cx:=aa M8;clear gK M8;go_wp2_with (refine aj rfl 80 _ _ rfl r 80 _ #[.int .i64 n,.int .i64 au,.int .i64 az] jI.o rfl rfl rfl dF qO ?_;intro w3 dB hg3 hs3;have pq:=aa dB;have zI:=aa hg3;clear dB hg3 hs3);refine bodyPost_ret (dx Tryz.results38 _ iN (aI 80 pq.o _ Tryz.underlying80 rfl dF)) rfl ⟨rfl,br cx.o zI.o Ls⟩
end Bk
end
section
namespace Bk
theorem ak1{S:Nat→Prop}{w:World}{b n au:Nat}{az next ak:Int}{len:Nat}{q:bD}(h:cA S w b n au az next ak len q)(i:Nat)(hi:i<n)(hn:n≤1024)(hv:hasB q.ws i=true): Calls af 293 #[.pointer (some ⟨b,0,none⟩),.int .i64 i] w fun e w'=>e= .returned (.tuple #[.agg #[.int .u32 (q.sb i).id,.int .i64 (q.sb i).av,.int .i64 (q.sb i).aR],.int .i64 0])∧Below w.heap.size w w':=by
 have HH:=aa h;have HV:=aa hv;have kC:(i:Int)<(n:Int):=ag;have yZ:(0:Int)≤(i:Int):=ag;have Xi:(n:Int)≤1024:=ag;clear h hv;go_enter Tryz.func293,Tryz.ntmps293;go_wp2_with fail;have hb1:Below w.heap.size w (w.alloc (.cells #[.int .u32 0,.int .i64 0,.int .i64 0] 171)):=aw (aq _ _) _;have bh:aD (w.alloc (.cells #[.int .u32 0,.int .i64 0,.int .i64 0] 171)) w.heap.size 171 #[.int .u32 0,.int .i64 0,.int .i64 0]:=aD.fresh w _ _;obtain⟨w1,aX⟩:=ae (w.alloc (.cells #[.int .u32 0,.int .i64 0,.int .i64 0] 171));obtain⟨r,hr⟩:=ae w.heap.size;rw[aX] at hb1 bh ⊢;have hc1:=HH.o.ai hb1;have bu:=aa hb1;clear hb1;rw[hr] at bh ⊢;clear aX;refine ah (dD b true w1 (hc1.own.cell 3)) ?_;have x0:=hc1.own.cl 0;have x6:=hc1.own.cl 6;have x8:=hc1.own.cl 8;have kZ:=aa hc1;have dH:=aa bh;have HR:=aa hr;clear hc1 bh hr;go_wp2_with fail;refine(yj.oY q.tp q.tg q.tc n i q.ws w1 kZ.o.taken hi ag).mono ?_;rw[HV.o];rintro e w2 ⟨rfl,hw2⟩;rw[hw2];clear hw2 w2;go_wp2_with (first|(refine fx rfl 171 _ rfl kZ.o.fZ (fun _=>rfl) i hi rfl _ wD rfl e9 ?_)|(refine aj rfl 171 _ _ rfl r 171 _ #[.int .u32 (q.sb i).id,.int .i64 (q.sb i).av,.int .i64 (q.sb i).aR] dH.o rfl rfl rfl e9 qO ?_;intro w3 dB hg3 hs3;have pq:=aa dB;have zI:=aa hg3;clear dB hg3 hs3));exact ac1
theorem acb{S:Nat→Prop}{w:World}{b n au:Nat}{az next ak:Int}{len:Nat}{q:bD}(h:cA S w b n au az next ak len q)(i:Nat)(hi:i<n)(hn:n≤1024)(hv:hasB q.ws i=false): Calls af 293 #[.pointer (some ⟨b,0,none⟩),.int .i64 i] w fun e w'=>e= .returned (.tuple #[.agg #[.int .u32 0,.int .i64 0,.int .i64 0],.int .i64 171])∧Below w.heap.size w w':=by
 have HH:=aa h;have HV:=aa hv;have kC:(i:Int)<(n:Int):=ag;have yZ:(0:Int)≤(i:Int):=ag;have Xi:(n:Int)≤1024:=ag;clear h hv;go_enter Tryz.func293,Tryz.ntmps293;go_wp2_with fail;have hb1:Below w.heap.size w (w.alloc (.cells #[.int .u32 0,.int .i64 0,.int .i64 0] 171)):=aw (aq _ _) _;have bh:aD (w.alloc (.cells #[.int .u32 0,.int .i64 0,.int .i64 0] 171)) w.heap.size 171 #[.int .u32 0,.int .i64 0,.int .i64 0]:=aD.fresh w _ _;obtain⟨w1,aX⟩:=ae (w.alloc (.cells #[.int .u32 0,.int .i64 0,.int .i64 0] 171));obtain⟨r,hr⟩:=ae w.heap.size;rw[aX] at hb1 bh ⊢;have hc1:=HH.o.ai hb1;have bu:=aa hb1;clear hb1;rw[hr] at bh ⊢;clear aX;refine ah (dD b true w1 (hc1.own.cell 3)) ?_;have x0:=hc1.own.cl 0;have x6:=hc1.own.cl 6;have kZ:=aa hc1;have dH:=aa bh;have HR:=aa hr;clear hc1 bh hr;go_wp2_with fail;refine(yj.oY q.tp q.tg q.tc n i q.ws w1 kZ.o.taken hi ag).mono ?_;rw[HV.o];rintro e w2 ⟨rfl,hw2⟩;rw[hw2];clear hw2 w2;go_wp2_with (refine aj rfl 171 _ _ rfl r 171 _ #[.int .u32 0,.int .i64 0,.int .i64 0] dH.o rfl rfl rfl e9 qO ?_;intro w3 dB hg3 hs3;have pq:=aa dB;have zI:=aa hg3;clear dB hg3 hs3);exact ac1
end Bk
end
section
namespace Bk
def ahF(x:Raw): List Value:=[.int .u32 x.id,.int .i64 x.av,.int .i64 x.aR]
def YH(w:World)(A:Option Addr)(l:List Raw): Prop:=l≠ []→∃ g off,A=some ⟨g,off,none⟩∧g<w.heap.size∧∀ k,k<l.length→w.rangeAt g (off+k*3) (ahF (l.getD k ⟨0,0,0⟩))
variable{w w':World}{S:Nat→Prop}{b n:Nat}{az ak:Int}
theorem YH.keep{A:Option Addr}{l:List Raw}(h:YH w A l)(hb:Below w.heap.size w w'): YH w' A l:=fun hne=>by
 obtain⟨g,off,h1,h2,h3⟩:=h hne;exact⟨g,off,h1,Nat.lt_of_lt_of_le h2 hb.size,fun k hk j v hj=>(hb.cell (p:=⟨g,off+k*3+j,none⟩) h2).trans (h3 k hk j v hj)⟩
theorem cA.mQ{au:Nat} {next next' clock':Int} {len:Nat}{q:bD}(h:cA S w b n au az next ak len q)(ht:aG (· =b) w w')(hi:aD w' b 102 #[.int .i64 n,.int .i64 au,.int .i64 az,.bool true,.int .i64 clock',.int .u32 next',.pointer (some ⟨q.tp,0,none⟩),.pointer (some ⟨q.ip,0,none⟩),.slice (some ⟨q.sg,0,none⟩) n q.sc,.pointer (some ⟨q.hp,0,none⟩),.map (some q.mb)]): cA S w' b n au az next' clock' len q:=by
 obtain⟨⟨_,a0⟩,⟨_,a1⟩,⟨_,a2⟩,⟨_,a3⟩,⟨_,a4⟩,⟨_,a5⟩⟩:=h.B2;exact⟨hi,h.lC ht (iz a1 a0 aM) (iz a2 a0 aM),h.qj ht (iz a3 a0 aM) (iz a4 a0 aM),h.lD ht (iz a5 a0 aM),h.tj ht (fun k hk=>(h.apart k hk).2.1),h.nG ht (fun e=>Hp.dn h.held a0 e.symm),h.bt,h.apart,fun k hk=>Nat.lt_of_lt_of_le (h.lt k hk) ht.size⟩
theorem bl.mQ{au:Nat} {next next' clock':Int} {L:List bU}{q:bD}(h:bl S w b n au az next ak L q)(hc:cA S w' b n au az next' clock' L.length q)(hle:next≤next':=by first|exact Int.le_refl _|omega): bl S w' b n au az next' clock' L q:=
 ⟨hc,h.bits,h.dQ,h.under,h.listed,⟨h.small.1,⟨Int.le_trans h.small.2.1.1 hle,fun e=>by
  have h1:=h.small.2.1.1;obtain⟨x,hx,e2⟩:=h.small.2.1.2 ag;exact⟨x,hx,ag⟩⟩,h.small.2.2⟩,h.qm⟩
theorem bl.ai{au:Nat} {next:Int} {L:List bU}{q:bD}(h:bl S w b n au az next ak L q)(hb:Below w.heap.size w w'): bl S w' b n au az next ak L q:=h.mQ (h.bg.ai hb) (Int.le_refl _)
theorem VO{next:Int} {L:List bU}{last:Int}{x:Raw}(h:Db n next ak L last x=true): last<x.id∧x.id<next∧0≤x.av∧x.av<n∧(∀ y∈L,(y.av:Int)≠x.av)∧(x.aR=0∨ak<x.aR∧x.aR≤1099511627776):=by
 simp only[Db,Bool.and_eq_true,Bool.or_eq_true,decide_eq_true_eq,List.all_eq_true,Hx,decide_eq_false_iff_not,beq_iff_eq] at h;exact h
def sI(n au:Nat)(az next ak:Int)(l:List Raw)(w:World)(e:Ending)(w':World): Prop:=Below w.heap.size w w'∧
 match nP n au next ak l with
 | none=>e= .returned (.tuple #[.pointer none,.int .i64 180])
 | some L=>∃ b S q,e= .returned (.tuple #[.pointer (some ⟨b,0,none⟩),.int .i64 0])∧bl S w' b n au az next ak L q∧(∀ k,S k→w.heap.size≤k)
theorem sI.no{au:Nat} {next:Int} {l:List Raw}(h:nP n au next ak l=none)(hb:Below w.heap.size w w'): sI n au az next ak l w (.returned (.tuple #[.pointer none,.int .i64 180])) w':=by
 refine⟨hb,?_⟩;rw[h]
theorem EH(n au:Nat)(az next ak:Int)(l:List Raw)(A:Option Addr)(cap:Nat)(w:World)(h:tS.CF n au az=true)(hr:YH w A l)(hl:l.length≤17592186043904)(Ef:0≤next∧next<4294967296)(BD: ∀ x∈l,0≤x.id∧x.id<4294967296):
  Calls af 154 #[.agg #[.int .i64 n,.int .i64 au,.int .i64 az],.int .u32 next,.int .i64 ak,.slice A l.length cap] w (sI n au az next ak l w):=by
 have fz:=tS.lL h;have pN:1≤n∧n≤1024:=ag;have aa3:1≤au∧au≤4096:=ag;have uq:=aa h;have HR:=aa hr;have NV:=aa BD;clear h hr fz BD;go_enter Tryz.func154,Tryz.ntmps154;go_wp2_with fail;have hb1:Below w.heap.size w (w.alloc (.cells #[.int .i64 n,.int .i64 au,.int .i64 az] 80)):=aw (aq _ _) _;have bh:aD (w.alloc (.cells #[.int .i64 n,.int .i64 au,.int .i64 az] 80)) w.heap.size 80 #[.int .i64 n,.int .i64 au,.int .i64 az]:=aD.fresh w _ _;obtain⟨w1,aX⟩:=ae (w.alloc (.cells #[.int .i64 n,.int .i64 au,.int .i64 az] 80));obtain⟨sh,uJ⟩:=ae w.heap.size;rw[aX] at hb1 bh ⊢;have bu:=aa hb1;clear hb1 aX;rw[uJ] at bh ⊢;refine(PV n au az w1 uq.o).mono ?_;rintro e w2 ⟨b,S,q,rfl,cK,hS,hb2⟩;have gK:=bh.keep hb2;have aij: ¬sh=b:=by
  have h1:=hS b cK.bg.bt.1;have h2:=bh.lt;omega
 have z1:=gK.cl 1;have x4:=cK.bg.own.cl 4;have x5:=cK.bg.own.cl 5;have m4:=cK.bg.own.mark 4;have m5:=cK.bg.own.mark 5;have hbl:=cK.bg.own.lt;have nL:=ar bu.o hb2;have eX:=aa cK;have HS:=aa hS;have cx:=aa nL;have Ck:=aa uJ;have Iu:=aa (show w.heap.size≤w1.heap.size from bu.o.size);clear cK hS hb2 nL bh gK bu uJ;cases c0:decide (next<1)
 case true=>
  have HN:=aa (show nP n au next ak l=none from if_pos (.inl (of_decide_eq_true c0)));go_wp2_with fail;go_ret2;exact sI.no HN.o cx.o
 case false=>
  cases c1:decide (ak<0)
  case true=>
   have HN:=aa (show nP n au next ak l=none from if_pos (.inr (.inl (of_decide_eq_true c1))));go_wp2_with fail;go_ret2;exact sI.no HN.o cx.o
  case false=>
   cases c2:decide (1099511627776<ak)
   case true=>
    have HN:=aa (show nP n au next ak l=none from if_pos (.inr (.inr (.inl (of_decide_eq_true c2)))));go_wp2_with fail;go_ret2;exact sI.no HN.o cx.o
   case false=>
    cases c3:decide (au<l.length)
    case true=>
     have c3':decide ((au:Int)<(l.length:Int))=true:=decide_eq_true (by have:=of_decide_eq_true c3;omega);have HN:=aa (show nP n au next ak l=none from if_pos (.inr (.inr (.inr (of_decide_eq_true c3)))));go_wp2_with fail;go_ret2;exact sI.no HN.o cx.o
    case false=>
     have c3':decide ((au:Int)<(l.length:Int))=false:=decide_eq_false (by have:=of_decide_eq_false c3;omega);have hBO:nP n au next ak l=S5 n next ak [] 0 l:=if_neg (by
      have h0:=of_decide_eq_false c0;have h1:=of_decide_eq_false c1;have h2:=of_decide_eq_false c2;have h3:=of_decide_eq_false c3;rintro(h|h|h|h)
      ·exact h0 h
      ·exact h1 h
      ·exact h2 h
      exact h3 h)
     have nW:=aa hBO;have Li:=aa (And.intro (of_decide_eq_false c1) (And.intro (of_decide_eq_false c2) (of_decide_eq_false c3)));clear hBO;go_wp2_with fail;have T3:=((aG.refl (fun j=>j=b) w2).put (p:=⟨b,5,none⟩) (.inl rfl) (.int .u32 next)).put (p:=⟨b,4,none⟩) (.inl rfl) (.int .i64 ak);have W8:=(eX.o.bg.own.put 5 (.int .u32 next)).put 4 (.int .i64 ak);obtain⟨w3,hw3⟩:=ae ((w2.setCell ⟨b,5,none⟩ (.int .u32 next)).setCell ⟨b,4,none⟩ (.int .i64 ak));rw[hw3] at T3 W8 ⊢;have HHN:=aa (show q.hn≤0 from by
      have h1:=eX.o.small.2.1;rcases Int.lt_or_le q.hn 1 with h2|h2
      ·omega
      obtain⟨x,hx,_⟩:=h1.2 ag;cases hx)
     have XC:bl S w3 b n au az next ak [] q:=eX.o.mQ (eX.o.bg.mQ T3 W8) (by have:=of_decide_eq_false c0;omega);have XN:Below w.heap.size w w3:=aG.nz cx.o T3 (fun j hj=>by have:j=b:=hj;have h1:=HS.o b eX.o.bg.bt.1;have h2:=Iu.o;omega);have Ti: ∀ j,S j→w.heap.size≤j:=fun j hj=>Nat.le_trans Iu.o (HS.o j hj)
     clear hw3 z1 x4 x5 m4 m5 hbl T3 W8 eX cx HS;have MY:(l.length:Int)≤17592186043904:=ag;go_loopw [12,50] (fun la iv wr=>∃ (k:Nat) (L:List bU) (last:Int) (T:Nat→Prop) (q':bD),k≤l.length∧la= .int .u32 last∧iv= .int .i64 k∧bl T wr b n au az next ak L q'∧(∀ j,T j→w.heap.size≤j)∧Below w.heap.size w wr∧S5 n next ak L last (l.drop k)=S5 n next ak [] 0 l∧(∀ y∈L,y.id≤last)∧L.length≤k∧q'.hn≤last) (fun _ iv _=>(l.length - intOf iv).toNat)
     case atStart=>exact⟨0,[],0,S,q,cu _,rfl,rfl,XC,Ti,XN,rfl,(fun y hy=>by cases hy),aL _,HHN.o⟩
     case round=>
      obtain⟨k,L,last,T,q',hk,rfl,rfl,cK,hT,hB,RK,JI,hLk,Xo⟩:=hrel;clear XC XN Ti Iu;have eX:=aa cK;have HT:=aa hT;have HB:=aa hB;have NP:=aa RK;have aen:=aa JI;clear cK hT hB RK JI;by_cases K0:k<l.length
      ·have vV:(k:Int)<(l.length:Int):=by omega
       have Eh:(0:Int)≤(k:Int):=ag;have hne:l≠ []:=fun e=>by rw[e] at K0;simp at K0
       obtain⟨g,off,hA,oT,aiq⟩:=HR.o hne;subst hA;have zB:au<l.length→False:=Li.o.2.2;have Xu:l.drop k=l.getD k ⟨0,0,0⟩::l.drop (k+1):=by rw[List.drop_eq_getElem_cons K0];simp[bQ,K0]
       have RM:l.getD k ⟨0,0,0⟩∈l:=by simp[bQ,K0]
       have M3:=NV.o _ RM;have hrg:wr.rangeAt g (off+k*3) (ahF (l.getD k ⟨0,0,0⟩)):=fun j v hj=>(HB.o.cell (p:=⟨g,off+k*3+j,none⟩) oT).trans (aiq k K0 j v hj)
       obtain⟨x,hx⟩:=ae (l.getD k ⟨0,0,0⟩);rw[hx] at Xu M3 hrg;obtain⟨id,av,aR⟩:=x;have ais:wr.rangeAt g (off+k*3) [.int .u32 id,.int .i64 av,.int .i64 aR]:=hrg;have GC:=aa ais;have aes:=aa Xu;have anc:=aa M3;have ani:=aa zB;clear hrg ais Xu M3 RM aiq hx hne zB;go_wp2_with (refine wpList_load_mid rfl 171 _ rfl g (off+k*3) rfl [.int .u32 id,.int .i64 av,.int .i64 aR] _ GC.o wD rfl rfl ?_);have hb4:Below wr.heap.size wr (wr.alloc (.cells #[.int .u32 id,.int .i64 av,.int .i64 aR] 171)):=aw (aq _ _) _;have mh:aD (wr.alloc (.cells #[.int .u32 id,.int .i64 av,.int .i64 aR] 171)) wr.heap.size 171 #[.int .u32 id,.int .i64 av,.int .i64 aR]:=aD.fresh wr _ _;obtain⟨w4,hw4⟩:=ae (wr.alloc (.cells #[.int .u32 id,.int .i64 av,.int .i64 aR] 171));obtain⟨xb,Dg⟩:=ae wr.heap.size;rw[hw4] at hb4 mh ⊢;have SN:=aa (eX.o.ai hb4);have gI:=HB.eo hb4;have hTx: ¬T xb:=fun h=>by have h1:=eX.o.bg.lt xb h;omega
       rw[Dg] at mh ⊢;clear hw4 Dg hb4;refine(afn T b n au az next ak L q' ⟨id,av,aR⟩ last w4 SN.o).mono ?_;rintro e w5 ⟨rfl,dR⟩;have ZB:=aa (SN.o.ai dR);have eQ:=gI.eo dR;have fY:=mh.keep dR;clear mh dR SN gI;cases hm:Db n next ak L last ⟨id,av,aR⟩
       case false=>
        have HN:=aa (show nP n au next ak l=none from by
         rw[nW.o,←NP.o,aes.o];show(if Db n next ak L last ⟨id,av,aR⟩=true then _ else none)=none
         rw[hm];rfl)
        clear fY;go_wp2_with fail;go_ret2;exact sI.no HN.o eQ.o
       case true=>
        obtain⟨h1,h2,h3,h4,h5,h6⟩:=VO hm;have h3':0≤av:=h3;obtain⟨i,rfl⟩: ∃ i:Nat,av=(i:Int):=⟨av.toNat,ag⟩;have yY:i<n:=by have h4':(i:Int)<(n:Int):=h4;omega
        have Ed:toB ⟨id,(i:Int),aR⟩=⟨id,i,aR⟩:=by simp[toB]
        have hstep:S5 n next ak (L++ [⟨id,i,aR⟩]) id (l.drop (k+1))=S5 n next ak [] 0 l:=by
         rw[←NP.o,aes.o];show _=(if Db n next ak L last ⟨id,(i:Int),aR⟩=true then S5 n next ak (L++ [toB ⟨id,(i:Int),aR⟩]) id (l.drop (k+1))else none)
         rw[hm,if_pos rfl,Ed]
        have Xl: ∀ y∈L++ [(⟨id,i,aR⟩:bU)],y.id≤id:=fun y hy=>by
         rcases List.mem_append.1 hy with hy|hy
         ·have:=aen.o y hy;have K8:last<id:=h1;omega
         obtain rfl:y=⟨id,i,aR⟩:=oO;exact Int.le_refl _
        have mB: ∀ y∈L,y.id≠id:=fun y hy=>by
         have:=aen.o y hy;have K8:last<id:=h1;omega
        have kH: ∀ y∈L,y.av≠i:=fun y hy e=>h5 y hy mj
        have hlc:L.length<au:=by
         have: ¬au<l.length:=ani.o;omega
        have MR:0≤aR∧aR≤1099511627776:=by
         have h6':aR=0∨ak<aR∧aR≤1099511627776:=h6;have hc1:=Li.o.1;omega
        have ajk:=Vs T b n au az next ak L ⟨id,i,aR⟩ q' w5 ZB.o anc.o mB kH yY hlc MR ⟨Int.lt_of_le_of_lt Xo h1,Int.le_of_lt h2⟩;have Su:=aa ajk;have aj2:=aa hstep;have anb:=aa h1;have agZ:=aa Xl;have y0:=fY.cl 0;have y1:w5.cell? ⟨xb,1,none⟩=some (.int .i64 (i:Int)):=fY.cell 1;have y2:=fY.cl 2;have o6:=aa fY;clear h1 h2 h3 h4 h5 h6 h3' Ed hstep Xl mB kH hlc MR ajk fY;go_wp2_with fail;refine Su.o.mono ?_;rintro e w6 ⟨⟨v6,rfl⟩,⟨q6,hq6,hn6⟩,pQ⟩;have Le:=aa (show q6.hn≤id from by have K8:last<id:=anb.o;omega);have vt:=pQ.arr o6.o hTx;have XM:Below w.heap.size w w6:=aG.nz eQ.o pQ (fun j hj=>HT.o j hj);have z0:=vt.cl 0;have Lb:=aa hq6;have jy:=aa XM;have HZ5:=aa eQ.o.size;clear y0 y1 y2 hq6 hn6 pQ vt XM o6 eQ ZB HB eX NP;go_wp2_with fail;go_roundw
        case rel=>exact⟨k+1,L++ [⟨id,i,aR⟩],id,_,q6,ag,rfl,by go_num,Lb.o,(fun j hj=>by rcases hj.1 with h|h;exact HT.o j h;exact Nat.le_trans HZ5.o h),jy.o,aj2.o,agZ.o,fH,Le.o⟩
        case measure=>simp[intOf];omega
      obtain rfl:k=l.length:=ag;have RK:=NP.o;rw[List.drop_length] at RK;have aj3:=aa (show nP n au next ak l=some L from nW.o.trans RK.symm);clear RK;go_wp2_with fail;go_ret2;refine⟨HB.o,?_⟩;rw[aj3.o];exact⟨b,T,q',rfl,eX.o,HT.o⟩
end Bk
end
end
section
namespace Bk
theorem YX(p g n bX len aS:Nat)(f:Nat→ky.Slot)(w:World)(h:ky.fc w p g n bX len aS f):
  Calls af 108 #[.pointer (some ⟨p,0,none⟩)] w fun e w'=>e= .returned (.int .i64 len)∧w'=w:=by
 obtain⟨steps,hI⟩:=h.dQ;have x0:=hI.own.cl 0;have x2:=hI.own.cl 2;clear h hI;go_enter Tryz.func108,Tryz.ntmps108;go_wp2_with fail;refine ah (ky.fR p g n w x0) ?_;go_wp2_with fail;go_ret;exact⟨rfl,rfl⟩
variable{S:Nat→Prop}{w:World}{b n:Nat}{az ak:Int}
theorem uX{au:Nat} {next:Int} {len:Nat}{q:bD}(h:cA S w b n au az next ak len q):
  Calls af 41 #[.pointer (some ⟨b,0,none⟩)] w fun e w'=>e= .returned (.int .i64 len)∧w'=w:=by
 have x7:=h.own.cl 7;have HT:=aa (dD b true w (h.own.cell 3));have HI:=aa (YX q.ip q.ig q.m au len q.gr q.f w h.ids);clear h;go_enter Tryz.func41,Tryz.ntmps41;go_wp2_with fail;refine ah HT.o ?_;go_wp2_with fail;refine ah HI.o ?_;go_wp2_with fail;go_ret;exact⟨rfl,rfl⟩
theorem wh{au:Nat} {next:Int} {len:Nat}{q:bD}(h:cA S w b n au az next ak len q):
  Calls af 297 #[.pointer (some ⟨b,0,none⟩)] w fun e w'=>e= .returned (.int .u32 next)∧w'=w:=by
 have x7:=h.own.cl 5;have HT:=aa (dD b true w (h.own.cell 3));clear h;go_enter Tryz.func297,Tryz.ntmps297;go_wp2_with fail;refine ah HT.o ?_;go_wp2_with fail;go_ret;exact⟨rfl,rfl⟩
theorem sO{au:Nat} {next:Int} {len:Nat}{q:bD}(h:cA S w b n au az next ak len q):
  Calls af 16 #[.pointer (some ⟨b,0,none⟩)] w fun e w'=>e= .returned (.int .i64 ak)∧w'=w:=by
 have x7:=h.own.cl 4;have HT:=aa (dD b true w (h.own.cell 3));clear h;go_enter Tryz.func16,Tryz.ntmps16;go_wp2_with fail;refine ah HT.o ?_;go_wp2_with fail;go_ret;exact⟨rfl,rfl⟩
end Bk
end
section
namespace En
structure dJ where
 n:Nat
 au:Nat
 az:Nat
 next:Int
 ak:Int
 L:List bU
def dJ.find(b:dJ)(id:Int): Option bU:=b.L.find? fun x=>decide (x.id=id)
def dJ.on(b:dJ)(av:Int): Option bU:=b.L.find? fun x=>decide ((x.av:Int)=av)
def dJ.hold(b:dJ)(r:Rec): Int × dJ:=
 if r.id≠b.next then(2,b)else if(b.n:Int)≤r.av then(140,b)else if r.aR≤b.ak then(173,b)else if(b.on r.av).isSome=true then(170,b)
 else if b.au≤b.L.length∨b.next=4294967295 then(6,b)else(0,{b with L:=b.L++ [⟨r.id,r.av.toNat,r.aR⟩],next:=b.next+1})
def dJ.tick(b:dJ)(ak:Int): Int × dJ:=
 if ak≤b.ak then(173,b)else(0,{b with ak:=ak,L:=b.L.filter fun x=>decide (x.aR=0)||decide (ak<x.aR)})
def dJ.apply(b:dJ)(r:Rec): Int × dJ:=
 if r.ok=false then(160,b)else if r.ax=1 then b.hold r else if r.ax=5 then b.tick r.ak
 else match b.find r.id with
 | none=>(171,b)
 | some x=>
  if r.ax=2 then(0,{b with L:=b.L.map fun y=>if y.id=r.id then {y with aR:=0}else y})
  else if r.ax=3 then(0,{b with L:=b.L.filter fun y=>!decide (y.id=r.id)})
  else if(b.n:Int)≤r.av then(140,b)else if(x.av:Int)=r.av then(0,b)else if(b.on r.av).isSome=true then(170,b)
  else(0,{b with L:=b.L.map fun y=>if y.id=r.id then {y with av:=r.av.toNat}else y})
structure dJ.Ok(b:dJ): Prop where
 n:1≤b.n∧b.n≤1024
 au:1≤b.au∧b.au≤4096
 az:1≤b.az∧b.az≤64
 next:1≤b.next∧b.next<4294967296
 ak:0≤b.ak∧b.ak≤1099511627776
 len:b.L.length≤b.au
 Vn:b.L.Pairwise fun x y=>x.id<y.id
 ids: ∀ x∈b.L,1≤x.id∧x.id<b.next
 fZ: ∀ x∈b.L,x.av<b.n
 alone:b.L.Pairwise fun x y=>x.av≠y.av
 aR: ∀ x∈b.L,x.aR=0∨b.ak<x.aR∧x.aR≤1099511627776
def bp(b:dJ)(q:Rq): Rec:=
 if q.ax=1 then⟨1,b.next,q.av,b.ak+q.bS,0⟩else if q.ax=2 then⟨2,q.id,0,0,0⟩else if q.ax=3 then⟨3,q.id,0,0,0⟩
 else if q.ax=4 then⟨4,q.id,q.av,0,0⟩else⟨5,0,0,0,b.ak+q.bS⟩
def dV(b:dJ)(q:Rq): Bool:=match b.on q.av with|some x=>!decide (x.id=q.id)|none=>false
def bB(b:dJ)(a8:Int)(q:Rq): Int:=
 if q.ax=1 then
  if(b.n:Int)≤q.av then 140 else if q.bS<1∨1073741824<q.bS then 2 else if 1099511627776<b.ak+q.bS then 172 else if dV b q=true then 170
  else if b.au≤b.L.length∨b.next=4294967295 then 6 else if a8<37 then 220 else 0
 else if q.ax=2∨q.ax=3 then if(b.find q.id).isNone=true then 171 else if a8<27 then 220 else 0
 else if q.ax=4 then if(b.find q.id).isNone=true then 171 else if(b.n:Int)≤q.av then 140 else if dV b q=true then 170 else if a8<29 then 220 else 0
 else if q.bS<1∨1073741824<q.bS then 2 else if 1099511627776<b.ak+q.bS then 172 else if a8<31 then 220 else 0
def bN(q:Rq)(r:Rec): Rp:=
 if q.ax=1 then⟨q.tag,q.ax,0,r.id,0,r.aR,0⟩else if q.ax=4 then⟨q.tag,q.ax,0,0,r.av,0,0⟩else if q.ax=7 then⟨q.tag,q.ax,0,0,0,r.ak,0⟩
 else⟨q.tag,q.ax,0,0,0,0,0⟩
def cy(q:Rq)(e:Int): Rp:=⟨q.tag,q.ax,e,0,0,0,0⟩
def ed(b:dJ)(q:Rq): Rp:=
 if q.ax=5 then match b.find q.id with
  | some x=>⟨q.tag,q.ax,0,0,x.av,x.aR,0⟩
  | none=>cy q 171
 else if q.ax=6 then(if(b.n:Int)≤q.av then cy q 140 else match b.on q.av with
  | some x=>⟨q.tag,q.ax,0,x.id,0,x.aR,0⟩
  | none=>cy q 171)
 else⟨q.tag,q.ax,0,0,0,0,b.L.length⟩
def xX(x:bU): By:=le x.id.toNat 4++le x.av 2++le x.aR.toNat 8
def kh(b:dJ): By:=le b.n 2++le b.au 4++le b.next.toNat 4++le b.ak.toNat 8++le b.L.length 2++(b.L.map xX).flatten
structure Es where
 up:Bool
 dev:bG
 rg:Rg
 log:Lg
 sl:Sl
 bk:dJ
 aK:List Rp
def Es.down(e:Es)(d:bG)(l:Lg): Es:={e with up:=false,dev:=d,log:=l,aK:=[]}
def Es.ask(e:Es)(q:Rq): List Rp × Es:=([ed e.bk q],e)
def Es.a8(e:Es): Int:=(e.rg.bytes e.dev.dk.size:Int) - e.log.used
def Es.change(e:Es)(q:Rq): List Rp × Es:=
 if bB e.bk e.a8 q≠0 then([cy q (bB e.bk e.a8 q)],e)
 else if e.log.last=18446744073709551615 then([cy q 220],e)
 else
  let e1:Es:={e with log:=e.log.append (jf (bp e.bk q)),bk:=(e.bk.apply (bp e.bk q)).2,aK:=e.aK++ [bN q (bp e.bk q)]}
  if e1.aK.length<e.bk.az then([],e1)
  else if(e1.log.flush e.rg e.dev).1≠0 then([],e1.down (e1.log.flush e.rg e.dev).2.2 (e1.log.flush e.rg e.dev).2.1)
  else(e1.aK,{e1 with dev:=(e1.log.flush e.rg e.dev).2.2,log:=(e1.log.flush e.rg e.dev).2.1,aK:=[]})
def counted(e:Es)(q:Rq): List Rp:=e.aK++ [⟨q.tag,q.ax,0,0,0,0,e.aK.length⟩]
def Es.flush(e:Es)(q:Rq): List Rp × Es:=
 if(e.log.flush e.rg e.dev).1≠0 then([cy q 230],e.down (e.log.flush e.rg e.dev).2.2 (e.log.flush e.rg e.dev).2.1)
 else(counted e q,{e with dev:=(e.log.flush e.rg e.dev).2.2,log:=(e.log.flush e.rg e.dev).2.1,aK:=[]})
def Es.save(e:Es)(q:Rq): List Rp × Es:=
 if(e.sl.save e.dev (kh e.bk) e.log.last).1=0 then(counted e q,{e with dev:=(e.sl.save e.dev (kh e.bk) e.log.last).2.2,log:=e.log.reset (e.sl.save e.dev (kh e.bk) e.log.last).2.1.gen,aK:=[]})
 else if(e.sl.save e.dev (kh e.bk) e.log.last).1=60 then([cy q 230],e.down (e.sl.save e.dev (kh e.bk) e.log.last).2.2 e.log)
 else([cy q (e.sl.save e.dev (kh e.bk) e.log.last).1],{e with dev:=(e.sl.save e.dev (kh e.bk) e.log.last).2.2})
def Es.rep(e:Es)(q:Rq): List Rp × Es:=
 if e.up=false then([cy q 230],e)
 else if q.ax=5∨q.ax=6∨q.ax=10 then e.ask q else if q.ax=8 then e.flush q else if q.ax=9 then e.save q else e.change q
end En
end
section
namespace En
structure bG.kP(d:bG): Prop where
 up:d.down=false
 eu:d.eu= -1
 ok:d.dk.Ok
structure bG.kK(d d':bG): Prop where
 free:d'.kP
 size:d'.dk.size=d.dk.size
 len:d'.dk.dr.length=d.dk.dr.length
variable{i:Nat}
theorem bG.kK.refl{d:bG}(h:d.kP): d.kK d:=⟨h,rfl,rfl⟩
theorem bG.kK.trans{a b c:bG}(h:a.kK b)(k:b.kK c): a.kK c:=⟨k.free,k.size.trans h.size,k.len.trans h.len⟩
theorem bG.kP.VE{d:bG}(h:d.kP): d.op=(true,{d with count:=aT.wrap (d.count+1)}):=by
 unfold bG.op;rw[if_neg Aw,if_neg (by rw[h.eu];decide),if_neg (by rw[h.eu];decide)]
theorem Dk.Ok.vP{d:Dk}(h:d.Ok)(hi:i<d.dr.length): (d.look i).length=d.size:=by
 unfold Dk.look;have h1: ∀ (l:List (Nat × By)) (i:Nat) (b:By),gP l i=Option.some b→(i,b)∈l:=by
  intro l
  induction l with
  | nil=>intro i b hb;cases hb
  | cons x r ih=>
   intro i b hb;rw[gP] at hb;cases hr:gP r i with
   | some c=>rw[hr] at hb;injection hb with hb;subst hb;exact gy _ (ih i c hr)
   | none=>
    rw[hr] at hb;simp only at hb;by_cases hx:x.1=i
    ·rw[if_pos hx] at hb;injection hb with hb;subst hb;subst hx;exact jt
    rw[if_neg hx] at hb;cases hb
 cases hr:gP d.row i with
 | some b=>exact(h.aK _ (h1 _ _ _ hr)).2
 | none=>
  simp only[Option.getD_none];rw[bQ,cI hi,Option.getD_some];exact h.each _ (List.getElem_mem hi)
theorem Dk.Pd{d:Dk}(hi:i<d.dr.length): d.bad (i:Int)=false:=by
 unfold Dk.bad;rw[yn,decide_eq_false_iff_not,decide_eq_false_iff_not];omega
theorem bG.kP.O0{d:bG}(h:d.kP)(hi:i<d.dk.dr.length): d.read (i:Int)=(0,d.dk.look i,{d with count:=aT.wrap (d.count+1)}):=by
 unfold bG.read;rw[h.VE];simp only[if_true];unfold Dk.read;rw[if_neg (by rw[Dk.Pd hi];decide)];rfl
theorem bG.kP.D5{d:bG}(h:d.kP)(n:Int): d.kK {d with count:=n}:=⟨⟨h.up,h.eu,h.ok⟩,rfl,rfl⟩
theorem bG.kP.IC{d:bG}(h:d.kP)(hi:i<d.dk.dr.length){b:By}(hb:b.length=d.dk.size):
  d.write (i:Int) b=(0,{d with dk:={d.dk with row:=d.dk.row++ [(i,b)]},count:=aT.wrap (d.count+1)}):=by
 unfold bG.write;rw[h.VE];simp only[if_true];unfold Dk.write;rw[if_neg (by rw[Dk.Pd hi];decide),if_pos hb];rfl
theorem bG.kP.zZ{d:bG}(h:d.kP)(hi:i<d.dk.dr.length){b:By}(hb:b.length=d.dk.size)(n:Int): d.kK {d with dk:={d.dk with row:=d.dk.row++ [(i,b)]},count:=n}:=
 ⟨⟨h.up,h.eu,⟨h.ok.size,h.ok.some,h.ok.each,fun x hx=>by
  rcases List.mem_append.1 hx with hx|hx
  ·exact h.ok.aK x hx
  rw[List.mem_singleton] at hx;subst hx;exact⟨hi,hb⟩⟩⟩,rfl,rfl⟩
theorem I'(s b:By)(k:Nat)(h:b.length=s.length): (over s b k).length=s.length:=Ja h
theorem vF(of:Nat→Nat)(size:Nat): ∀ (r:List (Nat × By)) (dr:List By) (i:Nat),(∀ b∈dr,b.length=size)→(∀ x∈r,x.1<dr.length∧x.2.length=size)→∀ b∈fk of dr i r,b.length=size
 | [],_,_,h,_=>h
 | x::r,dr,i,h,hr=>by
  rw[fk];have hx:=hr x jt;refine vF of size r _ (i+1) (fun b hb=>?_) (fun y hy=>by rw[List.length_set];exact hr y (gy _ hy));rcases List.mem_or_eq_of_mem_set hb with hb|hb
  ·exact h b hb
  subst hb;have e1:(dr.getD x.1 []).length=size:=by
   rw[bQ,cI hx.1,Option.getD_some];exact h _ (List.getElem_mem hx.1)
  rw[I' _ _ _ (by rw[hx.2,e1]),e1]
theorem bG.kP.aaj{d:bG}(h:d.kP): d.sync=(0,{d with dk:=d.dk.settle (fun _=>d.dk.size),count:=aT.wrap (d.count+1)}):=by
 unfold bG.sync;rw[h.VE];simp only[if_true]
theorem bG.kP.DW{d:bG}(h:d.kP): d.sync.1=0∧d.kK d.sync.2∧d.sync.2.dk.row= []:=by
 rw[h.aaj];refine⟨rfl,⟨⟨h.up,h.eu,⟨h.ok.size,?_,?_,fun x hx=>by cases hx⟩⟩,rfl,ov _ _ _ _⟩,rfl⟩
 ·show 1≤(fk _ d.dk.dr 0 d.dk.row).length∧(fk _ d.dk.dr 0 d.dk.row).length≤65536
  rw[ov];exact h.ok.some
 exact vF _ _ _ _ _ h.ok.each h.ok.aK
structure Rg.In(g:Rg)(d:bG): Prop where
 some:1≤g.count
 fits:g.from_+g.count≤d.dk.dr.length
theorem Rg.In.qh{g:Rg}{d d':bG}(h:g.In d)(k:d.kK d'): g.In d':=⟨h.some,by rw[k.len];exact h.fits⟩
theorem uE{size:Nat}(hs:1≤size)(c:Nat): ∀ (k at_ n:Nat),at_+n≤c*size→∀ x∈pieces size k at_ n,x.s<c∧x.f<x.t∧x.t≤size
 | 0,_,_,_,x,hx=>by cases hx
 | k+1,at_,n,h,x,hx=>by
  rw[pieces] at hx;by_cases h0:n=0
  ·rw[if_pos h0] at hx;cases hx
  rw[if_neg h0] at hx;have hm:at_ % size<size:=Nat.mod_lt _ ag;have hd:=Nat.div_add_mod at_ size;rcases List.mem_cons.1 hx with rfl|hx
  ·refine⟨?_,?_,Nat.min_le_left _ _⟩
   ·show at_ / size<c
    rw[Nat.div_lt_iff_lt_mul ag];omega
   show at_ % size<min size (at_ % size+n)
   omega
  refine uE hs c k _ _ ?_ x hx;have:min size (at_ % size+n)≤at_ % size+n:=Nat.min_le_right _ _;omega
theorem Be{size:Nat}(hs:1≤size): ∀ (k at_ n:Nat),n≤k→((pieces size k at_ n).map fun x=>x.t - x.f).sum=n
 | 0,_,n,h=>by
  have:n=0:=ag;subst this;rfl
 | k+1,at_,n,h=>by
  rw[pieces];by_cases h0:n=0
  ·rw[if_pos h0];subst h0;rfl
  rw[if_neg h0,List.map_cons,List.sum_cons];have hm:at_ % size<size:=Nat.mod_lt _ ag;rw[Be hs k _ _ ag];show min size (at_ % size+n) - at_ % size+_=n
  omega
theorem TG{g:Rg}{d:bG}{x:Piece}{b:By}(h:d.kP)(hg:g.In d)(hx:x.s<g.count∧x.f<x.t∧x.t≤d.dk.size)(hb:x.t - x.f≤b.length): (EW g d x b).1=0∧d.kK (EW g d x b).2:=by
 have hi:g.from_+x.s<d.dk.dr.length:=by have:=hg.fits;omega
 unfold EW;by_cases c:x.t - x.f<d.dk.size
 ·rw[if_pos c,h.O0 hi];simp only[if_true];have hl:=h.ok.vP hi;have h1:=h.D5 (aT.wrap (d.count+1));have hb2:((d.dk.look (g.from_+x.s)).take x.f++b.take (x.t - x.f)++(d.dk.look (g.from_+x.s)).drop x.t).length=d.dk.size:=by simp only[dz,List.length_take,List.length_drop,hl];omega
  rw[h1.free.IC hi hb2];exact⟨rfl,h1.trans (h1.free.zZ hi hb2 _)⟩
 rw[if_neg c];have hb2:(b.take (x.t - x.f)).length=d.dk.size:=AI;rw[h.IC hi hb2];exact⟨rfl,h.zZ hi hb2 _⟩
theorem IE{g:Rg}: ∀ (ps:List Piece) (d:bG) (b:By),d.kP→g.In d→(∀ x∈ps,x.s<g.count∧x.f<x.t∧x.t≤d.dk.size)→(ps.map fun x=>x.t - x.f).sum≤b.length→(Lm g d ps b).1=0∧d.kK (Lm g d ps b).2
 | [],d,b,h,_,_,_=>⟨rfl,bG.kK.refl h⟩
 | x::ps,d,b,h,hg,hp,hs=>by
  rw[List.map_cons,List.sum_cons] at hs;obtain⟨h1,h2⟩:=TG h hg (hp x jt) (b:=b) ag;rw[Lm,if_pos h1];obtain⟨h3,h4⟩:=IE ps (EW g d x b).2 (b.drop (x.t - x.f)) h2.free (hg.qh h2) (fun y hy=>by rw[h2.size];exact hp y (gy _ hy)) (by rw[List.length_drop];omega);exact⟨h3,h2.trans h4⟩
theorem Rg.Aa{g:Rg}{d:bG}(h:d.kP)(hg:g.In d)(at_:Nat)(b:By)(hb:at_+b.length≤g.bytes d.dk.size): (g.write d at_ b).1=0∧d.kK (g.write d at_ b).2:=by
 unfold Rg.write;have nI:g.bad d.dk.size (at_:Int) b.length=false:=by
  unfold Rg.bad;simp only[yn,decide_eq_false_iff_not];omega
 rw[if_neg (by rw[nI];decide)];rw[ia];exact IE _ d b h hg (uE h.ok.size.1 g.count _ _ _ hb) (by rw[Be h.ok.size.1 _ _ _ (aL _)];exact aL _)
theorem I8{g:Rg}: ∀ (ps:List Piece) (d:bG) (acc:By),d.kP→g.In d→(∀ x∈ps,x.s<g.count∧x.f<x.t∧x.t≤d.dk.size)→(H7 g d ps acc).1=0∧d.kK (H7 g d ps acc).2.2∧(H7 g d ps acc).2.2.dk=d.dk
 | [],d,acc,h,_,_=>⟨rfl,bG.kK.refl h,rfl⟩
 | x::ps,d,acc,h,hg,hp=>by
  have hi:g.from_+x.s<d.dk.dr.length:=by have:=hg.fits;have:=hp x jt;omega
  rw[H7,h.O0 hi,if_pos rfl];have h1:=h.D5 (aT.wrap (d.count+1));obtain⟨h3,h4,h5⟩:=I8 ps {d with count:=aT.wrap (d.count+1)} (acc++((d.dk.look (g.from_+x.s)).take x.t).drop x.f) h1.free (hg.qh h1) (fun y hy=>hp y (gy _ hy));exact⟨h3,h1.trans h4,h5⟩
theorem Rg.D6{g:Rg}{d:bG}(h:d.kP)(hg:g.In d)(at_ n:Nat)(hb:at_+n≤g.bytes d.dk.size): (g.read d at_ n).1=0∧d.kK (g.read d at_ n).2.2∧(g.read d at_ n).2.2.dk=d.dk:=by
 unfold Rg.read;have nI:g.bad d.dk.size (at_:Int) (n:Int)=false:=by
  unfold Rg.bad;simp only[yn,decide_eq_false_iff_not];omega
 rw[if_neg (by rw[nI];decide)];rw[ia,ia];exact I8 _ d [] h hg (uE h.ok.size.1 g.count _ _ _ hb)
theorem Lg.nM{l:Lg}{g:Rg}{d:bG}(h:d.kP)(hg:g.In d)(hl:l.done≤l.eD.length)(hu:l.used≤g.bytes d.dk.size)(hr:d.dk.row= []):
  (l.flush g d).1=0∧(l.flush g d).2.1= {l with done:=l.eD.length}∧d.kK (l.flush g d).2.2∧(l.flush g d).2.2.dk.row= []:=by
 unfold Lg.flush;by_cases c:l.done=l.eD.length
 ·rw[if_pos c];refine⟨rfl,?_,bG.kK.refl h,hr⟩;show l= {l with done:=l.eD.length}
  rw[←c]
 ·rw[if_neg c];obtain⟨h1,h2⟩:=Rg.Aa h hg l.cE.length l.aK (by rw[←l.uv hl];exact hu);obtain⟨h3,h4,h5⟩:=h2.free.DW;rw[if_pos h1,if_pos h3];exact⟨rfl,rfl,h2.trans h4,h5⟩
theorem BG{g:Rg}{d:bG}(h:d.kP)(hg:g.In d): (cX g d).1=0∧d.kK (cX g d).2.2∧(cX g d).2.2.dk=d.dk∧(cX g d).2.1.len≤g.bytes d.dk.size - d.dk.size:=by
 obtain⟨h1,h2,h3⟩:=Rg.D6 h hg 0 d.dk.size (by unfold Rg.bytes;have:=ib d.dk.size hg.some;omega);have K8:(g.read d 0 d.dk.size).1=0:=h1;have h2':d.kK (g.read d 0 d.dk.size).2.2:=h2;have h3':(g.read d 0 d.dk.size).2.2.dk=d.dk:=h3;unfold cX;rw[if_pos K8];refine⟨rfl,h2',h3',?_⟩;show(match BF (g.read d 0 d.dk.size).2.1 with|some h=>if h.len≤g.bytes d.dk.size - d.dk.size then h else Hd.zero|none=>Hd.zero).len≤_
 cases BF (g.read d 0 d.dk.size).2.1 with
 | none=>exact cu _
 | some x=>
  show(if x.len≤g.bytes d.dk.size - d.dk.size then x else Hd.zero).len≤_
  by_cases c:x.len≤g.bytes d.dk.size - d.dk.size
  ·rw[if_pos c];exact c
  rw[if_neg c];exact cu _
theorem yr{s:Sl}{d:bG}{x:Hd}(h:d.kP)(hg:(s.one i).In d)(hx:x.len≤(s.one i).bytes d.dk.size - d.dk.size): (cZ s d i x).1=0∧d.kK (cZ s d i x).2.2∧(cZ s d i x).2.2.dk=d.dk:=by
 unfold cZ;by_cases c:x.gen=0
 ·rw[if_pos c];exact⟨rfl,bG.kK.refl h,rfl⟩
 rw[if_neg c];obtain⟨h1,h2,h3⟩:=Rg.D6 h hg d.dk.size x.len (by unfold Rg.bytes at *;have:=ib d.dk.size hg.some;omega);rw[if_pos h1];exact⟨rfl,h2,h3⟩
structure Sl.In(s:Sl)(d:bG): Prop where
 a:s.a.In d
 b:s.b.In d
 same:s.b.count=s.a.count
 two:2≤s.a.count
theorem Sl.In.qh{s:Sl}{d d':bG}(h:s.In d)(k:d.kK d'): s.In d':=⟨h.a.qh k,h.b.qh k,h.same,h.two⟩
theorem Bo{s:Sl}{d:bG}{j:Nat} {hi hj:Hd}(h:d.kP)(h1:(s.one i).In d)(h2:(s.one j).In d)(h3:hi.len≤(s.one i).bytes d.dk.size - d.dk.size)(h4:hj.len≤(s.one j).bytes d.dk.size - d.dk.size):
  (kG s d i j hi hj).err=0∧d.kK (kG s d i j hi hj).dev∧(kG s d i j hi hj).dev.dk=d.dk:=by
 obtain⟨a1,a2,a3⟩:=yr (x:=hi) h h1 h3;obtain⟨b1,b2,b3⟩:=yr (x:=hj) a2.free (h2.qh a2) (by rw[a2.size];exact h4);unfold kG;rw[if_pos a1];cases(cZ s d i hi).2.1 with
 | some b=>exact⟨rfl,a2,a3⟩
 | none=>
  simp only;rw[if_pos b1];cases(cZ s (cZ s d i hi).2.2 j hj).2.1 with
  | some b=>exact⟨rfl,a2.trans b2,b3.trans a3⟩
  | none=>exact⟨rfl,a2.trans b2,b3.trans a3⟩
theorem Sl.Rx{s:Sl}{d:bG}(h:d.kP)(hs:s.In d): (s.load d).err=0∧d.kK (s.load d).dev∧(s.load d).dev.dk=d.dk:=by
 obtain⟨a1,a2,a3,a4⟩:=BG h hs.a;obtain⟨b1,b2,b3,b4⟩:=BG a2.free (hs.b.qh a2);have hL:=a2.trans b2;unfold Sl.load;rw[if_pos a1,if_pos b1];have e0:s.one 0=s.a:=rfl;have e1:s.one 1=s.b:=rfl;rw[a2.size] at b4;by_cases c:(cX s.a d).2.1.gen<(cX s.b (cX s.a d).2.2).2.1.gen
 ·rw[if_pos c];obtain⟨c1,c2,c3⟩:=Bo (s:=s) (i:=1) (j:=0) (hi:=(cX s.b (cX s.a d).2.2).2.1) (hj:=(cX s.a d).2.1) hL.free (by rw[e1];exact hs.b.qh hL) (by rw[e0];exact hs.a.qh hL) (by rw[e1,hL.size];exact b4) (by rw[e0,hL.size];exact a4);exact⟨c1,hL.trans c2,c3.trans (b3.trans a3)⟩
 rw[if_neg c];obtain⟨c1,c2,c3⟩:=Bo (s:=s) (i:=0) (j:=1) (hi:=(cX s.a d).2.1) (hj:=(cX s.b (cX s.a d).2.2).2.1) hL.free (by rw[e0];exact hs.a.qh hL) (by rw[e1];exact hs.b.qh hL) (by rw[e0,hL.size];exact a4) (by rw[e1,hL.size];exact b4);exact⟨c1,hL.trans c2,c3.trans (b3.trans a3)⟩
theorem vJ{g:Rg}{d:bG}(h:d.kP)(hg:g.In d)(at_:Nat)(b:By)(hb:at_+b.length≤g.bytes d.dk.size): (dG g d at_ b).1=0∧d.kK (dG g d at_ b).2∧(dG g d at_ b).2.dk.row= []:=by
 obtain⟨h1,h2⟩:=Rg.Aa h hg at_ b hb;obtain⟨h3,h4,h5⟩:=h2.free.DW;unfold dG;rw[if_pos h1];exact⟨h3,h2.trans h4,h5⟩
theorem mX(h:Hd): (Ig h).length=32:=by simp only[Ig,uL,uO,dz,Oc.bM,List.length_cons,List.length_nil]
theorem Sl.xC{s:Sl}{d:bG}(h:d.kP)(hs:s.In d)(hr:d.dk.row= [])(Il:32≤d.dk.size)(body:By)(lZ:Nat):
  ((s.save d body lZ).1=0∨(s.save d body lZ).1=3∨(s.save d body lZ).1=6)∧d.kK (s.save d body lZ).2.2∧(s.save d body lZ).2.2.dk.row= []:=by
 unfold Sl.save;by_cases c1:s.bytes d.dk.size<body.length
 ·rw[if_pos c1];exact⟨.inr (.inl rfl),bG.kK.refl h,hr⟩
 ·rw[if_neg c1];obtain⟨a1,a2,a3⟩:=Sl.Rx h hs;rw[if_neg (by rw[a1];decide)];by_cases c2:(s.load d).hd.gen=18446744073709551615
  ·rw[if_pos c2];exact⟨.inr (.inr rfl),a2,by rw[a3];exact hr⟩
  rw[if_neg c2];simp only;obtain⟨r,hre,jc⟩: ∃ r,(if(s.load d).at_=0 then s.b else s.a)=r∧r.In d∧r.count=s.a.count:=by
   by_cases c3:(s.load d).at_=0
   ·exact⟨s.b,if_pos c3,hs.b,hs.same⟩
   exact⟨s.a,if_neg c3,hs.a,rfl⟩
  obtain⟨jc,Z9⟩:=jc;rw[hre];have hby:r.bytes d.dk.size=s.a.bytes d.dk.size:=by unfold Rg.bytes;rw[Z9]
  have h2:=ib d.dk.size hs.two;have hB:d.dk.size+body.length≤r.bytes d.dk.size:=by unfold Sl.bytes at c1;rw[hby];unfold Rg.bytes at c1 ⊢;omega
  obtain⟨b1,b2,b3⟩:=vJ a2.free (jc.qh a2) d.dk.size body (by rw[a2.size];exact hB);rw[if_neg (by rw[b1];decide)];have hL:=a2.trans b2;obtain⟨x,hx⟩:=ae ((⟨(s.load d).hd.gen+1,lZ,body.length,Cr.iy 0 body⟩:Hd):Hd);rw[hx];obtain⟨e1,e2,e3⟩:=vJ hL.free (jc.qh hL) 0 (Ig x++List.replicate (d.dk.size - 32) 0) (by rw[hL.size,hby,dz,mX,List.length_replicate];unfold Rg.bytes;omega);rw[if_neg (by rw[e1];decide)];dsimp only;exact⟨.inl rfl,hL.trans e2,e3⟩
end En
end
section
namespace Bk
theorem agP(p g n bX len aS:Nat)(id v:Int)(f:Nat→Slot)(w:World)(h:fc w p g n bX len aS f)(hid:0≤id∧id<4294967296)(ht: ∃ i,i<n∧(f i).state=1∧(f i).id=id∧(f i).v=v):
  Calls af 160 #[.pointer (some ⟨p,0,none⟩),.int .u32 id] w fun e w'=>e= .returned (.tuple #[.int .i64 v,.bool true])∧fc w' p g n bX len aS f∧aG (· =p) w w':=by
 obtain⟨steps,hI⟩:=h.dQ;obtain⟨i,hi,hs,he,hv⟩:=ht;have hsk:vG f n id=((i:Int),true):=LW;have x0:=hI.own.cl 0;have hn:=h.a8;have HF:=Find p g n bX len aS steps id f w hI ag hn.2.2.2.2 hid h.tab.states;have hF:Calls af 245 #[.pointer (some ⟨p,0,none⟩),.int .u32 id] w fun e w'=>e= .returned (.tuple #[.int .i64 (i:Int),.bool true])∧(∃ s,dU w' p g n bX len aS s f)∧aG (· =p) w w':=HF.mono fun e w' h1=>by
  exact VS
 have HH:=aa h;have HG:=aa hF;have kC:(i:Int)<(n:Int):=ag;have yZ:(0:Int)≤(i:Int):=ag;have HV:=aa hv;clear h hF HF hI hsk hs he hv;go_enter Tryz.func160,Tryz.ntmps160;go_wp2_with fail;refine ah (fR p g n w x0) ?_;go_wp2_with fail;refine HG.o.mono ?_;rintro e w1 ⟨rfl,⟨s,lf⟩,su⟩;have y0:=lf.own.cl 0;have y2:w1.cell? ⟨g,i*3+2,none⟩=some (.int .i64 v):=by rw[←HV.o];exact(lf.rows.cell hi).2.2
 exact ac2
theorem Sk(p g n bX len aS:Nat)(id:Int)(f:Nat→Slot)(w:World)(h:fc w p g n bX len aS f)(hid:0≤id∧id<4294967296)(ht: ∀ i,i<n→(f i).state=1→(f i).id≠id):
  Calls af 160 #[.pointer (some ⟨p,0,none⟩),.int .u32 id] w fun e w'=>e= .returned (.tuple #[.int .i64 0,.bool false])∧fc w' p g n bX len aS f∧aG (· =p) w w':=by
 obtain⟨steps,hI⟩:=h.dQ;have hn:=h.a8;obtain⟨i,hi,hsk,_⟩:=ky.xB h.tab (by have:=h.full;omega) ht;have x0:=hI.own.cl 0;have HF:=Find p g n bX len aS steps id f w hI ag hn.2.2.2.2 hid h.tab.states;have hF:Calls af 245 #[.pointer (some ⟨p,0,none⟩),.int .u32 id] w fun e w'=>e= .returned (.tuple #[.int .i64 (i:Int),.bool false])∧(∃ s,dU w' p g n bX len aS s f)∧aG (· =p) w w':=HF.mono fun e w' h1=>by
  exact VT
 have HH:=aa h;have HG:=aa hF;clear h hF HF hI hsk ht;go_enter Tryz.func160,Tryz.ntmps160;go_wp2_with fail;refine ah (fR p g n w x0) ?_;go_wp2_with fail;refine HG.o.mono ?_;rintro e w1 ⟨rfl,⟨s,lf⟩,su⟩;exact ac2
variable{S:Nat→Prop}{w:World}{b n:Nat}{az ak:Int}
theorem bl.looked{w':World} {au:Nat} {next:Int} {L:List bU}{q:bD}(h:bl S w b n au az next ak L q)(hi:fc w' q.ip q.ig q.m au L.length q.gr q.f)(ht:aG (· =q.ip) w w'): bl S w' b n au az next ak L q:=
 h.mQ (h.bg.vR (ht.mono fun _ _ e=>.inl e) hi)
def ahl(S:Nat→Prop)(w:World)(b n au:Nat)(az next ak:Int)(L:List bU)(q:bD)(x:bU)(e:Ending)(w':World): Prop:=
 e= .returned (.tuple #[.agg #[.int .u32 x.id,.int .i64 x.av,.int .i64 x.aR],.int .i64 0])∧bl S w' b n au az next ak L q∧aG (· =q.ip) w w'
theorem Ct{au:Nat} {next:Int} {L:List bU}{q:bD}(h:bl S w b n au az next ak L q)(x:bU)(hx:x∈L)(hid:0≤x.id∧x.id<4294967296):
  Calls af 71 #[.pointer (some ⟨b,0,none⟩),.int .u32 x.id] w (ahl S w b n au az next ak L q x):=by
 obtain⟨qX,k8⟩:=h.dQ x hx;obtain⟨j,hj,j1,j2,j3⟩:=h.listed x hx;have hn:=h.small.2.2.2;obtain⟨id,av,aR⟩:=x;simp only at hid qX k8 j2 j3;have hb1:=aw (aq w.heap.size w) (.cells #[.int .u32 0,.int .i64 0,.int .i64 0] 171);have bh:=aD.fresh w 171 #[.int .u32 0,.int .i64 0,.int .i64 0];obtain⟨w1,aX⟩:=ae (w.alloc (.cells #[.int .u32 0,.int .i64 0,.int .i64 0] 171));obtain⟨r,hr⟩:=ae w.heap.size;have sK:=aa aX;have yO:=aa hr;rw[aX] at hb1 bh;rw[hr] at bh;have h1:=h.ai hb1;have HIG:=aa (agP q.ip q.ig q.m au L.length q.gr id av q.f w1 h1.bg.ids hid ⟨j,hj,j1,j2,j3⟩);have HT:=aa (dD b true w1 (h1.bg.own.cell 3));have P6:=aa k8;have HH1:=aa h1;have bu:=aa hb1;have dH:=aa bh;have HH:=aa h;have HHX:=aa hx;have x7:=h1.bg.own.cl 7;have hs1:(av:Int)<(n:Int):=ag;have hs0:(0:Int)≤(av:Int):=ag;clear h h1 hb1 bh j1 j2 j3 k8 aX hr hx;go_enter Tryz.func71,Tryz.ntmps71;go_wp2_with fail;rw[sK.o,yO.o];refine ah HT.o ?_;go_wp2_with fail;refine HIG.o.mono ?_;rintro e w2 ⟨rfl,qY,jL⟩;have h2:=HH1.o.looked qY jL;have hne: ¬r=q.ip:=fun e=>by
  have:=HH.o.bg.lt q.ip HH.o.bg.bt.2.2.2.1;have h9:=yO.o;omega
 have jI:=aa (jL.arr dH.o hne);have HH2:=aa h2;have gV:=aa (show aG (· =q.ip) w w2 from((aG.refl _ w).ai bu.o).trans jL);have y8:=h2.bg.own.cl 8;clear qY jL h2;have hrg:=HH2.o.bg.fZ;have GC:=aa hrg;have hq:jN (q.sb av)= [.int .u32 id,.int .i64 (av:Int),.int .i64 aR]:=by rw[P6.o];rfl
 have MU:=GC.o.range (fun _=>rfl) (show av<n from qX);rw[hq] at MU;have HQ:=aa MU;clear hrg hq MU;go_wp2_with (first|(refine wpList_load_mid rfl 171 _ rfl q.sg (av*3) rfl _ _ HQ.o wD rfl rfl ?_)|(refine aj rfl 171 _ _ rfl r 171 _ #[.int .u32 id,.int .i64 (av:Int),.int .i64 aR] jI.o rfl rfl rfl e9 qO ?_;intro w3 dB hg3 hs3;have pq:=aa dB;have zI:=aa hg3;clear dB hg3 hs3));exact adp
def akV(S:Nat→Prop)(w:World)(b n au:Nat)(az next ak:Int)(L:List bU)(q:bD)(e:Ending)(w':World): Prop:=
 e= .returned (.tuple #[.agg #[.int .u32 0,.int .i64 0,.int .i64 0],.int .i64 171])∧bl S w' b n au az next ak L q∧aG (· =q.ip) w w'
theorem ZK{au:Nat} {next:Int} {L:List bU}{q:bD}(h:bl S w b n au az next ak L q)(id:Int)(hx: ∀ x∈L,x.id≠id)(hid:0≤id∧id<4294967296):
  Calls af 71 #[.pointer (some ⟨b,0,none⟩),.int .u32 id] w (akV S w b n au az next ak L q):=by
 have hb1:=aw (aq w.heap.size w) (.cells #[.int .u32 0,.int .i64 0,.int .i64 0] 171);have bh:=aD.fresh w 171 #[.int .u32 0,.int .i64 0,.int .i64 0];obtain⟨w1,aX⟩:=ae (w.alloc (.cells #[.int .u32 0,.int .i64 0,.int .i64 0] 171));obtain⟨r,hr⟩:=ae w.heap.size;have sK:=aa aX;have yO:=aa hr;rw[aX] at hb1 bh;rw[hr] at bh;have h1:=h.ai hb1;have HIG:=aa (Sk q.ip q.ig q.m au L.length q.gr id q.f w1 h1.bg.ids hid (fun i hi hs e=>by
  obtain⟨x,hx1,e2⟩:=h.under i hi hs;exact hx x hx1 (e2.symm.trans e)))
 have HT:=aa (dD b true w1 (h1.bg.own.cell 3));have HH1:=aa h1;have bu:=aa hb1;have dH:=aa bh;have HH:=aa h;have x7:=h1.bg.own.cl 7;clear h h1 hb1 bh aX hr hx;go_enter Tryz.func71,Tryz.ntmps71;go_wp2_with fail;rw[sK.o,yO.o];refine ah HT.o ?_;go_wp2_with fail;refine HIG.o.mono ?_;rintro e w2 ⟨rfl,qY,jL⟩;have h2:=HH1.o.looked qY jL;have hne: ¬r=q.ip:=fun e=>by
  have:=HH.o.bg.lt q.ip HH.o.bg.bt.2.2.2.1;have h9:=yO.o;omega
 have jI:=aa (jL.arr dH.o hne);have HH2:=aa h2;have gV:=aa (show aG (· =q.ip) w w2 from((aG.refl _ w).ai bu.o).trans jL);clear qY jL h2;go_wp2_with (refine aj rfl 171 _ _ rfl r 171 _ #[.int .u32 0,.int .i64 0,.int .i64 0] jI.o rfl rfl rfl e9 qO ?_;intro w3 dB hg3 hs3;have pq:=aa dB;have zI:=aa hg3;clear dB hg3 hs3);exact adp
