import Derived.Test.YtemighjbfanenaaGreatDoorPk2
import Derived.Laws.BitsAllLaws
set_option linter.all false
set_option maxRecDepth 100000
set_option maxHeartbeats 16000000
namespace Go.Proofs.YtemighjbfanenaaGreatDoor
open RowKit
open Oc (Bs jU fF aP le tk qi val lr)
open Go renaming bits→aX
open Go.BinOp renaming xor→qP
open Go.IntKind renaming wrap_u32'→YN,u32→iE
open Go.Proofs.Tryz renaming prog→af
open Go.World renaming block_lt_of_cell?→bD
open List renaming length_pos_iff→vo
open Nat renaming le_refl→aQ
open RowKit.Below renaming refl→au
open _root_.Array renaming getElem?_eq_some_iff→eK
theorem acI{p:Prop}(h:p:=by
 go_wp2_with (refine adY _ rfl _ _ rfl [] bs (some ⟨w.heap.size,0,none⟩) 0 0 rfl rfl dR (Bs.nil _ _) ⟨g,off,none⟩ bs.length c rfl rfl (HB.o.ai (ax (au _ _) _)) aj aj ?_;intro g5 c5 w5 ft dX Y0 F5;have oP:=aa ft;have eA:=aa dX;have M4:=aa Y0;have Nj:=aa F5;clear ft dX Y0 F5);go_ret;have h5:=oP.o;simp at h5;exact⟨some ⟨g5,0,none⟩,c5,dR,fun _=>⟨g5,rfl,aj,eA.o⟩,by simpa using Nj.o,(fun g' o' e=>aec),(fun e=>qf),av (ax (au _ _) _) M4.o⟩):p:=h
theorem U5{p:Prop}(h:p:=by
 go_enter Tryz.func151,Tryz.ntmps151;go_wp2_with fail;refine ag HE.o ?_;go_wp2_with fail;go_ret;exact⟨rfl,rfl⟩):p:=h
theorem U4{p:Prop}(h:p:=by
 go_enter Tryz.func60,Tryz.ntmps60;go_wp2_with fail;go_ret2;exact⟨none,rfl,fun h=>absurd rfl h,au _ _⟩):p:=h
theorem acp{p:Prop}(h:p:=by
 unfold Oper.wp execOp;simp only[hop,resolve,invoke,builtin,Sem.run_bind,Sem.run_pure,Result.andThen_ok,List.map_toArray,List.map_cons,List.map_nil,hs,hx,hrun];exact hK g cap w' h3 h1 (Below.grown (au _ _) hgr (aQ _) dR) h2):p:=h
theorem ach{p:Prop}(h:p:=by
 go_wp2_with fail;go_ret;exact⟨some ⟨w.heap.size,0,none⟩,0,rfl,fun h=>absurd rfl h,aQ _,(fun g' o' e=>aej),(fun e=>qf),ax (au _ _) _⟩):p:=h
theorem Vw{p:Prop}(h:p:=by
 go_wp2_with fail;go_ret;exact⟨none,0,rfl,fun h=>absurd rfl h,aQ _,(fun g' o' e=>qf),fun _=>rfl,au _ _⟩):p:=h
theorem km{p:Prop}(h:p:=by unfold maxLen;omega):p:=h
theorem Fk{p:Prop}(h:p:=by rw[IntKind.wrap_i64];omega):p:=h
theorem aej{p:Prop}(h:p:=by injection e with e;injection e with e;subst e;exact⟨aQ _,by simp⟩):p:=h
theorem aec{p:Prop}(h:p:=by injection e with e;injection e with e;have:=eA.o.lt;omega):p:=h
theorem E7{p:Prop}(h:p:=by rw[bu,Nat.mul_one]):p:=h
section
namespace Oc
variable{w:World}
theorem _root_.Go.Proofs.YtemighjbfanenaaGreatDoor.jN.bs{g:Nat}{bs:List UInt8}(h:jN w 5 g bs): Bs w (some ⟨g,0,none⟩) bs:=fun _=>⟨g,0,rfl,h.lt,fun i u hu=>by
 obtain⟨cur,h1,h2⟩:=h;rw[Nat.zero_add,show w.cell? ⟨g,i,none⟩=cur[i]? from by simp[World.cell?,h1]];exact h2 i u hu⟩
theorem mV{base g cap n:Nat}{bs:List UInt8}(h:w.ownsRow base 5 1 (.slice (some ⟨g,0,none⟩) n cap) n (aP bs))(hn:bs.length=n): jN w 5 g bs∧n≤cap∧base≤g∧n≤maxLen:=by
 rcases h.2 with⟨h0,_⟩|⟨g',cap',cur,hv,hb,hh,h1,h2,h3,h4⟩
 ·cases h0
 injection hv with e1 _ e2
 injection e1 with e1;injection e1 with e1
 subst e1 e2;refine⟨⟨cur,hh,fun j u hu=>?_⟩,h1,hb,Nat.le_trans h1 h2⟩;have hj:=(List.getElem?_eq_some_iff.1 hu).1;rw[bu] at hj;rw[←hu,←h4,List.getElem?_take,if_pos aj,Array.getElem?_toList]
theorem uJ(ad:Addr)(n c:Nat)(W:World): (binOp BinOp.eql 34 (.slice (some ad) n c) (.slice none 0 0)).run af W= .ok (.bool false) W:=br
theorem FP(n c:Nat)(W:World): (binOp BinOp.eql 34 (.slice none n c) (.slice none 0 0)).run af W= .ok (.bool true) W:=br
theorem NQ(w:World){o:Oper}{a:Act}{K:Act→World→Prop}{Q:Exit→Act→World→Prop}(s x:Operand)
  (hop:o.op=Op.call {callee:=Callee.builtin Builtin.append,args:=#[s,x],argTypes:=#[34,34]}) (bs cs:List UInt8) (A:Option Addr) (n c:Nat) (hs:a.eval s= .slice A n c) (hn:n=bs.length) (hA:A=none→n=0∧c=0) (hB:Bs w A bs)
  (ad:Addr) (m cp:Nat) (hx:a.eval x= .slice (some ad) m cp) (hm:m=cs.length) (hC:Bs w (some ad) cs) (mP:c<n+m) (hl:n+m≤70368744177664)
  (hK: ∀ g J0 w',w.heap.size≤g→jN w' 5 g (bs++cs)→Below w.heap.size w w'→n+m≤J0→K (a.put o.dst (.slice (some ⟨g,0,none⟩) (n+m) J0)) w'):Oper.wp af o a w K Q:=by
 obtain⟨i0,hi,hz0,hz1,hz2⟩:=info_parts eY;subst hn hm;have b1:bs.length+cs.length≤maxLen:=km;have b2:(bs.length+cs.length)*1≤140737488355328:=aj;have hnews:(aP cs).length=cs.length*1:=E7;have hgo: ∃ v' w',(Builtin.append_ #[34,34] o.type #[.slice A bs.length c,.slice (some ad) cs.length cp]).run af w= .ok v' w'∧w'.ownsRow w.heap.size 5 1 v' (bs.length+cs.length) (aP bs++aP cs)∧w.grownBy w' none:=by
  cases A with
  | some b=>
   obtain⟨v',w',hrun,r1,r2⟩:=run_append_arg_grows (P:=af) w 34 o.type 5 i0 (.int .u8 0) 1 1 Tryz.underlying34 hi hz0 hz1 hz2 rfl aN b bs.length c (aP bs) E7 hB.read ad cs.length cp (aP cs) hnews hC.read mP b1 b2;exact⟨v',w',hrun,r1,r2⟩
  | none=>
   obtain⟨h0,rfl⟩:=hA rfl;obtain rfl:=List.eq_nil_of_length_eq_zero h0;obtain⟨v',w',hrun,r1,r2,_⟩:=run_append_own (P:=af) w w.heap.size 34 o.type 5 i0 (.int .u8 0) 1 1 Tryz.underlying34 hi hz0 hz1 hz2 rfl aN (.slice none 0 0) 0 [] (World.ownsRow_nil w _ 5 1) ad cs.length cp (aP cs) hnews hC.read (bQ cs) (by simpa using b1) (by simpa using b2) (aQ _);exact⟨v',w',hrun,r1,r2⟩
 obtain⟨v',w',hrun,ho,hgr⟩:=hgo;have hne:v'≠ .slice none 0 0:=by
  rintro rfl;rcases ho.2 with⟨_,h0⟩|⟨_,_,_,h0,_⟩
  ·omega
  cases h0
 obtain⟨g,cap,rfl⟩:=xV ho hne;rw[←ed] at ho;obtain⟨h1,h2,h3,_⟩:=mV ho (by rw[List.length_append]);exact acp
theorem adY(w:World){ops:Array Oper}{rest:List Oper}{o:Oper}{a:Act}{Q:Exit→Act→World→Prop}(hg:o.guard=none)(s x:Operand)
  (hop:o.op=Op.call {callee:=Callee.builtin Builtin.append,args:=#[s,x],argTypes:=#[34,34]}) (bs cs:List UInt8) (A:Option Addr) (n c:Nat) (hs:a.eval s= .slice A n c) (hn:n=bs.length) (hA:A=none→n=0∧c=0) (hB:Bs w A bs)
  (ad:Addr) (m cp:Nat) (hx:a.eval x= .slice (some ad) m cp) (hm:m=cs.length) (hC:Bs w (some ad) cs) (mP:c<n+m) (hl:n+m≤70368744177664)
  (hK: ∀ g J0 w',w.heap.size≤g→jN w' 5 g (bs++cs)→Below w.heap.size w w'→n+m≤J0→wpList af ops Q rest (a.put o.dst (.slice (some ⟨g,0,none⟩) (n+m) J0)) w'):wpList af ops Q (o::rest) a w:=
 wpList_plain hg fun _ hKK=>NQ w s x hop bs cs A n c hs hn hA hB ad m cp hx hm hC mP hl fun g J0 w' a b c d=>hKK _ _ (hK g J0 w' a b c d)
def fZ(bs:List UInt8)(w:World)(e:Ending)(w':World): Prop:=
 ∃ A c,e= .returned (.slice A bs.length c)∧(bs≠ []→∃ g,A=some ⟨g,0,none⟩∧w.heap.size≤g∧jN w' 5 g bs)∧bs.length≤c∧(∀ g off,A=some ⟨g,off,none⟩→w.heap.size≤g∧g<w'.heap.size)∧(A=none→c=0)∧Below w.heap.size w w'
theorem fZ.bs{bs:List UInt8}{w':World} {A:Option Addr}(h:bs≠ []→∃ g,A=some ⟨g,0,none⟩∧w.heap.size≤g∧jN w' 5 g bs): Bs w' A bs:=fun hne=>by
 obtain⟨g,rfl,_,hb⟩:=h hne;exact hb.bs hne
theorem Nt(bs:List UInt8)(g off c:Nat)(w:World)(hB:Bs w (some ⟨g,off,none⟩) bs)(hne:bs≠ [])(hl:bs.length≤70368744177664): Calls af 148 #[.slice (some ⟨g,off,none⟩) bs.length c] w (fZ bs w):=by
 have ahf:0<bs.length:=vo.2 hne;have HB:=aa hB;have HN:=aa hne;have hq:=uJ ⟨g,off,none⟩ bs.length c;clear hB hne;go_enter Tryz.func148,Tryz.ntmps148;exact acI
theorem Nu(c:Nat)(w:World): Calls af 148 #[.slice none 0 c] w (fZ [] w):=by
 have hq:=FP 0 c;go_enter Tryz.func148,Tryz.ntmps148;exact Vw
theorem Kv(g off c:Nat)(w:World): Calls af 148 #[.slice (some ⟨g,off,none⟩) 0 c] w (fZ [] w):=by
 have hq:=uJ ⟨g,off,none⟩ 0 c;go_enter Tryz.func148,Tryz.ntmps148;exact ach
theorem CF(bs:List UInt8)(A:Option Addr)(c:Nat)(w:World)(hB:Bs w A bs)(hA:rh A)(hl:bs.length≤70368744177664): Calls af 148 #[.slice A bs.length c] w (fZ bs w):=by
 by_cases hne:bs= []
 ·subst hne;cases A with
  | none=>exact Nu c w
  | some ad=>obtain⟨g,off,rfl⟩:=hA ad rfl;exact Kv g off c w
 obtain⟨g,off,rfl,_⟩:=hB hne;exact Nt bs g off c w hB hne hl
def rE(bs:List UInt8)(w:World)(e:Ending)(w':World): Prop:=∃ p q,e= .returned (.pointer (some ⟨p,0,none⟩))∧jU w' p q bs 0∧w.heap.size≤p∧w.heap.size≤q∧Below w.heap.size w w'
theorem za(bs:List UInt8)(A:Option Addr)(c:Nat)(w:World)(hB:Bs w A bs)(hA:rh A)(hl:bs.length≤70368744177664): Calls af 149 #[.slice A bs.length c] w (rE bs w):=by
 have HC:=aa (CF bs A c w hB hA hl);clear hB hA;go_enter Tryz.func149,Tryz.ntmps149;go_wp2_with fail;refine HC.o.mono ?_;rintro en w1 ⟨B,d,rfl,h1,h2,h3,h4,h5⟩;have HB:=aa (fZ.bs (w:=w) h1);have HL:=aa h2;have H3:=aa h3;have H5:=aa h5;have EG:=aa h1;clear h1 h2 h3 h4 h5 HC;go_wp2_with fail;go_ret;have hz:=H5.o.size;have hb:Below w1.heap.size w1 ((w1.alloc (.cells #[.slice B bs.length d,.int .i64 0] 346)).alloc (.cells #[.pointer (some ⟨w1.heap.size,0,none⟩)] 348)):=ax (ax (au _ _) _) _;exact⟨w1.heap.size+1,w1.heap.size,dR,⟨aG.new dR,B,d,(aG.fresh w1 _ _).alloc _,HB.o.ai hb,HL.o,fun g off e=>⟨by have:=(H3.o g off e).2;omega,fun hne=>by obtain⟨g',q1,_,q2⟩:=EG.o hne;rw[q1] at e;injection e with e;injection e with e _;subst e;obtain⟨cur,q3,_⟩:=q2;exact⟨cur,(hb.block _ (eK.1 q3).1).trans q3⟩⟩⟩,aj,hz,av H5.o hb⟩
def oK(p q:Nat)(bs:List UInt8)(e:Int)(k:Nat)(kd:IntKind)(w:World)(en:Ending)(w':World): Prop:=
 en= .returned (.int kd (val (tk bs e k).1:Nat))∧jU w' p q (tk bs e k).2.1 (tk bs e k).2.2∧aI (· =q) w w'
theorem wD(p q:Nat)(bs:List UInt8)(e:Int)(w:World)(h:jU w p q bs e): Calls af 150 #[.pointer (some ⟨p,0,none⟩)] w (oK p q bs e 1 .u8 w):=by
 have HH:=aa h;have HN:=aa (zN p q 1 bs e w h aN);clear h;go_enter Tryz.func150,Tryz.ntmps150;go_wp2_with fail;refine HN.o.mono ?_;rintro en w1 ⟨rfl,h2,h3⟩;have hv:=lr (qi bs e 1);have hw:IntKind.u8.wrap ((val (tk bs e 1).1:Nat):Int)=((val (tk bs e 1).1:Nat):Int):=by rw[IntKind.wrap_u8'];omega
 have HF:=aa (show oK p q bs e 1 .u8 w _ w1 from⟨rfl,HH.o.next h2 h3,h3⟩);clear h2 h3 hv;go_wp2_with fail;go_ret;exact HF.o
theorem oL(p q:Nat)(bs:List UInt8)(e:Int)(w:World)(h:jU w p q bs e): Calls af 141 #[.pointer (some ⟨p,0,none⟩)] w (oK p q bs e 2 .u16 w):=by
 have HH:=aa h;have HN:=aa (zN p q 2 bs e w h aN);clear h;go_enter Tryz.func141,Tryz.ntmps141;go_wp2_with fail;refine HN.o.mono ?_;rintro en w1 ⟨rfl,h2,h3⟩;have hv:=lr (qi bs e 2);have hw:IntKind.u16.wrap ((val (tk bs e 2).1:Nat):Int)=((val (tk bs e 2).1:Nat):Int):=by rw[IntKind.wrap_u16];omega
 have HF:=aa (show oK p q bs e 2 .u16 w _ w1 from⟨rfl,HH.o.next h2 h3,h3⟩);clear h2 h3 hv;go_wp2_with fail;go_ret;exact HF.o
theorem gC(p q:Nat)(bs:List UInt8)(e:Int)(w:World)(h:jU w p q bs e): Calls af 136 #[.pointer (some ⟨p,0,none⟩)] w (oK p q bs e 4 .u32 w):=by
 have HH:=aa h;have HN:=aa (zN p q 4 bs e w h aN);clear h;go_enter Tryz.func136,Tryz.ntmps136;go_wp2_with fail;refine HN.o.mono ?_;rintro en w1 ⟨rfl,h2,h3⟩;have hv:=lr (qi bs e 4);have hw:iE.wrap ((val (tk bs e 4).1:Nat):Int)=((val (tk bs e 4).1:Nat):Int):=by rw[YN];omega
 have HF:=aa (show oK p q bs e 4 .u32 w _ w1 from⟨rfl,HH.o.next h2 h3,h3⟩);clear h2 h3 hv;go_wp2_with fail;go_ret;exact HF.o
theorem iu(p q:Nat)(bs:List UInt8)(e:Int)(w:World)(h:jU w p q bs e): Calls af 146 #[.pointer (some ⟨p,0,none⟩)] w (oK p q bs e 8 .u64 w):=by
 have HH:=aa h;have HN:=aa (zN p q 8 bs e w h aN);clear h;go_enter Tryz.func146,Tryz.ntmps146;go_wp2_with fail;refine HN.o.mono ?_;rintro en w1 ⟨rfl,h2,h3⟩;have HF:=aa (show oK p q bs e 8 .u64 w _ w1 from⟨rfl,HH.o.next h2 h3,h3⟩);clear h2 h3;go_wp2_with fail;go_ret;exact HF.o
def Xv(p q:Nat)(bs:List UInt8)(e:Int)(k:Nat)(w:World)(en:Ending)(w':World): Prop:=
 ∃ A c,en= .returned (.slice A (tk bs e k).1.length c)∧((tk bs e k).1≠ []→∃ g,A=some ⟨g,0,none⟩∧w.heap.size≤g∧jN w' 5 g (tk bs e k).1)∧(∀ g off,A=some ⟨g,off,none⟩→w.heap.size≤g∧g<w'.heap.size)∧jU w' p q (tk bs e k).2.1 (tk bs e k).2.2∧aI (· =q) w w'
theorem Kb(p q k:Nat)(bs:List UInt8)(e:Int)(w:World)(h:jU w p q bs e)(hk:1≤k∧k≤1000000): Calls af 375 #[.pointer (some ⟨p,0,none⟩),.int .i64 k] w (Xv p q bs e k w):=by
 have x0:w.cell? ⟨p,0,none⟩=some (.pointer (some ⟨q,0,none⟩)):=h.own.cell 0;have HH:=aa h;have HN:=aa (zH q k bs e w h.rest hk);have HK:=aa hk;clear h hk;go_enter Tryz.func375,Tryz.ntmps375;go_wp2_with fail;refine ag (fP p q w x0) ?_;go_wp2_with fail;refine HN.o.mono ?_;rintro en w1 ⟨⟨A,c,rfl,hb,hA⟩,hr,ht⟩;have hC:=CF (tk bs e k).1 A c w1 hb hA (Nat.le_trans (qi bs e k) Ba);have HR:=aa hr;have HT:=aa ht;have HC:=aa hC;clear hb hA hr ht hC HN;go_wp2_with fail;refine HC.o.mono ?_;rintro en w2 ⟨B,d,rfl,h1,h2,h3,h4,h5⟩;have hz:=HT.o.size;have lG:Xv p q bs e k w (.returned (.slice B (tk bs e k).1.length d)) w2:=⟨B,d,rfl,fun hne=>by obtain⟨g,a,b,c⟩:=h1 hne;exact⟨g,a,aj,c⟩,fun g off e=>by have:=h3 g off e;omega,(HH.o.next HR.o HT.o).ai h5,HT.o.ak h5⟩;have HF:=aa lG;clear h1 h2 h3 h4 h5 lG hz;go_wp2_with fail;go_ret;exact HF.o
theorem aa3(p q:Nat)(bs:List UInt8)(e:Int)(w:World)(h:jU w p q bs e): Calls af 238 #[.pointer (some ⟨p,0,none⟩)] w fun en w'=>en= .returned (.int .i64 e)∧w'=w:=by
 obtain⟨A,c,h1,_⟩:=h.rest.ex;have x0:w.cell? ⟨p,0,none⟩=some (.pointer (some ⟨q,0,none⟩)):=h.own.cell 0;have x1:w.cell? ⟨q,1,none⟩=some (.int .i64 e):=h1.cell 1;clear h h1;go_enter Tryz.func238,Tryz.ntmps238;go_wp2_with fail;refine ag (fP p q w x0) ?_;go_wp2_with fail;go_ret;exact⟨rfl,rfl⟩
def rG(bs:List UInt8)(e:Int): Int:=if e≠0 then e else if bs= [] then 0 else 5
theorem zX(p q:Nat)(bs:List UInt8)(e:Int)(w:World)(h:jU w p q bs e): Calls af 151 #[.pointer (some ⟨p,0,none⟩)] w fun en w'=>en= .returned (.int .i64 (rG bs e))∧w'=w:=by
 obtain⟨A,c,h1,_⟩:=h.rest.ex;have x0:w.cell? ⟨p,0,none⟩=some (.pointer (some ⟨q,0,none⟩)):=h.own.cell 0;have x1:w.cell? ⟨q,0,none⟩=some (.slice A bs.length c):=h1.cell 0;have HE:=aa (aa3 p q bs e w h);clear h h1;by_cases c1:e=0
 ·subst c1;by_cases c2:bs= []
  ·subst c2;exact U5
  have hl:(0:Int)<(bs.length:Int):=by have:=vo.2 c2;omega
  have hf:rG bs 0=5:=by simp[rG,c2]
  rw[hf];clear hf c2;exact U5
 have hf:rG bs e=e:=by simp[rG,c1]
 have hb:(e==0)=false:=by simp[c1]
 rw[hf];clear hf c1;exact U5
end Oc
end
section
namespace En
open Oc (oK gC oL iu)
def cz(k:Int): List Nat:=if k=1 then [1,2] else if k=2 then [0] else if k=3 then [0] else if k=5 then [0] else if k=4 then [0,1] else if k=6 then [1] else if k=7 then [2] else []
def j9(l:List Nat): Array Value:=(l.map fun(n:Nat)=>Value.int .i64 ((n:Nat):Int)).toArray
def aiA(k:Int)(w:World)(e:Ending)(w':World): Prop:=
 ∃ A,e= .returned (.tuple #[.slice A (cz k).length (cz k).length,.bool (jr k)])∧(cz k≠ []→∃ g,A=some ⟨g,0,none⟩∧w.heap.size≤g∧aG w' g 3 (j9 (cz k)))∧Below w.heap.size w w'
theorem FE(k:Int)(w:World): Calls af 60 #[.int .i64 k] w (aiA k w):=by
 by_cases h1:k=1
 ·subst h1;go_enter Tryz.func60,Tryz.ntmps60;go_wp2_with fail;go_ret2;exact⟨_,rfl,fun _=>⟨_,rfl,aQ _,aG.fresh w 3 (j9 (cz 1))⟩,ax (au _ _) _⟩
 by_cases h2:k=2
 ·subst h2;go_enter Tryz.func60,Tryz.ntmps60;go_wp2_with fail;go_ret2;exact⟨_,rfl,fun _=>⟨_,rfl,aQ _,aG.fresh w 3 (j9 (cz 2))⟩,ax (au _ _) _⟩
 by_cases h3:k=3
 ·subst h3;go_enter Tryz.func60,Tryz.ntmps60;go_wp2_with fail;go_ret2;exact⟨_,rfl,fun _=>⟨_,rfl,aQ _,aG.fresh w 3 (j9 (cz 3))⟩,ax (au _ _) _⟩
 by_cases h5:k=5
 ·subst h5;go_enter Tryz.func60,Tryz.ntmps60;go_wp2_with fail;go_ret2;exact⟨_,rfl,fun _=>⟨_,rfl,aQ _,aG.fresh w 3 (j9 (cz 5))⟩,ax (au _ _) _⟩
 by_cases h4:k=4
 ·subst h4;go_enter Tryz.func60,Tryz.ntmps60;go_wp2_with fail;go_ret2;exact⟨_,rfl,fun _=>⟨_,rfl,aQ _,aG.fresh w 3 (j9 (cz 4))⟩,ax (au _ _) _⟩
 by_cases h6:k=6
 ·subst h6;go_enter Tryz.func60,Tryz.ntmps60;go_wp2_with fail;go_ret2;exact⟨_,rfl,fun _=>⟨_,rfl,aQ _,aG.fresh w 3 (j9 (cz 6))⟩,ax (au _ _) _⟩
 by_cases h7:k=7
 ·subst h7;go_enter Tryz.func60,Tryz.ntmps60;go_wp2_with fail;go_ret2;exact⟨_,rfl,fun _=>⟨_,rfl,aQ _,aG.fresh w 3 (j9 (cz 7))⟩,ax (au _ _) _⟩
 by_cases h8:k=8
 ·subst h8;exact U4
 by_cases h9:k=9
 ·subst h9;exact U4
 by_cases h10:k=10
 ·subst h10;exact U4
 have hl:cz k= []:=by unfold cz;simp[h1,h2,h3,h4,h5,h6,h7]
 have hr:jr k=false:=by unfold jr;rcases(show k<1∨10<k from aj)with h|h <;>simp <;>omega
 have b1:(k==1)=false:=beq_eq_false_iff_ne.2 h1;have b2:(k==2)=false:=beq_eq_false_iff_ne.2 h2;have b3:(k==3)=false:=beq_eq_false_iff_ne.2 h3;have b4:(k==4)=false:=beq_eq_false_iff_ne.2 h4;have b5:(k==5)=false:=beq_eq_false_iff_ne.2 h5;have b6:(k==6)=false:=beq_eq_false_iff_ne.2 h6;have b7:(k==7)=false:=beq_eq_false_iff_ne.2 h7;have b8:(k==8)=false:=beq_eq_false_iff_ne.2 h8;have b9:(k==9)=false:=beq_eq_false_iff_ne.2 h9;have b10:(k==10)=false:=beq_eq_false_iff_ne.2 h10;have HR:=aa hr;have HL:=aa hl;clear hr hl;go_enter Tryz.func60,Tryz.ntmps60;go_wp2_with fail;go_ret2;exact⟨none,by rw[HR.o,HL.o];rfl,fun h=>absurd HL.o h,au _ _⟩
def gp: Array Value:=#[.func (.func 134) #[] #[],.func (.func 135) #[] #[],.func (.func 137) #[] #[],
 .func (.func 138) #[] #[],.func (.func 140) #[] #[],.func (.func 142) #[] #[],
 .func (.func 143) #[] #[],.func (.func 145) #[] #[],.func (.func 147) #[] #[]]
theorem oH: (af.info? 161).map (·.size)=some 9:=br
theorem yf(w:World): Calls af 61 #[] w fun e w'=>e= .returned (.agg gp)∧Below w.heap.size w w':=by
 obtain⟨xf,Z9⟩:=ae w.heap.size;obtain⟨w1,aZ⟩:=ae (w.alloc (.cells #[.nilFunc,.nilFunc,.nilFunc,.nilFunc,.nilFunc,.nilFunc,.nilFunc,.nilFunc,.nilFunc] 161));have dz:=aa (aK aZ Z9);have bz:=aa (aL aZ);have HXF:=aa Z9;go_enter Tryz.func61,Tryz.ntmps61;go_wp2_with (refine ah rfl 161 _ _ rfl xf 161 _ gp dz.o rfl rfl rfl oH (by simp[gp,Value.oneCell']) ?_;intro w2 ia hg2 hs2;have iZ:=aa ia;have cu:=aa (bn bz.o hg2 (Nat.le_of_eq HXF.o));clear ia hg2 hs2);refine bodyPost_ret (results_cell_row Tryz.results61 _ _ xf 161 gp (0,0) _ rfl iZ.o Tryz.underlying161 rfl oH) rfl ⟨rfl,cu.o⟩
def cZ(q:Rq): Array Value:=#[.int .i64 q.ay,.int .u32 q.tag,.int .u32 q.id,.int .i64 q.aw,.int .i64 q.bT]
def Qv: Nat→Rq × By × Int→Rq × By × Int
 | 0,st=>(⟨st.1.ay,st.1.tag,(val (tk st.2.1 st.2.2 4).1:Nat),st.1.aw,st.1.bT⟩,(tk st.2.1 st.2.2 4).2.1,(tk st.2.1 st.2.2 4).2.2)
 | 1,st=>(⟨st.1.ay,st.1.tag,st.1.id,(val (tk st.2.1 st.2.2 2).1:Nat),st.1.bT⟩,(tk st.2.1 st.2.2 2).2.1,(tk st.2.1 st.2.2 2).2.2)
 | _,st=>(⟨st.1.ay,st.1.tag,st.1.id,st.1.aw,wrap64 (val (tk st.2.1 st.2.2 8).1:Nat)⟩,(tk st.2.1 st.2.2 8).2.1,(tk st.2.1 st.2.2 8).2.2)
theorem uF(a b c d e:Int)(x:By)(y:Int): (((⟨a,b,c,d,e⟩:Rq),x,y):Rq × By × Int).1.ay=a:=rfl
theorem Uy: ∀ (f:Nat) (st:Rq × By × Int),(Qv f st).1.ay=st.1.ay
 | 0,_=>uF _ _ _ _ _ _ _
 | 1,_=>uF _ _ _ _ _ _ _
 | _+2,_=>uF _ _ _ _ _ _ _
structure Sh(W:World)(p qq xq:Nat)(st:Rq × By × Int): Prop where
 rd:jU W p qq st.2.1 st.2.2
 rq:aG W xq 41 (cZ st.1)
 ne:xq≠qq∧xq≠p
def YD(f p qq xq:Nat)(st:Rq × By × Int)(w:World)(e:Ending)(w':World): Prop:=(∃ u,e= .returned u)∧Sh w' p qq xq (Qv f st)∧aI (fun k=>k=qq∨k=xq) w w'
theorem Sh.lV{w w1:World}{p qq xq i:Nat}{st:Rq × By × Int}{bs:By}{e:Int}{q:Rq}{v:Value}(h:Sh w p qq xq st)(hr:jU w1 p qq bs e)(ht:aI (· =qq) w w1)(hv:(cZ st.1).setIfInBounds i v=cZ q): Sh (w1.setCell ⟨xq,i,none⟩ v) p qq xq (q,bs,e)∧aI (fun k=>k=qq∨k=xq) w (w1.setCell ⟨xq,i,none⟩ v):=by
 have h1:=h.ne;have h2:=ht.arr h.rq h1.1;refine⟨⟨?_,by rw[←hv];exact h2.put i v,h1⟩,?_⟩
 ·obtain⟨A,c,a1,a2,a3,a4⟩:=hr.rest.ex;refine⟨hr.own.other (p:=⟨xq,i,none⟩) (fun e=>h1.2 e.symm) v,A,c,a1.other (p:=⟨xq,i,none⟩) (fun e=>h1.1 e.symm) v,?_,a3,fun g off e=>⟨(a4 g off e).1,fun hne=>by
   obtain⟨cur,hc⟩:=(a4 g off e).2 hne;have hgx:g≠xq:=by
    rintro rfl;unfold aG at h2;rw[h2] at hc;injection hc with hc
    injection hc with _ h5 _
    revert h5;decide
   exact⟨cur,((aI.at w1 xq i v).block g (eK.1 hc).1 hgx).trans hc⟩⟩⟩
  intro hne;obtain⟨g,off,e1,e2,e3⟩:=a2 hne;have hgx:g≠xq:=by
   rintro rfl;have h5:=e3 0 _ (Oc.nR (vo.2 hne));rw[h2.cell] at h5;rcases off with _|_|_|_|_|off <;>simp[cZ,Oc.fF] at h5
  exact⟨g,off,e1,by simpa using e2,fun j u hj=>by rw[←e3 j u hj];exact World.cell?_of_block (a:=⟨g,off+j,none⟩) ((aI.at w1 xq i v).block g e2 hgx)⟩
 exact(ht.mono fun k _ e=>.inl e).put (p:=⟨xq,i,none⟩) (.inl (.inr rfl)) v
end En
end
section
namespace En
open Oc (oK gC oL iu)
theorem WS(p qq xq:Nat)(st:Rq × By × Int)(w:World)(h:Sh w p qq xq st): Calls af 135 #[.pointer (some ⟨p,0,none⟩),.pointer (some ⟨xq,0,none⟩)] w (YD 0 p qq xq st w):=by
 have HH:=aa h;have HN:=aa (gC p qq st.2.1 st.2.2 w h.rd);clear h;go_enter Tryz.func135,Tryz.ntmps135;go_wp2_with fail;refine HN.o.mono ?_;rintro en w1 ⟨rfl,h2,h3⟩;have ha:=h3.arr HH.o.rq HH.o.ne.1;have c2:w1.cell? ⟨xq,2,none⟩=some (.int .u32 st.1.id):=ha.cell 2;have f2:=ha.mark 2;have HF:=aa (HH.o.lV (i:=2) (q:=⟨st.1.ay,st.1.tag,(val (tk st.2.1 st.2.2 4).1:Nat),st.1.aw,st.1.bT⟩) (v:=.int .u32 (val (tk st.2.1 st.2.2 4).1:Nat)) h2 h3 rfl);clear h2 h3 ha;go_wp2_with fail;exact bodyPost_end (results_none Tryz.results135 _ _ _) rfl ⟨⟨_,rfl⟩,HF.o.1,HF.o.2⟩
theorem WR(p qq xq:Nat)(st:Rq × By × Int)(w:World)(h:Sh w p qq xq st): Calls af 140 #[.pointer (some ⟨p,0,none⟩),.pointer (some ⟨xq,0,none⟩)] w (YD 1 p qq xq st w):=by
 have HH:=aa h;have HN:=aa (oL p qq st.2.1 st.2.2 w h.rd);have hv:=lr (qi st.2.1 st.2.2 2);have hw:IntKind.i64.wrap ((val (tk st.2.1 st.2.2 2).1:Nat):Int)=((val (tk st.2.1 st.2.2 2).1:Nat):Int):=Fk;clear h hv;go_enter Tryz.func140,Tryz.ntmps140;go_wp2_with fail;refine HN.o.mono ?_;rintro en w1 ⟨rfl,h2,h3⟩;have ha:=h3.arr HH.o.rq HH.o.ne.1;have c2:w1.cell? ⟨xq,3,none⟩=some (.int .i64 st.1.aw):=ha.cell 3;have f2:=ha.mark 3;have HF:=aa (HH.o.lV (i:=3) (q:=⟨st.1.ay,st.1.tag,st.1.id,(val (tk st.2.1 st.2.2 2).1:Nat),st.1.bT⟩) (v:=.int .i64 (val (tk st.2.1 st.2.2 2).1:Nat)) h2 h3 rfl);clear h2 h3 ha;go_wp2_with fail;exact bodyPost_end (results_none Tryz.results140 _ _ _) rfl ⟨⟨_,rfl⟩,HF.o.1,HF.o.2⟩
theorem WQ(p qq xq:Nat)(st:Rq × By × Int)(w:World)(h:Sh w p qq xq st): Calls af 145 #[.pointer (some ⟨p,0,none⟩),.pointer (some ⟨xq,0,none⟩)] w (YD 2 p qq xq st w):=by
 have HH:=aa h;have HN:=aa (iu p qq st.2.1 st.2.2 w h.rd);clear h;go_enter Tryz.func145,Tryz.ntmps145;go_wp2_with fail;refine HN.o.mono ?_;rintro en w1 ⟨rfl,h2,h3⟩;have ha:=h3.arr HH.o.rq HH.o.ne.1;have c2:w1.cell? ⟨xq,4,none⟩=some (.int .i64 st.1.bT):=ha.cell 4;have f2:=ha.mark 4;have HF:=aa (HH.o.lV (i:=4) (q:=⟨st.1.ay,st.1.tag,st.1.id,st.1.aw,wrap64 (val (tk st.2.1 st.2.2 8).1:Nat)⟩) (v:=.int .i64 (wrap64 (val (tk st.2.1 st.2.2 8).1:Nat))) h2 h3 rfl);clear h2 h3 ha;go_wp2_with fail;exact bodyPost_end (results_none Tryz.results145 _ _ _) rfl ⟨⟨_,rfl⟩,HF.o.1,HF.o.2⟩
end En
end
section
namespace Cr
def cj(w:World): Prop:=∀ i:Nat,i<16→w.cell? ⟨1,i,none⟩=some (.int .u32 (Fx.getD i 0:Nat))
variable{w w':World}
theorem cj.same(h:cj w)(hk:w'.heap[1]? =w.heap[1]?): cj w':=fun i hi=>by rw[←h i hi];simp[World.cell?,hk]
theorem cj.ai(h:cj w)(hb:Below w.heap.size w w'): cj w':=h.same (hb.block _ (bD w _ (h 0 aN)))
theorem cj.cO{S:Nat→Prop}(h:cj w)(ht:aI S w w')(hS: ¬S 1): cj w':=h.same (ht.block _ (bD w _ (h 0 aN)) hS)
theorem cj.lt(h:cj w): 1<w.heap.size:=bD w _ (h 0 aN)
theorem L6(r:Nat)(b:UInt8)(hr:r<4294967296): ∃ r1 l1 t1 r2 l2 t2 r3:Nat,aX qP iE (r:Int) (b.toNat:Int)=(r1:Int)∧aX BinOp.and iE (r1:Int) 15=(l1:Int)∧l1<16∧Fx.getD l1 0=t1∧
  aX qP iE (t1:Int) ((r1:Int) / 16)=(r2:Int)∧aX BinOp.and iE (r2:Int) 15=(l2:Int)∧l2<16∧Fx.getD l2 0=t2∧aX qP iE (t2:Int) ((r2:Int) / 16)=(r3:Int)∧r3=J5 r b∧r1<4294967296∧r2<4294967296:=by
 have hb:b.toNat<4294967296:=Nat.lt_of_lt_of_le b.toNat_lt aN;have h1:=wX hr hb;have h2:=LV h1;have e16: ∀ x:Nat,(x:Int) / 16=((x / 16:Nat):Int):=fun x=>dR
 refine⟨r ^^^ b.toNat,(r ^^^ b.toNat) % 16,_,st4 (r ^^^ b.toNat),st4 (r ^^^ b.toNat) % 16,_,J5 r b,u32_xor_nat _ _ hr hb,?_,Nat.mod_lt _ aN,rfl,?_,?_,Nat.mod_lt _ aN,rfl,?_,rfl,h1,h2⟩
 ·rw[show(15:Int)=((15:Nat):Int)from rfl,u32_and_nat _ _ h1 aN,nat_mask4]
 ·rw[e16,u32_xor_nat _ _ (LO _) aj];rfl
 ·rw[show(15:Int)=((15:Nat):Int)from rfl,u32_and_nat _ _ h2 aN,nat_mask4]
 ·rw[e16,u32_xor_nat _ _ (LO _) aj];rfl
theorem MN{l:List UInt8}{j:Nat}(h:j<l.length)(r:Nat): pQ r (l.take (j+1))=J5 (pQ r (l.take j)) l[j]:=by rw[List.take_add_one,List.getElem?_eq_getElem h,Option.toList_some,QE];rfl
theorem OO{s:Nat}(hs:s<4294967296): aX qP iE iE.max (s:Int)=((s ^^^ 0xffffffff:Nat):Int):=by rw[show iE.max=((4294967295:Nat):Int)from rfl,u32_xor_nat _ _ aN hs,Nat.xor_comm]
theorem aa8(s:Nat)(bs:List UInt8)(A:Option Addr)(c:Nat)(w:World)(hs:s<4294967296)(hB:Bs w A bs)(ht:cj w)(hl:bs.length≤140737488355328):
  Calls af 336 #[.int .u32 s,.slice A bs.length c] w fun e w'=>e= .returned (.int .u32 (ic s bs:Nat))∧w'=w:=by
 have HB:=aa hB;have HT:=aa ht;have hl':(bs.length:Int)≤140737488355328:=aj;have hg:iE.signed=false:=aN;clear hB ht;go_enter Tryz.func336,Tryz.ntmps336;go_wp2_with fail;go_loopw [5,12] (fun r i wr=>∃ j:Nat,j≤bs.length∧i= .int .i64 j∧r= .int .u32 (pQ (s ^^^ 0xffffffff) (bs.take j):Nat)∧wr=w) (fun _ i _=>(bs.length - intOf i).toNat)
 case atStart=>exact⟨0,aj,rfl,by rw[OO hs];rfl,rfl⟩
 case round=>
  obtain⟨j,hj,rfl,hr,hw⟩:=hrel;rw[hw];clear hw;obtain⟨r,vr⟩:=ae (pQ (s ^^^ 0xffffffff) (bs.take j));rw[vr] at hr;subst hr;have ahc:r<4294967296:=by rw[←vr];exact BB _ _ (wX hs aN)
  have hr1:(r:Int)<4294967296:=aj;have hr0:(0:Int)≤(r:Int):=aj;by_cases h:j<bs.length
  ·have h':(j:Int)<(bs.length:Int):=by omega
   have Y7:(0:Int)≤(j:Int):=aj;obtain⟨g,off,hA,_,_⟩:=HB.o (by rintro rfl;simp at h);subst hA;have x0:w.cell? ⟨g,off+j,none⟩=some (fF bs[j]):=HB.o.cell h;unfold fF at x0;obtain⟨r1,l1,t1,r2,l2,t2,r3,e1,e2,oZ,et1,e3,e4,hl2,et2,e5,e6,amS,amR⟩:=L6 r bs[j] ahc;have y1:w.cell? ⟨1,l1,none⟩=some (.int .u32 (t1:Nat)):=by rw[←et1];exact HT.o l1 oZ
   have y2:w.cell? ⟨1,l2,none⟩=some (.int .u32 (t2:Nat)):=by rw[←et2];exact HT.o l2 hl2
   have amm:(l1:Int)<16:=aj;have aml:(l2:Int)<16:=aj;have ahv:(0:Int)≤(l1:Int):=aj;have aaj:(0:Int)≤(l2:Int):=aj;have hbw:iE.wrap (bs[j].toNat:Int)=(bs[j].toNat:Int):=by have:=bs[j].toNat_lt;rw[YN];omega
   have HE:=aa (show r3=pQ (s ^^^ 0xffffffff) (bs.take (j+1))by rw[MN h,vr,←e6]);clear vr et1 et2 e6;go_wp2_with fail;go_roundw
   case rel=>exact⟨j+1,aj,by go_num,by rw[←HE.o],xG⟩
   case measure=>simp[intOf];omega
  have h': ¬(j:Int)<(bs.length:Int):=aj;have Wf:j=bs.length:=aj;subst Wf;have HF:=aa (show aX qP iE iE.max (r:Int)=(ic s bs:Nat)by rw[OO ahc,←vr,List.take_length];rfl);clear vr;go_wp2_with fail;go_ret;exact⟨by rw[←HF.o];rfl,rfl⟩
theorem qG(bs:List UInt8)(A:Option Addr)(c:Nat)(w:World)(hB:Bs w A bs)(ht:cj w)(hl:bs.length≤140737488355328):
  Calls af 300 #[.slice A bs.length c] w fun e w'=>e= .returned (.int .u32 (ic 0 bs:Nat))∧w'=w:=by
 have HM:=aa (aa8 0 bs A c w aN hB ht hl);clear hB ht;go_enter Tryz.func300,Tryz.ntmps300;go_wp2_with fail;refine ag HM.o ?_;go_wp2_with fail;go_ret;exact⟨rfl,rfl⟩
end Cr
end
section
namespace Oc
structure Buf(w:World)(A:Option Addr)(c:Nat)(bs:List UInt8)(S:Nat→Prop): Prop where
 ex:(A=none∧c=0∧bs= [])∨∃ g off cur,A=some ⟨g,off,none⟩∧aG w g 5 cur∧off+c≤cur.size∧bs.length≤c∧(∀ j u,(aP bs)[j]? =some u→cur[off+j]? =some u)∧S g
theorem Buf.bs{w:World}{A:Option Addr}{c:Nat}{bs:List UInt8}{S:Nat→Prop}(h:Buf w A c bs S): Bs w A bs:=fun hne=>by
 rcases h.ex with⟨_,_,rfl⟩|⟨g,off,cur,rfl,h1,_,_,h2,_⟩
 ·exact absurd rfl hne
 exact⟨g,off,rfl,h1.lt,fun i u hi=>by rw[h1.cell (off+i)];exact h2 i u hi⟩
theorem Buf.mono{w:World}{A:Option Addr}{c:Nat}{bs:List UInt8}{S T:Nat→Prop}(h:Buf w A c bs S)(p9: ∀ g,S g→T g): Buf w A c bs T:=by
 rcases h.ex with h|⟨g,off,cur,h0,h1,h2,h3,h4,h5⟩
 ·exact⟨.inl h⟩
 exact⟨.inr ⟨g,off,cur,h0,h1,h2,h3,h4,p9 g h5⟩⟩
theorem Buf.none(w:World)(S:Nat→Prop): Buf w none 0 [] S:=⟨.inl ⟨rfl,rfl,rfl⟩⟩
