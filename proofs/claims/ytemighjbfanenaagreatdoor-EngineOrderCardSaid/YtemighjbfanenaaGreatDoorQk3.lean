import Derived.Test.YtemighjbfanenaaGreatDoorQk2
import Derived.Laws.BitsAllLaws
set_option linter.all false
set_option maxRecDepth 100000
set_option maxHeartbeats 16000000
namespace Go.Proofs.YtemighjbfanenaaGreatDoor
open RowKit
open Oc (Bs jV fG aO le tk qc val lz)
open Go renaming bits→aX
open Go.BinOp renaming xor→qK
open Go.Builtin renaming append→Nn
open Go.Callee renaming builtin→Np
open Go.IntKind renaming wrap_u32'→YH,u32→iw
open Go.Proofs.Tryz renaming prog→af
open Go.Value renaming int→eK
open Go.World renaming block_lt_of_cell?→bE
open List renaming length_pos_iff→vd,length_append→bZ,getElem?_eq_some_iff→iX,eq_nil_of_length_eq_zero→YI
open Nat renaming le_refl→aY
open RowKit.Below renaming refl→ar
open _root_.Array renaming getElem?_eq_some_iff→eL,getElem?_toList→dK
theorem acy{p:Prop}(h:p:=by
 go_wp2_with (refine adM _ rfl _ _ rfl [] bs (some ⟨w.heap.size,0,none⟩) 0 0 rfl rfl dM (Bs.nil _ _) ⟨g,off,none⟩ bs.length c rfl rfl (HB.o.ah (ay (ar _ _) _)) ai ai ?_;intro g5 c5 w5 fF dU YW FM;have p3:=aa fF;have eu:=aa dU;have XR:=aa YW;have M3:=aa FM;clear fF dU YW FM);go_ret;have h5:=p3.o;simp at h5;exact⟨some ⟨g5,0,none⟩,c5,dM,fun _=>⟨g5,rfl,ai,eu.o⟩,by simpa using M3.o,(fun g' o' e=>ad1),(fun e=>nA),av (ay (ar _ _) _) XR.o⟩):p:=h
theorem US{p:Prop}(h:p:=by
 go_enter Tryz.func151,Tryz.ntmps151;go_wp2_with fail;refine ag HE.o ?_;go_wp2_with fail;go_ret;exact⟨rfl,rfl⟩):p:=h
theorem UR{p:Prop}(h:p:=by
 go_enter Tryz.func60,Tryz.ntmps60;go_wp2_with fail;go_ret2;exact⟨none,rfl,fun h=>absurd rfl h,ar _ _⟩):p:=h
theorem acf{p:Prop}(h:p:=by
 unfold Oper.wp execOp;simp only[hop,resolve,invoke,builtin,Sem.run_bind,Sem.run_pure,Result.andThen_ok,List.map_toArray,List.map_cons,List.map_nil,hs,hx,hrun];exact hK g cap w' h3 h1 (Below.grown (ar _ _) hgr (aY _) dM) h2):p:=h
theorem ab7{p:Prop}(h:p:=by
 go_wp2_with fail;go_ret;exact⟨some ⟨w.heap.size,0,none⟩,0,rfl,fun h=>absurd rfl h,aY _,(fun g' o' e=>ad7),(fun e=>nA),ay (ar _ _) _⟩):p:=h
theorem Vl{p:Prop}(h:p:=by
 go_wp2_with fail;go_ret;exact⟨none,0,rfl,fun h=>absurd rfl h,aY _,(fun g' o' e=>nA),fun _=>rfl,ar _ _⟩):p:=h
theorem jR{p:Prop}(h:p:=by unfold maxLen;omega):p:=h
theorem E4{p:Prop}(h:p:=by rw[IntKind.wrap_i64];omega):p:=h
theorem ad7{p:Prop}(h:p:=by injection e with e;injection e with e;subst e;exact⟨aY _,by simp⟩):p:=h
theorem ad1{p:Prop}(h:p:=by injection e with e;injection e with e;have:=eu.o.lt;omega):p:=h
theorem EO{p:Prop}(h:p:=by rw[bu,Nat.mul_one]):p:=h
section
namespace Oc
variable{w:World}
theorem _root_.Go.Proofs.YtemighjbfanenaaGreatDoor.jO.bs{g:Nat}{bs:List UInt8}(h:jO w 5 g bs): Bs w (some ⟨g,0,none⟩) bs:=fun _=>⟨g,0,rfl,h.lt,fun i u hu=>by
 obtain⟨cur,h1,h2⟩:=h;rw[Nat.zero_add,show w.cell? ⟨g,i,none⟩=cur[i]? from by simp[World.cell?,h1]];exact h2 i u hu⟩
theorem mW{base g cap n:Nat}{bs:List UInt8}(h:w.ownsRow base 5 1 (.slice (some ⟨g,0,none⟩) n cap) n (aO bs))(hn:bs.length=n): jO w 5 g bs∧n≤cap∧base≤g∧n≤maxLen:=by
 rcases h.2 with⟨h0,_⟩|⟨g',cap',cur,hv,hb,hh,h1,h2,h3,h4⟩
 ·cases h0
 injection hv with e1 _ e2
 injection e1 with e1;injection e1 with e1
 subst e1 e2;refine⟨⟨cur,hh,fun j u hu=>?_⟩,h1,hb,Nat.le_trans h1 h2⟩;have hj:=(iX.1 hu).1;rw[bu] at hj;rw[←hu,←h4,List.getElem?_take,if_pos ai,dK]
theorem uF(ad:Addr)(n c:Nat)(W:World): (binOp BinOp.eql 34 (.slice (some ad) n c) (.slice none 0 0)).run af W= .ok (.bool false) W:=bh
theorem Fw(n c:Nat)(W:World): (binOp BinOp.eql 34 (.slice none n c) (.slice none 0 0)).run af W= .ok (.bool true) W:=bh
theorem Ny(w:World){o:Oper}{a:Act}{K:Act→World→Prop}{Q:Exit→Act→World→Prop}(s x:Operand)
  (hop:o.op=Op.call {callee:=Np Nn,args:=#[s,x],argTypes:=#[34,34]}) (bs cs:List UInt8) (A:Option Addr) (n c:Nat) (hs:a.eval s= .slice A n c) (hn:n=bs.length) (hA:A=none→n=0∧c=0) (hB:Bs w A bs)
  (ad:Addr) (m cp:Nat) (hx:a.eval x= .slice (some ad) m cp) (hm:m=cs.length) (hC:Bs w (some ad) cs) (kf:c<n+m) (hl:n+m≤70368744177664)
  (hK: ∀ g JE w',w.heap.size≤g→jO w' 5 g (bs++cs)→Below w.heap.size w w'→n+m≤JE→K (a.put o.dst (.slice (some ⟨g,0,none⟩) (n+m) JE)) w'):Oper.wp af o a w K Q:=by
 obtain⟨i0,hi,hz0,hz1,hz2⟩:=info_parts e8;subst hn hm;have b1:bs.length+cs.length≤maxLen:=jR;have b2:(bs.length+cs.length)*1≤140737488355328:=ai;have hnews:(aO cs).length=cs.length*1:=EO;have hgo: ∃ v' w',(Builtin.append_ #[34,34] o.type #[.slice A bs.length c,.slice (some ad) cs.length cp]).run af w= .ok v' w'∧w'.ownsRow w.heap.size 5 1 v' (bs.length+cs.length) (aO bs++aO cs)∧w.grownBy w' none:=by
  cases A with
  | some b=>
   obtain⟨v',w',hrun,r1,r2⟩:=run_append_arg_grows (P:=af) w 34 o.type 5 i0 (.int .u8 0) 1 1 Tryz.underlying34 hi hz0 hz1 hz2 rfl aM b bs.length c (aO bs) EO hB.read ad cs.length cp (aO cs) hnews hC.read kf b1 b2;exact⟨v',w',hrun,r1,r2⟩
  | none=>
   obtain⟨h0,rfl⟩:=hA rfl;obtain rfl:=YI h0;obtain⟨v',w',hrun,r1,r2,_⟩:=run_append_own (P:=af) w w.heap.size 34 o.type 5 i0 (.int .u8 0) 1 1 Tryz.underlying34 hi hz0 hz1 hz2 rfl aM (.slice none 0 0) 0 [] (World.ownsRow_nil w _ 5 1) ad cs.length cp (aO cs) hnews hC.read (bO cs) (by simpa using b1) (by simpa using b2) (aY _);exact⟨v',w',hrun,r1,r2⟩
 obtain⟨v',w',hrun,ho,hgr⟩:=hgo;have hne:v'≠ .slice none 0 0:=by
  rintro rfl;rcases ho.2 with⟨_,h0⟩|⟨_,_,_,h0,_⟩
  ·omega
  cases h0
 obtain⟨g,cap,rfl⟩:=xL ho hne;rw[←dX] at ho;obtain⟨h1,h2,h3,_⟩:=mW ho (by rw[bZ]);exact acf
theorem adM(w:World){ops:Array Oper}{rest:List Oper}{o:Oper}{a:Act}{Q:Exit→Act→World→Prop}(hg:o.guard=none)(s x:Operand)
  (hop:o.op=Op.call {callee:=Np Nn,args:=#[s,x],argTypes:=#[34,34]}) (bs cs:List UInt8) (A:Option Addr) (n c:Nat) (hs:a.eval s= .slice A n c) (hn:n=bs.length) (hA:A=none→n=0∧c=0) (hB:Bs w A bs)
  (ad:Addr) (m cp:Nat) (hx:a.eval x= .slice (some ad) m cp) (hm:m=cs.length) (hC:Bs w (some ad) cs) (kf:c<n+m) (hl:n+m≤70368744177664)
  (hK: ∀ g JE w',w.heap.size≤g→jO w' 5 g (bs++cs)→Below w.heap.size w w'→n+m≤JE→wpList af ops Q rest (a.put o.dst (.slice (some ⟨g,0,none⟩) (n+m) JE)) w'):wpList af ops Q (o::rest) a w:=
 wpList_plain hg fun _ hKK=>Ny w s x hop bs cs A n c hs hn hA hB ad m cp hx hm hC kf hl fun g JE w' a b c d=>hKK _ _ (hK g JE w' a b c d)
def gl(bs:List UInt8)(w:World)(e:Ending)(w':World): Prop:=
 ∃ A c,e= .returned (.slice A bs.length c)∧(bs≠ []→∃ g,A=some ⟨g,0,none⟩∧w.heap.size≤g∧jO w' 5 g bs)∧bs.length≤c∧(∀ g off,A=some ⟨g,off,none⟩→w.heap.size≤g∧g<w'.heap.size)∧(A=none→c=0)∧Below w.heap.size w w'
theorem gl.bs{bs:List UInt8}{w':World} {A:Option Addr}(h:bs≠ []→∃ g,A=some ⟨g,0,none⟩∧w.heap.size≤g∧jO w' 5 g bs): Bs w' A bs:=fun hne=>by
 obtain⟨g,rfl,_,hb⟩:=h hne;exact hb.bs hne
theorem Na(bs:List UInt8)(g off c:Nat)(w:World)(hB:Bs w (some ⟨g,off,none⟩) bs)(hne:bs≠ [])(hl:bs.length≤70368744177664): Calls af 148 #[.slice (some ⟨g,off,none⟩) bs.length c] w (gl bs w):=by
 have ag8:0<bs.length:=vd.2 hne;have HB:=aa hB;have HN:=aa hne;have hq:=uF ⟨g,off,none⟩ bs.length c;clear hB hne;go_enter Tryz.func148,Tryz.ntmps148;exact acy
theorem Nb(c:Nat)(w:World): Calls af 148 #[.slice none 0 c] w (gl [] w):=by
 have hq:=Fw 0 c;go_enter Tryz.func148,Tryz.ntmps148;exact Vl
theorem Kb(g off c:Nat)(w:World): Calls af 148 #[.slice (some ⟨g,off,none⟩) 0 c] w (gl [] w):=by
 have hq:=uF ⟨g,off,none⟩ 0 c;go_enter Tryz.func148,Tryz.ntmps148;exact ab7
theorem Cl(bs:List UInt8)(A:Option Addr)(c:Nat)(w:World)(hB:Bs w A bs)(hA:qV A)(hl:bs.length≤70368744177664): Calls af 148 #[.slice A bs.length c] w (gl bs w):=by
 by_cases hne:bs= []
 ·subst hne;cases A with
  | none=>exact Nb c w
  | some ad=>obtain⟨g,off,rfl⟩:=hA ad rfl;exact Kb g off c w
 obtain⟨g,off,rfl,_⟩:=hB hne;exact Na bs g off c w hB hne hl
def ru(bs:List UInt8)(w:World)(e:Ending)(w':World): Prop:=∃ p q,e= .returned (.pointer (some ⟨p,0,none⟩))∧jV w' p q bs 0∧w.heap.size≤p∧w.heap.size≤q∧Below w.heap.size w w'
theorem yM(bs:List UInt8)(A:Option Addr)(c:Nat)(w:World)(hB:Bs w A bs)(hA:qV A)(hl:bs.length≤70368744177664): Calls af 149 #[.slice A bs.length c] w (ru bs w):=by
 have HC:=aa (Cl bs A c w hB hA hl);clear hB hA;go_enter Tryz.func149,Tryz.ntmps149;go_wp2_with fail;refine HC.o.mono ?_;rintro en w1 ⟨B,d,rfl,h1,h2,h3,h4,h5⟩;have HB:=aa (gl.bs (w:=w) h1);have HL:=aa h2;have H3:=aa h3;have H5:=aa h5;have El:=aa h1;clear h1 h2 h3 h4 h5 HC;go_wp2_with fail;go_ret;have hz:=H5.o.size;have hb:Below w1.heap.size w1 ((w1.alloc (.cells #[.slice B bs.length d,.int .i64 0] 346)).alloc (.cells #[.pointer (some ⟨w1.heap.size,0,none⟩)] 348)):=ay (ay (ar _ _) _) _;exact⟨w1.heap.size+1,w1.heap.size,dM,⟨aG.new dM,B,d,(aG.fresh w1 _ _).alloc _,HB.o.ah hb,HL.o,fun g off e=>⟨by have:=(H3.o g off e).2;omega,fun hne=>by obtain⟨g',q1,_,q2⟩:=El.o hne;rw[q1] at e;injection e with e;injection e with e _;subst e;obtain⟨cur,q3,_⟩:=q2;exact⟨cur,(hb.block _ (eL.1 q3).1).trans q3⟩⟩⟩,ai,hz,av H5.o hb⟩
def oM(p q:Nat)(bs:List UInt8)(e:Int)(k:Nat)(kd:IntKind)(w:World)(en:Ending)(w':World): Prop:=
 en= .returned (.int kd (val (tk bs e k).1:Nat))∧jV w' p q (tk bs e k).2.1 (tk bs e k).2.2∧aI (· =q) w w'
theorem vX(p q:Nat)(bs:List UInt8)(e:Int)(w:World)(h:jV w p q bs e): Calls af 150 #[.pointer (some ⟨p,0,none⟩)] w (oM p q bs e 1 .u8 w):=by
 have HH:=aa h;have HN:=aa (zq p q 1 bs e w h aM);clear h;go_enter Tryz.func150,Tryz.ntmps150;go_wp2_with fail;refine HN.o.mono ?_;rintro en w1 ⟨rfl,h2,h3⟩;have hv:=lz (qc bs e 1);have hw:IntKind.u8.wrap ((val (tk bs e 1).1:Nat):Int)=((val (tk bs e 1).1:Nat):Int):=by rw[IntKind.wrap_u8'];omega
 have HF:=aa (show oM p q bs e 1 .u8 w _ w1 from⟨rfl,HH.o.next h2 h3,h3⟩);clear h2 h3 hv;go_wp2_with fail;go_ret;exact HF.o
theorem oN(p q:Nat)(bs:List UInt8)(e:Int)(w:World)(h:jV w p q bs e): Calls af 141 #[.pointer (some ⟨p,0,none⟩)] w (oM p q bs e 2 .u16 w):=by
 have HH:=aa h;have HN:=aa (zq p q 2 bs e w h aM);clear h;go_enter Tryz.func141,Tryz.ntmps141;go_wp2_with fail;refine HN.o.mono ?_;rintro en w1 ⟨rfl,h2,h3⟩;have hv:=lz (qc bs e 2);have hw:IntKind.u16.wrap ((val (tk bs e 2).1:Nat):Int)=((val (tk bs e 2).1:Nat):Int):=by rw[IntKind.wrap_u16];omega
 have HF:=aa (show oM p q bs e 2 .u16 w _ w1 from⟨rfl,HH.o.next h2 h3,h3⟩);clear h2 h3 hv;go_wp2_with fail;go_ret;exact HF.o
theorem gD(p q:Nat)(bs:List UInt8)(e:Int)(w:World)(h:jV w p q bs e): Calls af 136 #[.pointer (some ⟨p,0,none⟩)] w (oM p q bs e 4 .u32 w):=by
 have HH:=aa h;have HN:=aa (zq p q 4 bs e w h aM);clear h;go_enter Tryz.func136,Tryz.ntmps136;go_wp2_with fail;refine HN.o.mono ?_;rintro en w1 ⟨rfl,h2,h3⟩;have hv:=lz (qc bs e 4);have hw:iw.wrap ((val (tk bs e 4).1:Nat):Int)=((val (tk bs e 4).1:Nat):Int):=by rw[YH];omega
 have HF:=aa (show oM p q bs e 4 .u32 w _ w1 from⟨rfl,HH.o.next h2 h3,h3⟩);clear h2 h3 hv;go_wp2_with fail;go_ret;exact HF.o
theorem ik(p q:Nat)(bs:List UInt8)(e:Int)(w:World)(h:jV w p q bs e): Calls af 146 #[.pointer (some ⟨p,0,none⟩)] w (oM p q bs e 8 .u64 w):=by
 have HH:=aa h;have HN:=aa (zq p q 8 bs e w h aM);clear h;go_enter Tryz.func146,Tryz.ntmps146;go_wp2_with fail;refine HN.o.mono ?_;rintro en w1 ⟨rfl,h2,h3⟩;have HF:=aa (show oM p q bs e 8 .u64 w _ w1 from⟨rfl,HH.o.next h2 h3,h3⟩);clear h2 h3;go_wp2_with fail;go_ret;exact HF.o
def Xn(p q:Nat)(bs:List UInt8)(e:Int)(k:Nat)(w:World)(en:Ending)(w':World): Prop:=
 ∃ A c,en= .returned (.slice A (tk bs e k).1.length c)∧((tk bs e k).1≠ []→∃ g,A=some ⟨g,0,none⟩∧w.heap.size≤g∧jO w' 5 g (tk bs e k).1)∧(∀ g off,A=some ⟨g,off,none⟩→w.heap.size≤g∧g<w'.heap.size)∧jV w' p q (tk bs e k).2.1 (tk bs e k).2.2∧aI (· =q) w w'
theorem JS(p q k:Nat)(bs:List UInt8)(e:Int)(w:World)(h:jV w p q bs e)(hk:1≤k∧k≤1000000): Calls af 375 #[.pointer (some ⟨p,0,none⟩),.int .i64 k] w (Xn p q bs e k w):=by
 have x0:w.cell? ⟨p,0,none⟩=some (.pointer (some ⟨q,0,none⟩)):=h.own.cell 0;have HH:=aa h;have HN:=aa (zk q k bs e w h.rest hk);have HK:=aa hk;clear h hk;go_enter Tryz.func375,Tryz.ntmps375;go_wp2_with fail;refine ag (fQ p q w x0) ?_;go_wp2_with fail;refine HN.o.mono ?_;rintro en w1 ⟨⟨A,c,rfl,hb,hA⟩,hr,ht⟩;have hC:=Cl (tk bs e k).1 A c w1 hb hA (Nat.le_trans (qc bs e k) AE);have HR:=aa hr;have HT:=aa ht;have HC:=aa hC;clear hb hA hr ht hC HN;go_wp2_with fail;refine HC.o.mono ?_;rintro en w2 ⟨B,d,rfl,h1,h2,h3,h4,h5⟩;have hz:=HT.o.size;have lH:Xn p q bs e k w (.returned (.slice B (tk bs e k).1.length d)) w2:=⟨B,d,rfl,fun hne=>by obtain⟨g,a,b,c⟩:=h1 hne;exact⟨g,a,ai,c⟩,fun g off e=>by have:=h3 g off e;omega,(HH.o.next HR.o HT.o).ah h5,HT.o.ak h5⟩;have HF:=aa lH;clear h1 h2 h3 h4 h5 lH hz;go_wp2_with fail;go_ret;exact HF.o
theorem aaW(p q:Nat)(bs:List UInt8)(e:Int)(w:World)(h:jV w p q bs e): Calls af 238 #[.pointer (some ⟨p,0,none⟩)] w fun en w'=>en= .returned (.int .i64 e)∧w'=w:=by
 obtain⟨A,c,h1,_⟩:=h.rest.ex;have x0:w.cell? ⟨p,0,none⟩=some (.pointer (some ⟨q,0,none⟩)):=h.own.cell 0;have x1:w.cell? ⟨q,1,none⟩=some (.int .i64 e):=h1.cell 1;clear h h1;go_enter Tryz.func238,Tryz.ntmps238;go_wp2_with fail;refine ag (fQ p q w x0) ?_;go_wp2_with fail;go_ret;exact⟨rfl,rfl⟩
def rE(bs:List UInt8)(e:Int): Int:=if e≠0 then e else if bs= [] then 0 else 5
theorem zD(p q:Nat)(bs:List UInt8)(e:Int)(w:World)(h:jV w p q bs e): Calls af 151 #[.pointer (some ⟨p,0,none⟩)] w fun en w'=>en= .returned (.int .i64 (rE bs e))∧w'=w:=by
 obtain⟨A,c,h1,_⟩:=h.rest.ex;have x0:w.cell? ⟨p,0,none⟩=some (.pointer (some ⟨q,0,none⟩)):=h.own.cell 0;have x1:w.cell? ⟨q,0,none⟩=some (.slice A bs.length c):=h1.cell 0;have HE:=aa (aaW p q bs e w h);clear h h1;by_cases c1:e=0
 ·subst c1;by_cases c2:bs= []
  ·subst c2;exact US
  have hl:(0:Int)<(bs.length:Int):=by have:=vd.2 c2;omega
  have hf:rE bs 0=5:=by simp[rE,c2]
  rw[hf];clear hf c2;exact US
 have hf:rE bs e=e:=by simp[rE,c1]
 have hb:(e==0)=false:=by simp[c1]
 rw[hf];clear hf c1;exact US
end Oc
end
section
namespace En
open Oc (oM gD oN ik)
def cC(k:Int): List Nat:=if k=1 then [1,2] else if k=2 then [0] else if k=3 then [0] else if k=5 then [0] else if k=4 then [0,1] else if k=6 then [1] else if k=7 then [2] else []
def ke(l:List Nat): Array Value:=(l.map fun(n:Nat)=>eK .i64 ((n:Nat):Int)).toArray
def aiw(k:Int)(w:World)(e:Ending)(w':World): Prop:=
 ∃ A,e= .returned (.tuple #[.slice A (cC k).length (cC k).length,.bool (jt k)])∧(cC k≠ []→∃ g,A=some ⟨g,0,none⟩∧w.heap.size≤g∧aG w' g 3 (ke (cC k)))∧Below w.heap.size w w'
theorem Fi(k:Int)(w:World): Calls af 60 #[.int .i64 k] w (aiw k w):=by
 by_cases h1:k=1
 ·subst h1;go_enter Tryz.func60,Tryz.ntmps60;go_wp2_with fail;go_ret2;exact⟨_,rfl,fun _=>⟨_,rfl,aY _,aG.fresh w 3 (ke (cC 1))⟩,ay (ar _ _) _⟩
 by_cases h2:k=2
 ·subst h2;go_enter Tryz.func60,Tryz.ntmps60;go_wp2_with fail;go_ret2;exact⟨_,rfl,fun _=>⟨_,rfl,aY _,aG.fresh w 3 (ke (cC 2))⟩,ay (ar _ _) _⟩
 by_cases h3:k=3
 ·subst h3;go_enter Tryz.func60,Tryz.ntmps60;go_wp2_with fail;go_ret2;exact⟨_,rfl,fun _=>⟨_,rfl,aY _,aG.fresh w 3 (ke (cC 3))⟩,ay (ar _ _) _⟩
 by_cases h5:k=5
 ·subst h5;go_enter Tryz.func60,Tryz.ntmps60;go_wp2_with fail;go_ret2;exact⟨_,rfl,fun _=>⟨_,rfl,aY _,aG.fresh w 3 (ke (cC 5))⟩,ay (ar _ _) _⟩
 by_cases h4:k=4
 ·subst h4;go_enter Tryz.func60,Tryz.ntmps60;go_wp2_with fail;go_ret2;exact⟨_,rfl,fun _=>⟨_,rfl,aY _,aG.fresh w 3 (ke (cC 4))⟩,ay (ar _ _) _⟩
 by_cases h6:k=6
 ·subst h6;go_enter Tryz.func60,Tryz.ntmps60;go_wp2_with fail;go_ret2;exact⟨_,rfl,fun _=>⟨_,rfl,aY _,aG.fresh w 3 (ke (cC 6))⟩,ay (ar _ _) _⟩
 by_cases h7:k=7
 ·subst h7;go_enter Tryz.func60,Tryz.ntmps60;go_wp2_with fail;go_ret2;exact⟨_,rfl,fun _=>⟨_,rfl,aY _,aG.fresh w 3 (ke (cC 7))⟩,ay (ar _ _) _⟩
 by_cases h8:k=8
 ·subst h8;exact UR
 by_cases h9:k=9
 ·subst h9;exact UR
 by_cases h10:k=10
 ·subst h10;exact UR
 have hl:cC k= []:=by unfold cC;simp[h1,h2,h3,h4,h5,h6,h7]
 have hr:jt k=false:=by unfold jt;rcases(show k<1∨10<k from ai)with h|h <;>simp <;>omega
 have b1:(k==1)=false:=beq_eq_false_iff_ne.2 h1;have b2:(k==2)=false:=beq_eq_false_iff_ne.2 h2;have b3:(k==3)=false:=beq_eq_false_iff_ne.2 h3;have b4:(k==4)=false:=beq_eq_false_iff_ne.2 h4;have b5:(k==5)=false:=beq_eq_false_iff_ne.2 h5;have b6:(k==6)=false:=beq_eq_false_iff_ne.2 h6;have b7:(k==7)=false:=beq_eq_false_iff_ne.2 h7;have b8:(k==8)=false:=beq_eq_false_iff_ne.2 h8;have b9:(k==9)=false:=beq_eq_false_iff_ne.2 h9;have b10:(k==10)=false:=beq_eq_false_iff_ne.2 h10;have HR:=aa hr;have HL:=aa hl;clear hr hl;go_enter Tryz.func60,Tryz.ntmps60;go_wp2_with fail;go_ret2;exact⟨none,by rw[HR.o,HL.o];rfl,fun h=>absurd HL.o h,ar _ _⟩
def gv: Array Value:=#[.func (.func 134) #[] #[],.func (.func 135) #[] #[],.func (.func 137) #[] #[],
 .func (.func 138) #[] #[],.func (.func 140) #[] #[],.func (.func 142) #[] #[],
 .func (.func 143) #[] #[],.func (.func 145) #[] #[],.func (.func 147) #[] #[]]
theorem oI: (af.info? 161).map (·.size)=some 9:=bh
theorem xT(w:World): Calls af 61 #[] w fun e w'=>e= .returned (.agg gv)∧Below w.heap.size w w':=by
 obtain⟨xf,ZZ⟩:=ae w.heap.size;obtain⟨w1,a8⟩:=ae (w.alloc (.cells #[.nilFunc,.nilFunc,.nilFunc,.nilFunc,.nilFunc,.nilFunc,.nilFunc,.nilFunc,.nilFunc] 161));have dF:=aa (aJ a8 ZZ);have bA:=aa (aK a8);have HXF:=aa ZZ;go_enter Tryz.func61,Tryz.ntmps61;go_wp2_with (refine aj rfl 161 _ _ rfl xf 161 _ gv dF.o rfl rfl rfl oI (by simp[gv,Value.oneCell']) ?_;intro w2 gZ hg2 hs2;have jB:=aa gZ;have cu:=aa (br bA.o hg2 (Nat.le_of_eq HXF.o));clear gZ hg2 hs2);refine bodyPost_ret (results_cell_row Tryz.results61 _ _ xf 161 gv (0,0) _ rfl jB.o Tryz.underlying161 rfl oI) rfl ⟨rfl,cu.o⟩
def cS(q:Rq): Array Value:=#[.int .i64 q.ax,.int .u32 q.tag,.int .u32 q.id,.int .i64 q.aw,.int .i64 q.bV]
def Qj: Nat→Rq × By × Int→Rq × By × Int
 | 0,st=>(⟨st.1.ax,st.1.tag,(val (tk st.2.1 st.2.2 4).1:Nat),st.1.aw,st.1.bV⟩,(tk st.2.1 st.2.2 4).2.1,(tk st.2.1 st.2.2 4).2.2)
 | 1,st=>(⟨st.1.ax,st.1.tag,st.1.id,(val (tk st.2.1 st.2.2 2).1:Nat),st.1.bV⟩,(tk st.2.1 st.2.2 2).2.1,(tk st.2.1 st.2.2 2).2.2)
 | _,st=>(⟨st.1.ax,st.1.tag,st.1.id,st.1.aw,wrap64 (val (tk st.2.1 st.2.2 8).1:Nat)⟩,(tk st.2.1 st.2.2 8).2.1,(tk st.2.1 st.2.2 8).2.2)
theorem uA(a b c d e:Int)(x:By)(y:Int): (((⟨a,b,c,d,e⟩:Rq),x,y):Rq × By × Int).1.ax=a:=rfl
theorem Ul: ∀ (f:Nat) (st:Rq × By × Int),(Qj f st).1.ax=st.1.ax
 | 0,_=>uA _ _ _ _ _ _ _
 | 1,_=>uA _ _ _ _ _ _ _
 | _+2,_=>uA _ _ _ _ _ _ _
structure R3(W:World)(p qq xq:Nat)(st:Rq × By × Int): Prop where
 rd:jV W p qq st.2.1 st.2.2
 rq:aG W xq 41 (cS st.1)
 ne:xq≠qq∧xq≠p
def Yv(f p qq xq:Nat)(st:Rq × By × Int)(w:World)(e:Ending)(w':World): Prop:=(∃ u,e= .returned u)∧R3 w' p qq xq (Qj f st)∧aI (fun k=>k=qq∨k=xq) w w'
theorem R3.kT{w w1:World}{p qq xq i:Nat}{st:Rq × By × Int}{bs:By}{e:Int}{q:Rq}{v:Value}(h:R3 w p qq xq st)(hr:jV w1 p qq bs e)(ht:aI (· =qq) w w1)(hv:(cS st.1).setIfInBounds i v=cS q): R3 (w1.setCell ⟨xq,i,none⟩ v) p qq xq (q,bs,e)∧aI (fun k=>k=qq∨k=xq) w (w1.setCell ⟨xq,i,none⟩ v):=by
 have h1:=h.ne;have h2:=ht.arr h.rq h1.1;refine⟨⟨?_,by rw[←hv];exact h2.put i v,h1⟩,?_⟩
 ·obtain⟨A,c,a1,a2,a3,a4⟩:=hr.rest.ex;refine⟨hr.own.other (p:=⟨xq,i,none⟩) (fun e=>h1.2 e.symm) v,A,c,a1.other (p:=⟨xq,i,none⟩) (fun e=>h1.1 e.symm) v,?_,a3,fun g off e=>⟨(a4 g off e).1,fun hne=>by
   obtain⟨cur,hc⟩:=(a4 g off e).2 hne;have hgx:g≠xq:=by
    rintro rfl;unfold aG at h2;rw[h2] at hc;injection hc with hc
    injection hc with _ h5 _
    revert h5;decide
   exact⟨cur,((aI.at w1 xq i v).block g (eL.1 hc).1 hgx).trans hc⟩⟩⟩
  intro hne;obtain⟨g,off,e1,e2,e3⟩:=a2 hne;have hgx:g≠xq:=by
   rintro rfl;have h5:=e3 0 _ (Oc.nO (vd.2 hne));rw[h2.cell] at h5;rcases off with _|_|_|_|_|off <;>simp[cS,Oc.fG] at h5
  exact⟨g,off,e1,by simpa using e2,fun j u hj=>by rw[←e3 j u hj];exact World.cell?_of_block (a:=⟨g,off+j,none⟩) ((aI.at w1 xq i v).block g e2 hgx)⟩
 exact(ht.mono fun k _ e=>.inl e).put (p:=⟨xq,i,none⟩) (.inl (.inr rfl)) v
end En
end
section
namespace En
open Oc (oM gD oN ik)
theorem WJ(p qq xq:Nat)(st:Rq × By × Int)(w:World)(h:R3 w p qq xq st): Calls af 135 #[.pointer (some ⟨p,0,none⟩),.pointer (some ⟨xq,0,none⟩)] w (Yv 0 p qq xq st w):=by
 have HH:=aa h;have HN:=aa (gD p qq st.2.1 st.2.2 w h.rd);clear h;go_enter Tryz.func135,Tryz.ntmps135;go_wp2_with fail;refine HN.o.mono ?_;rintro en w1 ⟨rfl,h2,h3⟩;have ha:=h3.arr HH.o.rq HH.o.ne.1;have c2:w1.cell? ⟨xq,2,none⟩=some (.int .u32 st.1.id):=ha.cell 2;have f2:=ha.mark 2;have HF:=aa (HH.o.kT (i:=2) (q:=⟨st.1.ax,st.1.tag,(val (tk st.2.1 st.2.2 4).1:Nat),st.1.aw,st.1.bV⟩) (v:=.int .u32 (val (tk st.2.1 st.2.2 4).1:Nat)) h2 h3 rfl);clear h2 h3 ha;go_wp2_with fail;exact bodyPost_end (results_none Tryz.results135 _ _ _) rfl ⟨⟨_,rfl⟩,HF.o.1,HF.o.2⟩
theorem WI(p qq xq:Nat)(st:Rq × By × Int)(w:World)(h:R3 w p qq xq st): Calls af 140 #[.pointer (some ⟨p,0,none⟩),.pointer (some ⟨xq,0,none⟩)] w (Yv 1 p qq xq st w):=by
 have HH:=aa h;have HN:=aa (oN p qq st.2.1 st.2.2 w h.rd);have hv:=lz (qc st.2.1 st.2.2 2);have hw:IntKind.i64.wrap ((val (tk st.2.1 st.2.2 2).1:Nat):Int)=((val (tk st.2.1 st.2.2 2).1:Nat):Int):=E4;clear h hv;go_enter Tryz.func140,Tryz.ntmps140;go_wp2_with fail;refine HN.o.mono ?_;rintro en w1 ⟨rfl,h2,h3⟩;have ha:=h3.arr HH.o.rq HH.o.ne.1;have c2:w1.cell? ⟨xq,3,none⟩=some (.int .i64 st.1.aw):=ha.cell 3;have f2:=ha.mark 3;have HF:=aa (HH.o.kT (i:=3) (q:=⟨st.1.ax,st.1.tag,st.1.id,(val (tk st.2.1 st.2.2 2).1:Nat),st.1.bV⟩) (v:=.int .i64 (val (tk st.2.1 st.2.2 2).1:Nat)) h2 h3 rfl);clear h2 h3 ha;go_wp2_with fail;exact bodyPost_end (results_none Tryz.results140 _ _ _) rfl ⟨⟨_,rfl⟩,HF.o.1,HF.o.2⟩
theorem WH(p qq xq:Nat)(st:Rq × By × Int)(w:World)(h:R3 w p qq xq st): Calls af 145 #[.pointer (some ⟨p,0,none⟩),.pointer (some ⟨xq,0,none⟩)] w (Yv 2 p qq xq st w):=by
 have HH:=aa h;have HN:=aa (ik p qq st.2.1 st.2.2 w h.rd);clear h;go_enter Tryz.func145,Tryz.ntmps145;go_wp2_with fail;refine HN.o.mono ?_;rintro en w1 ⟨rfl,h2,h3⟩;have ha:=h3.arr HH.o.rq HH.o.ne.1;have c2:w1.cell? ⟨xq,4,none⟩=some (.int .i64 st.1.bV):=ha.cell 4;have f2:=ha.mark 4;have HF:=aa (HH.o.kT (i:=4) (q:=⟨st.1.ax,st.1.tag,st.1.id,st.1.aw,wrap64 (val (tk st.2.1 st.2.2 8).1:Nat)⟩) (v:=.int .i64 (wrap64 (val (tk st.2.1 st.2.2 8).1:Nat))) h2 h3 rfl);clear h2 h3 ha;go_wp2_with fail;exact bodyPost_end (results_none Tryz.results145 _ _ _) rfl ⟨⟨_,rfl⟩,HF.o.1,HF.o.2⟩
end En
end
section
namespace Cr
def cj(w:World): Prop:=∀ i:Nat,i<16→w.cell? ⟨1,i,none⟩=some (.int .u32 (Fc.getD i 0:Nat))
variable{w w':World}
theorem cj.same(h:cj w)(hk:w'.heap[1]? =w.heap[1]?): cj w':=fun i hi=>by rw[←h i hi];simp[World.cell?,hk]
theorem cj.ah(h:cj w)(hb:Below w.heap.size w w'): cj w':=h.same (hb.block _ (bE w _ (h 0 aM)))
theorem cj.cR{S:Nat→Prop}(h:cj w)(ht:aI S w w')(hS: ¬S 1): cj w':=h.same (ht.block _ (bE w _ (h 0 aM)) hS)
theorem cj.lt(h:cj w): 1<w.heap.size:=bE w _ (h 0 aM)
theorem LI(r:Nat)(b:UInt8)(hr:r<4294967296): ∃ r1 l1 t1 r2 l2 t2 r3:Nat,aX qK iw (r:Int) (b.toNat:Int)=(r1:Int)∧aX BinOp.and iw (r1:Int) 15=(l1:Int)∧l1<16∧Fc.getD l1 0=t1∧
  aX qK iw (t1:Int) ((r1:Int) / 16)=(r2:Int)∧aX BinOp.and iw (r2:Int) 15=(l2:Int)∧l2<16∧Fc.getD l2 0=t2∧aX qK iw (t2:Int) ((r2:Int) / 16)=(r3:Int)∧r3=JJ r b∧r1<4294967296∧r2<4294967296:=by
 have hb:b.toNat<4294967296:=Nat.lt_of_lt_of_le b.toNat_lt aM;have h1:=wO hr hb;have h2:=LB h1;have e16: ∀ x:Nat,(x:Int) / 16=((x / 16:Nat):Int):=fun x=>dM
 refine⟨r ^^^ b.toNat,(r ^^^ b.toNat) % 16,_,st4 (r ^^^ b.toNat),st4 (r ^^^ b.toNat) % 16,_,JJ r b,u32_xor_nat _ _ hr hb,?_,Nat.mod_lt _ aM,rfl,?_,?_,Nat.mod_lt _ aM,rfl,?_,rfl,h1,h2⟩
 ·rw[show(15:Int)=((15:Nat):Int)from rfl,u32_and_nat _ _ h1 aM,nat_mask4]
 ·rw[e16,u32_xor_nat _ _ (Lt _) ai];rfl
 ·rw[show(15:Int)=((15:Nat):Int)from rfl,u32_and_nat _ _ h2 aM,nat_mask4]
 ·rw[e16,u32_xor_nat _ _ (Lt _) ai];rfl
theorem Mw{l:List UInt8}{j:Nat}(h:j<l.length)(r:Nat): pQ r (l.take (j+1))=JJ (pQ r (l.take j)) l[j]:=by rw[List.take_add_one,List.getElem?_eq_getElem h,Option.toList_some,Qs];rfl
theorem Ov{s:Nat}(hs:s<4294967296): aX qK iw iw.max (s:Int)=((s ^^^ 0xffffffff:Nat):Int):=by rw[show iw.max=((4294967295:Nat):Int)from rfl,u32_xor_nat _ _ aM hs,Nat.xor_comm]
theorem aa1(s:Nat)(bs:List UInt8)(A:Option Addr)(c:Nat)(w:World)(hs:s<4294967296)(hB:Bs w A bs)(ht:cj w)(hl:bs.length≤140737488355328):
  Calls af 336 #[.int .u32 s,.slice A bs.length c] w fun e w'=>e= .returned (.int .u32 (ij s bs:Nat))∧w'=w:=by
 have HB:=aa hB;have HT:=aa ht;have hl':(bs.length:Int)≤140737488355328:=ai;have hg:iw.signed=false:=aM;clear hB ht;go_enter Tryz.func336,Tryz.ntmps336;go_wp2_with fail;go_loopw [5,12] (fun r i wr=>∃ j:Nat,j≤bs.length∧i= .int .i64 j∧r= .int .u32 (pQ (s ^^^ 0xffffffff) (bs.take j):Nat)∧wr=w) (fun _ i _=>(bs.length - intOf i).toNat)
 case atStart=>exact⟨0,ai,rfl,by rw[Ov hs];rfl,rfl⟩
 case round=>
  obtain⟨j,hj,rfl,hr,hw⟩:=hrel;rw[hw];clear hw;obtain⟨r,vh⟩:=ae (pQ (s ^^^ 0xffffffff) (bs.take j));rw[vh] at hr;subst hr;have ag5:r<4294967296:=by rw[←vh];exact Bb _ _ (wO hs aM)
  have hr1:(r:Int)<4294967296:=ai;have hr0:(0:Int)≤(r:Int):=ai;by_cases h:j<bs.length
  ·have h':(j:Int)<(bs.length:Int):=by omega
   have OI:(0:Int)≤(j:Int):=ai;obtain⟨g,off,hA,_,_⟩:=HB.o (by rintro rfl;simp at h);subst hA;have x0:w.cell? ⟨g,off+j,none⟩=some (fG bs[j]):=HB.o.cell h;unfold fG at x0;obtain⟨r1,l1,t1,r2,l2,t2,r3,e1,e2,rD,et1,e3,e4,hl2,et2,e5,e6,amL,amK⟩:=LI r bs[j] ag5;have y1:w.cell? ⟨1,l1,none⟩=some (.int .u32 (t1:Nat)):=by rw[←et1];exact HT.o l1 rD
   have y2:w.cell? ⟨1,l2,none⟩=some (.int .u32 (t2:Nat)):=by rw[←et2];exact HT.o l2 hl2
   have amj:(l1:Int)<16:=ai;have ami:(l2:Int)<16:=ai;have aho:(0:Int)≤(l1:Int):=ai;have aad:(0:Int)≤(l2:Int):=ai;have hbw:iw.wrap (bs[j].toNat:Int)=(bs[j].toNat:Int):=by have:=bs[j].toNat_lt;rw[YH];omega
   have HE:=aa (show r3=pQ (s ^^^ 0xffffffff) (bs.take (j+1))by rw[Mw h,vh,←e6]);clear vh et1 et2 e6;go_wp2_with fail;go_roundw
   case rel=>exact⟨j+1,ai,by go_num,by rw[←HE.o],xm⟩
   case measure=>simp[intOf];omega
  have h': ¬(j:Int)<(bs.length:Int):=ai;have V3:j=bs.length:=ai;subst V3;have HF:=aa (show aX qK iw iw.max (r:Int)=(ij s bs:Nat)by rw[Ov ag5,←vh,List.take_length];rfl);clear vh;go_wp2_with fail;go_ret;exact⟨by rw[←HF.o];rfl,rfl⟩
theorem qB(bs:List UInt8)(A:Option Addr)(c:Nat)(w:World)(hB:Bs w A bs)(ht:cj w)(hl:bs.length≤140737488355328):
  Calls af 300 #[.slice A bs.length c] w fun e w'=>e= .returned (.int .u32 (ij 0 bs:Nat))∧w'=w:=by
 have HM:=aa (aa1 0 bs A c w aM hB ht hl);clear hB ht;go_enter Tryz.func300,Tryz.ntmps300;go_wp2_with fail;refine ag HM.o ?_;go_wp2_with fail;go_ret;exact⟨rfl,rfl⟩
end Cr
end
section
namespace Oc
structure Zp(w:World)(A:Option Addr)(c:Nat)(bs:List UInt8)(S:Nat→Prop): Prop where
 ex:(A=none∧c=0∧bs= [])∨∃ g off cur,A=some ⟨g,off,none⟩∧aG w g 5 cur∧off+c≤cur.size∧bs.length≤c∧(∀ j u,(aO bs)[j]? =some u→cur[off+j]? =some u)∧S g
variable{w:World}{A:Option Addr}{c:Nat}{S:Nat→Prop}
theorem Zp.bs{bs:List UInt8}(h:Zp w A c bs S): Bs w A bs:=fun hne=>by
 rcases h.ex with⟨_,_,rfl⟩|⟨g,off,cur,rfl,h1,_,_,h2,_⟩
 ·exact absurd rfl hne
 exact⟨g,off,rfl,h1.lt,fun i u hi=>by rw[h1.cell (off+i)];exact h2 i u hi⟩
theorem Zp.same{w':World} {bs:List UInt8}(h:Zp w A c bs S)(hk: ∀ g,S g→g<w.heap.size→w'.heap[g]? =w.heap[g]?): Zp w' A c bs S:=by
 rcases h.ex with h|⟨g,off,cur,h0,h1,h2,h3,h4,h5⟩
 ·exact⟨.inl h⟩
 exact⟨.inr ⟨g,off,cur,h0,(hk g h5 h1.lt).trans h1,h2,h3,h4,h5⟩⟩
theorem Zp.mono{bs:List UInt8}{T:Nat→Prop} (h:Zp w A c bs S)(p7: ∀ g,S g→T g): Zp w A c bs T:=by
 rcases h.ex with h|⟨g,off,cur,h0,h1,h2,h3,h4,h5⟩
 ·exact⟨.inl h⟩
 exact⟨.inr ⟨g,off,cur,h0,h1,h2,h3,h4,p7 g h5⟩⟩
theorem Zp.none(w:World)(S:Nat→Prop): Zp w none 0 [] S:=⟨.inl ⟨rfl,rfl,rfl⟩⟩
end Oc
end
section
namespace En
theorem SG: (af.info? 39).map (fun i=>(i.zero,i.size,i.bytes))=some (some (.int .u32 0),1,4):=bh
def oK(S:Nat→Prop)(w:World)(v:Value)(l:List Int): Prop:=
 (v= .slice none 0 0∧l= [])∨∃ g off c cs,v= .slice (some ⟨g,off,none⟩) l.length c∧S g∧aG w g 39 cs∧off+c≤cs.size∧l.length≤c∧∀ j t,l[j]? =some t→cs[off+j]? =some (.int .u32 t)
variable{S:Nat→Prop}{w:World}{l:List Int}
theorem oK.any{v:Value}(h:oK S w v l): ∃ A c,v= .slice A l.length c:=by rcases h with⟨rfl,rfl⟩|⟨g,off,c,cs,rfl,_⟩ <;>exact⟨_,_,rfl⟩
theorem oK.same{T:Nat→Prop} {w':World} {v:Value}(h:oK S w v l)(hk: ∀ k,S k→k<w.heap.size→w'.heap[k]? =w.heap[k]?∧T k): oK T w' v l:=by
 rcases h with h|⟨g,off,c,cs,rfl,h1,h2,h3⟩
 ·exact .inl h
 exact .inr ⟨g,off,c,cs,rfl,(hk g h1 h2.lt).2,(hk g h1 h2.lt).1.trans h2,h3⟩
theorem oK.tail{t:Int}{g off c:Nat}(h:oK S w (.slice (some ⟨g,off,none⟩) (t::l).length c) (t::l)): oK S w (.slice (if c=1 then some ⟨g,off,none⟩else some ⟨g,off+1,none⟩) l.length (c - 1)) l∧w.cell? ⟨g,off,none⟩=some (.int .u32 t)∧l.length+1≤c:=by
 rcases h with⟨_,h⟩|⟨g',CT,c',cs,hv,h1,h2,h3,h4,h5⟩
 ·cases h
 injection hv with e1 _ e2
 injection e1 with e1
 injection e1 with e1 e3 _
 subst e1 e2 e3;rw[List.length_cons] at h4;refine⟨?_,(h2.cell off).trans (h5 0 t rfl),h4⟩;by_cases hc:c=1
 ·rw[if_pos hc];obtain rfl:l= []:=YI ai;exact .inr ⟨g,off,c - 1,cs,rfl,h1,h2,ai,Nat.zero_le _,fun j u hj=>by simp at hj⟩
 rw[if_neg hc];exact .inr ⟨g,off+1,c - 1,cs,rfl,h1,h2,ai,ai,fun j u hj=>by rw[show off+1+j=off+(j+1) from ai];exact h5 (j+1) u hj⟩
theorem Su(w:World){ops:Array Oper}{rest:List Oper}{o:Oper}{a:Act}{Q:Exit→Act→World→Prop}(hg:o.guard=none)(s x:Operand)
  (hop:o.op=Op.call {callee:=Np Nn,args:=#[s,x],argTypes:=#[114,114]}) {S:Nat→Prop} {v:Value} {l:List Int} (h:oK S w v l) (hs:a.eval s=v) (t:Int)
  (ad:Addr) (hx:a.eval x= .slice (some ad) 1 1) (hc:w.cell? ad=some (.int .u32 t)) (hl:l.length≤1000000)
  (hK: ∀ v' w',oK (fun k=>S k∨w.heap.size≤k) w' v' (l++ [t])→aI S w w'→wpList af ops Q rest (a.put o.dst v') w'):wpList af ops Q (o::rest) a w:=by
 obtain⟨i0,hi,hz0,hz1,hz2⟩:=info_parts SG;have hnews: ∀ j u,([.int .u32 t]:List Value)[j]? =some u→w.cell? (ad.add j)=some u:=fun j u hj=>by
  match j,hj with
  | 0,hj=>injection hj with hj;subst hj;rw[←hc];rfl
  | j+1,hj=>simp at hj
 have h1: ∀ u∈([.int .u32 t]:List Value),u.oneCell'=true:=fun u hu=>by simp at hu;subst hu;rfl
 have fin: ∀ v' w',w'.ownsRow w.heap.size 39 1 v' (l.length+1) (l.map (eK .u32)++ [.int .u32 t])→w.grownBy w' none→wpList af ops Q rest (a.put o.dst v') w':=fun v' w' ho hgr=>by
  refine hK v' w' ?_ ((aI.refl S w).grown hgr (fun k e=>nA));rcases ho.2 with⟨_,h0⟩|⟨g,cap,cur,rfl,hb,hh,h1,h2,h3,h4⟩
  ·omega
  refine .inr ⟨g,0,cap,cur,by rw[bZ];rfl,.inr hb,hh,ai,by rw[bZ];exact h1,fun j u hj=>?_⟩;have RU:=(iX.1 hj).1;rw[bZ,List.length_singleton] at RU;rw[Nat.zero_add,←dK,←List.getElem?_take_of_lt (i:=j) (j:=(l.length+1)*1) ai,h4,show l.map (eK .u32)++ [.int .u32 t]=(l++ [t]).map (eK .u32) from dM,List.getElem?_map,hj];rfl
 rcases h with⟨rfl,rfl⟩|⟨g,off,c,cs,rfl,hS,hA,hsz,hlc,zy⟩
 ·exact wpList_append_grows w hg s x 114 hop 39 i0 (.int .u32 0) 1 4 Tryz.underlying114 hi hz0 hz1 hz2 rfl aM none 0 0 [] hs (fun _=>⟨rfl,rfl⟩) rfl (fun b e=>nA) ad 1 1 [.int .u32 t] hx rfl hnews h1 aM jR ai fin
 ·refine wpList_append_arg w hg s x 114 hop 39 i0 (.int .u32 0) 1 4 Tryz.underlying114 hi hz0 hz1 hz2 rfl aM g off l.length c (l.map (eK .u32)) hs dM (fun j u hj=>?_) ad 1 1 [.int .u32 t] hx rfl hnews h1 (fun hr j hj=>?_) jR ai (fun hr=>?_) (fun hr v' w' ho hgr=>fin v' w' ho hgr)
  ·rw[List.getElem?_map] at hj;rw[hA.cell];cases e:l[j]? with
   | none=>rw[e] at hj;cases hj
   | some y=>rw[e] at hj;injection hj with hj;subst hj;exact zy j y e
  ·have OI:j=0:=by simp at hj;exact hj
   subst OI;refine⟨?_,hA.mark _⟩;rw[hA.cell,Array.getElem?_eq_getElem ai];rfl
  have hw:w.setCells g (off+l.length*1) [.int .u32 t]=w.setCell ⟨g,off+l.length,none⟩ (.int .u32 t):=by simp[World.setCells]
  rw[hw];have hk:=hK (.slice (some ⟨g,off,none⟩) (l.length+1) c) (w.setCell ⟨g,off+l.length,none⟩ (.int .u32 t)) (.inr ⟨g,off,c,_,by rw[bZ];rfl,.inl hS,hA.put _ _,by rw[Array.size_setIfInBounds];exact hsz,by rw[bZ];exact hr,fun j u hj=>?_⟩) ((aI.refl S w).put (p:=⟨g,off+l.length,none⟩) (.inl hS) _)
  ·exact hk
  rcases Nat.lt_or_ge j l.length with h2|h2
  ·rw[List.getElem?_append_left h2] at hj;rw[Array.getElem?_setIfInBounds_ne ai];exact zy j u hj
  rw[List.getElem?_append_right h2] at hj;have OI:j=l.length:=by
   rcases Nat.lt_or_ge (j - l.length) 1 with h3|h3
   ·omega
   rw[List.getElem?_eq_none (by simpa using h3)] at hj;cases hj
  subst OI;rw[Nat.sub_self] at hj;injection hj with hj
  subst hj;rw[Array.getElem?_setIfInBounds_self];simp only[show off+l.length<cs.size from ai,if_true]
