import Derived.Test.YtemighjbfanenaaGreatDoorPk22
import Derived.Test.YtemighjbfanenaaGreatDoorPk27
import Derived.Laws.AppendOwnNone
set_option linter.all false
set_option maxRecDepth 100000
set_option maxHeartbeats 16000000
namespace Go.Proofs.YtemighjbfanenaaGreatDoor
open RowKit
open En (By B5)
open Oc (Bs ET kQ aN bn uH dX EX)
open Fl (Yy M5 Pv gz)
open List renaming getElem_mem→qL,getElem?_eq_getElem→cI,getD_eq_getElem?_getD→bQ
open Nat renaming zero_le→cu
open Tryz renaming prog→af
section
namespace Fl
end Fl
end
section
namespace En

theorem uP(c:Nat→List Value)(n:Nat):∀m,flat c (n+m)=flat c n++flat (fun i=>c (n+i)) m
 | 0=>by simp[flat]
 | m+1=>by rw[←Nat.add_assoc,flat,uP c n m,flat,List.append_assoc]
variable{w:World}{v:Value}{G C:Nat→Nat}
theorem yD{base n size:Nat}{e:TypeId}{xs:List Value}(h:w.ownsRow 0 e size v n xs)(hb:∀k,v.ownBlock=some k→base≤k): w.ownsRow base e size v n xs:=by
 refine⟨h.1,?_⟩;rcases h.2 with h0|⟨g,cap,cur,hv,_,hr⟩
 ·exact .inl h0
 exact .inr ⟨g,cap,cur,hv,hb g (by rw[hv];rfl),hr⟩
def uG(L:List By)(G C:Nat→Nat)(i:Nat): List Value:=[.slice (some ⟨G i,0,none⟩) (L.getD i []).length (C i)]
theorem cR.same{base:Nat}{w':World} {L:List By}(h:cR base w v L G C)(hv:∀k,v.ownBlock=some k→w'.heap[k]? =w.heap[k]?)(hG:∀i,i<L.length→w'.heap[G i]? =w.heap[G i]?): cR base w' v L G C:=
 ⟨⟨dY h.row.own hv,h.row.block⟩,fun i hi=>⟨(h.each i hi).1.same (hG i hi),(h.each i hi).2⟩,h.new,h.J3⟩
theorem cR.cG{S:Nat→Prop}{base:Nat}{w':World} {L:List By}(h:cR base w v L G C)(ht:aG S w w')(hv:∀k,v.ownBlock=some k→¬S k)(hG:∀i,i<L.length→¬S (G i)): cR base w' v L G C:=
 h.same (fun k hk=>ht.block k (dP h.row.own hk).1 (hv k hk)) fun i hi=>ht.block _ (h.each i hi).1.lt (hG i hi)
def Re(v:Value)(L:List By)(G:Nat→Nat)(k:Nat): Prop:=v.ownBlock=some k∨∃i,i<L.length∧G i=k
theorem cR.lt{base:Nat}{L:List By}(h:cR base w v L G C):∀k,Re v L G k→base≤k∧k<w.heap.size:=fun k hk=>by
 rcases hk with hk|⟨i,hi,rfl⟩
 ·exact⟨h.new k hk,(dP h.row.own hk).1⟩
 exact⟨(h.each i hi).2.2.1,(h.each i hi).1.lt⟩
theorem Gv(L M:List By)(i:Nat): (L++M).getD i []=if i<L.length then L.getD i [] else M.getD (i-L.length) []:=by
 simp only[bQ];by_cases h:i<L.length
 ·rw[if_pos h,List.getElem?_append_left h]
 rw[if_neg h,List.getElem?_append_right ag]
def oy(n:Nat)(G H:Nat→Nat)(i:Nat): Nat:=if i<n then G i else H (i-n)
theorem VD(L M:List By)(G C H D:Nat→Nat): flat (uG (L++M) (oy L.length G H) (oy L.length C D)) (L.length+M.length)=flat (uG L G C) L.length++flat (uG M H D) M.length:=by
 rw[uP];congr 1
 ·exact iT fun i hi=>by unfold uG oy;rw[Gv,if_pos hi,if_pos hi,if_pos hi]
 refine iT fun i hi=>?_
 have hn:¬L.length+i<L.length:=ag;unfold uG oy;rw[Gv,if_neg hn,if_neg hn,if_neg hn,Nat.add_sub_cancel_left]
theorem cR.app{base z:Nat}{w1 w2:World}{v' v2:Value} {L M:List By}{H D:Nat→Nat} (h:cR base w1 v L G C)(k:cR z w1 v' M H D)(hz:∀x,Re v L G x→x<z)(ry:base≤z)
  (ho:w2.ownsRow base 34 1 v2 (L.length+M.length) (flat (uG L G C) L.length++flat (uG M H D) M.length)) (hg:w1.grownBy w2 v.ownBlock) :
  cR base w2 v2 (L++M) (oy L.length G H) (oy L.length C D):=by
 have hlen:(L++M).length=L.length+M.length:=List.length_append;have hown:∀b x cs,kQ w2 b x cs→v2.ownBlock≠some b:=fun b x cs hc he=>by
  obtain⟨cur,og,_⟩:=hc;rcases ho.2 with⟨hv,_⟩|⟨g,cap,agq,hv,_,hh,_⟩
  ·rw[hv] at he;cases he
  rw[hv] at he;have:g=b:=by simpa[Value.ownBlock] using he
  subst this;have h1:some (Obj.cells cur 5 (0,0))=some (Obj.cells agq 34 (0,0)):=Eq.trans (Eq.symm og) hh;injection h1 with h1
  injection h1 with _ h2
  revert h2;decide
 have hL:∀i,i<L.length→kQ w2 (G i) (L.getD i []) (C i):=fun i hi=>(h.each i hi).1.same (hg.block _ (h.each i hi).1.lt (fun e=>(h.each i hi).2.2.2 e.symm))
 have hM:∀i,i<M.length→kQ w2 (H i) (M.getD i []) (D i):=fun i hi=>(k.each i hi).1.same (hg.block _ (k.each i hi).1.lt (fun e=>by
  have h1:=hz (H i) (.inl e.symm);have h2:=(k.each i hi).2.2.1;omega))
 refine⟨⟨?_,fun g hg=>hg⟩,fun i hi=>?_,fun x hx=>(dP ho hx).2,fun i j hi hj he=>?_⟩
 ·show w2.ownsRow 0 34 1 v2 (L++M).length (flat (uG (L++M) (oy L.length G H) (oy L.length C D)) (L++M).length)
  rw[hlen,VD];exact eJ ho (cu _)
 ·rw[hlen] at hi;rw[Gv];unfold oy;by_cases h1:i<L.length
  ·rw[if_pos h1,if_pos h1,if_pos h1];exact⟨hL i h1,(h.each i h1).2.1,(h.each i h1).2.2.1,hown _ _ _ (hL i h1)⟩
  rw[if_neg h1,if_neg h1,if_neg h1];have h2:i-L.length<M.length:=ag;exact⟨hM _ h2,(k.each _ h2).2.1,Nat.le_trans ry (k.each _ h2).2.2.1,hown _ _ _ (hM _ h2)⟩
 ·rw[hlen] at hi hj;unfold oy at he;by_cases h1:i<L.length
  ·by_cases h2:j<L.length
   ·rw[if_pos h1,if_pos h2] at he;exact h.J3 i j h1 h2 he
   rw[if_pos h1,if_neg h2] at he;have a1:=hz (G i) (.inr ⟨i,h1,rfl⟩);have a2:=(k.each (j-L.length) ag).2.2.1;omega
  by_cases h2:j<L.length
  ·rw[if_neg h1,if_pos h2] at he;have a1:=hz (G j) (.inr ⟨j,h2,rfl⟩);have a2:=(k.each (i-L.length) ag).2.2.1;omega
  rw[if_neg h1,if_neg h2] at he;have:=k.J3 (i-L.length) (j-L.length) ag ag he;omega
theorem cR.Vm{base:Nat}{L:List By}(h:cR base w v L G C)(hne:∀x∈L,x≠ []): B5 base w v L (fun i=>some ⟨G i,0,none⟩) C:=by
 have hn:∀i,i<L.length→L.getD i []≠ []:=fun i hi=>hne _ LY
 refine⟨h.row,fun i hi=>.inr ⟨hn i hi,G i,rfl,(h.each i hi).1⟩,fun i hi _ g hg=>?_,fun i j hi hj _ _ he=>h.J3 i j hi hj (by injection he with he;injection he),h.new⟩;injection hg with hg
 injection hg with hg
 subst hg;exact(h.each i hi).2.2
theorem cR.rws{base:Nat}{L:List By}(h:cR base w v L G C)(hne:∀x∈L,x≠ []): Yy w v L:=(h.Vm hne).rws
def ak0(x:By)(w:World)(e:Ending)(w':World): Prop:=∃g c,e=.returned (.slice (some ⟨g,0,none⟩) x.length c)∧kQ w' g x c∧x.length≤c∧w.heap.size≤g∧Below w.heap.size w w'
theorem ZQ(x:By)(hne:x≠ [])(A:Option Addr)(c:Nat)(w:World)(hB:Bs w A x)(hl:x.length≤100000): Calls af 21 #[.slice A x.length c] w (ak0 x w):=by
 obtain⟨g,off,rfl,_⟩:=hB hne;have W7:0<x.length:=List.length_pos_iff.2 hne;have HB:=aa hB;clear hB hne;go_enter Tryz.func21,Tryz.ntmps21;go_wp2_with (refine EX _ rfl _ _ rfl [] x none 0 0 rfl rfl dA (Bs.nil _ _) ⟨g,off,none⟩ x.length c rfl rfl HB.o ag ag ?_;intro g5 c5 w5 cJ dR RE CN;have jk:=aa cJ;have eQ:=aa dR;have Sm:=aa RE;have KJ:=aa CN;clear cJ dR RE CN);go_ret;exact⟨g5,c5,dA,eQ.o,by have:=KJ.o;omega,jk.o,Sm.o⟩
def aeD(L:List By)(w:World)(e:Ending)(w':World): Prop:=∃v G C,e=.returned v∧cR w.heap.size w' v L G C∧Below w.heap.size w w'
theorem KM(L:List By)(hne:∀x∈L,x≠ [])(hlen:∀x∈L,x.length≤100000)(hn:L.length≤100000)(v:Value)(w:World)(hv:Yy w v L): Calls af 13 #[v] w (aeD L w):=by
 obtain⟨A,c,rfl,hA⟩:=hv;obtain⟨j0,hj,hz0,hz1,hz2⟩:=info_parts gz;have HA:=aa hA;have jV:=aa hne;have HLN:=aa hlen;clear hA hne hlen;go_enter Tryz.func13,Tryz.ntmps13;go_wp2_with fail;go_loopw [3,4] (fun v3 i wr=>∃(j:Nat) (G C:Nat→Nat),j≤L.length∧i=.int .i64 j∧cR w.heap.size wr v3 (L.take j) G C∧Below w.heap.size w wr) (fun _ i _=>(L.length-intOf i).toNat)
 case atStart=>exact⟨0,fun _=>0,fun _=>0,cu _,rfl,cR.nil _ _,Below.refl _ _⟩
 case round=>
  obtain⟨j,G,C,S9,rfl,hO,hbr⟩:=hrel;by_cases h2:j<L.length
  ·have h2':(j:Int)<(L.length:Int):=by omega
   obtain⟨g,rfl,oT,hcell⟩:=HA.o (fun h0=>Fi);obtain⟨Ai,ci,x0,Th⟩:=hcell j h2;obtain⟨x,hx⟩:=ae (L.getD j []);rw[hx] at x0 Th;have RM:x∈L:=by rw[←hx,bQ,cI h2];exact qL h2
   have HX:=aa hx;have HJ:=aa h2;have HLX:=aa (HLN.o x RM);have x0':=(hbr.cell (p:=⟨g,j,none⟩) oT).trans x0;have HC:=aa (ZQ x (jV.o x RM) Ai ci wr (Th.keep hbr) HLX.o);have HO:=aa hO;have ZA:=aa hbr;have HLJ:=aa (show(L.take j).length=j from AI);clear hcell x0 Th RM hO hbr hx oT;go_wp2_with fail;refine HC.o.mono ?_;rintro e w4 ⟨g2,c2,rfl,hcb,zB,hg2,hb4⟩;have HO6:=aa (HO.o.keep (aw hb4 (.cells #[.slice (some ⟨g2,0,none⟩) x.length c2] 34)));have HCB:=aa hcb;have Li:=aa zB;have tR:=aa hg2;have gI:=aa hb4;clear hcb zB hg2 hb4 x0';go_wp2_with (refine gO _ rfl (.tmp 11) (.tmp 17) 33 rfl 34 j0 (.slice none 0 0) 1 24 Tryz.underlying33 hj hz0 hz1 hz2 rfl aM _ (L.take j).length _ rfl HO6.o.row ⟨w4.heap.size,0,none⟩ 1 [.slice (some ⟨g2,0,none⟩) x.length c2] rfl rfl (ik w4 _ _) AU (by have:=HLJ.o;unfold maxLen;omega) (by have:=HLJ.o;omega) ?_;intro ga ca w8 hr8 Xr;have La:=aa hr8;have Zq:=aa Xr;clear hr8 Xr);go_roundw
   case rel=>
    have pc:=aw gI.o (.cells #[.slice (some ⟨g2,0,none⟩) x.length c2] 34);have ho8:=HO.o.snoc (x:=x) (g2:=g2) (c2:=c2) (ga:=ga) (ca:=ca) pc (HCB.o.same (Below.heap_alloc w4 _ _ HCB.o.lt)) tR.o ZA.o.size Li.o La.o Zq.o;have hl8:L.take (j+1)=L.take j++[x]:=by rw[List.take_add_one,←HX.o,bQ,cI HJ.o];simp
    rw[←hl8,HLJ.o] at ho8;exact⟨j+1,_,_,HJ.o,by go_num,ho8,(ar ZA.o pc).grown Zq.o (ar ZA.o pc).size (fun k e=>HO.o.new k e)⟩
   case measure=>simp[intOf];omega
  obtain rfl:j=L.length:=ag;rw[List.take_length] at hO;obtain⟨B,d,hBd⟩:=hO.row.any;have HF:=aa (show aeD L w (.returned _) wr from⟨_,G,C,rfl,hO,hbr⟩);clear hO hbr;go_wp2_with fail;go_ret;exact HF.o
theorem EU{base:Nat}{L:List By}(h:cR base w v L G C)(hne:∀x∈L,x≠ [])(hlen:∀x∈L,x.length≤100000)(hn:L.length≤600000): Calls af 18 #[v] w fun e w'=>e=.returned (.bool true)∧aG (fun k=>base≤k) w w':=by
 obtain⟨Av,cv,rfl⟩:=h.row.any;by_cases h0:L.length=0
 ·rw[h0];exact(Fl.CA Av cv w).mono fun e w' hw=>⟨hw.1,aG.aU hw.2⟩
 obtain⟨g,cap,hv,_,_,_,oT⟩:=h.row.form ag;injection hv with e1 _ e2
 subst e1 e2;have hR:=h.Vm hne;have hl:∀i,(L.getD i []).length≤600000:=fun i=>by
  rcases Nat.lt_or_ge i L.length with hi|hi
  ·have:=hlen _ (show L.getD i []∈L from LY);omega
  rw[bQ,List.getElem?_eq_none hi];exact cu _
 have hc:∀q,q<L.length→w.cell? ⟨g,q,none⟩=some (.slice (some ⟨G q,0,none⟩) (L.getD q []).length (C q)):=fun q hq=>by
  have:=h.row.range (i:=q) (fun i=>rfl) hq 0 (.slice (some ⟨G q,0,none⟩) (L.getD q []).length (C q)) dA;simpa using this
 have hAt:∀q k,Fl.At (fun i=>some ⟨G i,0,none⟩) q k→G q=k:=fun q k hk=>by
  unfold Fl.At at hk;injection hk with hk
  injection hk
 have hL:Fl.Ce 5 Fl.uu w g L.length (fun i=>some ⟨G i,0,none⟩) (fun i=>some ⟨G i,0,none⟩) (fun i=>(L.getD i []).length) C:=
  ⟨hc,fun q hq=>by
   obtain⟨cur,q1,q2,_⟩:=(h.each q hq).1;exact .inr ⟨G q,rfl,rfl,cur,q1,q2,fun i hi=>absurd hi (Nat.not_lt_zero _)⟩,fun p q k hp hq h1 h2=>h.J3 p q hp hq ((hAt p k h1).trans (hAt q k h2).symm),fun⟨q,hq,hx⟩=>(h.each q hq).2.2.2 (by rw[hAt q _ hx];rfl),oT,hn,fun q hq=>⟨(h.each q hq).2.1,hl q⟩⟩
 exact(Fl.Oh g L.length cv _ _ _ C w hL ag).mono fun e w' hw=>⟨hw.1,hw.2.mono fun k _ hk=>by
  obtain⟨q,hq,hx⟩:=hk;rw[←hAt q k hx];exact(h.each q hq).2.2.1⟩
