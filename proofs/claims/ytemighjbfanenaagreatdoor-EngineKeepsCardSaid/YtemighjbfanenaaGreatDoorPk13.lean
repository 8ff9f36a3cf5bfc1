import Derived.Test.YtemighjbfanenaaGreatDoorPk11
import Derived.Test.YtemighjbfanenaaGreatDoorPk12
import Derived.Shelf.SlSortCmp.WholeK
import Derived.Test.YtemighjbfanenaaGreatDoorPk10
import Derived.Test.YtemighjbfanenaaGreatDoorPk9
import Derived.Test.YtemighjbfanenaaGreatDoorPk4
import Derived.StillTailTactics
set_option linter.all false
set_option maxRecDepth 100000
set_option maxHeartbeats 16000000
namespace Go.Proofs.YtemighjbfanenaaGreatDoor
open RowKit
open Go.Sort renaming ahead→zX
open Go.Value renaming oneCell'→eA
open List renaming pairwise_append→wE,getElem?_eq_none→gZ,getElem?_eq_getElem→cI,getD_eq_getElem?_getD→bQ
open Nat renaming zero_le→cu
open Option.some renaming inj→cN
open RowKit.Below renaming heap_setCell→cH
open Tryz renaming prog→af
open _root_.Array renaming getElem?_toList→eG,getElem?_eq_some_iff→eP,getElem?_modify→QE,getElem?_eq_getElem→ja
theorem adg{p:Prop}(h:p:=by
 have oz:aG (fun k=>k=p∨k=g) w (w4.drewN nq):=⟨nU.o.os,nU.o.tape,nU.o.output,nU.o.size,nU.o.block⟩;have uq:=aa fz;have pg:=aa oz;clear fz oz v0 v2' v3;go_wp2_with fail;go_ret;exact⟨rfl,⟨_,_,uq.o,HUN.o⟩,pg.o⟩):p:=h
theorem ade{p:Prop}(h:p:=by
 rintro e w6 ⟨⟨v6,rfl⟩,⟨f',hf',hu⟩,pQ⟩;have HF':=aa hf';have HU:=aa hu;have vu:=aa pQ;clear hf' hu pQ;go_wp2_with fail;go_ret;exact⟨rfl,⟨f',0,HF'.o,fun a b=>(HU.o a b).trans (HUN.o a b)⟩,pg.o.trans vu.o⟩):p:=h
theorem VT{p:Prop}(h:p:=by
 have e1:ft f id n n (uJ id % (n:Int)).toNat (-1)=((i:Int),false):=hsk;rw[e1] at h1;exact h1):p:=h
theorem acW{p:Prop}(h:p:=by
 rw[List.mem_singleton] at hy;subst hy;obtain⟨i,hi,h1,rfl⟩:=nE.1 hx;intro he;have:=hT.uniq i j ag ag h1 hs he;omega):p:=h
theorem qO{p:Prop}(h:p:=by simp[eA]):p:=h
theorem acC{p:Prop}(h:p:=by rw[show((aS - 1:Nat):Int)=(aS:Int) - 1 by omega];push_cast;exact⟨tx.o.own.drewN nq,tx.o.rows.same rfl,tx.o.apart⟩):p:=h
theorem Um{p:Prop}(h:p:=by have:=Gt f n;have:=h.full;have:=h.XQ;omega):p:=h
section
namespace ky
open Go.RowKit Go.Sort Go.Shelf
section
variable {α:Type}[Inhabited α]{enc:α→List Value}{k:Nat}{S:Nat→Prop}{w:World}{e:TypeId}{g cap:Nat}{d:Array α}
theorem BO(hk: ∀ x,(enc x).length=k)(d:Array α): (flatK enc k d).toList=flat (fun i=>enc d[i]!) d.size:=by
 apply List.ext_getElem?;intro t;have hf:=bZ (c:=fun i=>enc d[i]!) (sz:=k) (fun i=>hk _) d.size;rcases Nat.lt_or_ge t (d.size*k)with ht|ht
 ·have Eh:0<k:=by rcases Nat.eq_zero_or_pos k with h0|h0;rw[h0] at ht;simp at ht;exact h0
  have a1:t / k<d.size:=(Nat.div_lt_iff_lt_mul Eh).2 ht;have a2:t % k<k:=Nat.mod_lt _ Eh;have a3:t / k*k+t % k=t:=by rw[Nat.mul_comm];exact Nat.div_add_mod t k
  have h2:(flat (fun i=>enc d[i]!) d.size)[t]? =(enc d[t / k]!)[t % k]?:=by
   conv=>lhs;rw[←a3]
   exact gD (fun i=>hk _) a1 a2
  have hs:t<(flatK enc k d).size:=by rw[size_flatK];exact ht
  have h3:=get_flatK enc k d t ht;rw[getElem!_pos _ t hs] at h3;rw[h2,eG,ja hs,h3];rw[cI (by rw[hk];exact a2),getElem!_pos _ _ (by rw[hk];exact a2)]
 rw[gZ (by simp[size_flatK];exact ht),gZ ag]
theorem OW(h:aO S w e k (.slice (some ⟨g,0,none⟩) d.size cap) d.size (fun i=>enc d[i]!)): ∃ cur,w.heap[g]? =some (.cells cur e (0,0))∧d.size≤cap∧cap≤maxLen∧cur.size=cap*k∧cur.toList.take (d.size*k)=flat (fun i=>enc d[i]!) d.size:=by
 rcases h.own.2 with⟨hv,_⟩|⟨g',cap',cur,hv,hb,hh,h1,h2,h3,h4⟩
 ·cases hv
 injection hv with e1 _ e2
 injection e1 with e1
 injection e1 with e1
 subst e1 e2;exact⟨cur,hh,h1,h2,h3,h4⟩
theorem Q6(hk: ∀ x,(enc x).length=k)(h:aO S w e k (.slice (some ⟨g,0,none⟩) d.size cap) d.size (fun i=>enc d[i]!)): HoldsK enc k w g 0 d:=by
 obtain⟨cur,hh,h1,h2,h3,h4⟩:=OW h;intro j hj;have Ei:j<d.size*k:=by rwa [size_flatK] at hj
 rw[←BO hk] at h4;have h5:(cur.toList.take (d.size*k))[j]? =(flatK enc k d).toList[j]?:=by rw[h4]
 rw[List.getElem?_take,if_pos Ei,eG,eG,ja hj] at h5;rw[getElem!_pos _ j hj,Nat.zero_add];refine⟨by simp only[World.cell?,hh];exact h5,by simp[World.frozen?,hh]⟩
theorem Vr(F cur:Array Value)(h:F.size≤cur.size): (putCells id 0 F cur).toList.take F.size=F.toList:=by
 apply List.ext_getElem?;intro t;rw[List.getElem?_take];split
 ·rename_i ht;rw[eG,eG];simp only[putCells,Array.getElem?_mapIdx];rw[ja (show t<cur.size from ag),Option.map_some,if_pos ⟨cu _,ag⟩,Nat.sub_zero,getElem!_pos _ t ht,ja ht];rfl
 rw[gZ fH]
theorem Mr(hk: ∀ x,(enc x).length=k)(h:aO S w e k (.slice (some ⟨g,0,none⟩) d.size cap) d.size (fun i=>enc d[i]!))(d':Array α)(hs:d'.size=d.size)(m:Nat)(os:Array Obj): aO S (sortWorldK enc k w g 0 m d' os) e k (.slice (some ⟨g,0,none⟩) d.size cap) d.size (fun i=>enc d'[i]!):=by
 obtain⟨cur,hh,h1,h2,h3,h4⟩:=OW h;have hg:g<w.heap.size:=(eP.1 hh).1;have hF:(flatK enc k d').size=d.size*k:=by rw[size_flatK,hs]
 refine⟨⟨bZ (fun i=>hk _) _,.inr ⟨g,cap,putCells id 0 (flatK enc k d') cur,rfl,cu _,?_,h1,h2,by rw[←h3];simp[putCells],?_⟩⟩,fun b hb=>h.block b hb⟩
 ·have e1:(sortWorldK enc k w g 0 m d' os).heap[g]? =(putRowK enc k (zX w m) g 0 d').heap[g]?:=heap_grow_old _ os (by rw[size_putRowK];exact hg);rw[e1];simp only[putRowK,putRow,mapBlock,QE,if_pos,show(zX w m).heap=w.heap from rfl,hh,Option.map_some,onCells]
 rw[←hF,Vr _ _ (by rw[hF,h3];exact Nat.mul_le_mul_right _ h1),BO hk,hs]
theorem Vh(w:World)(g m:Nat)(d':Array α)(os:Array Obj): aG (· =g) w (sortWorldK enc k w g 0 m d' os)where
 os:=rfl
 tape:=rfl
 output:=rfl
 size:=by unfold sortWorldK;rw[size_grow,size_putRowK];exact Nat.le_add_right _ _
 block b hb hne:=by
  have e1:(sortWorldK enc k w g 0 m d' os).heap[b]? =(putRowK enc k (zX w m) g 0 d').heap[b]?:=heap_grow_old _ os (by rw[size_putRowK];exact hb);rw[e1];simp only[putRowK,putRow,mapBlock,QE,show(zX w m).heap=w.heap from rfl];rw[if_neg (fun e=>hne e.symm)]
end
theorem ltS(x y:Slot): ltOf cfS x y=decide (x.id<y.id):=by
 unfold ltOf cfS Lib.compareInt;by_cases h1:x.id<y.id
 ·simp[h1]
 by_cases h2:y.id<x.id
 ·simp[h1,h2]
 simp[h1,h2]
theorem alf: SWO (ltOf cfS)where
 irrefl x:=by rw[ltS];simp
 trans x y z h1 h2:=by rw[ltS] at *;simp at *;omega
 ntrans x y z h1 h2:=by rw[ltS] at *;simp at *;omega
def ajB(g:Nat)(l:List Slot)(cap:Nat)(w:World)(e:Ending)(w':World): Prop:=e= .returned (.tuple #[])∧∃ l':List Slot,l'.Perm l∧l'.Pairwise (fun x y=>x.id≤y.id)∧oh g w' l.length cap (pd l')∧aG (· =g) w w'
theorem aal(g cap:Nat)(l:List Slot)(w:World)(h:oh g w l.length cap (pd l))(hl:l.length≤16384): Calls af 350 #[.slice (some ⟨g,0,none⟩) l.length cap,.func (.func 351) #[] #[]] w (ajB g l cap w):=by
 letI:Inhabited Slot:=⟨Slot.none⟩
 have hat: ∀ (m:List Slot) (i:Nat),m.toArray[i]! =pd m i:=fun m i=>by
  unfold pd;rw[Array.getElem!_eq_getD,Array.getD_eq_getD_getElem?,List.getElem?_toArray,bQ];rfl
 have hg:g<w.heap.size:=by obtain⟨cur,h1,_⟩:=h.Kc;exact(eP.1 h1).1
 have hrow:aO (fun k=>k=g) w 358 3 (.slice (some ⟨g,0,none⟩) l.toArray.size cap) l.toArray.size (fun i=>fI l.toArray[i]!):=by
  simp only[hat,List.size_toArray];exact h
 have amp:CmpLays af 351 #[] fI 3 cfS g 0 l.toArray.size w:=fun _ _ _ _ x y=>agt x y _
 have eg: ∀ args w,(callFunc 351 args).run af w= .ok (.enter 351 args) w:=enters_of Tryz.func351 aW rfl;have H:=AnyQ.slices_SortFunc Tryz.QT 3 Tryz.isAgg358 Tryz.sizeOf358 fI xA xy cfS alf 351 #[] g 0 cap l.toArray w eg amp (Q6 xA hrow) hg fH;refine Calls.mono H ?_;rintro e w' ⟨rfl,d',m,os,hp,hs,rfl⟩;refine⟨rfl,d'.toList,?_,?_,?_,Vh w g m d' os⟩
 ·have h3:=hp.2.2;rw[←hp.1] at h3;rw[show d'.extract 0 d'.size=d' from dA] at h3;rw[hp.1,show l.toArray.extract 0 l.toArray.size=l.toArray from dA] at h3;exact h3
 ·rw[List.pairwise_iff_getElem];intro i j hi hj hij;have Ei:j<l.toArray.size:=by rw[←hp.1];simpa using hj
  have h4:=hs i j (cu _) hij Ei;rw[ltS,getElem!_pos _ j Ax,getElem!_pos _ i Au] at h4;simp only[decide_eq_false_iff_not] at h4;simp only[Array.getElem_toList];omega
 have h5:=Mr xA hrow d' hp.1 m os;simp only[List.size_toArray] at h5;have e:(fun i=>fI d'[i]!)=fun i=>fI (pd d'.toList i):=funext fun i=>by rw[←hat d'.toList i]
 rw[e] at h5;exact h5
end ky
end
section
namespace ky
def ad6(f:Nat→Slot)(n:Nat)(w:World)(e:Ending)(w':World): Prop:=∃ (g cap:Nat) (l:List Slot),e= .returned (.slice (some ⟨g,0,none⟩) l.length cap)∧l.Perm (kept f n)∧l.Pairwise (fun x y=>x.id≤y.id)∧oh g w' l.length cap (pd l)∧w.heap.size≤g∧Below w.heap.size w w'
theorem Jj(p g n:Nat)(bX len aS steps:Int)(f:Nat→Slot)(w:World)(h:dU w p g n bX len aS steps f)(hn:1≤n∧n≤16384): Calls af 307 #[.pointer (some ⟨p,0,none⟩)] w (ad6 f n w):=by
 have x0:=h.own.cl 0;have HC:=aa (Sc g n n f w h.rows hn);have HN:=aa hn;clear h hn;go_enter Tryz.func307,Tryz.ntmps307;go_wp2_with fail;refine HC.o.mono ?_;rintro e w1 ⟨g1,cap,rfl,hr1,hb1⟩;have kY:w.heap.size≤g1:=hr1.block g1 rfl;have hR1:oh g1 w1 n cap f:=⟨hr1.own,fun k hk=>by injection hk with hk;exact hk.symm⟩;have sk:n≤cap:=by obtain⟨g',cap',hv,_,h1,_⟩:=hr1.form HN.o.1;injection hv with _ _ e2;omega
 have P9:=aa kY;have bu:=aa hb1;have HD:=aa (NG g1 n cap f w1 hR1 HN.o.2 sk);clear hr1 kY hR1 sk hb1 HC;go_wp2_with fail;refine HD.o.mono ?_;rintro e w2 ⟨rfl,qo,ug⟩;have K0:=Nat.le_trans (WI f n) HN.o.2;obtain⟨m,hm⟩:=ae (kept f n);rw[hm] at qo K0 ⊢;have HM:=aa hm;have HS:=aa (aal g1 cap m w2 qo K0);have cx:=aa (aG.fresh ug bu.o (fun k hk=>by rw[show k=g1 from hk];exact P9.o));clear hm qo ug K0 HD;go_wp2_with fail;refine HS.o.mono ?_;rintro e w3 ⟨rfl,l',hp,hs,dS,CH⟩;have hb3:=aG.fresh CH cx.o (fun k hk=>by rw[show k=g1 from hk];exact P9.o);have hl:l'.length=m.length:=hp.length_eq;rw[←hl] at dS;have HF:=aa (show ad6 f n w (.returned (.slice (some ⟨g1,0,none⟩) m.length cap)) w3 from⟨g1,cap,l',mm,by rw[HM.o];exact hp,hs,dS,P9.o,hb3⟩);clear hp hs dS CH hb3 hl HS;go_wp2_with fail;go_ret;exact HF.o
theorem nE{f:Nat→Slot}{x:Slot}: ∀ {n:Nat},x∈kept f n↔∃ i,i<n∧(f i).state=1∧f i=x:=by
 intro n;unfold kept;simp only[List.mem_filter,List.mem_map,List.mem_range,decide_eq_true_eq];constructor
 ·rintro⟨⟨i,hi,rfl⟩,hs⟩;exact⟨i,hi,hs,rfl⟩
 rintro⟨i,hi,hs,rfl⟩;exact⟨⟨i,hi,rfl⟩,hs⟩
theorem se(f:Nat→Slot): ∀ n,(kept f n).length=cnt f 1 n
 | 0=>rfl
 | n+1=>by
  rw[cnt];by_cases h:(f n).state=1
  ·rw[r9 h,List.length_append,se f n,if_pos h];rfl
  rw[ox h,se f n,if_neg h];rfl
def QH(f:Nat→Slot)(n:Nat)(w:World)(e:Ending)(w':World): Prop:=∃ (lb g:Nat) (l:List Slot),e= .returned (.func (.func 308) #[] #[.pointer (some ⟨lb,0,none⟩)])∧l.Perm (kept f n)∧l.Pairwise (fun x y=>x.id≤y.id)∧sP w' lb g l∧w.heap.size≤lb∧w.heap.size≤g∧lb≠g∧Below w.heap.size w w'
theorem PZ(p g n:Nat)(bX len aS steps:Int)(f:Nat→Slot)(w:World)(h:dU w p g n bX len aS steps f)(hn:1≤n∧n≤16384): Calls af 220 #[.pointer (some ⟨p,0,none⟩)] w (QH f n w):=by
 have hown:=h.own;have HH:=aa h;have HN:=aa hn;clear h hn;go_enter Tryz.func220,Tryz.ntmps220;go_wp2_with fail;obtain⟨w1,aX⟩:=ae (w.alloc (.cells #[.slice none 0 0] 313));obtain⟨lb,Pz⟩:=ae w.heap.size;have ha1:=aH aX Pz;have hb1:=aJ aX;have dH:=aa ha1;have bu:=aa hb1;have wK:=aa (⟨hown.keep hb1,HH.o.rows.keep hb1,HH.o.apart⟩:dU w1 p g n bX len aS steps f);rw[aX,Pz];have HLB:=aa Pz;clear aX Pz ha1 hb1 hown;refine ah (fR p g n w1 (wK.o.own.cell 0)) ?_;go_wp2_with fail;refine(Jj p g n bX len aS steps f w1 wK.o HN.o).mono ?_;rintro e w2 ⟨g2,cap,l,rfl,hp,hs,hR,hg2,hb2⟩;have ha2:=dH.o.keep hb2;obtain⟨z0,z1⟩:w2.cell? ⟨lb,0,none⟩=some (.slice none 0 0)∧w2.frozen? ⟨lb,0,none⟩=false:=⟨ha2.cell 0,ha2.mark 0⟩;have hz1:=bu.o.size;have alS:=dH.o.lt;have hne:lb≠g2:=ag;have dB:sP (w2.setCell ⟨lb,0,none⟩ (.slice (some ⟨g2,0,none⟩) l.length cap)) lb g2 l:=⟨⟨cap,aD.put ha2 0 _,hR.put (fun b hb=>by injection hb with hb;rw[←hb];exact hne) _⟩,by simpa using(dP hR.own rfl).1⟩;have hb3:Below w.heap.size w (w2.setCell ⟨lb,0,none⟩ (.slice (some ⟨g2,0,none⟩) l.length cap)):=(ar bu.o hb2).setCell (by simp;have:=HLB.o;omega) _;have HF:=aa (show QH f n w (.returned (.func (.func 308) #[] #[.pointer (some ⟨lb,0,none⟩)])) _ from⟨lb,g2,l,rfl,hp,hs,dB,by have:=HLB.o;omega,ag,hne,hb3⟩);clear hp hs hR hg2 hb2 ha2 dB hb3 hne hz1 alS;go_wp2_with fail;go_ret;exact HF.o
end ky
end
section
namespace ky
variable{k n:Nat}
theorem Bq{f:Nat→Slot}{m:Nat}(hT:CP f m): ∀ j,j≤m→(kept f j).Pairwise fun x y=>x.id≠y.id
 | 0,_=>List.Pairwise.nil
 | j+1,hj=>by
  by_cases hs:(f j).state=1
  ·rw[r9 hs,wE];refine⟨Bq hT j ag,List.pairwise_singleton _ _,fun x hx y hy=>?_⟩;exact acW
  rw[ox hs];exact Bq hT j ag
theorem abz{l:List Slot}(h:k<l.length): pd l k∈l:=by unfold pd;rw[bQ,cI h];exact List.getElem_mem h
theorem DV{l:List Slot}(h:k<l.length): l.take (k+1)=l.take k++ [pd l k]:=by
 rw[List.take_add_one,cI h];unfold pd;rw[bQ,cI h];rfl
theorem Mf{l:List Slot}(hd:l.Pairwise fun x y=>x.id≠y.id)(h:k<l.length): ∀ x∈l.take k,x.id≠(pd l k).id:=by
 intro x hx;have h2:(l.take (k+1)).Pairwise fun x y=>x.id≠y.id:=hd.sublist (List.take_sublist _ _)
 rw[DV h,wE] at h2;exact h2.2.2 x hx _ dA
structure Laid(l:List Slot)(n k:Nat)(f:Nat→Slot): Prop where
 tab:CP f n
 full:cnt f 1 n=k
 XQ:cnt f 2 n=0
 has: ∀ a b,jP f n a b↔∃ x∈l.take k,x.id=a∧x.v=b
theorem Laid.zero(l:List Slot)(n:Nat): Laid l n 0 f0:=⟨Vf n,Ka n 1 aM,Ka n 2 aM,fun a b=>⟨fun h=>absurd h (Lp n a b),fun⟨x,hx,_⟩=>by simp at hx⟩⟩
theorem Laid.ali{l:List Slot}{f:Nat→Slot}(h:Laid l n k f)(hd:l.Pairwise fun x y=>x.id≠y.id)(hk:k<l.length): ∀ i,i<n→(f i).state=1→(f i).id≠(pd l k).id:=fun i hi hs e=>by
 obtain⟨x,hx,e1,_⟩:=(h.has (f i).id (f i).v).1 ⟨i,hi,hs,rfl,rfl⟩;exact Mf hd hk x hx (e1.trans e)
theorem Laid.step{l:List Slot}{f:Nat→Slot}(h:Laid l n k f)(hk:k<l.length){i:Nat}(hi:i<n)(hs:(f i).state≠1)(ht:CP (upd f i ⟨1,(pd l k).id,(pd l k).v⟩) n): Laid l n (k+1) (upd f i ⟨1,(pd l k).id,(pd l k).v⟩):=by
 have q1:=lO f 1 i ⟨1,(pd l k).id,(pd l k).v⟩ n hi;have q2:=lO f 2 i ⟨1,(pd l k).id,(pd l k).v⟩ n hi;have h2:(f i).state=0:=by
  have a:=h.tab.states i hi;have b: ¬(f i).state=2:=fun e=>by
   have:=lO f 2 i ⟨0,0,0⟩ n hi;rw[if_pos e,h.XQ] at this;simp at this
  omega
 rw[h2] at q1 q2;refine⟨ht,?_,?_,fun a b=>?_⟩
 ·have:=h.full;simp at q1;omega
 ·have:=h.XQ;simp at q2;omega
 rw[wP hi hs,h.has,DV hk];constructor
 ·rintro(⟨x,hx,e⟩|⟨rfl,rfl⟩)
  ·exact⟨x,List.mem_append_left _ hx,e⟩
  exact⟨_,List.mem_append_right _ dA,rfl,rfl⟩
 rintro⟨x,hx,e1,e2⟩;rcases List.mem_append.1 hx with hx|hx
 ·exact .inl ⟨x,hx,e1,e2⟩
 obtain rfl:x=pd l k:=by simpa using hx
 exact .inr ⟨e1.symm,e2.symm⟩
theorem Rows.abm{w:World}{g:Nat} {cs:Array Value}(ha:aD w g 358 cs)(h: ∀ j,j<n*3→cs[j]? = #[Value.int .u8 0,.int .u32 0,.int .i64 0][j % 3]?): Rows w g n f0:=
 ⟨cs,ha,fun i hi=>⟨by rw[h _ ag,Nat.mul_mod_left];rfl,by rw[h _ ag,show(i*3+1) % 3=1 from ag];rfl,by rw[h _ ag,show(i*3+2) % 3=2 from ag];rfl⟩⟩
theorem PN(p g n bX len aS:Nat)(f:Nat→Slot)(w:World)(h:fc w p g n bX len aS f)(hid: ∀ i,i<n→(f i).state=1→0≤(f i).id∧(f i).id<4294967296):
  Calls af 312 #[.pointer (some ⟨p,0,none⟩)] w fun e w'=>(∃ v,e= .returned v)∧(∃ f',fc w' p g n bX len 0 f'∧∀ a b,jP f' n a b↔jP f n a b)∧aG (fun k=>k=p∨k=g) w w':=by
 obtain⟨steps,hI⟩:=h.dQ;have hn:=h.a8;have pN:1≤n:=ag;have HC:=aa (Jj p g n bX len aS steps f w hI ⟨pN,hn.2.2.2.2⟩);have HI:=aa hI;have HH:=aa h;have HID:=aa hid;have zy:=hI.apart;clear h hI hid;go_enter Tryz.func312,Tryz.ntmps312;go_wp2_with fail;refine HC.o.mono ?_;rintro e w1 ⟨g2,cap,l,rfl,Ee,-,hrow,hg2,hb1⟩;have lf:dU w1 p g n bX len aS steps f:=⟨HI.o.own.keep hb1,HI.o.rows.same (hb1.block _ HI.o.rows.lt),HI.o.apart⟩;have x0:=lf.own.cl 0;have x4:=lf.own.cl 4;have MY:l.length=len:=by rw[Ee.length_eq,se,HH.o.full]
 have hst: ∀ k,k<l.length→(pd l k).state=1∧0≤(pd l k).id∧(pd l k).id<4294967296:=fun k hk=>by
  have hm:=(Ee.mem_iff).1 (abz hk);obtain⟨i,hi,hs,e⟩:=nE.1 hm;rw[←e];exact⟨hs,HID.o i hi hs⟩
 have hda:l.Pairwise fun x y=>x.id≠y.id:=(Ee.pairwise_iff (fun h=>h.symm)).2 (Bq HH.o.tab n (Nat.le_refl _))
 have RH: ∀ a b,(∃ x∈l.take l.length,x.id=a∧x.v=b)↔jP f n a b:=fun a b=>by
  rw[List.take_length];constructor
  ·rintro⟨x,hx,e1,e2⟩;obtain⟨i,hi,hs,e⟩:=nE.1 ((Ee.mem_iff).1 hx);exact⟨i,hi,hs,by rw[e,e1],by rw[e,e2]⟩
  rintro⟨i,hi,hs,e1,e2⟩;exact⟨f i,(Ee.mem_iff).2 (nE.2 ⟨i,hi,hs,rfl⟩),e1,e2⟩
 obtain⟨cur,og,Xy⟩:=lf.rows;have hsz:n*3≤cur.size:=by have:=(eP.1 (Xy (n - 1) ag).2.2).1;omega
 have oT:=lf.rows.lt;have akE:=aa (show aD w1 g 358 cur from og);have wK:=aa lf;have rB:=aa hrow;have bu:=aa hb1;have HLL:=aa MY;have HST:=aa hst;have HDA:=aa hda;have HUN:=aa RH;have tR:=aa (show g2≠p∧g2≠g∧g2<w1.heap.size from by
  have h1:=HI.o.own.lt;have h2:=HI.o.rows.lt;have h3:g2<w1.heap.size:=(dP hrow.own rfl).1;omega)
 clear lf hrow hb1 hst hda RH og Xy Ee hg2 HC;go_wp2_with (refine wO rfl _ 313 rfl 358 _ 3 n g Tryz.underlying313 DX rfl (by simp[Value.cells,eA]) n cur rfl pN akE.o hsz ?_;intro w2 cs2 ha2 hc2 hg2 hs2;have T12:aG (· =g) w1 w2:=(aG.refl _ _).grown hg2 (fun k e=>.inl (cN e).symm);have Bw:=T12.arr wK.o.own zy;have z3:w2.cell? ⟨p,3,none⟩=some (.int .i64 aS):=Bw.cell 3;have m3:=Bw.mark 3;have hpl:=Bw.lt;have Zi:=aa Bw;have jI:=aa ha2;have EP:=aa hc2;have gV:=aa T12;clear ha2 hc2 hg2 hs2 T12 Bw);have fw:dU (w2.setCell ⟨p,3,none⟩ (.int .i64 0)) p g n bX len (0:Nat) steps f0:=⟨Zi.o.put 3 (.int .i64 0),(Rows.abm jI.o EP.o).same (cH w2 ⟨p,3,none⟩ _ g (fun e=>zy e.symm)),zy⟩;have kv:aG (fun k=>k=p∨k=g) w1 (w2.setCell ⟨p,3,none⟩ (.int .i64 0)):=(gV.o.mono fun k _ hk=>.inr hk).put (p:=⟨p,3,none⟩) (.inl (.inl rfl)) _;have dS:oh g2 (w2.setCell ⟨p,3,none⟩ (.int .i64 0)) l.length cap (pd l):=rB.o.same fun k hk hl=>by subst hk;exact kv.block _ hl (fun e=>by have:=tR.o;omega)
 obtain⟨w3,hw3⟩:=ae (w2.setCell ⟨p,3,none⟩ (.int .i64 0));rw[hw3] at fw kv dS ⊢;have gH:=aa fw;have jR:=aa kv;have iO:=aa dS;clear fw kv dS hw3 z3 m3 hpl Zi jI EP gV x0 x4 akE hsz oT;have an6:l.length≤4096:=by have:=HLL.o;omega
 go_loopw [23] (fun kt wr=>∃ (k:Nat) (f':Nat→Slot) (s:Int),k≤l.length∧kt= .int .i64 k∧dU wr p g n bX len (0:Nat) s f'∧Laid l n k f'∧oh g2 wr l.length cap (pd l)∧aG (fun k=>k=p∨k=g) w1 wr) (fun kt _=>(l.length - intOf kt).toNat)
 case atStart=>exact⟨0,f0,steps,cu _,rfl,gH.o,Laid.zero l n,iO.o,jR.o⟩
 case round=>
  clear gH jR iO wK;obtain⟨k,f',s,hk,rfl,hI,hL,hR,hT⟩:=hrel;have HI:=aa hI;have HL:=aa hL;have HR:=aa hR;have HT:=aa hT;have x0:=hI.own.cl 0;have x4:=hI.own.cl 4;have m4:=hI.own.mark 4;have hpl:=hI.own.lt;clear hI hL hR hT;have Eh:(0:Int)≤(k:Int):=ag;by_cases hlt:k<l.length
  ·have tr:(k:Int)<(l.length:Int):=by omega
   obtain⟨hs1,hs2,hs3⟩:=HST.o k hlt;obtain⟨sl,MS⟩:=ae (pd l k);rw[MS] at hs1 hs2 hs3;obtain⟨w4,hw4⟩:=ae (wr.alloc (.cells #[.int .u8 1,.int .u32 sl.id,.int .i64 sl.v] 358));obtain⟨tb,htb⟩:=ae wr.heap.size;have ha4:=aH hw4 htb;have hb4:=aJ hw4;have po:=aa ha4;have gI:=aa hb4;have pT:=aa MS;have y1:=ha4.cl 1;clear ha4 hb4;go_wp2_with (refine fx rfl 358 _ rfl HR.o (fun _=>rfl) k hlt rfl _ Tryz.underlying358 rfl sV ?_;rw[pT.o];dsimp only[fI]);have K7:dU w4 p g n bX len (0:Nat) s f':=⟨HI.o.own.keep gI.o,HI.o.rows.same (gI.o.block _ HI.o.rows.lt),zy⟩;obtain⟨i,hi,hsk,hsi,yV⟩:=xB HL.o.tab (by have:=HL.o.full;omega) (HL.o.ali HDA.o hlt);rw[pT.o] at hsk yV;have HF:=Find p g n bX len (0:Nat) s sl.id f' w4 K7 pN hn.2.2.2.2 ⟨hs2,hs3⟩ HL.o.tab.states;have hF:Calls af 245 #[.pointer (some ⟨p,0,none⟩),.int .u32 sl.id] w4 fun e w'=>e= .returned (.tuple #[.int .i64 (i:Int),.bool false])∧(∃ s,dU w' p g n bX len (0:Nat) s f')∧aG (· =p) w4 w':=HF.mono fun e w' h1=>by
    have e1:ft f' sl.id n n (uJ sl.id % (n:Int)).toNat (-1)=((i:Int),false):=hsk;rw[e1] at h1;exact h1
   have HLS:=aa (show Laid l n (k+1) (upd f' i ⟨1,sl.id,sl.v⟩)from by have:=HL.o.step hlt hi hsi (by rw[pT.o];exact yV _);rwa [pT.o] at this);have yY:(i:Int)<(n:Int):=ag;have an3:=hn.2.2.2.2;clear HF hsk hsi yV K7;refine hF.mono ?_;clear hF;rintro e w5 ⟨rfl,⟨s5,Ex⟩,oz⟩;have CO:=oz.arr po.o (fun e=>by have:=HI.o.own.lt;omega);have ajf:aG (fun k=>k=p∨k=g) w1 w5:=(HT.o.ai gI.o).trans (oz.mono fun k _ hk=>.inl hk);have u0:=Ex.own.cl 0;have u1:=CO.cl 0;have u2:=CO.cl 1;have u3:=CO.cl 2;have rh:=aa (Ex.rows.there hi);have pV:=aa Ex;have pg:=aa ajf;clear Ex oz ajf CO y1 x0 x4 m4 gI po;go_wp2_with fail;go_still_tail 7,aW;change wpList _ _ _ _ _ w5.drew;refine wpList_store_mid rfl 358 _ _ rfl g (i*3) #[.int .u8 1,.int .u32 sl.id,.int .i64 sl.v] rfl rfl rh.o rfl qO ?_;have JX:dU (w5.drew.setCells g (i*3) [.int .u8 1,.int .u32 sl.id,.int .i64 sl.v]) p g n bX len (0:Nat) s5 (upd f' i ⟨1,sl.id,sl.v⟩):=(show dU w5.drew p g n bX len (0:Nat) s5 f' from⟨pV.o.own,pV.o.rows.same rfl,zy⟩).store hi ⟨1,sl.id,sl.v⟩;have pQ:aG (fun k=>k=p∨k=g) w1 (w5.drew.setCells g (i*3) [.int .u8 1,.int .u32 sl.id,.int .i64 sl.v]):=(pg.o.ai (ay (Below.refl _ _))).grown (bL g (fI ⟨1,sl.id,sl.v⟩) (i*3) w5.drew).1 (fun k e=>.inl (.inr (cN e).symm));have hR6:oh g2 (w5.drew.setCells g (i*3) [.int .u8 1,.int .u32 sl.id,.int .i64 sl.v]) l.length cap (pd l):=rB.o.same fun k hk hl=>by subst hk;exact pQ.block _ hl (fun e=>by have:=tR.o;omega)
   obtain⟨w6,mM⟩:=ae (w5.drew.setCells g (i*3) [.int .u8 1,.int .u32 sl.id,.int .i64 sl.v]);change wpList _ _ _ _ _ (w5.drew.setCells g (i*3) [.int .u8 1,.int .u32 sl.id,.int .i64 sl.v]);rw[mM] at JX pQ hR6 ⊢;have lp:=aa JX;have vu:=aa pQ;have HR6:=aa hR6;clear mM JX pQ hR6 u0 u1 u2 u3 rh pV pg;go_wp2_with fail;go_roundw
   case rel=>exact⟨k+1,_,s5,ag,by go_num,lp.o,HLS.o,HR6.o,vu.o⟩
   case measure=>simp[intOf];omega
  have tr: ¬(k:Int)<(l.length:Int):=ag;obtain rfl:k=l.length:=ag;go_wp2_with fail;have JX:dU (wr.setCell ⟨p,4,none⟩ (.int .i64 steps)) p g n bX len (0:Nat) steps f':=⟨HI.o.own.put 4 _,HI.o.rows.same (cH wr ⟨p,4,none⟩ _ g (fun e=>zy e.symm)),zy⟩;have pQ:aG (fun k=>k=p∨k=g) w1 (wr.setCell ⟨p,4,none⟩ (.int .i64 steps)):=HT.o.put (p:=⟨p,4,none⟩) (.inl (.inl rfl)) _;refine bodyPost_end (results_none Tryz.results312 _ _ _) rfl ⟨⟨_,rfl⟩,⟨f',⟨⟨steps,JX⟩,HL.o.tab,by rw[HL.o.full];exact HLL.o,HL.o.XQ,hn⟩,fun a b=>(HL.o.has a b).trans (HUN.o a b)⟩,(aG.aU bu.o).trans pQ⟩
end ky
end
section
namespace ky
def agM(p g n bX len:Nat)(id v:Int)(f:Nat→Slot)(w:World)(e:Ending)(w':World): Prop:=e= .returned (.int .i64 0)∧(∃ f' gs,fc w' p g n bX (len+1) gs f'∧∀ a b,jP f' n a b↔jP f n a b∨(a=id∧b=v))∧aG (fun k=>k=p∨k=g) w w'
theorem O2{f:Nat→Slot}{n i:Nat}(hi:i<n)(hs:(f i).state≠1)(h2:(f i).state≤2)(id v:Int){len aS:Nat}(h1:cnt f 1 n=len)(hg:cnt f 2 n=aS): cnt (upd f i ⟨1,id,v⟩) 1 n=len+1∧cnt (upd f i ⟨1,id,v⟩) 2 n=(if(f i).state=2 then aS - 1 else aS)∧((f i).state=2→1≤aS):=by
 have q1:=lO f 1 i ⟨1,id,v⟩ n hi;have q2:=lO f 2 i ⟨1,id,v⟩ n hi;simp at q1 q2;by_cases h:(f i).state=2
 ·simp[h] at q1 q2 ⊢;omega
 simp[h,hs] at q1 q2 ⊢;omega
theorem YI(p g n bX len aS:Nat)(id v:Int)(f:Nat→Slot)(w:World)(h:fc w p g n bX len aS f)(hid:0≤id∧id<4294967296)(BD: ∀ i,i<n→(f i).state=1→0≤(f i).id∧(f i).id<4294967296)(i:Nat)(hi:i<n)(hsk:vG f n id=((i:Int),false))(hst:(f i).state=0)(yV: ∀ v,CP (upd f i ⟨1,id,v⟩) n)(hl:len<bX):
  Calls af 242 #[.pointer (some ⟨p,0,none⟩),.int .u32 id,.int .i64 v] w (agM p g n bX len id v f w):=by
 obtain⟨steps,hI⟩:=h.dQ;have hn:=h.a8;have hs1:(f i).state≠1:=by rw[hst];decide
 obtain⟨k1,k2,k3⟩:=O2 hi hs1 (h.tab.states i hi) id v h.full h.XQ;rw[hst] at k2 k3;have hgb:aS+len≤n:=Um;have k2':cnt (upd f i ⟨1,id,v⟩) 2 n=aS:=by simpa using k2
 have x0:=hI.own.cl 0;have HF:=Find p g n bX len aS steps id f w hI ag hn.2.2.2.2 hid h.tab.states;have hF:Calls af 245 #[.pointer (some ⟨p,0,none⟩),.int .u32 id] w fun e w'=>e= .returned (.tuple #[.int .i64 (i:Int),.bool false])∧(∃ s,dU w' p g n bX len aS s f)∧aG (· =p) w w':=HF.mono fun e w' h1=>by
  exact VT
 have HH:=aa h;have HG:=aa hF;have NM:=aa (yV v);have HST:=aa hst;have HK:=aa (And.intro k1 k2');have HUN:=aa (fun a b=>wP hi hs1 id v a b);have NV:=aa (show ∀ j,j<n→(upd f i ⟨1,id,v⟩ j).state=1→0≤(upd f i ⟨1,id,v⟩ j).id∧(upd f i ⟨1,id,v⟩ j).id<4294967296 from fun j hj hs=>by
  by_cases e:j=i
  ·subst e;rw[upd_same];exact hid
  rw[bV _ _ e] at hs ⊢;exact BD j hj hs)
 have hlm:((len:Int)==(bX:Int))=false:=fH;have pN:n≤16384:=hn.2.2.2.2;have yY:(i:Int)<(n:Int):=ag;have hlen:len≤4096:=ag;have hgr:aS≤16384:=ag;have alZ:=hid.1;have alY:=hid.2;clear h hF HF hI hsk hst yV hid hn BD hs1 k1 k2 k3 k2';go_enter Tryz.func242,Tryz.ntmps242;go_wp2_with fail;refine ah (fR p g n w x0) ?_;go_wp2_with fail;refine HG.o.mono ?_;rintro e w1 ⟨rfl,⟨s1,lf⟩,su⟩;have y1:=lf.own.cl 1;have y2:=lf.own.cl 2;have wK:=aa lf;have jx:=aa su;clear lf su;go_wp2_with fail;refine wp_region_quiet_lit aW aW ?_;repeat(first|go_big_quiet_step ((fail))|quiet_step ((fail)))
 refine wpQuiet_nil ?_;intro _ hw';obtain⟨nq,hw''⟩:=hw';subst hw'';clear y1 y2;have qY:dU (w1.drewN nq) p g n bX len aS s1 f:=⟨wK.o.own.drewN nq,wK.o.rows.same rfl,wK.o.apart⟩;have jL:aG (fun k=>k=p∨k=g) w (w1.drewN nq):=(show aG (· =p) w (w1.drewN nq)from⟨jx.o.os,jx.o.tape,jx.o.output,jx.o.size,jx.o.block⟩).mono fun k _ h=>.inl h
 obtain⟨w2,hw2⟩:=ae (w1.drewN nq);rw[hw2] at qY jL ⊢;clear hw2 wK jx;have y0:=qY.own.cl 0;obtain⟨z0,_,_⟩:=qY.rows.cell hi;rw[HST.o] at z0;have rh:=aa (qY.rows.there hi);have ze:=aa qY;have gV:=aa jL;clear qY jL;go_wp2_with (refine wpList_store_mid rfl 358 _ _ rfl g (i*3) #[.int .u8 1,.int .u32 id,.int .i64 v] rfl rfl rh.o rfl qO ?_;have fw:=ze.o.store hi ⟨1,id,v⟩;have kv:=gV.o.grown (bL g (fI ⟨1,id,v⟩) (i*3) w2).1 (fun k e=>.inl (.inr Ah));obtain⟨w3,hw3⟩:=ae (w2.setCells g (i*3) [.int .u8 1,.int .u32 id,.int .i64 v]);change dU (w2.setCells g (i*3) [.int .u8 1,.int .u32 id,.int .i64 v]) _ _ _ _ _ _ _ _ at fw;change aG _ w (w2.setCells g (i*3) [.int .u8 1,.int .u32 id,.int .i64 v]) at kv;change wpList _ _ _ _ _ (w2.setCells g (i*3) [.int .u8 1,.int .u32 id,.int .i64 v]);rw[hw3] at fw kv ⊢;clear hw3 y0 z0 rh;have v2:w3.cell? ⟨p,2,none⟩=some (.int .i64 len):=fw.own.cell 2;have m2:=fw.own.mark 2;have alJ:=fw.own.lt;have gH:=aa fw;have jR:=aa kv;clear fw kv);have K7:dU (w3.setCell ⟨p,2,none⟩ (.int .i64 ((len:Int)+1))) p g n bX ((len:Int)+1) (aS:Int) s1 (upd f i ⟨1,id,v⟩):=⟨gH.o.own.put 2 _,gH.o.rows.same (cH w3 ⟨p,2,none⟩ _ g (fun e=>gH.o.apart e.symm)),gH.o.apart⟩;have jU:=jR.o.put (p:=⟨p,2,none⟩) (.inl (.inl rfl)) (.int .i64 ((len:Int)+1));obtain⟨w4,hw4⟩:=ae (w3.setCell ⟨p,2,none⟩ (.int .i64 ((len:Int)+1)));rw[hw4] at K7 jU ⊢;have v0:=K7.own.cl 0;have v2':=K7.own.cl 2;have v3:=K7.own.cl 3;have tx:=aa K7;have nU:=aa jU;clear K7 jU hw4 v2 m2 gH jR ze gV;by_cases h34:3*(n:Int)<4*((len:Int)+1+(aS:Int))
 ·skip;refine wp_region_quiet_lit aW aW ?_;repeat(first|go_big_quiet_step ((fail))|quiet_step ((fail)))
  refine wpQuiet_nil ?_;intro _ hw';obtain⟨nq,hw''⟩:=hw';subst hw'';have fz:fc (w4.drewN nq) p g n bX (len+1) aS (upd f i ⟨1,id,v⟩):=⟨⟨s1,by push_cast;exact⟨tx.o.own.drewN nq,tx.o.rows.same rfl,tx.o.apart⟩⟩,NM.o,HK.o.1,HK.o.2,Az⟩;have oz:aG (fun k=>k=p∨k=g) w (w4.drewN nq):=⟨nU.o.os,nU.o.tape,nU.o.output,nU.o.size,nU.o.block⟩;have uq:=aa fz;have pg:=aa oz;clear fz oz v0 v2' v3;go_wp2_with fail;refine(PN p g n bX (len+1) aS _ _ uq.o NV.o).mono ?_;exact ade
 ·skip;refine wp_region_quiet_lit aW aW ?_;repeat(first|go_big_quiet_step ((fail))|quiet_step ((fail)))
  refine wpQuiet_nil ?_;intro _ hw';obtain⟨nq,hw''⟩:=hw';subst hw'';have fz:fc (w4.drewN nq) p g n bX (len+1) aS (upd f i ⟨1,id,v⟩):=⟨⟨s1,by push_cast;exact⟨tx.o.own.drewN nq,tx.o.rows.same rfl,tx.o.apart⟩⟩,NM.o,HK.o.1,HK.o.2,Az⟩;exact adg
theorem Se(p g n bX len aS:Nat)(id v:Int)(f:Nat→Slot)(w:World)(h:fc w p g n bX len aS f)(hid:0≤id∧id<4294967296)(BD: ∀ i,i<n→(f i).state=1→0≤(f i).id∧(f i).id<4294967296)(i:Nat)(hi:i<n)(hsk:vG f n id=((i:Int),false))(hst:(f i).state=2)(yV: ∀ v,CP (upd f i ⟨1,id,v⟩) n)(hl:len<bX):
  Calls af 242 #[.pointer (some ⟨p,0,none⟩),.int .u32 id,.int .i64 v] w (agM p g n bX len id v f w):=by
 obtain⟨steps,hI⟩:=h.dQ;have hn:=h.a8;have hs1:(f i).state≠1:=by rw[hst];decide
 obtain⟨k1,k2,k3⟩:=O2 hi hs1 (h.tab.states i hi) id v h.full h.XQ;rw[hst] at k2 k3;have hgb:aS+len≤n:=Um;have kY:1≤aS:=k3 rfl;have hwg:IntKind.i64.wrap ((aS:Int) - 1)=(aS:Int) - 1:=by rw[IntKind.wrap_i64];omega
 have k2':cnt (upd f i ⟨1,id,v⟩) 2 n=(aS - 1):=by simpa using k2
 have x0:=hI.own.cl 0;have HF:=Find p g n bX len aS steps id f w hI ag hn.2.2.2.2 hid h.tab.states;have hF:Calls af 245 #[.pointer (some ⟨p,0,none⟩),.int .u32 id] w fun e w'=>e= .returned (.tuple #[.int .i64 (i:Int),.bool false])∧(∃ s,dU w' p g n bX len aS s f)∧aG (· =p) w w':=HF.mono fun e w' h1=>by
  exact VT
 have HH:=aa h;have HG:=aa hF;have NM:=aa (yV v);have HST:=aa hst;have HK:=aa (And.intro k1 k2');have HUN:=aa (fun a b=>wP hi hs1 id v a b);have NV:=aa (show ∀ j,j<n→(upd f i ⟨1,id,v⟩ j).state=1→0≤(upd f i ⟨1,id,v⟩ j).id∧(upd f i ⟨1,id,v⟩ j).id<4294967296 from fun j hj hs=>by
  by_cases e:j=i
  ·subst e;rw[upd_same];exact hid
  rw[bV _ _ e] at hs ⊢;exact BD j hj hs)
 have hlm:((len:Int)==(bX:Int))=false:=fH;have pN:n≤16384:=hn.2.2.2.2;have yY:(i:Int)<(n:Int):=ag;have hlen:len≤4096:=ag;have hgr:aS≤16384:=ag;have alZ:=hid.1;have alY:=hid.2;clear h hF HF hI hsk hst yV hid hn BD hs1 k1 k2 k3 k2';go_enter Tryz.func242,Tryz.ntmps242;go_wp2_with fail;refine ah (fR p g n w x0) ?_;go_wp2_with fail;refine HG.o.mono ?_;rintro e w1 ⟨rfl,⟨s1,lf⟩,su⟩;have y1:=lf.own.cl 1;have y2:=lf.own.cl 2;have wK:=aa lf;have jx:=aa su;clear lf su;go_wp2_with fail;refine wp_region_quiet_lit aW aW ?_;repeat(first|go_big_quiet_step ((fail))|quiet_step ((fail)))
 refine wpQuiet_nil ?_;intro _ hw';obtain⟨nq,hw''⟩:=hw';subst hw'';clear y1 y2;have qY:dU (w1.drewN nq) p g n bX len aS s1 f:=⟨wK.o.own.drewN nq,wK.o.rows.same rfl,wK.o.apart⟩;have jL:aG (fun k=>k=p∨k=g) w (w1.drewN nq):=(show aG (· =p) w (w1.drewN nq)from⟨jx.o.os,jx.o.tape,jx.o.output,jx.o.size,jx.o.block⟩).mono fun k _ h=>.inl h
 obtain⟨w2,hw2⟩:=ae (w1.drewN nq);rw[hw2] at qY jL ⊢;clear hw2 wK jx;have y0:=qY.own.cl 0;obtain⟨z0,_,_⟩:=qY.rows.cell hi;rw[HST.o] at z0;have y3:=qY.own.cl 3;have m3:=qY.own.mark 3;have hpl:=qY.own.lt;have Gj:dU (w2.setCell ⟨p,3,none⟩ (.int .i64 ((aS:Int) - 1))) p g n bX len ((aS:Int) - 1) s1 f:=⟨qY.own.put 3 _,qY.rows.same (cH w2 ⟨p,3,none⟩ _ g (fun e=>qY.apart e.symm)),qY.apart⟩;have BL:=jL.put (p:=⟨p,3,none⟩) (.inl (.inl rfl)) (.int .i64 ((aS:Int) - 1));obtain⟨TJ,ah2⟩:=ae (w2.setCell ⟨p,3,none⟩ (.int .i64 ((aS:Int) - 1)));rw[ah2] at Gj BL;have q0:=Gj.own.cl 0;have rh:=aa (Gj.rows.there hi);have ze:=aa Gj;have gV:=aa BL;clear qY jL Gj BL;go_wp2_with (refine wpList_store_mid rfl 358 _ _ rfl g (i*3) #[.int .u8 1,.int .u32 id,.int .i64 v] rfl rfl rh.o rfl qO ?_;have fw:=ze.o.store hi ⟨1,id,v⟩;have kv:=gV.o.grown (bL g (fI ⟨1,id,v⟩) (i*3) TJ).1 (fun k e=>.inl (.inr Ah));obtain⟨w3,hw3⟩:=ae (TJ.setCells g (i*3) [.int .u8 1,.int .u32 id,.int .i64 v]);change dU (TJ.setCells g (i*3) [.int .u8 1,.int .u32 id,.int .i64 v]) _ _ _ _ _ _ _ _ at fw;change aG _ w (TJ.setCells g (i*3) [.int .u8 1,.int .u32 id,.int .i64 v]) at kv;change wpList _ _ _ _ _ (TJ.setCells g (i*3) [.int .u8 1,.int .u32 id,.int .i64 v]);rw[hw3] at fw kv ⊢;clear hw3 y0 z0 rh;have v2:w3.cell? ⟨p,2,none⟩=some (.int .i64 len):=fw.own.cell 2;have m2:=fw.own.mark 2;have alJ:=fw.own.lt;have gH:=aa fw;have jR:=aa kv;clear fw kv);have K7:dU (w3.setCell ⟨p,2,none⟩ (.int .i64 ((len:Int)+1))) p g n bX ((len:Int)+1) ((aS:Int) - 1) s1 (upd f i ⟨1,id,v⟩):=⟨gH.o.own.put 2 _,gH.o.rows.same (cH w3 ⟨p,2,none⟩ _ g (fun e=>gH.o.apart e.symm)),gH.o.apart⟩;have jU:=jR.o.put (p:=⟨p,2,none⟩) (.inl (.inl rfl)) (.int .i64 ((len:Int)+1));obtain⟨w4,hw4⟩:=ae (w3.setCell ⟨p,2,none⟩ (.int .i64 ((len:Int)+1)));rw[hw4] at K7 jU ⊢;have v0:=K7.own.cl 0;have v2':=K7.own.cl 2;have v3:=K7.own.cl 3;have tx:=aa K7;have nU:=aa jU;clear K7 jU hw4 v2 m2 gH jR ze gV q0 y3 m3 hpl ah2;by_cases h34:3*(n:Int)<4*((len:Int)+1+((aS:Int) - 1))
 ·skip;refine wp_region_quiet_lit aW aW ?_;repeat(first|go_big_quiet_step ((fail))|quiet_step ((fail)))
  refine wpQuiet_nil ?_;intro _ hw';obtain⟨nq,hw''⟩:=hw';subst hw'';have fz:fc (w4.drewN nq) p g n bX (len+1) (aS - 1) (upd f i ⟨1,id,v⟩):=⟨⟨s1,acC⟩,NM.o,HK.o.1,HK.o.2,Az⟩;have oz:aG (fun k=>k=p∨k=g) w (w4.drewN nq):=⟨nU.o.os,nU.o.tape,nU.o.output,nU.o.size,nU.o.block⟩;have uq:=aa fz;have pg:=aa oz;clear fz oz v0 v2' v3;go_wp2_with fail;refine(PN p g n bX (len+1) (aS - 1) _ _ uq.o NV.o).mono ?_;exact ade
 ·skip;refine wp_region_quiet_lit aW aW ?_;repeat(first|go_big_quiet_step ((fail))|quiet_step ((fail)))
  refine wpQuiet_nil ?_;intro _ hw';obtain⟨nq,hw''⟩:=hw';subst hw'';have fz:fc (w4.drewN nq) p g n bX (len+1) (aS - 1) (upd f i ⟨1,id,v⟩):=⟨⟨s1,acC⟩,NM.o,HK.o.1,HK.o.2,Az⟩;exact adg
theorem ajG(p g n bX len aS:Nat)(id v:Int)(f:Nat→Slot)(w:World)(h:fc w p g n bX len aS f)(hid:0≤id∧id<4294967296)(BD: ∀ i,i<n→(f i).state=1→0≤(f i).id∧(f i).id<4294967296)(ht: ∀ i,i<n→(f i).state=1→(f i).id≠id)(hl:len<bX):
  Calls af 242 #[.pointer (some ⟨p,0,none⟩),.int .u32 id,.int .i64 v] w (agM p g n bX len id v f w):=by
 have hn:=h.a8;obtain⟨i,hi,hsk,hs1,yV⟩:=xB h.tab (by have:=h.full;omega) ht;have h2:=h.tab.states i hi;rcases(show(f i).state=0∨(f i).state=2 from ag)with hs|hs
 ·exact YI p g n bX len aS id v f w h hid BD i hi hsk hs yV hl
 ·exact Se p g n bX len aS id v f w h hid BD i hi hsk hs yV hl
