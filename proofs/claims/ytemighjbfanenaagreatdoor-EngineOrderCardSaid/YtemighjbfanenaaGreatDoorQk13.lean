import Derived.Test.YtemighjbfanenaaGreatDoorQk11
import Derived.Test.YtemighjbfanenaaGreatDoorQk12
import Derived.Shelf.SlSortCmp.WholeK
set_option linter.all false
set_option maxRecDepth 100000
set_option maxHeartbeats 16000000
namespace Go.Proofs.YtemighjbfanenaaGreatDoor
open RowKit
open Go.Proofs.Tryz renaming prog→af
open Go.Sort renaming ahead→zT
open Go.Value renaming oneCell'→fY
open List renaming getD_eq_getElem?_getD→bR,getElem?_eq_none→gW,pairwise_append→wD,getElem?_eq_getElem→bY
open Nat renaming zero_le→cx
open Option.some renaming inj→cP
open RowKit.Below renaming heap_setCell→dJ
open _root_.Array renaming getElem?_eq_some_iff→eL,getElem?_modify→PU,getElem?_toList→dK,getElem?_eq_getElem→mO
theorem aci{p:Prop}(h:p:=by
 have oH:aI (fun k=>k=p∨k=g) w (w4.drewN nq):=⟨nU.o.os,nU.o.tape,nU.o.output,nU.o.size,nU.o.block⟩;have uk:=aa fw;have pz:=aa oH;clear fw oH v0 v2' v3;go_wp2_with fail;go_ret;exact⟨rfl,⟨_,_,uk.o,HUN.o⟩,pz.o⟩):p:=h
theorem acg{p:Prop}(h:p:=by
 rintro e w6 ⟨⟨v6,rfl⟩,⟨f',hf',hu⟩,pW⟩;have HF':=aa hf';have HU:=aa hu;have vn:=aa pW;clear hf' hu pW;go_wp2_with fail;go_ret;exact⟨rfl,⟨f',0,HF'.o,fun a b=>(HU.o a b).trans (HUN.o a b)⟩,pz.o.trans vn.o⟩):p:=h
theorem UP{p:Prop}(h:p:=by
 have e1:fh f id n n (uI id % (n:Int)).toNat (-1)=((i:Int),false):=hsk;rw[e1] at h1;exact h1):p:=h
theorem ab1{p:Prop}(h:p:=by
 rw[List.mem_singleton] at hy;subst hy;obtain⟨i,hi,h1,rfl⟩:=nH.1 hx;intro he;have:=hT.uniq i j ai ai h1 hs he;omega):p:=h
theorem qR{p:Prop}(h:p:=by simp[fY]):p:=h
theorem abH{p:Prop}(h:p:=by rw[show((aT - 1:Nat):Int)=(aT:Int) - 1 by omega];push_cast;exact⟨tr.o.own.drewN nq,tr.o.rows.same rfl,tr.o.apart⟩):p:=h
theorem Tc{p:Prop}(h:p:=by have:=FY f n;have:=h.full;have:=h.Wy;omega):p:=h
section
namespace km
open Go.RowKit Go.Sort Go.Shelf
section
variable {α:Type}[Inhabited α]{enc:α→List Value}{k:Nat}{S:Nat→Prop}{w:World}{e:TypeId}{g cap:Nat}{d:Array α}
theorem BH(hk: ∀ x,(enc x).length=k)(d:Array α): (flatK enc k d).toList=flat (fun i=>enc d[i]!) d.size:=by
 apply List.ext_getElem?;intro t;have hf:=cy (c:=fun i=>enc d[i]!) (sz:=k) (fun i=>hk _) d.size;rcases Nat.lt_or_ge t (d.size*k)with ht|ht
 ·have DN:0<k:=by rcases Nat.eq_zero_or_pos k with h0|h0;rw[h0] at ht;simp at ht;exact h0
  have a1:t / k<d.size:=(Nat.div_lt_iff_lt_mul DN).2 ht;have a2:t % k<k:=Nat.mod_lt _ DN;have a3:t / k*k+t % k=t:=by rw[Nat.mul_comm];exact Nat.div_add_mod t k
  have h2:(flat (fun i=>enc d[i]!) d.size)[t]? =(enc d[t / k]!)[t % k]?:=by
   conv=>lhs;rw[←a3]
   exact gC (fun i=>hk _) a1 a2
  have hs:t<(flatK enc k d).size:=by rw[size_flatK];exact ht
  have h3:=get_flatK enc k d t ht;rw[getElem!_pos _ t hs] at h3;rw[h2,dK,mO hs,h3];rw[bY (by rw[hk];exact a2),getElem!_pos _ _ (by rw[hk];exact a2)]
 rw[gW (by simp[size_flatK];exact ht),gW ai]
theorem NW(h:aP S w e k (.slice (some ⟨g,0,none⟩) d.size cap) d.size (fun i=>enc d[i]!)): ∃ cur,w.heap[g]? =some (.cells cur e (0,0))∧d.size≤cap∧cap≤maxLen∧cur.size=cap*k∧cur.toList.take (d.size*k)=flat (fun i=>enc d[i]!) d.size:=by
 rcases h.own.2 with⟨hv,_⟩|⟨g',cap',cur,hv,hb,hh,h1,h2,h3,h4⟩
 ·cases hv
 injection hv with e1 _ e2
 injection e1 with e1
 injection e1 with e1
 subst e1 e2;exact⟨cur,hh,h1,h2,h3,h4⟩
theorem Qg(hk: ∀ x,(enc x).length=k)(h:aP S w e k (.slice (some ⟨g,0,none⟩) d.size cap) d.size (fun i=>enc d[i]!)): HoldsK enc k w g 0 d:=by
 obtain⟨cur,hh,h1,h2,h3,h4⟩:=NW h;intro j hj;have DO:j<d.size*k:=by rwa [size_flatK] at hj
 rw[←BH hk] at h4;have h5:(cur.toList.take (d.size*k))[j]? =(flatK enc k d).toList[j]?:=by rw[h4]
 rw[List.getElem?_take,if_pos DO,dK,dK,mO hj] at h5;rw[getElem!_pos _ j hj,Nat.zero_add];refine⟨by simp only[World.cell?,hh];exact h5,by simp[World.frozen?,hh]⟩
theorem Un(F cur:Array Value)(h:F.size≤cur.size): (putCells id 0 F cur).toList.take F.size=F.toList:=by
 apply List.ext_getElem?;intro t;rw[List.getElem?_take];split
 ·rename_i ht;rw[dK,dK];simp only[putCells,Array.getElem?_mapIdx];rw[mO (show t<cur.size from ai),Option.map_some,if_pos ⟨cx _,ai⟩,Nat.sub_zero,getElem!_pos _ t ht,mO ht];rfl
 rw[gW fZ]
theorem LH(hk: ∀ x,(enc x).length=k)(h:aP S w e k (.slice (some ⟨g,0,none⟩) d.size cap) d.size (fun i=>enc d[i]!))(d':Array α)(hs:d'.size=d.size)(m:Nat)(os:Array Obj): aP S (sortWorldK enc k w g 0 m d' os) e k (.slice (some ⟨g,0,none⟩) d.size cap) d.size (fun i=>enc d'[i]!):=by
 obtain⟨cur,hh,h1,h2,h3,h4⟩:=NW h;have hg:g<w.heap.size:=(eL.1 hh).1;have hF:(flatK enc k d').size=d.size*k:=by rw[size_flatK,hs]
 refine⟨⟨cy (fun i=>hk _) _,.inr ⟨g,cap,putCells id 0 (flatK enc k d') cur,rfl,cx _,?_,h1,h2,by rw[←h3];simp[putCells],?_⟩⟩,fun b hb=>h.block b hb⟩
 ·have e1:(sortWorldK enc k w g 0 m d' os).heap[g]? =(putRowK enc k (zT w m) g 0 d').heap[g]?:=heap_grow_old _ os (by rw[size_putRowK];exact hg);rw[e1];simp only[putRowK,putRow,mapBlock,PU,if_pos,show(zT w m).heap=w.heap from rfl,hh,Option.map_some,onCells]
 rw[←hF,Un _ _ (by rw[hF,h3];exact Nat.mul_le_mul_right _ h1),BH hk,hs]
theorem Ud(w:World)(g m:Nat)(d':Array α)(os:Array Obj): aI (· =g) w (sortWorldK enc k w g 0 m d' os)where
 os:=rfl
 tape:=rfl
 output:=rfl
 size:=by unfold sortWorldK;rw[size_grow,size_putRowK];exact Nat.le_add_right _ _
 block b hb hne:=by
  have e1:(sortWorldK enc k w g 0 m d' os).heap[b]? =(putRowK enc k (zT w m) g 0 d').heap[b]?:=heap_grow_old _ os (by rw[size_putRowK];exact hb);rw[e1];simp only[putRowK,putRow,mapBlock,PU,show(zT w m).heap=w.heap from rfl];rw[if_neg (fun e=>hne e.symm)]
end
theorem ltS(x y:Slot): ltOf cfS x y=decide (x.id<y.id):=by
 unfold ltOf cfS Lib.compareInt;by_cases h1:x.id<y.id
 ·simp[h1]
 by_cases h2:y.id<x.id
 ·simp[h1,h2]
 simp[h1,h2]
theorem ajV: SWO (ltOf cfS)where
 irrefl x:=by rw[ltS];simp
 trans x y z h1 h2:=by rw[ltS] at *;simp at *;omega
 ntrans x y z h1 h2:=by rw[ltS] at *;simp at *;omega
def aif(g:Nat)(l:List Slot)(cap:Nat)(w:World)(e:Ending)(w':World): Prop:=e= .returned (.tuple #[])∧∃ l':List Slot,l'.Perm l∧l'.Pairwise (fun x y=>x.id≤y.id)∧om g w' l.length cap (py l')∧aI (· =g) w w'
theorem ZB(g cap:Nat)(l:List Slot)(w:World)(h:om g w l.length cap (py l))(hl:l.length≤16384): Calls af 350 #[.slice (some ⟨g,0,none⟩) l.length cap,.func (.func 351) #[] #[]] w (aif g l cap w):=by
 letI:Inhabited Slot:=⟨Slot.none⟩
 have hat: ∀ (m:List Slot) (i:Nat),m.toArray[i]! =py m i:=fun m i=>by
  unfold py;rw[Array.getElem!_eq_getD,Array.getD_eq_getD_getElem?,List.getElem?_toArray,bR];rfl
 have hg:g<w.heap.size:=by obtain⟨cur,h1,_⟩:=h.JI;exact(eL.1 h1).1
 have hrow:aP (fun k=>k=g) w 358 3 (.slice (some ⟨g,0,none⟩) l.toArray.size cap) l.toArray.size (fun i=>fD l.toArray[i]!):=by
  simp only[hat,List.size_toArray];exact h
 have akH:CmpLays af 351 #[] fD 3 cfS g 0 l.toArray.size w:=fun _ _ _ _ x y=>afd x y _
 have eg: ∀ args w,(callFunc 351 args).run af w= .ok (.enter 351 args) w:=enters_of Tryz.func351 bh rfl;have H:=AnyQ.slices_SortFunc Tryz.P8 3 Tryz.isAgg358 Tryz.sizeOf358 fD xC xB cfS ajV 351 #[] g 0 cap l.toArray w eg akH (Qg xC hrow) hg fZ;refine Calls.mono H ?_;rintro e w' ⟨rfl,d',m,os,hp,hs,rfl⟩;refine⟨rfl,d'.toList,?_,?_,?_,Ud w g m d' os⟩
 ·have h3:=hp.2.2;rw[←hp.1] at h3;rw[show d'.extract 0 d'.size=d' from dM] at h3;rw[hp.1,show l.toArray.extract 0 l.toArray.size=l.toArray from dM] at h3;exact h3
 ·rw[List.pairwise_iff_getElem];intro i j hi hj hij;have DO:j<l.toArray.size:=by rw[←hp.1];simpa using hj
  have h4:=hs i j (cx _) hij DO;rw[ltS,getElem!_pos _ j Am,getElem!_pos _ i Ak] at h4;simp only[decide_eq_false_iff_not] at h4;simp only[Array.getElem_toList];omega
 have h5:=LH xC hrow d' hp.1 m os;simp only[List.size_toArray] at h5;have e:(fun i=>fD d'[i]!)=fun i=>fD (py d'.toList i):=funext fun i=>by rw[←hat d'.toList i]
 rw[e] at h5;exact h5
end km
end
section
namespace km
def ac7(f:Nat→Slot)(n:Nat)(w:World)(e:Ending)(w':World): Prop:=∃ (g cap:Nat) (l:List Slot),e= .returned (.slice (some ⟨g,0,none⟩) l.length cap)∧l.Perm (kept f n)∧l.Pairwise (fun x y=>x.id≤y.id)∧om g w' l.length cap (py l)∧w.heap.size≤g∧Below w.heap.size w w'
theorem IQ(p g n:Nat)(bT len aT steps:Int)(f:Nat→Slot)(w:World)(h:dR w p g n bT len aT steps f)(hn:1≤n∧n≤16384): Calls af 307 #[.pointer (some ⟨p,0,none⟩)] w (ac7 f n w):=by
 have x0:w.cell? ⟨p,0,none⟩=some (.slice (some ⟨g,0,none⟩) n n):=h.own.cell 0;have HC:=aa (Q8 g n n f w h.rows hn);have HN:=aa hn;clear h hn;go_enter Tryz.func307,Tryz.ntmps307;go_wp2_with fail;refine HC.o.mono ?_;rintro e w1 ⟨g1,cap,rfl,hr1,hb1⟩;have kB:w.heap.size≤g1:=hr1.block g1 rfl;have hR1:om g1 w1 n cap f:=⟨hr1.own,fun k hk=>by injection hk with hk;exact hk.symm⟩;have sr:n≤cap:=by obtain⟨g',cap',hv,_,h1,_⟩:=hr1.form HN.o.1;injection hv with _ _ e2;omega
 have Pk:=aa kB;have bA:=aa hb1;have HD:=aa (MJ g1 n cap f w1 hR1 HN.o.2 sr);clear hr1 kB hR1 sr hb1 HC;go_wp2_with fail;refine HD.o.mono ?_;rintro e w2 ⟨rfl,qp,ud⟩;have OG:=Nat.le_trans (Vx f n) HN.o.2;obtain⟨m,hm⟩:=ae (kept f n);rw[hm] at qp OG ⊢;have HM:=aa hm;have HS:=aa (ZB g1 cap m w2 qp OG);have cu:=aa (aI.fresh ud bA.o (fun k hk=>by rw[show k=g1 from hk];exact Pk.o));clear hm qp ud OG HD;go_wp2_with fail;refine HS.o.mono ?_;rintro e w3 ⟨rfl,l',hp,hs,dO,Cw⟩;have hb3:=aI.fresh Cw cu.o (fun k hk=>by rw[show k=g1 from hk];exact Pk.o);have hl:l'.length=m.length:=hp.length_eq;rw[←hl] at dO;have HF:=aa (show ac7 f n w (.returned (.slice (some ⟨g1,0,none⟩) m.length cap)) w3 from⟨g1,cap,l',mB,by rw[HM.o];exact hp,hs,dO,Pk.o,hb3⟩);clear hp hs dO Cw hb3 hl HS;go_wp2_with fail;go_ret;exact HF.o
theorem nH{f:Nat→Slot}{x:Slot}: ∀ {n:Nat},x∈kept f n↔∃ i,i<n∧(f i).state=1∧f i=x:=by
 intro n;unfold kept;simp only[List.mem_filter,List.mem_map,List.mem_range,decide_eq_true_eq];constructor
 ·rintro⟨⟨i,hi,rfl⟩,hs⟩;exact⟨i,hi,hs,rfl⟩
 rintro⟨i,hi,hs,rfl⟩;exact⟨⟨i,hi,rfl⟩,hs⟩
theorem sf(f:Nat→Slot): ∀ n,(kept f n).length=cnt f 1 n
 | 0=>rfl
 | n+1=>by
  rw[cnt];by_cases h:(f n).state=1
  ·rw[se h,List.length_append,sf f n,if_pos h];rfl
  rw[oG h,sf f n,if_neg h];rfl
def PX(f:Nat→Slot)(n:Nat)(w:World)(e:Ending)(w':World): Prop:=∃ (lb g:Nat) (l:List Slot),e= .returned (.func (.func 308) #[] #[.pointer (some ⟨lb,0,none⟩)])∧l.Perm (kept f n)∧l.Pairwise (fun x y=>x.id≤y.id)∧sM w' lb g l∧w.heap.size≤lb∧w.heap.size≤g∧lb≠g∧Below w.heap.size w w'
theorem O8(p g n:Nat)(bT len aT steps:Int)(f:Nat→Slot)(w:World)(h:dR w p g n bT len aT steps f)(hn:1≤n∧n≤16384): Calls af 220 #[.pointer (some ⟨p,0,none⟩)] w (PX f n w):=by
 have hown:=h.own;have HH:=aa h;have HN:=aa hn;clear h hn;go_enter Tryz.func220,Tryz.ntmps220;go_wp2_with fail;obtain⟨w1,a8⟩:=ae (w.alloc (.cells #[.slice none 0 0] 313));obtain⟨lb,OE⟩:=ae w.heap.size;have ha1:=aJ a8 OE;have hb1:=aK a8;have dF:=aa ha1;have bA:=aa hb1;have wK:=aa (⟨hown.ah hb1,HH.o.rows.ah hb1,HH.o.apart⟩:dR w1 p g n bT len aT steps f);rw[a8,OE];have HLB:=aa OE;clear a8 OE ha1 hb1 hown;refine ag (fQ p g n w1 (wK.o.own.cell 0)) ?_;go_wp2_with fail;refine(IQ p g n bT len aT steps f w1 wK.o HN.o).mono ?_;rintro e w2 ⟨g2,cap,l,rfl,hp,hs,hR,hg2,hb2⟩;have ha2:=dF.o.ah hb2;obtain⟨z0,z1⟩:w2.cell? ⟨lb,0,none⟩=some (.slice none 0 0)∧w2.frozen? ⟨lb,0,none⟩=false:=⟨ha2.cell 0,ha2.mark 0⟩;have hz1:=bA.o.size;have akm:=dF.o.lt;have hne:lb≠g2:=ai;have dE:sM (w2.setCell ⟨lb,0,none⟩ (.slice (some ⟨g2,0,none⟩) l.length cap)) lb g2 l:=⟨⟨cap,aG.put ha2 0 _,hR.put (fun b hb=>by injection hb with hb;rw[←hb];exact hne) _⟩,by simpa using(eP hR.own rfl).1⟩;have hb3:Below w.heap.size w (w2.setCell ⟨lb,0,none⟩ (.slice (some ⟨g2,0,none⟩) l.length cap)):=(av bA.o hb2).setCell (by simp;have:=HLB.o;omega) _;have HF:=aa (show PX f n w (.returned (.func (.func 308) #[] #[.pointer (some ⟨lb,0,none⟩)])) _ from⟨lb,g2,l,rfl,hp,hs,dE,by have:=HLB.o;omega,ai,hne,hb3⟩);clear hp hs hR hg2 hb2 ha2 dE hb3 hne hz1 akm;go_wp2_with fail;go_ret;exact HF.o
end km
end
section
namespace km
variable{k n:Nat}
theorem Bg{f:Nat→Slot}{m:Nat}(hT:CE f m): ∀ j,j≤m→(kept f j).Pairwise fun x y=>x.id≠y.id
 | 0,_=>List.Pairwise.nil
 | j+1,hj=>by
  by_cases hs:(f j).state=1
  ·rw[se hs,wD];refine⟨Bg hT j ai,List.pairwise_singleton _ _,fun x hx y hy=>?_⟩;exact ab1
  rw[oG hs];exact Bg hT j ai
theorem aaK{l:List Slot}(h:k<l.length): py l k∈l:=by unfold py;rw[bR,bY h];exact List.getElem_mem h
theorem Dr{l:List Slot}(h:k<l.length): l.take (k+1)=l.take k++ [py l k]:=by
 rw[List.take_add_one,bY h];unfold py;rw[bR,bY h];rfl
theorem Lv{l:List Slot}(hd:l.Pairwise fun x y=>x.id≠y.id)(h:k<l.length): ∀ x∈l.take k,x.id≠(py l k).id:=by
 intro x hx;have h2:(l.take (k+1)).Pairwise fun x y=>x.id≠y.id:=hd.sublist (List.take_sublist _ _)
 rw[Dr h,wD] at h2;exact h2.2.2 x hx _ dM
structure Laid(l:List Slot)(n k:Nat)(f:Nat→Slot): Prop where
 tab:CE f n
 full:cnt f 1 n=k
 Wy:cnt f 2 n=0
 has: ∀ a b,jH f n a b↔∃ x∈l.take k,x.id=a∧x.v=b
theorem Laid.zero(l:List Slot)(n:Nat): Laid l n 0 f0:=⟨Ub n,JG n 1 aM,JG n 2 aM,fun a b=>⟨fun h=>absurd h (KL n a b),fun⟨x,hx,_⟩=>by simp at hx⟩⟩
theorem Laid.ajY{l:List Slot}{f:Nat→Slot}(h:Laid l n k f)(hd:l.Pairwise fun x y=>x.id≠y.id)(hk:k<l.length): ∀ i,i<n→(f i).state=1→(f i).id≠(py l k).id:=fun i hi hs e=>by
 obtain⟨x,hx,e1,_⟩:=(h.has (f i).id (f i).v).1 ⟨i,hi,hs,rfl,rfl⟩;exact Lv hd hk x hx (e1.trans e)
theorem Laid.step{l:List Slot}{f:Nat→Slot}(h:Laid l n k f)(hk:k<l.length){i:Nat}(hi:i<n)(hs:(f i).state≠1)(ht:CE (upd f i ⟨1,(py l k).id,(py l k).v⟩) n): Laid l n (k+1) (upd f i ⟨1,(py l k).id,(py l k).v⟩):=by
 have q1:=lU f 1 i ⟨1,(py l k).id,(py l k).v⟩ n hi;have q2:=lU f 2 i ⟨1,(py l k).id,(py l k).v⟩ n hi;have h2:(f i).state=0:=by
  have a:=h.tab.states i hi;have b: ¬(f i).state=2:=fun e=>by
   have:=lU f 2 i ⟨0,0,0⟩ n hi;rw[if_pos e,h.Wy] at this;simp at this
  omega
 rw[h2] at q1 q2;refine⟨ht,?_,?_,fun a b=>?_⟩
 ·have:=h.full;simp at q1;omega
 ·have:=h.Wy;simp at q2;omega
 rw[wQ hi hs,h.has,Dr hk];constructor
 ·rintro(⟨x,hx,e⟩|⟨rfl,rfl⟩)
  ·exact⟨x,List.mem_append_left _ hx,e⟩
  exact⟨_,List.mem_append_right _ dM,rfl,rfl⟩
 rintro⟨x,hx,e1,e2⟩;rcases List.mem_append.1 hx with hx|hx
 ·exact .inl ⟨x,hx,e1,e2⟩
 obtain rfl:x=py l k:=by simpa using hx
 exact .inr ⟨e1.symm,e2.symm⟩
theorem Rows.aaz{w:World}{g:Nat} {cs:Array Value}(ha:aG w g 358 cs)(h: ∀ j,j<n*3→cs[j]? = #[Value.int .u8 0,.int .u32 0,.int .i64 0][j % 3]?): Rows w g n f0:=
 ⟨cs,ha,fun i hi=>⟨by rw[h _ ai,Nat.mul_mod_left];rfl,by rw[h _ ai,show(i*3+1) % 3=1 from ai];rfl,by rw[h _ ai,show(i*3+2) % 3=2 from ai];rfl⟩⟩
theorem OY(p g n bT len aT:Nat)(f:Nat→Slot)(w:World)(h:eW w p g n bT len aT f)(hid: ∀ i,i<n→(f i).state=1→0≤(f i).id∧(f i).id<4294967296):
  Calls af 312 #[.pointer (some ⟨p,0,none⟩)] w fun e w'=>(∃ v,e= .returned v)∧(∃ f',eW w' p g n bT len 0 f'∧∀ a b,jH f' n a b↔jH f n a b)∧aI (fun k=>k=p∨k=g) w w':=by
 obtain⟨steps,hI⟩:=h.cw;have hn:=h.bj;have sZ:1≤n:=ai;have HC:=aa (IQ p g n bT len aT steps f w hI ⟨sZ,hn.2.2.2.2⟩);have HI:=aa hI;have HH:=aa h;have HID:=aa hid;have zv:=hI.apart;clear h hI hid;go_enter Tryz.func312,Tryz.ntmps312;go_wp2_with fail;refine HC.o.mono ?_;rintro e w1 ⟨g2,cap,l,rfl,DJ,-,hrow,hg2,hb1⟩;have kV:dR w1 p g n bT len aT steps f:=⟨HI.o.own.ah hb1,HI.o.rows.same (hb1.block _ HI.o.rows.lt),HI.o.apart⟩;have x0:w1.cell? ⟨p,0,none⟩=some (.slice (some ⟨g,0,none⟩) n n):=kV.own.cell 0;have x4:w1.cell? ⟨p,4,none⟩=some (.int .i64 steps):=kV.own.cell 4;have C7:l.length=len:=by rw[DJ.length_eq,sf,HH.o.full]
 have hst: ∀ k,k<l.length→(py l k).state=1∧0≤(py l k).id∧(py l k).id<4294967296:=fun k hk=>by
  have hm:=(DJ.mem_iff).1 (aaK hk);obtain⟨i,hi,hs,e⟩:=nH.1 hm;rw[←e];exact⟨hs,HID.o i hi hs⟩
 have hda:l.Pairwise fun x y=>x.id≠y.id:=(DJ.pairwise_iff (fun h=>h.symm)).2 (Bg HH.o.tab n (Nat.le_refl _))
 have QG: ∀ a b,(∃ x∈l.take l.length,x.id=a∧x.v=b)↔jH f n a b:=fun a b=>by
  rw[List.take_length];constructor
  ·rintro⟨x,hx,e1,e2⟩;obtain⟨i,hi,hs,e⟩:=nH.1 ((DJ.mem_iff).1 hx);exact⟨i,hi,hs,by rw[e,e1],by rw[e,e2]⟩
  rintro⟨i,hi,hs,e1,e2⟩;exact⟨f i,(DJ.mem_iff).2 (nH.2 ⟨i,hi,hs,rfl⟩),e1,e2⟩
 obtain⟨cur,pV,Wh⟩:=kV.rows;have hsz:n*3≤cur.size:=by have:=(eL.1 (Wh (n - 1) ai).2.2).1;omega
 have pU:=kV.rows.lt;have ajl:=aa (show aG w1 g 358 cur from pV);have wK:=aa kV;have rG:=aa hrow;have bA:=aa hb1;have HLL:=aa C7;have HST:=aa hst;have HDA:=aa hda;have HUN:=aa QG;have yc:=aa (show g2≠p∧g2≠g∧g2<w1.heap.size from by
  have h1:=HI.o.own.lt;have h2:=HI.o.rows.lt;have h3:g2<w1.heap.size:=(eP hrow.own rfl).1;omega)
 clear kV hrow hb1 hst hda QG pV Wh DJ hg2 HC;go_wp2_with (refine wP rfl _ 313 rfl 358 _ 3 n g Tryz.underlying313 Du rfl (by simp[Value.cells,fY]) n cur rfl sZ ajl.o hsz ?_;intro w2 cs2 ha2 hc2 hg2 hs2;have T12:aI (· =g) w1 w2:=(aI.refl _ _).grown hg2 (fun k e=>.inl (cP e).symm);have Bl:=T12.arr wK.o.own zv;have z3:w2.cell? ⟨p,3,none⟩=some (.int .i64 aT):=Bl.cell 3;have m3:=Bl.mark 3;have hpl:=Bl.lt;have X8:=aa Bl;have jB:=aa ha2;have Ek:=aa hc2;have gI:=aa T12;clear ha2 hc2 hg2 hs2 T12 Bl);have fo:dR (w2.setCell ⟨p,3,none⟩ (.int .i64 0)) p g n bT len (0:Nat) steps f0:=⟨X8.o.put 3 (.int .i64 0),(Rows.aaz jB.o Ek.o).same (dJ w2 ⟨p,3,none⟩ _ g (fun e=>zv e.symm)),zv⟩;have ki:aI (fun k=>k=p∨k=g) w1 (w2.setCell ⟨p,3,none⟩ (.int .i64 0)):=(gI.o.mono fun k _ hk=>.inr hk).put (p:=⟨p,3,none⟩) (.inl (.inl rfl)) _;have dO:om g2 (w2.setCell ⟨p,3,none⟩ (.int .i64 0)) l.length cap (py l):=rG.o.same fun k hk hl=>by subst hk;exact ki.block _ hl (fun e=>by have:=yc.o;omega)
 obtain⟨w3,hw3⟩:=ae (w2.setCell ⟨p,3,none⟩ (.int .i64 0));rw[hw3] at fo ki dO ⊢;have gH:=aa fo;have iJ:=aa ki;have iu:=aa dO;clear fo ki dO hw3 z3 m3 hpl X8 jB Ek gI x0 x4 ajl hsz pU;have ame:l.length≤4096:=by have:=HLL.o;omega
 go_loopw [23] (fun kt wr=>∃ (k:Nat) (f':Nat→Slot) (s:Int),k≤l.length∧kt= .int .i64 k∧dR wr p g n bT len (0:Nat) s f'∧Laid l n k f'∧om g2 wr l.length cap (py l)∧aI (fun k=>k=p∨k=g) w1 wr) (fun kt _=>(l.length - intOf kt).toNat)
 case atStart=>exact⟨0,f0,steps,cx _,rfl,gH.o,Laid.zero l n,iu.o,iJ.o⟩
 case round=>
  clear gH iJ iu wK;obtain⟨k,f',s,hk,rfl,hI,hL,hR,hT⟩:=hrel;have HI:=aa hI;have HL:=aa hL;have HR:=aa hR;have HT:=aa hT;have x0:wr.cell? ⟨p,0,none⟩=some (.slice (some ⟨g,0,none⟩) n n):=hI.own.cell 0;have x4:wr.cell? ⟨p,4,none⟩=some (.int .i64 s):=hI.own.cell 4;have m4:=hI.own.mark 4;have hpl:=hI.own.lt;clear hI hL hR hT;have DN:(0:Int)≤(k:Int):=ai;by_cases hlt:k<l.length
  ·have rD:(k:Int)<(l.length:Int):=by omega
   obtain⟨hs1,hs2,hs3⟩:=HST.o k hlt;obtain⟨sl,L6⟩:=ae (py l k);rw[L6] at hs1 hs2 hs3;obtain⟨w4,hw4⟩:=ae (wr.alloc (.cells #[.int .u8 1,.int .u32 sl.id,.int .i64 sl.v] 358));obtain⟨tb,htb⟩:=ae wr.heap.size;have ha4:=aJ hw4 htb;have hb4:=aK hw4;have pB:=aa ha4;have gj:=aa hb4;have pY:=aa L6;have y1:=ha4.cl 1;clear ha4 hb4;go_wp2_with (refine fq rfl 358 _ rfl HR.o (fun _=>rfl) k hlt rfl _ Tryz.underlying358 rfl sR ?_;rw[pY.o];dsimp only[fD]);have Ku:dR w4 p g n bT len (0:Nat) s f':=⟨HI.o.own.ah gj.o,HI.o.rows.same (gj.o.block _ HI.o.rows.lt),zv⟩;obtain⟨i,hi,hsk,hsi,yZ⟩:=xD HL.o.tab (by have:=HL.o.full;omega) (HL.o.ajY HDA.o hlt);rw[pY.o] at hsk yZ;have HF:=Find p g n bT len (0:Nat) s sl.id f' w4 Ku sZ hn.2.2.2.2 ⟨hs2,hs3⟩ HL.o.tab.states;have hF:Calls af 245 #[.pointer (some ⟨p,0,none⟩),.int .u32 sl.id] w4 fun e w'=>e= .returned (.tuple #[.int .i64 (i:Int),.bool false])∧(∃ s,dR w' p g n bT len (0:Nat) s f')∧aI (· =p) w4 w':=HF.mono fun e w' h1=>by
    have e1:fh f' sl.id n n (uI sl.id % (n:Int)).toNat (-1)=((i:Int),false):=hsk;rw[e1] at h1;exact h1
   have HLS:=aa (show Laid l n (k+1) (upd f' i ⟨1,sl.id,sl.v⟩)from by have:=HL.o.step hlt hi hsi (by rw[pY.o];exact yZ _);rwa [pY.o] at this);have zy:(i:Int)<(n:Int):=ai;have amd:=hn.2.2.2.2;clear HF hsk hsi yZ Ku;refine hF.mono ?_;clear hF;rintro e w5 ⟨rfl,⟨s5,D3⟩,oH⟩;have CD:=oH.arr pB.o (fun e=>by have:=HI.o.own.lt;omega);have ahU:aI (fun k=>k=p∨k=g) w1 w5:=(HT.o.ak gj.o).trans (oH.mono fun k _ hk=>.inl hk);have u0:w5.cell? ⟨p,0,none⟩=some (.slice (some ⟨g,0,none⟩) n n):=D3.own.cell 0;have u1:=CD.cl 0;have u2:=CD.cl 1;have u3:=CD.cl 2;have rA:=aa (D3.rows.there hi);have pZ:=aa D3;have pz:=aa ahU;clear D3 oH ahU CD y1 x0 x4 m4 gj pB;go_wp2_with fail;go_still_tail 7,bh;change wpList _ _ _ _ _ w5.drew;refine wpList_store_mid rfl 358 _ _ rfl g (i*3) #[.int .u8 1,.int .u32 sl.id,.int .i64 sl.v] rfl rfl rA.o rfl qR ?_;have Jt:dR (w5.drew.setCells g (i*3) [.int .u8 1,.int .u32 sl.id,.int .i64 sl.v]) p g n bT len (0:Nat) s5 (upd f' i ⟨1,sl.id,sl.v⟩):=(show dR w5.drew p g n bT len (0:Nat) s5 f' from⟨pZ.o.own,pZ.o.rows.same rfl,zv⟩).store hi ⟨1,sl.id,sl.v⟩;have pW:aI (fun k=>k=p∨k=g) w1 (w5.drew.setCells g (i*3) [.int .u8 1,.int .u32 sl.id,.int .i64 sl.v]):=(pz.o.ak (az (Below.refl _ _))).grown (dw g (fD ⟨1,sl.id,sl.v⟩) (i*3) w5.drew).1 (fun k e=>.inl (.inr (cP e).symm));have hR6:om g2 (w5.drew.setCells g (i*3) [.int .u8 1,.int .u32 sl.id,.int .i64 sl.v]) l.length cap (py l):=rG.o.same fun k hk hl=>by subst hk;exact pW.block _ hl (fun e=>by have:=yc.o;omega)
   obtain⟨w6,og⟩:=ae (w5.drew.setCells g (i*3) [.int .u8 1,.int .u32 sl.id,.int .i64 sl.v]);change wpList _ _ _ _ _ (w5.drew.setCells g (i*3) [.int .u8 1,.int .u32 sl.id,.int .i64 sl.v]);rw[og] at Jt pW hR6 ⊢;have ll:=aa Jt;have vn:=aa pW;have HR6:=aa hR6;clear og Jt pW hR6 u0 u1 u2 u3 rA pZ pz;go_wp2_with fail;go_roundw
   case rel=>exact⟨k+1,_,s5,ai,by go_num,ll.o,HLS.o,HR6.o,vn.o⟩
   case measure=>simp[intOf];omega
  have rD: ¬(k:Int)<(l.length:Int):=ai;obtain rfl:k=l.length:=ai;go_wp2_with fail;have Jt:dR (wr.setCell ⟨p,4,none⟩ (.int .i64 steps)) p g n bT len (0:Nat) steps f':=⟨HI.o.own.put 4 _,HI.o.rows.same (dJ wr ⟨p,4,none⟩ _ g (fun e=>zv e.symm)),zv⟩;have pW:aI (fun k=>k=p∨k=g) w1 (wr.setCell ⟨p,4,none⟩ (.int .i64 steps)):=HT.o.put (p:=⟨p,4,none⟩) (.inl (.inl rfl)) _;refine bodyPost_end (results_none Tryz.results312 _ _ _) rfl ⟨⟨_,rfl⟩,⟨f',⟨⟨steps,Jt⟩,HL.o.tab,by rw[HL.o.full];exact HLL.o,HL.o.Wy,hn⟩,fun a b=>(HL.o.has a b).trans (HUN.o a b)⟩,(aI.aW bA.o).trans pW⟩
end km
end
section
namespace km
def afx(p g n bT len:Nat)(id v:Int)(f:Nat→Slot)(w:World)(e:Ending)(w':World): Prop:=e= .returned (.int .i64 0)∧(∃ f' gs,eW w' p g n bT (len+1) gs f'∧∀ a b,jH f' n a b↔jH f n a b∨(a=id∧b=v))∧aI (fun k=>k=p∨k=g) w w'
theorem N3{f:Nat→Slot}{n i:Nat}(hi:i<n)(hs:(f i).state≠1)(h2:(f i).state≤2)(id v:Int){len aT:Nat}(h1:cnt f 1 n=len)(hg:cnt f 2 n=aT): cnt (upd f i ⟨1,id,v⟩) 1 n=len+1∧cnt (upd f i ⟨1,id,v⟩) 2 n=(if(f i).state=2 then aT - 1 else aT)∧((f i).state=2→1≤aT):=by
 have q1:=lU f 1 i ⟨1,id,v⟩ n hi;have q2:=lU f 2 i ⟨1,id,v⟩ n hi;simp at q1 q2;by_cases h:(f i).state=2
 ·simp[h] at q1 q2 ⊢;omega
 simp[h,hs] at q1 q2 ⊢;omega
theorem Xz(p g n bT len aT:Nat)(id v:Int)(f:Nat→Slot)(w:World)(h:eW w p g n bT len aT f)(hid:0≤id∧id<4294967296)(Bq: ∀ i,i<n→(f i).state=1→0≤(f i).id∧(f i).id<4294967296)(i:Nat)(hi:i<n)(hsk:vC f n id=((i:Int),false))(hst:(f i).state=0)(yZ: ∀ v,CE (upd f i ⟨1,id,v⟩) n)(hl:len<bT):
  Calls af 242 #[.pointer (some ⟨p,0,none⟩),.int .u32 id,.int .i64 v] w (afx p g n bT len id v f w):=by
 obtain⟨steps,hI⟩:=h.cw;have hn:=h.bj;have hs1:(f i).state≠1:=by rw[hst];decide
 obtain⟨k1,k2,k3⟩:=N3 hi hs1 (h.tab.states i hi) id v h.full h.Wy;rw[hst] at k2 k3;have hgb:aT+len≤n:=Tc;have k2':cnt (upd f i ⟨1,id,v⟩) 2 n=aT:=by simpa using k2
 have x0:w.cell? ⟨p,0,none⟩=some (.slice (some ⟨g,0,none⟩) n n):=hI.own.cell 0;have HF:=Find p g n bT len aT steps id f w hI ai hn.2.2.2.2 hid h.tab.states;have hF:Calls af 245 #[.pointer (some ⟨p,0,none⟩),.int .u32 id] w fun e w'=>e= .returned (.tuple #[.int .i64 (i:Int),.bool false])∧(∃ s,dR w' p g n bT len aT s f)∧aI (· =p) w w':=HF.mono fun e w' h1=>by
  exact UP
 have HH:=aa h;have HG:=aa hF;have MP:=aa (yZ v);have HST:=aa hst;have HK:=aa (And.intro k1 k2');have HUN:=aa (fun a b=>wQ hi hs1 id v a b);have MX:=aa (show ∀ j,j<n→(upd f i ⟨1,id,v⟩ j).state=1→0≤(upd f i ⟨1,id,v⟩ j).id∧(upd f i ⟨1,id,v⟩ j).id<4294967296 from fun j hj hs=>by
  by_cases e:j=i
  ·subst e;rw[upd_same];exact hid
  rw[bU _ _ e] at hs ⊢;exact Bq j hj hs)
 have hlm:((len:Int)==(bT:Int))=false:=fZ;have sZ:n≤16384:=hn.2.2.2.2;have zy:(i:Int)<(n:Int):=ai;have hlen:len≤4096:=ai;have hgr:aT≤16384:=ai;have akt:=hid.1;have aks:=hid.2;clear h hF HF hI hsk hst yZ hid hn Bq hs1 k1 k2 k3 k2';go_enter Tryz.func242,Tryz.ntmps242;go_wp2_with fail;refine ag (fQ p g n w x0) ?_;go_wp2_with fail;refine HG.o.mono ?_;rintro e w1 ⟨rfl,⟨s1,kV⟩,sx⟩;have y1:w1.cell? ⟨p,1,none⟩=some (.int .i64 bT):=kV.own.cell 1;have y2:w1.cell? ⟨p,2,none⟩=some (.int .i64 len):=kV.own.cell 2;have wK:=aa kV;have iN:=aa sx;clear kV sx;go_wp2_with fail;refine wp_region_quiet_lit bh bh ?_;repeat(first|go_big_quiet_step ((fail))|quiet_step ((fail)))
 refine wpQuiet_nil ?_;intro _ hw';obtain⟨nq,hw''⟩:=hw';subst hw'';clear y1 y2;have rj:dR (w1.drewN nq) p g n bT len aT s1 f:=⟨wK.o.own.drewN nq,wK.o.rows.same rfl,wK.o.apart⟩;have jE:aI (fun k=>k=p∨k=g) w (w1.drewN nq):=(show aI (· =p) w (w1.drewN nq)from⟨iN.o.os,iN.o.tape,iN.o.output,iN.o.size,iN.o.block⟩).mono fun k _ h=>.inl h
 obtain⟨w2,hw2⟩:=ae (w1.drewN nq);rw[hw2] at rj jE ⊢;clear hw2 wK iN;have y0:w2.cell? ⟨p,0,none⟩=some (.slice (some ⟨g,0,none⟩) n n):=rj.own.cell 0;obtain⟨z0,_,_⟩:=rj.rows.cell hi;rw[HST.o] at z0;have rA:=aa (rj.rows.there hi);have zg:=aa rj;have gI:=aa jE;clear rj jE;go_wp2_with (refine wpList_store_mid rfl 358 _ _ rfl g (i*3) #[.int .u8 1,.int .u32 id,.int .i64 v] rfl rfl rA.o rfl qR ?_;have fo:=zg.o.store hi ⟨1,id,v⟩;have ki:=gI.o.grown (dw g (fD ⟨1,id,v⟩) (i*3) w2).1 (fun k e=>.inl (.inr Ad));obtain⟨w3,hw3⟩:=ae (w2.setCells g (i*3) [.int .u8 1,.int .u32 id,.int .i64 v]);change dR (w2.setCells g (i*3) [.int .u8 1,.int .u32 id,.int .i64 v]) _ _ _ _ _ _ _ _ at fo;change aI _ w (w2.setCells g (i*3) [.int .u8 1,.int .u32 id,.int .i64 v]) at ki;change wpList _ _ _ _ _ (w2.setCells g (i*3) [.int .u8 1,.int .u32 id,.int .i64 v]);rw[hw3] at fo ki ⊢;clear hw3 y0 z0 rA;have v2:w3.cell? ⟨p,2,none⟩=some (.int .i64 len):=fo.own.cell 2;have m2:=fo.own.mark 2;have akf:=fo.own.lt;have gH:=aa fo;have iJ:=aa ki;clear fo ki);have Ku:dR (w3.setCell ⟨p,2,none⟩ (.int .i64 ((len:Int)+1))) p g n bT ((len:Int)+1) (aT:Int) s1 (upd f i ⟨1,id,v⟩):=⟨gH.o.own.put 2 _,gH.o.rows.same (dJ w3 ⟨p,2,none⟩ _ g (fun e=>gH.o.apart e.symm)),gH.o.apart⟩;have jK:=iJ.o.put (p:=⟨p,2,none⟩) (.inl (.inl rfl)) (.int .i64 ((len:Int)+1));obtain⟨w4,hw4⟩:=ae (w3.setCell ⟨p,2,none⟩ (.int .i64 ((len:Int)+1)));rw[hw4] at Ku jK ⊢;have v0:w4.cell? ⟨p,0,none⟩=some (.slice (some ⟨g,0,none⟩) n n):=Ku.own.cell 0;have v2':w4.cell? ⟨p,2,none⟩=some (.int .i64 ((len:Int)+1)):=Ku.own.cell 2;have v3:w4.cell? ⟨p,3,none⟩=some (.int .i64 (aT:Int)):=Ku.own.cell 3;have tr:=aa Ku;have nU:=aa jK;clear Ku jK hw4 v2 m2 gH iJ zg gI;by_cases h34:3*(n:Int)<4*((len:Int)+1+(aT:Int))
 ·skip;refine wp_region_quiet_lit bh bh ?_;repeat(first|go_big_quiet_step ((fail))|quiet_step ((fail)))
  refine wpQuiet_nil ?_;intro _ hw';obtain⟨nq,hw''⟩:=hw';subst hw'';have fw:eW (w4.drewN nq) p g n bT (len+1) aT (upd f i ⟨1,id,v⟩):=⟨⟨s1,by push_cast;exact⟨tr.o.own.drewN nq,tr.o.rows.same rfl,tr.o.apart⟩⟩,MP.o,HK.o.1,HK.o.2,Au⟩;have oH:aI (fun k=>k=p∨k=g) w (w4.drewN nq):=⟨nU.o.os,nU.o.tape,nU.o.output,nU.o.size,nU.o.block⟩;have uk:=aa fw;have pz:=aa oH;clear fw oH v0 v2' v3;go_wp2_with fail;refine(OY p g n bT (len+1) aT _ _ uk.o MX.o).mono ?_;exact acg
 ·skip;refine wp_region_quiet_lit bh bh ?_;repeat(first|go_big_quiet_step ((fail))|quiet_step ((fail)))
  refine wpQuiet_nil ?_;intro _ hw';obtain⟨nq,hw''⟩:=hw';subst hw'';have fw:eW (w4.drewN nq) p g n bT (len+1) aT (upd f i ⟨1,id,v⟩):=⟨⟨s1,by push_cast;exact⟨tr.o.own.drewN nq,tr.o.rows.same rfl,tr.o.apart⟩⟩,MP.o,HK.o.1,HK.o.2,Au⟩;exact aci
theorem Ra(p g n bT len aT:Nat)(id v:Int)(f:Nat→Slot)(w:World)(h:eW w p g n bT len aT f)(hid:0≤id∧id<4294967296)(Bq: ∀ i,i<n→(f i).state=1→0≤(f i).id∧(f i).id<4294967296)(i:Nat)(hi:i<n)(hsk:vC f n id=((i:Int),false))(hst:(f i).state=2)(yZ: ∀ v,CE (upd f i ⟨1,id,v⟩) n)(hl:len<bT):
  Calls af 242 #[.pointer (some ⟨p,0,none⟩),.int .u32 id,.int .i64 v] w (afx p g n bT len id v f w):=by
 obtain⟨steps,hI⟩:=h.cw;have hn:=h.bj;have hs1:(f i).state≠1:=by rw[hst];decide
 obtain⟨k1,k2,k3⟩:=N3 hi hs1 (h.tab.states i hi) id v h.full h.Wy;rw[hst] at k2 k3;have hgb:aT+len≤n:=Tc;have kB:1≤aT:=k3 rfl;have hwg:IntKind.i64.wrap ((aT:Int) - 1)=(aT:Int) - 1:=by rw[IntKind.wrap_i64];omega
 have k2':cnt (upd f i ⟨1,id,v⟩) 2 n=(aT - 1):=by simpa using k2
 have x0:w.cell? ⟨p,0,none⟩=some (.slice (some ⟨g,0,none⟩) n n):=hI.own.cell 0;have HF:=Find p g n bT len aT steps id f w hI ai hn.2.2.2.2 hid h.tab.states;have hF:Calls af 245 #[.pointer (some ⟨p,0,none⟩),.int .u32 id] w fun e w'=>e= .returned (.tuple #[.int .i64 (i:Int),.bool false])∧(∃ s,dR w' p g n bT len aT s f)∧aI (· =p) w w':=HF.mono fun e w' h1=>by
  exact UP
 have HH:=aa h;have HG:=aa hF;have MP:=aa (yZ v);have HST:=aa hst;have HK:=aa (And.intro k1 k2');have HUN:=aa (fun a b=>wQ hi hs1 id v a b);have MX:=aa (show ∀ j,j<n→(upd f i ⟨1,id,v⟩ j).state=1→0≤(upd f i ⟨1,id,v⟩ j).id∧(upd f i ⟨1,id,v⟩ j).id<4294967296 from fun j hj hs=>by
  by_cases e:j=i
  ·subst e;rw[upd_same];exact hid
  rw[bU _ _ e] at hs ⊢;exact Bq j hj hs)
 have hlm:((len:Int)==(bT:Int))=false:=fZ;have sZ:n≤16384:=hn.2.2.2.2;have zy:(i:Int)<(n:Int):=ai;have hlen:len≤4096:=ai;have hgr:aT≤16384:=ai;have akt:=hid.1;have aks:=hid.2;clear h hF HF hI hsk hst yZ hid hn Bq hs1 k1 k2 k3 k2';go_enter Tryz.func242,Tryz.ntmps242;go_wp2_with fail;refine ag (fQ p g n w x0) ?_;go_wp2_with fail;refine HG.o.mono ?_;rintro e w1 ⟨rfl,⟨s1,kV⟩,sx⟩;have y1:w1.cell? ⟨p,1,none⟩=some (.int .i64 bT):=kV.own.cell 1;have y2:w1.cell? ⟨p,2,none⟩=some (.int .i64 len):=kV.own.cell 2;have wK:=aa kV;have iN:=aa sx;clear kV sx;go_wp2_with fail;refine wp_region_quiet_lit bh bh ?_;repeat(first|go_big_quiet_step ((fail))|quiet_step ((fail)))
 refine wpQuiet_nil ?_;intro _ hw';obtain⟨nq,hw''⟩:=hw';subst hw'';clear y1 y2;have rj:dR (w1.drewN nq) p g n bT len aT s1 f:=⟨wK.o.own.drewN nq,wK.o.rows.same rfl,wK.o.apart⟩;have jE:aI (fun k=>k=p∨k=g) w (w1.drewN nq):=(show aI (· =p) w (w1.drewN nq)from⟨iN.o.os,iN.o.tape,iN.o.output,iN.o.size,iN.o.block⟩).mono fun k _ h=>.inl h
 obtain⟨w2,hw2⟩:=ae (w1.drewN nq);rw[hw2] at rj jE ⊢;clear hw2 wK iN;have y0:w2.cell? ⟨p,0,none⟩=some (.slice (some ⟨g,0,none⟩) n n):=rj.own.cell 0;obtain⟨z0,_,_⟩:=rj.rows.cell hi;rw[HST.o] at z0;have y3:w2.cell? ⟨p,3,none⟩=some (.int .i64 aT):=rj.own.cell 3;have m3:=rj.own.mark 3;have hpl:=rj.own.lt;have FP:dR (w2.setCell ⟨p,3,none⟩ (.int .i64 ((aT:Int) - 1))) p g n bT len ((aT:Int) - 1) s1 f:=⟨rj.own.put 3 _,rj.rows.same (dJ w2 ⟨p,3,none⟩ _ g (fun e=>rj.apart e.symm)),rj.apart⟩;have Bz:=jE.put (p:=⟨p,3,none⟩) (.inl (.inl rfl)) (.int .i64 ((aT:Int) - 1));obtain⟨RP,agQ⟩:=ae (w2.setCell ⟨p,3,none⟩ (.int .i64 ((aT:Int) - 1)));rw[agQ] at FP Bz;have q0:RP.cell? ⟨p,0,none⟩=some (.slice (some ⟨g,0,none⟩) n n):=FP.own.cell 0;have rA:=aa (FP.rows.there hi);have zg:=aa FP;have gI:=aa Bz;clear rj jE FP Bz;go_wp2_with (refine wpList_store_mid rfl 358 _ _ rfl g (i*3) #[.int .u8 1,.int .u32 id,.int .i64 v] rfl rfl rA.o rfl qR ?_;have fo:=zg.o.store hi ⟨1,id,v⟩;have ki:=gI.o.grown (dw g (fD ⟨1,id,v⟩) (i*3) RP).1 (fun k e=>.inl (.inr Ad));obtain⟨w3,hw3⟩:=ae (RP.setCells g (i*3) [.int .u8 1,.int .u32 id,.int .i64 v]);change dR (RP.setCells g (i*3) [.int .u8 1,.int .u32 id,.int .i64 v]) _ _ _ _ _ _ _ _ at fo;change aI _ w (RP.setCells g (i*3) [.int .u8 1,.int .u32 id,.int .i64 v]) at ki;change wpList _ _ _ _ _ (RP.setCells g (i*3) [.int .u8 1,.int .u32 id,.int .i64 v]);rw[hw3] at fo ki ⊢;clear hw3 y0 z0 rA;have v2:w3.cell? ⟨p,2,none⟩=some (.int .i64 len):=fo.own.cell 2;have m2:=fo.own.mark 2;have akf:=fo.own.lt;have gH:=aa fo;have iJ:=aa ki;clear fo ki);have Ku:dR (w3.setCell ⟨p,2,none⟩ (.int .i64 ((len:Int)+1))) p g n bT ((len:Int)+1) ((aT:Int) - 1) s1 (upd f i ⟨1,id,v⟩):=⟨gH.o.own.put 2 _,gH.o.rows.same (dJ w3 ⟨p,2,none⟩ _ g (fun e=>gH.o.apart e.symm)),gH.o.apart⟩;have jK:=iJ.o.put (p:=⟨p,2,none⟩) (.inl (.inl rfl)) (.int .i64 ((len:Int)+1));obtain⟨w4,hw4⟩:=ae (w3.setCell ⟨p,2,none⟩ (.int .i64 ((len:Int)+1)));rw[hw4] at Ku jK ⊢;have v0:w4.cell? ⟨p,0,none⟩=some (.slice (some ⟨g,0,none⟩) n n):=Ku.own.cell 0;have v2':w4.cell? ⟨p,2,none⟩=some (.int .i64 ((len:Int)+1)):=Ku.own.cell 2;have v3:w4.cell? ⟨p,3,none⟩=some (.int .i64 ((aT:Int) - 1)):=Ku.own.cell 3;have tr:=aa Ku;have nU:=aa jK;clear Ku jK hw4 v2 m2 gH iJ zg gI q0 y3 m3 hpl agQ;by_cases h34:3*(n:Int)<4*((len:Int)+1+((aT:Int) - 1))
 ·skip;refine wp_region_quiet_lit bh bh ?_;repeat(first|go_big_quiet_step ((fail))|quiet_step ((fail)))
  refine wpQuiet_nil ?_;intro _ hw';obtain⟨nq,hw''⟩:=hw';subst hw'';have fw:eW (w4.drewN nq) p g n bT (len+1) (aT - 1) (upd f i ⟨1,id,v⟩):=⟨⟨s1,abH⟩,MP.o,HK.o.1,HK.o.2,Au⟩;have oH:aI (fun k=>k=p∨k=g) w (w4.drewN nq):=⟨nU.o.os,nU.o.tape,nU.o.output,nU.o.size,nU.o.block⟩;have uk:=aa fw;have pz:=aa oH;clear fw oH v0 v2' v3;go_wp2_with fail;refine(OY p g n bT (len+1) (aT - 1) _ _ uk.o MX.o).mono ?_;exact acg
 ·skip;refine wp_region_quiet_lit bh bh ?_;repeat(first|go_big_quiet_step ((fail))|quiet_step ((fail)))
  refine wpQuiet_nil ?_;intro _ hw';obtain⟨nq,hw''⟩:=hw';subst hw'';have fw:eW (w4.drewN nq) p g n bT (len+1) (aT - 1) (upd f i ⟨1,id,v⟩):=⟨⟨s1,abH⟩,MP.o,HK.o.1,HK.o.2,Au⟩;exact aci
theorem ail(p g n bT len aT:Nat)(id v:Int)(f:Nat→Slot)(w:World)(h:eW w p g n bT len aT f)(hid:0≤id∧id<4294967296)(Bq: ∀ i,i<n→(f i).state=1→0≤(f i).id∧(f i).id<4294967296)(ht: ∀ i,i<n→(f i).state=1→(f i).id≠id)(hl:len<bT):
  Calls af 242 #[.pointer (some ⟨p,0,none⟩),.int .u32 id,.int .i64 v] w (afx p g n bT len id v f w):=by
 have hn:=h.bj;obtain⟨i,hi,hsk,hs1,yZ⟩:=xD h.tab (by have:=h.full;omega) ht;have h2:=h.tab.states i hi;rcases(show(f i).state=0∨(f i).state=2 from ai)with hs|hs
 ·exact Xz p g n bT len aT id v f w h hid Bq i hi hsk hs yZ hl
 ·exact Ra p g n bT len aT id v f w h hid Bq i hi hsk hs yZ hl
