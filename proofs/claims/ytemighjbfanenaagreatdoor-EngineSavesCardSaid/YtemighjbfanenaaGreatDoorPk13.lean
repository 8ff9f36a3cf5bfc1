import Derived.Test.YtemighjbfanenaaGreatDoorPk11
import Derived.Test.YtemighjbfanenaaGreatDoorPk12
import Derived.Shelf.SlSortCmp.WholeK
set_option linter.all false
set_option maxRecDepth 100000
set_option maxHeartbeats 16000000
namespace Go.Proofs.YtemighjbfanenaaGreatDoor
open RowKit
open Go.Proofs.Tryz renaming prog→af
open Go.Sort renaming ahead→Aq
open Go.Value renaming oneCell'→fw
open List renaming getElem?_eq_getElem→bY,getD_eq_getElem?_getD→bN,getElem?_eq_none→gW,pairwise_append→wO
open Nat renaming zero_le→cm
open Option.some renaming inj→cM
open RowKit.Below renaming heap_setCell→dH
open _root_.Array renaming getElem?_eq_some_iff→eK,getElem?_eq_getElem→mK,getElem?_toList→ei,getElem?_modify→P6
theorem acu{p:Prop}(h:p:=by
 have oG:aI (fun k=>k=p∨k=g) w (w4.drewN nq):=⟨nX.o.os,nX.o.tape,nX.o.output,nX.o.size,nX.o.block⟩;have ur:=aa fq;have px:=aa oG;clear fq oG v0 v2' v3;go_wp2_with fail;go_ret;exact⟨rfl,⟨_,_,ur.o,HUN.o⟩,px.o⟩):p:=h
theorem acr{p:Prop}(h:p:=by
 rintro e w6 ⟨⟨v6,rfl⟩,⟨f',hf',hu⟩,pV⟩;have HF':=aa hf';have HU:=aa hu;have vy:=aa pV;clear hf' hu pV;go_wp2_with fail;go_ret;exact⟨rfl,⟨f',0,HF'.o,fun a b=>(HU.o a b).trans (HUN.o a b)⟩,px.o.trans vy.o⟩):p:=h
theorem U1{p:Prop}(h:p:=by
 have e1:fe f id n n (uL id % (n:Int)).toNat (-1)=((i:Int),false):=hsk;rw[e1] at h1;exact h1):p:=h
theorem ab9{p:Prop}(h:p:=by
 rw[List.mem_singleton] at hy;subst hy;obtain⟨i,hi,h1,rfl⟩:=nK.1 hx;intro he;have:=hT.uniq i j aj aj h1 hs he;omega):p:=h
theorem qY{p:Prop}(h:p:=by simp[fw]):p:=h
theorem abN{p:Prop}(h:p:=by rw[show((aV - 1:Nat):Int)=(aV:Int) - 1 by omega];push_cast;exact⟨tA.o.own.drewN nq,tA.o.rows.same rfl,tA.o.apart⟩):p:=h
theorem Tm{p:Prop}(h:p:=by have:=Gi f n;have:=h.full;have:=h.WH;omega):p:=h
section
namespace ki
open Go.RowKit Go.Sort Go.Shelf
section
variable {α:Type}[Inhabited α]{enc:α→List Value}{k:Nat}{S:Nat→Prop}{w:World}{e:TypeId}{g cap:Nat}{d:Array α}
theorem B4(hk: ∀ x,(enc x).length=k)(d:Array α): (flatK enc k d).toList=flat (fun i=>enc d[i]!) d.size:=by
 apply List.ext_getElem?;intro t;have hf:=cf (c:=fun i=>enc d[i]!) (sz:=k) (fun i=>hk _) d.size;rcases Nat.lt_or_ge t (d.size*k)with ht|ht
 ·have D6:0<k:=by rcases Nat.eq_zero_or_pos k with h0|h0;rw[h0] at ht;simp at ht;exact h0
  have a1:t / k<d.size:=(Nat.div_lt_iff_lt_mul D6).2 ht;have a2:t % k<k:=Nat.mod_lt _ D6;have a3:t / k*k+t % k=t:=by rw[Nat.mul_comm];exact Nat.div_add_mod t k
  have h2:(flat (fun i=>enc d[i]!) d.size)[t]? =(enc d[t / k]!)[t % k]?:=by
   conv=>lhs;rw[←a3]
   exact gA (fun i=>hk _) a1 a2
  have hs:t<(flatK enc k d).size:=by rw[size_flatK];exact ht
  have h3:=get_flatK enc k d t ht;rw[getElem!_pos _ t hs] at h3;rw[h2,ei,mK hs,h3];rw[bY (by rw[hk];exact a2),getElem!_pos _ _ (by rw[hk];exact a2)]
 rw[gW (by simp[size_flatK];exact ht),gW aj]
theorem Og(h:aM S w e k (.slice (some ⟨g,0,none⟩) d.size cap) d.size (fun i=>enc d[i]!)): ∃ cur,w.heap[g]? =some (.cells cur e (0,0))∧d.size≤cap∧cap≤maxLen∧cur.size=cap*k∧cur.toList.take (d.size*k)=flat (fun i=>enc d[i]!) d.size:=by
 rcases h.own.2 with⟨hv,_⟩|⟨g',cap',cur,hv,hb,hh,h1,h2,h3,h4⟩
 ·cases hv
 injection hv with e1 _ e2
 injection e1 with e1
 injection e1 with e1
 subst e1 e2;exact⟨cur,hh,h1,h2,h3,h4⟩
theorem Qs(hk: ∀ x,(enc x).length=k)(h:aM S w e k (.slice (some ⟨g,0,none⟩) d.size cap) d.size (fun i=>enc d[i]!)): HoldsK enc k w g 0 d:=by
 obtain⟨cur,hh,h1,h2,h3,h4⟩:=Og h;intro j hj;have D7:j<d.size*k:=by rwa [size_flatK] at hj
 rw[←B4 hk] at h4;have h5:(cur.toList.take (d.size*k))[j]? =(flatK enc k d).toList[j]?:=by rw[h4]
 rw[List.getElem?_take,if_pos D7,ei,ei,mK hj] at h5;rw[getElem!_pos _ j hj,Nat.zero_add];refine⟨by simp only[World.cell?,hh];exact h5,by simp[World.frozen?,hh]⟩
theorem UA(F cur:Array Value)(h:F.size≤cur.size): (putCells id 0 F cur).toList.take F.size=F.toList:=by
 apply List.ext_getElem?;intro t;rw[List.getElem?_take];split
 ·rename_i ht;rw[ei,ei];simp only[putCells,Array.getElem?_mapIdx];rw[mK (show t<cur.size from aj),Option.map_some,if_pos ⟨cm _,aj⟩,Nat.sub_zero,getElem!_pos _ t ht,mK ht];rfl
 rw[gW fV]
theorem L5(hk: ∀ x,(enc x).length=k)(h:aM S w e k (.slice (some ⟨g,0,none⟩) d.size cap) d.size (fun i=>enc d[i]!))(d':Array α)(hs:d'.size=d.size)(m:Nat)(os:Array Obj): aM S (sortWorldK enc k w g 0 m d' os) e k (.slice (some ⟨g,0,none⟩) d.size cap) d.size (fun i=>enc d'[i]!):=by
 obtain⟨cur,hh,h1,h2,h3,h4⟩:=Og h;have hg:g<w.heap.size:=(eK.1 hh).1;have hF:(flatK enc k d').size=d.size*k:=by rw[size_flatK,hs]
 refine⟨⟨cf (fun i=>hk _) _,.inr ⟨g,cap,putCells id 0 (flatK enc k d') cur,rfl,cm _,?_,h1,h2,by rw[←h3];simp[putCells],?_⟩⟩,fun b hb=>h.block b hb⟩
 ·have e1:(sortWorldK enc k w g 0 m d' os).heap[g]? =(putRowK enc k (Aq w m) g 0 d').heap[g]?:=heap_grow_old _ os (by rw[size_putRowK];exact hg);rw[e1];simp only[putRowK,putRow,mapBlock,P6,if_pos,show(Aq w m).heap=w.heap from rfl,hh,Option.map_some,onCells]
 rw[←hF,UA _ _ (by rw[hF,h3];exact Nat.mul_le_mul_right _ h1),B4 hk,hs]
theorem Up(w:World)(g m:Nat)(d':Array α)(os:Array Obj): aI (· =g) w (sortWorldK enc k w g 0 m d' os)where
 os:=rfl
 tape:=rfl
 output:=rfl
 size:=by unfold sortWorldK;rw[size_grow,size_putRowK];exact Nat.le_add_right _ _
 block b hb hne:=by
  have e1:(sortWorldK enc k w g 0 m d' os).heap[b]? =(putRowK enc k (Aq w m) g 0 d').heap[b]?:=heap_grow_old _ os (by rw[size_putRowK];exact hb);rw[e1];simp only[putRowK,putRow,mapBlock,P6,show(Aq w m).heap=w.heap from rfl];rw[if_neg (fun e=>hne e.symm)]
end
theorem ltS(x y:Slot): ltOf cfS x y=decide (x.id<y.id):=by
 unfold ltOf cfS Lib.compareInt;by_cases h1:x.id<y.id
 ·simp[h1]
 by_cases h2:y.id<x.id
 ·simp[h1,h2]
 simp[h1,h2]
theorem ajY: SWO (ltOf cfS)where
 irrefl x:=by rw[ltS];simp
 trans x y z h1 h2:=by rw[ltS] at *;simp at *;omega
 ntrans x y z h1 h2:=by rw[ltS] at *;simp at *;omega
def ail(g:Nat)(l:List Slot)(cap:Nat)(w:World)(e:Ending)(w':World): Prop:=e= .returned (.tuple #[])∧∃ l':List Slot,l'.Perm l∧l'.Pairwise (fun x y=>x.id≤y.id)∧om g w' l.length cap (pw l')∧aI (· =g) w w'
theorem ZL(g cap:Nat)(l:List Slot)(w:World)(h:om g w l.length cap (pw l))(hl:l.length≤16384): Calls af 350 #[.slice (some ⟨g,0,none⟩) l.length cap,.func (.func 351) #[] #[]] w (ail g l cap w):=by
 letI:Inhabited Slot:=⟨Slot.none⟩
 have hat: ∀ (m:List Slot) (i:Nat),m.toArray[i]! =pw m i:=fun m i=>by
  unfold pw;rw[Array.getElem!_eq_getD,Array.getD_eq_getD_getElem?,List.getElem?_toArray,bN];rfl
 have hg:g<w.heap.size:=by obtain⟨cur,h1,_⟩:=h.J4;exact(eK.1 h1).1
 have hrow:aM (fun k=>k=g) w 358 3 (.slice (some ⟨g,0,none⟩) l.toArray.size cap) l.toArray.size (fun i=>fD l.toArray[i]!):=by
  simp only[hat,List.size_toArray];exact h
 have akK:CmpLays af 351 #[] fD 3 cfS g 0 l.toArray.size w:=fun _ _ _ _ x y=>afl x y _
 have eg: ∀ args w,(callFunc 351 args).run af w= .ok (.enter 351 args) w:=enters_of Tryz.func351 br rfl;have H:=AnyQ.slices_SortFunc Tryz.Qj 3 Tryz.isAgg358 Tryz.sizeOf358 fD xM xL cfS ajY 351 #[] g 0 cap l.toArray w eg akK (Qs xM hrow) hg fV;refine Calls.mono H ?_;rintro e w' ⟨rfl,d',m,os,hp,hs,rfl⟩;refine⟨rfl,d'.toList,?_,?_,?_,Up w g m d' os⟩
 ·have h3:=hp.2.2;rw[←hp.1] at h3;rw[show d'.extract 0 d'.size=d' from dR] at h3;rw[hp.1,show l.toArray.extract 0 l.toArray.size=l.toArray from dR] at h3;exact h3
 ·rw[List.pairwise_iff_getElem];intro i j hi hj hij;have D7:j<l.toArray.size:=by rw[←hp.1];simpa using hj
  have h4:=hs i j (cm _) hij D7;rw[ltS,getElem!_pos _ j AL,getElem!_pos _ i AK] at h4;simp only[decide_eq_false_iff_not] at h4;simp only[Array.getElem_toList];omega
 have h5:=L5 xM hrow d' hp.1 m os;simp only[List.size_toArray] at h5;have e:(fun i=>fD d'[i]!)=fun i=>fD (pw d'.toList i):=funext fun i=>by rw[←hat d'.toList i]
 rw[e] at h5;exact h5
end ki
end
section
namespace ki
def adi(f:Nat→Slot)(n:Nat)(w:World)(e:Ending)(w':World): Prop:=∃ (g cap:Nat) (l:List Slot),e= .returned (.slice (some ⟨g,0,none⟩) l.length cap)∧l.Perm (kept f n)∧l.Pairwise (fun x y=>x.id≤y.id)∧om g w' l.length cap (pw l)∧w.heap.size≤g∧Below w.heap.size w w'
theorem Je(p g n:Nat)(bU len aV steps:Int)(f:Nat→Slot)(w:World)(h:dS w p g n bU len aV steps f)(hn:1≤n∧n≤16384): Calls af 307 #[.pointer (some ⟨p,0,none⟩)] w (adi f n w):=by
 have x0:w.cell? ⟨p,0,none⟩=some (.slice (some ⟨g,0,none⟩) n n):=h.own.cell 0;have HC:=aa (Rt g n n f w h.rows hn);have HN:=aa hn;clear h hn;go_enter Tryz.func307,Tryz.ntmps307;go_wp2_with fail;refine HC.o.mono ?_;rintro e w1 ⟨g1,cap,rfl,hr1,hb1⟩;have kX:w.heap.size≤g1:=hr1.block g1 rfl;have hR1:om g1 w1 n cap f:=⟨hr1.own,fun k hk=>by injection hk with hk;exact hk.symm⟩;have sx:n≤cap:=by obtain⟨g',cap',hv,_,h1,_⟩:=hr1.form HN.o.1;injection hv with _ _ e2;omega
 have Py:=aa kX;have bz:=aa hb1;have HD:=aa (MZ g1 n cap f w1 hR1 HN.o.2 sx);clear hr1 kX hR1 sx hb1 HC;go_wp2_with fail;refine HD.o.mono ?_;rintro e w2 ⟨rfl,qz,uh⟩;have Hx:=Nat.le_trans (VJ f n) HN.o.2;obtain⟨m,hm⟩:=ae (kept f n);rw[hm] at qz Hx ⊢;have HM:=aa hm;have HS:=aa (ZL g1 cap m w2 qz Hx);have cu:=aa (aI.fresh uh bz.o (fun k hk=>by rw[show k=g1 from hk];exact Py.o));clear hm qz uh Hx HD;go_wp2_with fail;refine HS.o.mono ?_;rintro e w3 ⟨rfl,l',hp,hs,dN,CN⟩;have hb3:=aI.fresh CN cu.o (fun k hk=>by rw[show k=g1 from hk];exact Py.o);have hl:l'.length=m.length:=hp.length_eq;rw[←hl] at dN;have HF:=aa (show adi f n w (.returned (.slice (some ⟨g1,0,none⟩) m.length cap)) w3 from⟨g1,cap,l',mo,by rw[HM.o];exact hp,hs,dN,Py.o,hb3⟩);clear hp hs dN CN hb3 hl HS;go_wp2_with fail;go_ret;exact HF.o
theorem nK{f:Nat→Slot}{x:Slot}: ∀ {n:Nat},x∈kept f n↔∃ i,i<n∧(f i).state=1∧f i=x:=by
 intro n;unfold kept;simp only[List.mem_filter,List.mem_map,List.mem_range,decide_eq_true_eq];constructor
 ·rintro⟨⟨i,hi,rfl⟩,hs⟩;exact⟨i,hi,hs,rfl⟩
 rintro⟨i,hi,hs,rfl⟩;exact⟨⟨i,hi,rfl⟩,hs⟩
theorem sk(f:Nat→Slot): ∀ n,(kept f n).length=cnt f 1 n
 | 0=>rfl
 | n+1=>by
  rw[cnt];by_cases h:(f n).state=1
  ·rw[sf h,List.length_append,sk f n,if_pos h];rfl
  rw[oF h,sk f n,if_neg h];rfl
def P9(f:Nat→Slot)(n:Nat)(w:World)(e:Ending)(w':World): Prop:=∃ (lb g:Nat) (l:List Slot),e= .returned (.func (.func 308) #[] #[.pointer (some ⟨lb,0,none⟩)])∧l.Perm (kept f n)∧l.Pairwise (fun x y=>x.id≤y.id)∧sS w' lb g l∧w.heap.size≤lb∧w.heap.size≤g∧lb≠g∧Below w.heap.size w w'
theorem Pn(p g n:Nat)(bU len aV steps:Int)(f:Nat→Slot)(w:World)(h:dS w p g n bU len aV steps f)(hn:1≤n∧n≤16384): Calls af 220 #[.pointer (some ⟨p,0,none⟩)] w (P9 f n w):=by
 have hown:=h.own;have HH:=aa h;have HN:=aa hn;clear h hn;go_enter Tryz.func220,Tryz.ntmps220;go_wp2_with fail;obtain⟨w1,aZ⟩:=ae (w.alloc (.cells #[.slice none 0 0] 313));obtain⟨lb,OY⟩:=ae w.heap.size;have ha1:=aK aZ OY;have hb1:=aL aZ;have dz:=aa ha1;have bz:=aa hb1;have wV:=aa (⟨hown.ai hb1,HH.o.rows.ai hb1,HH.o.apart⟩:dS w1 p g n bU len aV steps f);rw[aZ,OY];have HLB:=aa OY;clear aZ OY ha1 hb1 hown;refine ag (fP p g n w1 (wV.o.own.cell 0)) ?_;go_wp2_with fail;refine(Je p g n bU len aV steps f w1 wV.o HN.o).mono ?_;rintro e w2 ⟨g2,cap,l,rfl,hp,hs,hR,hg2,hb2⟩;have ha2:=dz.o.ai hb2;obtain⟨z0,z1⟩:w2.cell? ⟨lb,0,none⟩=some (.slice none 0 0)∧w2.frozen? ⟨lb,0,none⟩=false:=⟨ha2.cell 0,ha2.mark 0⟩;have hz1:=bz.o.size;have akp:=dz.o.lt;have hne:lb≠g2:=aj;have dD:sS (w2.setCell ⟨lb,0,none⟩ (.slice (some ⟨g2,0,none⟩) l.length cap)) lb g2 l:=⟨⟨cap,aG.put ha2 0 _,hR.put (fun b hb=>by injection hb with hb;rw[←hb];exact hne) _⟩,by simpa using(dM hR.own rfl).1⟩;have hb3:Below w.heap.size w (w2.setCell ⟨lb,0,none⟩ (.slice (some ⟨g2,0,none⟩) l.length cap)):=(av bz.o hb2).setCell (by simp;have:=HLB.o;omega) _;have HF:=aa (show P9 f n w (.returned (.func (.func 308) #[] #[.pointer (some ⟨lb,0,none⟩)])) _ from⟨lb,g2,l,rfl,hp,hs,dD,by have:=HLB.o;omega,aj,hne,hb3⟩);clear hp hs hR hg2 hb2 ha2 dD hb3 hne hz1 akp;go_wp2_with fail;go_ret;exact HF.o
end ki
end
section
namespace ki
variable{k n:Nat}
theorem BI{f:Nat→Slot}{m:Nat}(hT:CV f m): ∀ j,j≤m→(kept f j).Pairwise fun x y=>x.id≠y.id
 | 0,_=>List.Pairwise.nil
 | j+1,hj=>by
  by_cases hs:(f j).state=1
  ·rw[sf hs,wO];refine⟨BI hT j aj,List.pairwise_singleton _ _,fun x hx y hy=>?_⟩;exact ab9
  rw[oF hs];exact BI hT j aj
theorem aaR{l:List Slot}(h:k<l.length): pw l k∈l:=by unfold pw;rw[bN,bY h];exact List.getElem_mem h
theorem DI{l:List Slot}(h:k<l.length): l.take (k+1)=l.take k++ [pw l k]:=by
 rw[List.take_add_one,bY h];unfold pw;rw[bN,bY h];rfl
theorem LQ{l:List Slot}(hd:l.Pairwise fun x y=>x.id≠y.id)(h:k<l.length): ∀ x∈l.take k,x.id≠(pw l k).id:=by
 intro x hx;have h2:(l.take (k+1)).Pairwise fun x y=>x.id≠y.id:=hd.sublist (List.take_sublist _ _)
 rw[DI h,wO] at h2;exact h2.2.2 x hx _ dR
structure Laid(l:List Slot)(n k:Nat)(f:Nat→Slot): Prop where
 tab:CV f n
 full:cnt f 1 n=k
 WH:cnt f 2 n=0
 has: ∀ a b,jE f n a b↔∃ x∈l.take k,x.id=a∧x.v=b
theorem Laid.zero(l:List Slot)(n:Nat): Laid l n 0 f0:=⟨Un n,J2 n 1 aN,J2 n 2 aN,fun a b=>⟨fun h=>absurd h (K2 n a b),fun⟨x,hx,_⟩=>by simp at hx⟩⟩
theorem Laid.aj1{l:List Slot}{f:Nat→Slot}(h:Laid l n k f)(hd:l.Pairwise fun x y=>x.id≠y.id)(hk:k<l.length): ∀ i,i<n→(f i).state=1→(f i).id≠(pw l k).id:=fun i hi hs e=>by
 obtain⟨x,hx,e1,_⟩:=(h.has (f i).id (f i).v).1 ⟨i,hi,hs,rfl,rfl⟩;exact LQ hd hk x hx (e1.trans e)
theorem Laid.step{l:List Slot}{f:Nat→Slot}(h:Laid l n k f)(hk:k<l.length){i:Nat}(hi:i<n)(hs:(f i).state≠1)(ht:CV (upd f i ⟨1,(pw l k).id,(pw l k).v⟩) n): Laid l n (k+1) (upd f i ⟨1,(pw l k).id,(pw l k).v⟩):=by
 have q1:=lO f 1 i ⟨1,(pw l k).id,(pw l k).v⟩ n hi;have q2:=lO f 2 i ⟨1,(pw l k).id,(pw l k).v⟩ n hi;have h2:(f i).state=0:=by
  have a:=h.tab.states i hi;have b: ¬(f i).state=2:=fun e=>by
   have:=lO f 2 i ⟨0,0,0⟩ n hi;rw[if_pos e,h.WH] at this;simp at this
  omega
 rw[h2] at q1 q2;refine⟨ht,?_,?_,fun a b=>?_⟩
 ·have:=h.full;simp at q1;omega
 ·have:=h.WH;simp at q2;omega
 rw[wZ hi hs,h.has,DI hk];constructor
 ·rintro(⟨x,hx,e⟩|⟨rfl,rfl⟩)
  ·exact⟨x,List.mem_append_left _ hx,e⟩
  exact⟨_,List.mem_append_right _ dR,rfl,rfl⟩
 rintro⟨x,hx,e1,e2⟩;rcases List.mem_append.1 hx with hx|hx
 ·exact .inl ⟨x,hx,e1,e2⟩
 obtain rfl:x=pw l k:=by simpa using hx
 exact .inr ⟨e1.symm,e2.symm⟩
theorem Rows.aaG{w:World}{g:Nat} {cs:Array Value}(ha:aG w g 358 cs)(h: ∀ j,j<n*3→cs[j]? = #[Value.int .u8 0,.int .u32 0,.int .i64 0][j % 3]?): Rows w g n f0:=
 ⟨cs,ha,fun i hi=>⟨by rw[h _ aj,Nat.mul_mod_left];rfl,by rw[h _ aj,show(i*3+1) % 3=1 from aj];rfl,by rw[h _ aj,show(i*3+2) % 3=2 from aj];rfl⟩⟩
theorem Pb(p g n bU len aV:Nat)(f:Nat→Slot)(w:World)(h:eU w p g n bU len aV f)(hid: ∀ i,i<n→(f i).state=1→0≤(f i).id∧(f i).id<4294967296):
  Calls af 312 #[.pointer (some ⟨p,0,none⟩)] w fun e w'=>(∃ v,e= .returned v)∧(∃ f',eU w' p g n bU len 0 f'∧∀ a b,jE f' n a b↔jE f n a b)∧aI (fun k=>k=p∨k=g) w w':=by
 obtain⟨steps,hI⟩:=h.cQ;have hn:=h.bg;have tu:1≤n:=aj;have HC:=aa (Je p g n bU len aV steps f w hI ⟨tu,hn.2.2.2.2⟩);have HI:=aa hI;have HH:=aa h;have HID:=aa hid;have zQ:=hI.apart;clear h hI hid;go_enter Tryz.func312,Tryz.ntmps312;go_wp2_with fail;refine HC.o.mono ?_;rintro e w1 ⟨g2,cap,l,rfl,D3,-,hrow,hg2,hb1⟩;have kS:dS w1 p g n bU len aV steps f:=⟨HI.o.own.ai hb1,HI.o.rows.same (hb1.block _ HI.o.rows.lt),HI.o.apart⟩;have x0:w1.cell? ⟨p,0,none⟩=some (.slice (some ⟨g,0,none⟩) n n):=kS.own.cell 0;have x4:w1.cell? ⟨p,4,none⟩=some (.int .i64 steps):=kS.own.cell 4;have Mr:l.length=len:=by rw[D3.length_eq,sk,HH.o.full]
 have hst: ∀ k,k<l.length→(pw l k).state=1∧0≤(pw l k).id∧(pw l k).id<4294967296:=fun k hk=>by
  have hm:=(D3.mem_iff).1 (aaR hk);obtain⟨i,hi,hs,e⟩:=nK.1 hm;rw[←e];exact⟨hs,HID.o i hi hs⟩
 have hda:l.Pairwise fun x y=>x.id≠y.id:=(D3.pairwise_iff (fun h=>h.symm)).2 (BI HH.o.tab n (Nat.le_refl _))
 have QS: ∀ a b,(∃ x∈l.take l.length,x.id=a∧x.v=b)↔jE f n a b:=fun a b=>by
  rw[List.take_length];constructor
  ·rintro⟨x,hx,e1,e2⟩;obtain⟨i,hi,hs,e⟩:=nK.1 ((D3.mem_iff).1 hx);exact⟨i,hi,hs,by rw[e,e1],by rw[e,e2]⟩
  rintro⟨i,hi,hs,e1,e2⟩;exact⟨f i,(D3.mem_iff).2 (nK.2 ⟨i,hi,hs,rfl⟩),e1,e2⟩
 obtain⟨cur,pU,Wq⟩:=kS.rows;have hsz:n*3≤cur.size:=by have:=(eK.1 (Wq (n - 1) aj).2.2).1;omega
 have sw:=kS.rows.lt;have ajn:=aa (show aG w1 g 358 cur from pU);have wV:=aa kS;have nY:=aa hrow;have bz:=aa hb1;have HLL:=aa Mr;have HST:=aa hst;have HDA:=aa hda;have HUN:=aa QS;have yq:=aa (show g2≠p∧g2≠g∧g2<w1.heap.size from by
  have h1:=HI.o.own.lt;have h2:=HI.o.rows.lt;have h3:g2<w1.heap.size:=(dM hrow.own rfl).1;omega)
 clear kS hrow hb1 hst hda QS pU Wq D3 hg2 HC;go_wp2_with (refine wY rfl _ 313 rfl 358 _ 3 n g Tryz.underlying313 DK rfl (by simp[Value.cells,fw]) n cur rfl tu ajn.o hsz ?_;intro w2 cs2 ha2 hc2 hg2 hs2;have T12:aI (· =g) w1 w2:=(aI.refl _ _).grown hg2 (fun k e=>.inl (cM e).symm);have BM:=T12.arr wV.o.own zQ;have z3:w2.cell? ⟨p,3,none⟩=some (.int .i64 aV):=BM.cell 3;have m3:=BM.mark 3;have hpl:=BM.lt;have Yf:=aa BM;have iZ:=aa ha2;have zB:=aa hc2;have gh:=aa T12;clear ha2 hc2 hg2 hs2 T12 BM);have fj:dS (w2.setCell ⟨p,3,none⟩ (.int .i64 0)) p g n bU len (0:Nat) steps f0:=⟨Yf.o.put 3 (.int .i64 0),(Rows.aaG iZ.o zB.o).same (dH w2 ⟨p,3,none⟩ _ g (fun e=>zQ e.symm)),zQ⟩;have kf:aI (fun k=>k=p∨k=g) w1 (w2.setCell ⟨p,3,none⟩ (.int .i64 0)):=(gh.o.mono fun k _ hk=>.inr hk).put (p:=⟨p,3,none⟩) (.inl (.inl rfl)) _;have dN:om g2 (w2.setCell ⟨p,3,none⟩ (.int .i64 0)) l.length cap (pw l):=nY.o.same fun k hk hl=>by subst hk;exact kf.block _ hl (fun e=>by have:=yq.o;omega)
 obtain⟨w3,hw3⟩:=ae (w2.setCell ⟨p,3,none⟩ (.int .i64 0));rw[hw3] at fj kf dN ⊢;have gG:=aa fj;have jF:=aa kf;have gM:=aa dN;clear fj kf dN hw3 z3 m3 hpl Yf iZ zB gh x0 x4 ajn hsz sw;have amh:l.length≤4096:=by have:=HLL.o;omega
 go_loopw [23] (fun kt wr=>∃ (k:Nat) (f':Nat→Slot) (s:Int),k≤l.length∧kt= .int .i64 k∧dS wr p g n bU len (0:Nat) s f'∧Laid l n k f'∧om g2 wr l.length cap (pw l)∧aI (fun k=>k=p∨k=g) w1 wr) (fun kt _=>(l.length - intOf kt).toNat)
 case atStart=>exact⟨0,f0,steps,cm _,rfl,gG.o,Laid.zero l n,gM.o,jF.o⟩
 case round=>
  clear gG jF gM wV;obtain⟨k,f',s,hk,rfl,hI,hL,hR,hT⟩:=hrel;have HI:=aa hI;have HL:=aa hL;have HR:=aa hR;have HT:=aa hT;have x0:wr.cell? ⟨p,0,none⟩=some (.slice (some ⟨g,0,none⟩) n n):=hI.own.cell 0;have x4:wr.cell? ⟨p,4,none⟩=some (.int .i64 s):=hI.own.cell 4;have m4:=hI.own.mark 4;have hpl:=hI.own.lt;clear hI hL hR hT;have D6:(0:Int)≤(k:Int):=aj;by_cases hlt:k<l.length
  ·have oZ:(k:Int)<(l.length:Int):=by omega
   obtain⟨hs1,hs2,hs3⟩:=HST.o k hlt;obtain⟨sl,Mn⟩:=ae (pw l k);rw[Mn] at hs1 hs2 hs3;obtain⟨w4,hw4⟩:=ae (wr.alloc (.cells #[.int .u8 1,.int .u32 sl.id,.int .i64 sl.v] 358));obtain⟨tb,htb⟩:=ae wr.heap.size;have ha4:=aK hw4 htb;have hb4:=aL hw4;have pA:=aa ha4;have gH:=aa hb4;have pY:=aa Mn;have y1:=ha4.cl 1;clear ha4 hb4;go_wp2_with (refine dQ rfl 358 _ rfl HR.o (fun _=>rfl) k hlt rfl _ Tryz.underlying358 rfl sW ?_;rw[pY.o];dsimp only[fD]);have KQ:dS w4 p g n bU len (0:Nat) s f':=⟨HI.o.own.ai gH.o,HI.o.rows.same (gH.o.block _ HI.o.rows.lt),zQ⟩;obtain⟨i,hi,hsk,hsi,zo⟩:=xN HL.o.tab (by have:=HL.o.full;omega) (HL.o.aj1 HDA.o hlt);rw[pY.o] at hsk zo;have HF:=Find p g n bU len (0:Nat) s sl.id f' w4 KQ tu hn.2.2.2.2 ⟨hs2,hs3⟩ HL.o.tab.states;have hF:Calls af 245 #[.pointer (some ⟨p,0,none⟩),.int .u32 sl.id] w4 fun e w'=>e= .returned (.tuple #[.int .i64 (i:Int),.bool false])∧(∃ s,dS w' p g n bU len (0:Nat) s f')∧aI (· =p) w4 w':=HF.mono fun e w' h1=>by
    have e1:fe f' sl.id n n (uL sl.id % (n:Int)).toNat (-1)=((i:Int),false):=hsk;rw[e1] at h1;exact h1
   have Sr:=aa (show Laid l n (k+1) (upd f' i ⟨1,sl.id,sl.v⟩)from by have:=HL.o.step hlt hi hsi (by rw[pY.o];exact zo _);rwa [pY.o] at this);have Dn:(i:Int)<(n:Int):=aj;have amg:=hn.2.2.2.2;clear HF hsk hsi zo KQ;refine hF.mono ?_;clear hF;rintro e w5 ⟨rfl,⟨s5,Ej⟩,oG⟩;have CU:=oG.arr pA.o (fun e=>by have:=HI.o.own.lt;omega);have ahZ:aI (fun k=>k=p∨k=g) w1 w5:=(HT.o.ak gH.o).trans (oG.mono fun k _ hk=>.inl hk);have u0:w5.cell? ⟨p,0,none⟩=some (.slice (some ⟨g,0,none⟩) n n):=Ej.own.cell 0;have u1:=CU.cl 0;have u2:=CU.cl 1;have u3:=CU.cl 2;have rF:=aa (Ej.rows.there hi);have pZ:=aa Ej;have px:=aa ahZ;clear Ej oG ahZ CU y1 x0 x4 m4 gH pA;go_wp2_with fail;go_still_tail 7,br;change wpList _ _ _ _ _ w5.drew;refine wpList_store_mid rfl 358 _ _ rfl g (i*3) #[.int .u8 1,.int .u32 sl.id,.int .i64 sl.v] rfl rfl rF.o rfl qY ?_;have JQ:dS (w5.drew.setCells g (i*3) [.int .u8 1,.int .u32 sl.id,.int .i64 sl.v]) p g n bU len (0:Nat) s5 (upd f' i ⟨1,sl.id,sl.v⟩):=(show dS w5.drew p g n bU len (0:Nat) s5 f' from⟨pZ.o.own,pZ.o.rows.same rfl,zQ⟩).store hi ⟨1,sl.id,sl.v⟩;have pV:aI (fun k=>k=p∨k=g) w1 (w5.drew.setCells g (i*3) [.int .u8 1,.int .u32 sl.id,.int .i64 sl.v]):=(px.o.ak (az (Below.refl _ _))).grown (dr g (fD ⟨1,sl.id,sl.v⟩) (i*3) w5.drew).1 (fun k e=>.inl (.inr (cM e).symm));have hR6:om g2 (w5.drew.setCells g (i*3) [.int .u8 1,.int .u32 sl.id,.int .i64 sl.v]) l.length cap (pw l):=nY.o.same fun k hk hl=>by subst hk;exact pV.block _ hl (fun e=>by have:=yq.o;omega)
   obtain⟨w6,og⟩:=ae (w5.drew.setCells g (i*3) [.int .u8 1,.int .u32 sl.id,.int .i64 sl.v]);change wpList _ _ _ _ _ (w5.drew.setCells g (i*3) [.int .u8 1,.int .u32 sl.id,.int .i64 sl.v]);rw[og] at JQ pV hR6 ⊢;have kZ:=aa JQ;have vy:=aa pV;have HR6:=aa hR6;clear og JQ pV hR6 u0 u1 u2 u3 rF pZ px;go_wp2_with fail;go_roundw
   case rel=>exact⟨k+1,_,s5,aj,by go_num,kZ.o,Sr.o,HR6.o,vy.o⟩
   case measure=>simp[intOf];omega
  have oZ: ¬(k:Int)<(l.length:Int):=aj;obtain rfl:k=l.length:=aj;go_wp2_with fail;have JQ:dS (wr.setCell ⟨p,4,none⟩ (.int .i64 steps)) p g n bU len (0:Nat) steps f':=⟨HI.o.own.put 4 _,HI.o.rows.same (dH wr ⟨p,4,none⟩ _ g (fun e=>zQ e.symm)),zQ⟩;have pV:aI (fun k=>k=p∨k=g) w1 (wr.setCell ⟨p,4,none⟩ (.int .i64 steps)):=HT.o.put (p:=⟨p,4,none⟩) (.inl (.inl rfl)) _;refine bodyPost_end (results_none Tryz.results312 _ _ _) rfl ⟨⟨_,rfl⟩,⟨f',⟨⟨steps,JQ⟩,HL.o.tab,by rw[HL.o.full];exact HLL.o,HL.o.WH,hn⟩,fun a b=>(HL.o.has a b).trans (HUN.o a b)⟩,(aI.aU bz.o).trans pV⟩
end ki
end
section
namespace ki
def afG(p g n bU len:Nat)(id v:Int)(f:Nat→Slot)(w:World)(e:Ending)(w':World): Prop:=e= .returned (.int .i64 0)∧(∃ f' gs,eU w' p g n bU (len+1) gs f'∧∀ a b,jE f' n a b↔jE f n a b∨(a=id∧b=v))∧aI (fun k=>k=p∨k=g) w w'
theorem Om{f:Nat→Slot}{n i:Nat}(hi:i<n)(hs:(f i).state≠1)(h2:(f i).state≤2)(id v:Int){len aV:Nat}(h1:cnt f 1 n=len)(hg:cnt f 2 n=aV): cnt (upd f i ⟨1,id,v⟩) 1 n=len+1∧cnt (upd f i ⟨1,id,v⟩) 2 n=(if(f i).state=2 then aV - 1 else aV)∧((f i).state=2→1≤aV):=by
 have q1:=lO f 1 i ⟨1,id,v⟩ n hi;have q2:=lO f 2 i ⟨1,id,v⟩ n hi;simp at q1 q2;by_cases h:(f i).state=2
 ·simp[h] at q1 q2 ⊢;omega
 simp[h,hs] at q1 q2 ⊢;omega
theorem XH(p g n bU len aV:Nat)(id v:Int)(f:Nat→Slot)(w:World)(h:eU w p g n bU len aV f)(hid:0≤id∧id<4294967296)(BQ: ∀ i,i<n→(f i).state=1→0≤(f i).id∧(f i).id<4294967296)(i:Nat)(hi:i<n)(hsk:vL f n id=((i:Int),false))(hst:(f i).state=0)(zo: ∀ v,CV (upd f i ⟨1,id,v⟩) n)(hl:len<bU):
  Calls af 242 #[.pointer (some ⟨p,0,none⟩),.int .u32 id,.int .i64 v] w (afG p g n bU len id v f w):=by
 obtain⟨steps,hI⟩:=h.cQ;have hn:=h.bg;have hs1:(f i).state≠1:=by rw[hst];decide
 obtain⟨k1,k2,k3⟩:=Om hi hs1 (h.tab.states i hi) id v h.full h.WH;rw[hst] at k2 k3;have hgb:aV+len≤n:=Tm;have k2':cnt (upd f i ⟨1,id,v⟩) 2 n=aV:=by simpa using k2
 have x0:w.cell? ⟨p,0,none⟩=some (.slice (some ⟨g,0,none⟩) n n):=hI.own.cell 0;have HF:=Find p g n bU len aV steps id f w hI aj hn.2.2.2.2 hid h.tab.states;have hF:Calls af 245 #[.pointer (some ⟨p,0,none⟩),.int .u32 id] w fun e w'=>e= .returned (.tuple #[.int .i64 (i:Int),.bool false])∧(∃ s,dS w' p g n bU len aV s f)∧aI (· =p) w w':=HF.mono fun e w' h1=>by
  exact U1
 have HH:=aa h;have HG:=aa hF;have M6:=aa (zo v);have HST:=aa hst;have HK:=aa (And.intro k1 k2');have HUN:=aa (fun a b=>wZ hi hs1 id v a b);have Nf:=aa (show ∀ j,j<n→(upd f i ⟨1,id,v⟩ j).state=1→0≤(upd f i ⟨1,id,v⟩ j).id∧(upd f i ⟨1,id,v⟩ j).id<4294967296 from fun j hj hs=>by
  by_cases e:j=i
  ·subst e;rw[upd_same];exact hid
  rw[bV _ _ e] at hs ⊢;exact BQ j hj hs)
 have hlm:((len:Int)==(bU:Int))=false:=fV;have tu:n≤16384:=hn.2.2.2.2;have Dn:(i:Int)<(n:Int):=aj;have hlen:len≤4096:=aj;have hgr:aV≤16384:=aj;have akw:=hid.1;have akv:=hid.2;clear h hF HF hI hsk hst zo hid hn BQ hs1 k1 k2 k3 k2';go_enter Tryz.func242,Tryz.ntmps242;go_wp2_with fail;refine ag (fP p g n w x0) ?_;go_wp2_with fail;refine HG.o.mono ?_;rintro e w1 ⟨rfl,⟨s1,kS⟩,sB⟩;have y1:w1.cell? ⟨p,1,none⟩=some (.int .i64 bU):=kS.own.cell 1;have y2:w1.cell? ⟨p,2,none⟩=some (.int .i64 len):=kS.own.cell 2;have wV:=aa kS;have jq:=aa sB;clear kS sB;go_wp2_with fail;refine wp_region_quiet_lit br br ?_;repeat(first|go_big_quiet_step ((fail))|quiet_step ((fail)))
 refine wpQuiet_nil ?_;intro _ hw';obtain⟨nq,hw''⟩:=hw';subst hw'';clear y1 y2;have rC:dS (w1.drewN nq) p g n bU len aV s1 f:=⟨wV.o.own.drewN nq,wV.o.rows.same rfl,wV.o.apart⟩;have jB:aI (fun k=>k=p∨k=g) w (w1.drewN nq):=(show aI (· =p) w (w1.drewN nq)from⟨jq.o.os,jq.o.tape,jq.o.output,jq.o.size,jq.o.block⟩).mono fun k _ h=>.inl h
 obtain⟨w2,hw2⟩:=ae (w1.drewN nq);rw[hw2] at rC jB ⊢;clear hw2 wV jq;have y0:w2.cell? ⟨p,0,none⟩=some (.slice (some ⟨g,0,none⟩) n n):=rC.own.cell 0;obtain⟨z0,_,_⟩:=rC.rows.cell hi;rw[HST.o] at z0;have rF:=aa (rC.rows.there hi);have zA:=aa rC;have gh:=aa jB;clear rC jB;go_wp2_with (refine wpList_store_mid rfl 358 _ _ rfl g (i*3) #[.int .u8 1,.int .u32 id,.int .i64 v] rfl rfl rF.o rfl qY ?_;have fj:=zA.o.store hi ⟨1,id,v⟩;have kf:=gh.o.grown (dr g (fD ⟨1,id,v⟩) (i*3) w2).1 (fun k e=>.inl (.inr AD));obtain⟨w3,hw3⟩:=ae (w2.setCells g (i*3) [.int .u8 1,.int .u32 id,.int .i64 v]);change dS (w2.setCells g (i*3) [.int .u8 1,.int .u32 id,.int .i64 v]) _ _ _ _ _ _ _ _ at fj;change aI _ w (w2.setCells g (i*3) [.int .u8 1,.int .u32 id,.int .i64 v]) at kf;change wpList _ _ _ _ _ (w2.setCells g (i*3) [.int .u8 1,.int .u32 id,.int .i64 v]);rw[hw3] at fj kf ⊢;clear hw3 y0 z0 rF;have v2:w3.cell? ⟨p,2,none⟩=some (.int .i64 len):=fj.own.cell 2;have m2:=fj.own.mark 2;have aki:=fj.own.lt;have gG:=aa fj;have jF:=aa kf;clear fj kf);have KQ:dS (w3.setCell ⟨p,2,none⟩ (.int .i64 ((len:Int)+1))) p g n bU ((len:Int)+1) (aV:Int) s1 (upd f i ⟨1,id,v⟩):=⟨gG.o.own.put 2 _,gG.o.rows.same (dH w3 ⟨p,2,none⟩ _ g (fun e=>gG.o.apart e.symm)),gG.o.apart⟩;have jJ:=jF.o.put (p:=⟨p,2,none⟩) (.inl (.inl rfl)) (.int .i64 ((len:Int)+1));obtain⟨w4,hw4⟩:=ae (w3.setCell ⟨p,2,none⟩ (.int .i64 ((len:Int)+1)));rw[hw4] at KQ jJ ⊢;have v0:w4.cell? ⟨p,0,none⟩=some (.slice (some ⟨g,0,none⟩) n n):=KQ.own.cell 0;have v2':w4.cell? ⟨p,2,none⟩=some (.int .i64 ((len:Int)+1)):=KQ.own.cell 2;have v3:w4.cell? ⟨p,3,none⟩=some (.int .i64 (aV:Int)):=KQ.own.cell 3;have tA:=aa KQ;have nX:=aa jJ;clear KQ jJ hw4 v2 m2 gG jF zA gh;by_cases h34:3*(n:Int)<4*((len:Int)+1+(aV:Int))
 ·skip;refine wp_region_quiet_lit br br ?_;repeat(first|go_big_quiet_step ((fail))|quiet_step ((fail)))
  refine wpQuiet_nil ?_;intro _ hw';obtain⟨nq,hw''⟩:=hw';subst hw'';have fq:eU (w4.drewN nq) p g n bU (len+1) aV (upd f i ⟨1,id,v⟩):=⟨⟨s1,by push_cast;exact⟨tA.o.own.drewN nq,tA.o.rows.same rfl,tA.o.apart⟩⟩,M6.o,HK.o.1,HK.o.2,AR⟩;have oG:aI (fun k=>k=p∨k=g) w (w4.drewN nq):=⟨nX.o.os,nX.o.tape,nX.o.output,nX.o.size,nX.o.block⟩;have ur:=aa fq;have px:=aa oG;clear fq oG v0 v2' v3;go_wp2_with fail;refine(Pb p g n bU (len+1) aV _ _ ur.o Nf.o).mono ?_;exact acr
 ·skip;refine wp_region_quiet_lit br br ?_;repeat(first|go_big_quiet_step ((fail))|quiet_step ((fail)))
  refine wpQuiet_nil ?_;intro _ hw';obtain⟨nq,hw''⟩:=hw';subst hw'';have fq:eU (w4.drewN nq) p g n bU (len+1) aV (upd f i ⟨1,id,v⟩):=⟨⟨s1,by push_cast;exact⟨tA.o.own.drewN nq,tA.o.rows.same rfl,tA.o.apart⟩⟩,M6.o,HK.o.1,HK.o.2,AR⟩;exact acu
theorem Rv(p g n bU len aV:Nat)(id v:Int)(f:Nat→Slot)(w:World)(h:eU w p g n bU len aV f)(hid:0≤id∧id<4294967296)(BQ: ∀ i,i<n→(f i).state=1→0≤(f i).id∧(f i).id<4294967296)(i:Nat)(hi:i<n)(hsk:vL f n id=((i:Int),false))(hst:(f i).state=2)(zo: ∀ v,CV (upd f i ⟨1,id,v⟩) n)(hl:len<bU):
  Calls af 242 #[.pointer (some ⟨p,0,none⟩),.int .u32 id,.int .i64 v] w (afG p g n bU len id v f w):=by
 obtain⟨steps,hI⟩:=h.cQ;have hn:=h.bg;have hs1:(f i).state≠1:=by rw[hst];decide
 obtain⟨k1,k2,k3⟩:=Om hi hs1 (h.tab.states i hi) id v h.full h.WH;rw[hst] at k2 k3;have hgb:aV+len≤n:=Tm;have kX:1≤aV:=k3 rfl;have hwg:IntKind.i64.wrap ((aV:Int) - 1)=(aV:Int) - 1:=by rw[IntKind.wrap_i64];omega
 have k2':cnt (upd f i ⟨1,id,v⟩) 2 n=(aV - 1):=by simpa using k2
 have x0:w.cell? ⟨p,0,none⟩=some (.slice (some ⟨g,0,none⟩) n n):=hI.own.cell 0;have HF:=Find p g n bU len aV steps id f w hI aj hn.2.2.2.2 hid h.tab.states;have hF:Calls af 245 #[.pointer (some ⟨p,0,none⟩),.int .u32 id] w fun e w'=>e= .returned (.tuple #[.int .i64 (i:Int),.bool false])∧(∃ s,dS w' p g n bU len aV s f)∧aI (· =p) w w':=HF.mono fun e w' h1=>by
  exact U1
 have HH:=aa h;have HG:=aa hF;have M6:=aa (zo v);have HST:=aa hst;have HK:=aa (And.intro k1 k2');have HUN:=aa (fun a b=>wZ hi hs1 id v a b);have Nf:=aa (show ∀ j,j<n→(upd f i ⟨1,id,v⟩ j).state=1→0≤(upd f i ⟨1,id,v⟩ j).id∧(upd f i ⟨1,id,v⟩ j).id<4294967296 from fun j hj hs=>by
  by_cases e:j=i
  ·subst e;rw[upd_same];exact hid
  rw[bV _ _ e] at hs ⊢;exact BQ j hj hs)
 have hlm:((len:Int)==(bU:Int))=false:=fV;have tu:n≤16384:=hn.2.2.2.2;have Dn:(i:Int)<(n:Int):=aj;have hlen:len≤4096:=aj;have hgr:aV≤16384:=aj;have akw:=hid.1;have akv:=hid.2;clear h hF HF hI hsk hst zo hid hn BQ hs1 k1 k2 k3 k2';go_enter Tryz.func242,Tryz.ntmps242;go_wp2_with fail;refine ag (fP p g n w x0) ?_;go_wp2_with fail;refine HG.o.mono ?_;rintro e w1 ⟨rfl,⟨s1,kS⟩,sB⟩;have y1:w1.cell? ⟨p,1,none⟩=some (.int .i64 bU):=kS.own.cell 1;have y2:w1.cell? ⟨p,2,none⟩=some (.int .i64 len):=kS.own.cell 2;have wV:=aa kS;have jq:=aa sB;clear kS sB;go_wp2_with fail;refine wp_region_quiet_lit br br ?_;repeat(first|go_big_quiet_step ((fail))|quiet_step ((fail)))
 refine wpQuiet_nil ?_;intro _ hw';obtain⟨nq,hw''⟩:=hw';subst hw'';clear y1 y2;have rC:dS (w1.drewN nq) p g n bU len aV s1 f:=⟨wV.o.own.drewN nq,wV.o.rows.same rfl,wV.o.apart⟩;have jB:aI (fun k=>k=p∨k=g) w (w1.drewN nq):=(show aI (· =p) w (w1.drewN nq)from⟨jq.o.os,jq.o.tape,jq.o.output,jq.o.size,jq.o.block⟩).mono fun k _ h=>.inl h
 obtain⟨w2,hw2⟩:=ae (w1.drewN nq);rw[hw2] at rC jB ⊢;clear hw2 wV jq;have y0:w2.cell? ⟨p,0,none⟩=some (.slice (some ⟨g,0,none⟩) n n):=rC.own.cell 0;obtain⟨z0,_,_⟩:=rC.rows.cell hi;rw[HST.o] at z0;have y3:w2.cell? ⟨p,3,none⟩=some (.int .i64 aV):=rC.own.cell 3;have m3:=rC.own.mark 3;have hpl:=rC.own.lt;have F8:dS (w2.setCell ⟨p,3,none⟩ (.int .i64 ((aV:Int) - 1))) p g n bU len ((aV:Int) - 1) s1 f:=⟨rC.own.put 3 _,rC.rows.same (dH w2 ⟨p,3,none⟩ _ g (fun e=>rC.apart e.symm)),rC.apart⟩;have B1:=jB.put (p:=⟨p,3,none⟩) (.inl (.inl rfl)) (.int .i64 ((aV:Int) - 1));obtain⟨R4,agY⟩:=ae (w2.setCell ⟨p,3,none⟩ (.int .i64 ((aV:Int) - 1)));rw[agY] at F8 B1;have q0:R4.cell? ⟨p,0,none⟩=some (.slice (some ⟨g,0,none⟩) n n):=F8.own.cell 0;have rF:=aa (F8.rows.there hi);have zA:=aa F8;have gh:=aa B1;clear rC jB F8 B1;go_wp2_with (refine wpList_store_mid rfl 358 _ _ rfl g (i*3) #[.int .u8 1,.int .u32 id,.int .i64 v] rfl rfl rF.o rfl qY ?_;have fj:=zA.o.store hi ⟨1,id,v⟩;have kf:=gh.o.grown (dr g (fD ⟨1,id,v⟩) (i*3) R4).1 (fun k e=>.inl (.inr AD));obtain⟨w3,hw3⟩:=ae (R4.setCells g (i*3) [.int .u8 1,.int .u32 id,.int .i64 v]);change dS (R4.setCells g (i*3) [.int .u8 1,.int .u32 id,.int .i64 v]) _ _ _ _ _ _ _ _ at fj;change aI _ w (R4.setCells g (i*3) [.int .u8 1,.int .u32 id,.int .i64 v]) at kf;change wpList _ _ _ _ _ (R4.setCells g (i*3) [.int .u8 1,.int .u32 id,.int .i64 v]);rw[hw3] at fj kf ⊢;clear hw3 y0 z0 rF;have v2:w3.cell? ⟨p,2,none⟩=some (.int .i64 len):=fj.own.cell 2;have m2:=fj.own.mark 2;have aki:=fj.own.lt;have gG:=aa fj;have jF:=aa kf;clear fj kf);have KQ:dS (w3.setCell ⟨p,2,none⟩ (.int .i64 ((len:Int)+1))) p g n bU ((len:Int)+1) ((aV:Int) - 1) s1 (upd f i ⟨1,id,v⟩):=⟨gG.o.own.put 2 _,gG.o.rows.same (dH w3 ⟨p,2,none⟩ _ g (fun e=>gG.o.apart e.symm)),gG.o.apart⟩;have jJ:=jF.o.put (p:=⟨p,2,none⟩) (.inl (.inl rfl)) (.int .i64 ((len:Int)+1));obtain⟨w4,hw4⟩:=ae (w3.setCell ⟨p,2,none⟩ (.int .i64 ((len:Int)+1)));rw[hw4] at KQ jJ ⊢;have v0:w4.cell? ⟨p,0,none⟩=some (.slice (some ⟨g,0,none⟩) n n):=KQ.own.cell 0;have v2':w4.cell? ⟨p,2,none⟩=some (.int .i64 ((len:Int)+1)):=KQ.own.cell 2;have v3:w4.cell? ⟨p,3,none⟩=some (.int .i64 ((aV:Int) - 1)):=KQ.own.cell 3;have tA:=aa KQ;have nX:=aa jJ;clear KQ jJ hw4 v2 m2 gG jF zA gh q0 y3 m3 hpl agY;by_cases h34:3*(n:Int)<4*((len:Int)+1+((aV:Int) - 1))
 ·skip;refine wp_region_quiet_lit br br ?_;repeat(first|go_big_quiet_step ((fail))|quiet_step ((fail)))
  refine wpQuiet_nil ?_;intro _ hw';obtain⟨nq,hw''⟩:=hw';subst hw'';have fq:eU (w4.drewN nq) p g n bU (len+1) (aV - 1) (upd f i ⟨1,id,v⟩):=⟨⟨s1,abN⟩,M6.o,HK.o.1,HK.o.2,AR⟩;have oG:aI (fun k=>k=p∨k=g) w (w4.drewN nq):=⟨nX.o.os,nX.o.tape,nX.o.output,nX.o.size,nX.o.block⟩;have ur:=aa fq;have px:=aa oG;clear fq oG v0 v2' v3;go_wp2_with fail;refine(Pb p g n bU (len+1) (aV - 1) _ _ ur.o Nf.o).mono ?_;exact acr
 ·skip;refine wp_region_quiet_lit br br ?_;repeat(first|go_big_quiet_step ((fail))|quiet_step ((fail)))
  refine wpQuiet_nil ?_;intro _ hw';obtain⟨nq,hw''⟩:=hw';subst hw'';have fq:eU (w4.drewN nq) p g n bU (len+1) (aV - 1) (upd f i ⟨1,id,v⟩):=⟨⟨s1,abN⟩,M6.o,HK.o.1,HK.o.2,AR⟩;exact acu
theorem aiq(p g n bU len aV:Nat)(id v:Int)(f:Nat→Slot)(w:World)(h:eU w p g n bU len aV f)(hid:0≤id∧id<4294967296)(BQ: ∀ i,i<n→(f i).state=1→0≤(f i).id∧(f i).id<4294967296)(ht: ∀ i,i<n→(f i).state=1→(f i).id≠id)(hl:len<bU):
  Calls af 242 #[.pointer (some ⟨p,0,none⟩),.int .u32 id,.int .i64 v] w (afG p g n bU len id v f w):=by
 have hn:=h.bg;obtain⟨i,hi,hsk,hs1,zo⟩:=xN h.tab (by have:=h.full;omega) ht;have h2:=h.tab.states i hi;rcases(show(f i).state=0∨(f i).state=2 from aj)with hs|hs
 ·exact XH p g n bU len aV id v f w h hid BQ i hi hsk hs zo hl
 ·exact Rv p g n bU len aV id v f w h hid BQ i hi hsk hs zo hl
