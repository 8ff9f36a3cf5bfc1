import Derived.Test.YtemighjbfanenaaGreatDoorPk17
import Derived.Shelf.Abstract
import Derived.RegionIn
import Derived.RangeFuncWrites
set_option linter.all false
set_option maxRecDepth 100000
set_option maxHeartbeats 16000000
namespace Go.Proofs.YtemighjbfanenaaGreatDoor
open List renaming getElem?_toArray→GZ,getElem?_cons_zero→Ow,getElem?_cons_succ→ZY
open RowKit
open yj (fU hasB)
open ky (QH Qg sP PZ KpA Slot CP pd X3 kept se nE)
open Go.Fence renaming wide→sQ
open Go.KeepsOthers renaming of_grownBy→ace,setCell→acf
open Go.World renaming putObj_heap_other→tA
open Int renaming toNat_natCast→ia
open List renaming mem_cons_self→jt,getElem?_eq_getElem→cI,getElem?_eq_none→gZ,mem_cons_of_mem→gy,length_map→hZ,append_toArray→Qn,getD_eq_getElem?_getD→bQ
open Nat renaming le_refl→aL
open RowKit.Below renaming heap_setCell→cH,refl→aq
open Tryz renaming prog→af
open _root_.Array renaming replicate_succ→Qp,replicate_zero→Qo
theorem ahM{p:Prop}(h:p:=by
 go_simp;go_wp2_with fail;refine bW hK (by exact ic.o) fun hH8=>?_
 clear hK K;refine cD 9 fun K hK=>?_
 refine fA _ (.tmp 15) (.tmp 23) 98 rfl 171 i0 (.agg #[.int .u32 0,.int .i64 0,.int .i64 0]) 3 24 Tryz.underlying98 Ta hz0 hz1 hz2 rfl aM v pre.length (Ba q.sb pre) rfl Du.o ⟨W.heap.size,0,none⟩ 1 [.int .u32 bi.id,.int .i64 (bi.av:Int),.int .i64 bi.aR] rfl rfl (ik W.drew _ _) (sA bi) QP ag ?_;intro ga ca w4 hr4 hg4
 replace hr4:=hr4.mono (T:=fun k=>w3.heap.size≤k) (fun k hk _=>by
  rcases hk with h8|h8
  ·exact h8
  subst h8;have h9:=HSW.o;show _≤_;simp;omega)
 have hz4:W.heap.size+1≤w4.heap.size:=by have:=hg4.size;simp at this;omega
 have wI:Below bb w w4:=(gI.o.trans (yb.o.mono mi.o)).grown hg4 (by have:=yb.o.size;have:=mi.o;omega) (fun k e=>by have:=Du.o.block k e;omega);have hW4:aD w4 bb 52 #[.pointer (some ⟨b,0,none⟩)]:=(HAB.o.keep yb.o).bo hg4 (fun e=>by have:=Du.o.block bb e;omega);have hO4:aD w4 ob 98 #[v]:=(HAO.o.keep yb.o).bo hg4 (fun e=>by have:=Du.o.block ob e;omega);have hC4:cA S w4 b n au az next ak L.length q:=HH.o.ai (by rw[jl.o];exact wI);have HS4:=aa (show w4.cell? ⟨bb,0,none⟩=some (.pointer (some ⟨b,0,none⟩))∧w4.cell? ⟨b,8,none⟩=some (.slice (some ⟨q.sg,0,none⟩) n q.sc)∧w4.rangeAt q.sg (i*3) [.int .u32 bi.id,.int .i64 (bi.av:Int),.int .i64 bi.aR] from⟨hW4.cell 0,hC4.own.cell 8,ae2⟩);have o4:=hO4.cl 0;have f4:=hO4.mark 0;have hB5:Below bb w (w4.setCell ⟨ob,0,none⟩ (.slice (some ⟨ga,0,none⟩) (pre.length+1) ca)):=wI.setCell (p:=⟨ob,0,none⟩) (by have:=HOB.o;show bb≤ob;omega) _;have Ii:=hW4.other (p:=⟨ob,0,none⟩) alM (.slice (some ⟨ga,0,none⟩) (pre.length+1) ca);have hC5:cA S (w4.setCell ⟨ob,0,none⟩ (.slice (some ⟨ga,0,none⟩) (pre.length+1) ca)) b n au az next ak L.length q:=HH.o.ai (by rw[jl.o];exact hB5);have Zd:=aa (show(w4.setCell ⟨ob,0,none⟩ (.slice (some ⟨ga,0,none⟩) (pre.length+1) ca)).cell? ⟨bb,0,none⟩=some (.pointer (some ⟨b,0,none⟩))∧(w4.setCell ⟨ob,0,none⟩ (.slice (some ⟨ga,0,none⟩) (pre.length+1) ca)).cell? ⟨b,8,none⟩=some (.slice (some ⟨q.sg,0,none⟩) n q.sc)∧(w4.setCell ⟨ob,0,none⟩ (.slice (some ⟨ga,0,none⟩) (pre.length+1) ca)).rangeAt q.sg (i*3) [.int .u32 bi.id,.int .i64 (bi.av:Int),.int .i64 bi.aR] from⟨Ii.cell 0,hC5.own.cell 8,ae1⟩);have HF:=aa (show ownPostG w3.heap.size (KpA lb g) (fun pre W=>w3.heap.size≤W.heap.size∧∃ v,aD W ob 98 #[v]∧aO (fun k=>w3.heap.size≤k) W 171 3 v pre.length (Ba q.sb pre)∧aD W bb 52 #[.pointer (some ⟨b,0,none⟩)]∧Below bb w W) (fun _ _ _=>False) (pre++ [x]) W Exit.normal {tmps:=#[],defers:=[]} (w4.setCell ⟨ob,0,none⟩ (.slice (some ⟨ga,0,none⟩) (pre.length+1) ca))from by
  have hbl: ∀ k,k<w3.heap.size→k≠ob→(w4.setCell ⟨ob,0,none⟩ (.slice (some ⟨ga,0,none⟩) (pre.length+1) ca)).heap[k]? =W.heap[k]?:=fun k hk hne=>((cH w4 ⟨ob,0,none⟩ _ k hne).trans (hg4.block k aeQ (fun e=>by have:=Du.o.block k e.symm;omega))).trans (yb.o.block k (by have:=HSW.o;omega))
  refine⟨((Below.th yb.o _).trans ((ace hg4 (fun j o e ho=>Du.o.cells e ho)).from _)).trans ((acf _ _ _).from _),⟨hbl lb alU alT,hbl g hg3 hgo⟩,by have:=HSW.o;simp;omega,_,hO4.put 0 _,?_,Ii,hB5⟩;have h7:=hr4.put (q:=⟨ob,0,none⟩) (fun k hk=>by
   have h8:=hr4.block k hk;show ob≠k
   omega) (.slice (some ⟨ga,0,none⟩) (pre.length+1) ca)
  rw[List.length_append];rw[show Ba q.sb (pre++ [x])=cO (Ba q.sb pre) pre.length (jN bi)from P6.o];exact h7)
 clear hr4 hg4 wI hW4 hO4 hC4 hB5 Ii hC5;refine bW hK (by exact HS4.o) fun hH9=>?_
 clear hK K;refine cD 10 fun K hK=>?_
 go_simp;go_wp2_with fail;refine bW hK (by exact Zd.o) fun XK=>?_
 clear hK K;refine bF ?_;exact HF.o):p:=h
theorem adi{p:Prop}(h:p:=by
 rw[hZ] at hlt;obtain⟨fn,tmps,assign,body,hy,hYR⟩:=hY p ⟨x,hV x hx⟩ W1 hj hlt;refine⟨fn,tmps,assign,body,hy,hYR.mono ?_⟩;rintro e W' (⟨he,Ei,hk⟩|⟨he,Ei⟩)
 ·exact .inl ⟨he,⟨p++ [⟨x,hV x hx⟩],dA,Ei⟩,hk⟩
 exact .inr ⟨he,⟨p++ [⟨x,hV x hx⟩],dA,Ei⟩⟩):p:=h
theorem ae2{p:Prop}(h:p:=by have:=hC4.fZ.range (fun _=>rfl) HI.o;rw[HBI.o] at this;exact this):p:=h
theorem ae1{p:Prop}(h:p:=by have:=hC5.fZ.range (fun _=>rfl) HI.o;rw[HBI.o] at this;exact this):p:=h
theorem aeQ{p:Prop}(h:p:=by have:=HZ1.o;have:=Tn.o;have:=HSW.o;(try simp);omega):p:=h
section
namespace Bk
open Go.RowKit Go.Shelf
theorem R5(n:Nat)(hn:2≤n){V:Slot→Prop}(lb g:Nat)(l:List Slot)(hl:l.length≤16384)(hV: ∀ x∈l,V x)(W0:World)(hA:sP W0 lb g l):
  SeqStopsK sQ n af 308 #[.pointer (some ⟨lb,0,none⟩)] (fun x: {x:Slot // V x}=>X3 x.1) (KpA lb g) (fun xs=>xs.map (·.1)=l) (fun _=>True) l.length W0:=by
 intro y J Jx W hb hJ hJx hY h0;refine CallsIn.mono (Qg n hn y lb g l hl (fun pre W=>∃ p:List {x:Slot // V x},p.map (·.1)=pre∧J p W) (fun pre W=>∃ p:List {x:Slot // V x},p.map (·.1)=pre∧Jx p W) W ?_ ?_ (hA.keep hb) ⟨[],rfl,h0⟩) ?_
 ·exact fun s A B row ⟨p,hp,hj⟩ hg hr=>⟨p,hp,hJ p A B row hj hg hr⟩
 ·rintro pre x W1 hx ⟨p,rfl,hj⟩ hlt;exact adi
 ·rintro e W' ⟨he,⟨xs,hx,p,hp,hj⟩|⟨pre,_,p,hp,hj⟩⟩
  ·exact⟨he,.inl ⟨p,hp.trans hx,hj⟩⟩
  exact⟨he,.inr ⟨p,trivial,hj⟩⟩
theorem uI{f:Nat→Slot}{m:Nat}(hT:CP f m): ∀ j,j≤m→(kept f j).Pairwise fun x y=>x.id≠y.id
 | 0,_=>List.Pairwise.nil
 | j+1,hj=>by
  by_cases hs:(f j).state=1
  ·rw[ky.r9 hs,List.pairwise_append];refine⟨uI hT j ag,List.pairwise_singleton _ _,fun x hx y hy=>?_⟩;exact acW
  rw[ky.ox hs];exact uI hT j ag
theorem WB{S:Nat→Prop}{w:World}{b n au:Nat}{az next ak:Int}{L:List bU}{q:bD}(h:bl S w b n au az next ak L q)(hr:L.Pairwise fun x y=>x.id<y.id){l:List Slot}
  (hp:l.Perm (kept q.f q.m)) (hs:l.Pairwise fun x y=>x.id≤y.id):l.map (fun s=>q.sb s.v.toNat)=L∧∀ s∈l,∃ i:Nat,i<n∧s.v=(i:Int):=by
 have hT:=h.bg.ids.tab;have Ib: ∀ s∈l,∃ x∈L,s.id=x.id∧s.v=(x.av:Int):=by
  intro s hs;obtain⟨j,hj,h1,rfl⟩:=nE.1 (hp.mem_iff.1 hs);obtain⟨x,hx,he⟩:=h.under j hj h1;obtain⟨j',Ei,K8,he',hv'⟩:=h.listed x hx;have:=hT.uniq j j' hj Ei h1 K8 (by rw[he,he']);subst this;exact⟨x,hx,he,hv'⟩
 have hm: ∀ s∈l,(q.sb s.v.toNat).id=s.id:=by
  intro s hs;obtain⟨x,hx,he,hv⟩:=Ib s hs;rw[hv,ia,(h.dQ x hx).2,he]
 have hlt:l.Pairwise fun x y=>x.id<y.id:=by
  have h1:l.Pairwise fun x y=>x.id≠y.id:=(List.Perm.pairwise_iff (fun {x y} S6=>S6.symm) hp).2 (uI hT _ (aL _))
  exact List.Pairwise.imp₂ (fun x y a b=>ag) hs h1
 refine⟨?_,fun s hs=>?_⟩
 ·refine sG.ext (key:=fun x:bU=>x.id) (sG.rV ?_) (sG.rV hr) fun x=>?_
  ·rw[List.pairwise_map];exact hlt.imp_of_mem (fun {x y} hx hy S6=>by rw[hm x hx,hm y hy];exact S6)
  rw[List.mem_map];constructor
  ·rintro⟨s,hs,rfl⟩;obtain⟨x,hx,he,hv⟩:=Ib s hs;rw[hv,ia,(h.dQ x hx).2];exact hx
  intro hx;obtain⟨j,hj,h1,he,hv⟩:=h.listed x hx;exact⟨q.f j,hp.mem_iff.2 (nE.2 ⟨j,hj,h1,rfl⟩),by rw[hv,ia,(h.dQ x hx).2]⟩
 ·obtain⟨x,hx,he,hv⟩:=Ib s hs;exact⟨x.av,(h.dQ x hx).1,hv⟩
end Bk
end
section
namespace Bk
open Go.RowKit Go.Shelf
attribute [local go_sem] Oper.semAt_some
abbrev BV(n:Nat)(s:Slot): Prop:=∃ i:Nat,i<n∧s.v=(i:Int)
def Ba{n:Nat}(sb:Nat→bU)(pre:List {x:Slot // BV n x})(i:Nat): List Value:=jN ((pre.map fun x=>sb x.1.v.toNat).getD i ⟨0,0,0⟩)
theorem QW{n:Nat}(sb:Nat→bU)(pre:List {x:Slot // BV n x})(x: {x:Slot // BV n x})(y:bU)(h:sb x.1.v.toNat=y): Ba sb (pre++ [x])=cO (Ba sb pre) pre.length (jN y):=by
 funext i;unfold Ba cO;have hl:(pre.map fun x=>sb x.1.v.toNat).length=pre.length:=hZ ..;rw[List.map_append];by_cases hi:i=pre.length
 ·subst hi;rw[if_pos rfl,bQ,List.getElem?_append_right ag,hl,Nat.sub_self,←h];rfl
 rw[if_neg hi];rcases Nat.lt_or_ge i pre.length with h1|h1
 ·rw[bQ,List.getElem?_append_left ag,←bQ]
 dsimp only;rw[bQ,bQ,gZ fH,gZ ag]
def ad5(L:List bU)(w:World)(e:Ending)(w':World): Prop:=∃ v,e= .returned v∧aO (fun k=>w.heap.size≤k) w' 171 3 v L.length (fun i=>jN (L.getD i ⟨0,0,0⟩))∧Below w.heap.size w w'
theorem Po{S:Nat→Prop}{w:World}{b n au:Nat}{az next ak:Int}{L:List bU}{q:bD}(h:bl S w b n au az next ak L q)(hr:L.Pairwise fun x y=>x.id<y.id): Calls af 104 #[.pointer (some ⟨b,0,none⟩)] w (ad5 L w):=by
 have HH:=aa h.bg;obtain⟨i0,Ta,hz0,hz1,hz2⟩:=info_parts Ke;have HE:=aa (show ∀ l:List Slot,l.Perm (kept q.f q.m)→(l.Pairwise fun x y=>x.id≤y.id)→l.map (fun s=>q.sb s.v.toNat)=L∧∀ s∈l,BV n s from fun l hp hs=>WB h hr hp hs);have HL:=aa (show L.length≤au from h.bg.ids.a8.1);have rh:=aa (show ∀ W,Below w.heap.size w W→Calls af 67 #[.pointer (some ⟨b,0,none⟩)] W (fun e w'=>e= .returned (.bool true)∧w'=W)from fun W hW=>dD b true W ((h.bg.ai hW).own.cell 3));have Ty:=aa (show ∀ W,Below w.heap.size w W→Calls af 220 #[.pointer (some ⟨q.ip,0,none⟩)] W (QH q.f q.m W)from fun W hW=>by
  obtain⟨st,hst⟩:=(h.bg.ai hW).ids.dQ;have hrm:=(h.bg.ai hW).ids.a8;exact PZ _ _ _ _ _ _ _ _ _ hst ⟨ag,hrm.2.2.2.2⟩)
 clear h hr;refine(callsIn_wide (n:=9)).1 ?_;refine callsIn_of_wp_marks Tryz.func104 rfl trivial ?_ rfl;simp only[Tryz.ntmps104,List.size_toArray,List.length_cons,List.length_nil,Nat.reduceAdd,Nat.reduceSub,Qp,Qo,List.push_toArray,Qn,List.nil_append,List.cons_append];obtain⟨w2,hw2⟩:=ae ((w.alloc (.cells #[.pointer (some ⟨b,0,none⟩)] 52)).alloc (.cells #[.slice none 0 0] 98));have a1:aD w2 w.heap.size 52 #[.pointer (some ⟨b,0,none⟩)]:=by rw[←hw2];exact(aD.fresh w _ _).alloc _
 have a2:aD w2 (w.heap.size+1) 98 #[.slice none 0 0]:=by rw[←hw2];exact aD.new dA
 have hb2:Below w.heap.size w w2:=by rw[←hw2];exact aw (aw (aq _ _) _) _
 have c1:w2.cell? ⟨w.heap.size,0,none⟩=some (.pointer (some ⟨b,0,none⟩)):=a1.cell 0;have c2:w2.cell? ⟨b,7,none⟩=some (.pointer (some ⟨q.ip,0,none⟩)):=(HH.o.ai hb2).own.cell 7;have A1:=aa a1;have A2:=aa a2;have cx:=aa hb2;clear a1 a2 hb2
 gi_wp2_with (first|(refine⟨trivial,?_⟩;gi_at_call 67;refine(callsIn_wide.2 (rh.o _ cx.o)).mono ?_;rintro e w3 ⟨rfl,hw3⟩;rw[hw3];clear hw3 w3)|(refine⟨trivial,?_⟩;gi_at_call 220;refine(callsIn_wide.2 (Ty.o _ cx.o)).mono ?_;rintro e w3 ⟨lb,g,l,rfl,hp,hs,hA,Pz,hgb,hne,hb3⟩))
 have AW:=A1.jS hb3;have AO:=A2.jS hb3;have ek:=cx.eo hb3;have HAA:=aa hA;have jd:=aa (show l.length≤4096 from by
  have h1:=hp.length_eq;have h2:=se q.f q.m;have h3:=HH.o.ids.full;have h4:=HH.o.ids.a8;omega)
 obtain⟨hEL,hEV⟩:=HE.o l hp hs;have hg3:g<w3.heap.size:=hA.lt;have alU:lb<w3.heap.size:=by obtain⟨cp,h1,_⟩:=hA.cell;exact h1.lt
 obtain⟨bb,wH⟩:=ae w.heap.size;obtain⟨ob,S8⟩:=ae (bb+1);have alM:bb≠ob:=ag;have an0:ob<w3.heap.size:=by have:=AO.o.lt;omega
 have aou:bb<w3.heap.size:=ag;have alT:lb≠ob:=by have:=A2.o.lt;omega
 have hgo:g≠ob:=by have:=A2.o.lt;omega
 rw[wH] at AW AO A1 A2 ⊢;rw[S8] at AO A2 ⊢;have jl:=aa wH;have HOB:=aa S8;clear wH S8 hp hs hA hb3 c1 c2 hw2 Pz hgb hne rh Ty HE;refine wpIn_rangeFunc_ownH (n:=9) rfl aM (gf:=308) (lb:=#[.pointer (some ⟨lb,0,none⟩)]) rfl trivial (enters_of Tryz.func308 aW rfl)
  (R5 8 ag lb g l (by have:=jd.o;omega) hEV w3 HAA.o) (fun h k=>⟨k.1.trans h.1,k.2.trans h.2⟩) (fun W i o o' h hc hw hk=>⟨tA ag,tA ag⟩) (aq _ _) (fun _=>rfl)
  (fun pre W=>w3.heap.size≤W.heap.size∧∃ v,aD W ob 98 #[v]∧aO (fun k=>w3.heap.size≤k) W 171 3 v pre.length (Ba q.sb pre)∧aD W bb 52 #[.pointer (some ⟨b,0,none⟩)]∧Below bb w W)
  (fun _ _ _=>False)
  (fun s A B row ⟨h0,v,h1,h2,h3,h4⟩ hgr hr=>⟨Nat.le_trans h0 hgr.size,v,oB _ _ _ (fun _:Unit=>_) () A B row h1 hgr hr,yC _ _ _ _ (fun _:Unit=>_) (fun _=>_) (fun _=>_) () A B row h2 hgr hr,oB _ _ _ (fun _:Unit=>_) () A B row h3 hgr hr,
   h4.grown hgr (by have:=h3.lt;omega) (fun k e=>by have:=(hr k e).1;omega)⟩)
  (fun _ _ _ _ _ h=>h.elim)
  ⟨aL _,_,AO.o,aO.nil _ _ _ _ _,AW.o,by have:=ek.o;rwa [jl.o] at this⟩
  (fun x a' _=>a'= {tmps:=#[.pointer (some ⟨b,0,none⟩),.pointer (some ⟨bb,0,none⟩),.slice none 0 0,.pointer (some ⟨ob,0,none⟩),undef,.int .i64 x.1.v,.pointer (some ⟨b,0,none⟩),.bool true,.pointer (some ⟨b,0,none⟩),.pointer (some ⟨b,0,none⟩),.pointer (some ⟨b,7,none⟩),.pointer (some ⟨q.ip,0,none⟩),.func (.func 308) #[] #[.pointer (some ⟨lb,0,none⟩)],.int .u32 x.1.id,.int .i64 x.1.v,undef,undef,undef,undef,undef,undef,undef,undef,undef,undef,undef],defers:=[]})
  (fun _ _ _ _ _ _ hs _ _=>hs) ?assign ?body ?done ?stop
 case assign=>
  intro i pre x W K hi hK;have hKK:=hK _ W (KeepsFrom.refl _ _) ⟨rfl,rfl⟩ hi rfl;dsimp only[X3]
  gi_wp2
  exact hKK
 case stop=>intro _ _ _ _ _ _ h;exact h.elim
 case done=>
  rintro D xs W hD Df ⟨h0,v,h1,h2,h3,h4⟩ hK;have hm:xs.map (fun x=>q.sb x.1.v.toNat)=L:=by rw[←hEL,←Df,List.map_map];rfl
  have hlen:xs.length=L.length:=by rw[←hm,hZ]
  have hrow:aO (fun k=>bb≤k) W 171 3 v L.length (fun i=>jN (L.getD i ⟨0,0,0⟩)):=by
   have h5:=h2.mono (T:=fun k=>bb≤k) (fun k hk _=>ag);unfold Ba at h5;rw[hm,hlen] at h5;exact h5
  have c1:=h1.cl 0;have HR:=aa hrow;have H4:=aa h4;have HK:=aa hK;clear h1 h2 h3 h4 hK hm hlen hrow
  gi_wp2
  have xN:=grownBy_putObj' W D (.deferred none);have lF:Below bb w (W.putObj D (.deferred none)):=H4.o.grown xN (by have:=H4.o.size;have:=jl.o;omega) (fun k e=>by cases e;omega);have hrow':aO (fun k=>bb≤k) (W.putObj D (.deferred none)) 171 3 v L.length (fun i=>jN (L.getD i ⟨0,0,0⟩)):=yC 0 _ _ _ (fun _:Unit=>_) (fun _=>_) (fun _=>_) () W _ (some D) HR.o xN (fun k e=>by cases e;exact⟨Nat.zero_le _,_,HK.o,rfl⟩);refine⟨dA,.inl ⟨_,_,rfl,run_takeDeferred HK.o,?_⟩⟩;refine⟨_,results_tmp rfl _ _ _,?_⟩;refine⟨v,rfl,?_,?_⟩
  ·rw[jl.o];exact hrow'
  rw[jl.o];exact lF
 case body=>
  rintro r pre x a' W hl hr ⟨h0,v,h1,h2,h3,h4⟩ rfl hlt;obtain⟨i,hi,hxv⟩:=x.2;have hcm:cA S W b n au az next ak L.length q:=HH.o.ai (by rw[jl.o];exact h4);have hli:(i:Int)<(n:Int):=ag;have yZ:(0:Int)≤(i:Int):=ag;rw[hxv]
  gi_wp2
  obtain⟨bi,Th⟩:=ae (q.sb i);have hrg:=hcm.fZ.range (fun _=>rfl) hi;rw[Th] at hrg;have HS0:=aa (show W.drew.cell? ⟨bb,0,none⟩=some (.pointer (some ⟨b,0,none⟩))∧W.drew.cell? ⟨b,8,none⟩=some (.slice (some ⟨q.sg,0,none⟩) n q.sc)∧W.drew.rangeAt q.sg (i*3) [.int .u32 bi.id,.int .i64 (bi.av:Int),.int .i64 bi.aR] from⟨h3.cell 0,hcm.own.cell 8,hrg⟩);have mg:Below W.heap.size W (W.drew.alloc (.cells #[.int .u32 bi.id,.int .i64 (bi.av:Int),.int .i64 bi.aR] 171)):=aw (ay (aq _ _)) _;have Du:=aa (h2.keep mg);have yb:=aa mg;have gI:=aa h4;have HAB:=aa h3;have HAO:=aa h1;have HI:=aa hi;have HBI:=aa Th;have HSW:=aa h0;have mi:=aa (show bb≤W.heap.size from ag);have HZ1:=aa (show(W.drew.alloc (.cells #[.int .u32 bi.id,.int .i64 (bi.av:Int),.int .i64 bi.aR] 171)).heap.size=W.heap.size+1 from dA);have Tn:=aa (show(W.alloc (.cells #[.int .u32 bi.id,.int .i64 (bi.av:Int),.int .i64 bi.aR] 171)).heap.size=W.heap.size+1 from dA);have hcx:=hcm.ai mg;have ic:=aa (show(W.drew.alloc (.cells #[.int .u32 bi.id,.int .i64 (bi.av:Int),.int .i64 bi.aR] 171)).cell? ⟨bb,0,none⟩=some (.pointer (some ⟨b,0,none⟩))∧(W.drew.alloc (.cells #[.int .u32 bi.id,.int .i64 (bi.av:Int),.int .i64 bi.aR] 171)).cell? ⟨b,8,none⟩=some (.slice (some ⟨q.sg,0,none⟩) n q.sc)∧(W.drew.alloc (.cells #[.int .u32 bi.id,.int .i64 (bi.av:Int),.int .i64 bi.aR] 171)).rangeAt q.sg (i*3) [.int .u32 bi.id,.int .i64 (bi.av:Int),.int .i64 bi.aR] from⟨(h3.keep mg).cell 0,hcx.own.cell 8,by have:=hcx.fZ.range (fun _=>rfl) hi;rw[Th] at this;exact this⟩);have o0:W.drew.cell? ⟨ob,0,none⟩=some v:=h1.cell 0;have o1:(W.drew.alloc (.cells #[.int .u32 bi.id,.int .i64 (bi.av:Int),.int .i64 bi.aR] 171)).cell? ⟨ob,0,none⟩=some v:=(h1.keep mg).cell 0;have o2:(W.alloc (.cells #[.int .u32 bi.id,.int .i64 (bi.av:Int),.int .i64 bi.aR] 171)).cell? ⟨ob,0,none⟩=some v:=o1;have hpl:pre.length≤4096:=by have:=jd.o;omega
  have P6:=aa (show Ba q.sb (pre++ [x])=cO (Ba q.sb pre) pre.length (jN bi)from QW q.sb pre x bi (by rw[hxv,ia,Th]));clear h0 h1 h2 h3 h4 hrg mg hcx hcm Th hr;refine yR (S:=fun w'=>w'.cell? ⟨bb,0,none⟩=some (.pointer (some ⟨b,0,none⟩))∧w'.cell? ⟨b,8,none⟩=some (.slice (some ⟨q.sg,0,none⟩) n q.sc)∧w'.rangeAt q.sg (i*3) [.int .u32 bi.id,.int .i64 (bi.av:Int),.int .i64 bi.aR]) (fun⟨_,_,hx⟩=>hx) iN aW HS0.o (fun hHeld=>?_);refine cS 1 (some 16) hHeld ?_;refine cS 2 (some 17) hHeld ?_;refine cS 3 (some 18) hHeld ?_;refine cS 4 (some 19) hHeld ?_;refine cS 5 (some 20) hHeld ?_;refine ty 6 ?_;refine fj 7 (some 22) hHeld 171 (.tmp 21) q.sg (i*3) [.int .u32 bi.id,.int .i64 (bi.av:Int),.int .i64 bi.aR] _ (fun w' h=>h.2.2) Tryz.underlying171 rfl e9 ?_;try simp only[aQ]
  refine qc 0 8 (fun K hK=>?_) fun K hK=>?_
  ·go_simp;go_wp2_with fail;refine bW hK (by exact HS0.o) fun hH0=>?_
   clear hK K;refine cD 8 fun K hK=>?_
   exact ahM
  go_simp;go_wp2_with fail;refine bW hK (by exact ic.o) fun hH8=>?_
  clear hK K;refine cD 0 fun K hK=>?_
  exact ahM
end Bk
end
section
namespace Bk
structure KQ(n au:Nat)(az next ak:Int)(L:List bU): Prop where
 MC:tS.CF n au az=true
 Pp:1≤next∧next<4294967296
 WK:0≤ak∧ak≤1099511627776
 afq:L.length≤au
 WG:L.Pairwise fun x y=>x.id<y.id
 kids: ∀ x∈L,1≤x.id∧x.id<next
 WE: ∀ x∈L,x.av<n
 afr:L.Pairwise fun x y=>x.av≠y.av
 ahR: ∀ x∈L,x.aR=0∨ak<x.aR∧x.aR≤1099511627776
variable{n:Nat}{az ak:Int}{S:Nat→Prop}{w:World}
theorem KQ.au{au:Nat} {next:Int} {L:List bU}(h:KQ n au az next ak L): au≤4096:=by
 have:=tS.lL h.MC;omega
def VI(x:bU): Raw:=⟨x.id,x.av,x.aR⟩
theorem aae(x:bU): toB (VI x)=x:=by cases x;simp[toB,VI]
theorem VH{next:Int} : ∀ (l M:List bU) (last:Int),(∀ x∈l,last<x.id)→(l.Pairwise fun x y=>x.id<y.id)→(l.Pairwise fun x y=>x.av≠y.av)→
  (∀ x∈l,x.id<next∧x.av<n∧(x.aR=0∨ak<x.aR∧x.aR≤1099511627776))→(∀ x∈l,∀ y∈M,y.av≠x.av)→S5 n next ak M last (l.map VI)=some (M++l)
 | [],M,_,_,_,_,_,_=>by simp[S5]
 | x::l,M,last,h1,h2,h3,h4,h5=>by
  rw[List.pairwise_cons] at h2 h3;have hx:=h4 x (jt ..);have hm:Db n next ak M last (VI x)=true:=by
   simp only[Db,VI,Bool.and_eq_true,Bool.or_eq_true,decide_eq_true_eq,List.all_eq_true,Bool.not_eq_true',decide_eq_false_iff_not,beq_iff_eq];refine⟨decide_eq_true (h1 x (jt ..)),decide_eq_true hx.1,decide_eq_true (Int.natCast_nonneg _),decide_eq_true (Int.ofNat_lt.2 hx.2.1),fun y hy=>?_,?_⟩
   ·have h6:=h5 x (jt ..) y hy;exact decide_eq_false (fun e=>h6 (Int.ofNat.inj e))
   rcases hx.2.2 with e|⟨e1,e2⟩
   ·exact .inl e
   exact .inr ⟨decide_eq_true e1,decide_eq_true e2⟩
  rw[List.map_cons,S5,if_pos hm,aae];show S5 n next ak (M++ [x]) x.id (l.map VI)=_
  rw[VH l (M++ [x]) x.id h2.1 h2.2 h3.2 (fun y hy=>h4 y (gy _ hy)) (fun y hy z hz=>by
   rcases List.mem_append.1 hz with hz|hz
   ·exact h5 y (gy _ hy) z hz
   rw[List.mem_singleton] at hz;subst hz;exact h3.1 y hy)]
  simp
theorem KQ.of{au:Nat} {next:Int} {L:List bU}(h:KQ n au az next ak L): nP n au next ak (L.map VI)=some L:=by
 unfold nP;rw[if_neg (by rw[hZ];have:=h.Pp;have:=h.WK;have:=h.afq;omega)];exact VH L [] 0 (fun x hx=>by have:=h.kids x hx;omega) h.WG h.afr (fun x hx=>⟨(h.kids x hx).2,h.WE x hx,h.ahR x hx⟩) (fun _ _ _ hy=>by cases hy)
theorem aat{A:Option Addr}{c:Nat}{L:List bU}(h:aO S w 171 3 (.slice A L.length c) L.length (fun i=>jN (L.getD i ⟨0,0,0⟩))): YH w A (L.map VI):=by
 intro hne;have hl:0<L.length:=by
  rcases Nat.eq_zero_or_pos L.length with h0|h0
  ·exact absurd (by rw[List.length_eq_zero_iff.1 h0];rfl) hne
  exact h0
 obtain⟨g,cap,hv,_,_,_,hg⟩:=h.form hl;injection hv with e1 _ e2
 subst e1 e2;refine⟨g,0,rfl,hg,fun k hk=>?_⟩;rw[hZ] at hk;have h1:=h.range (fun _=>rfl) hk;rw[Nat.zero_add];have e:(L.map VI).getD k ⟨0,0,0⟩=VI (L.getD k ⟨0,0,0⟩):=by
  rw[bQ,bQ,List.getElem?_map,cI hk];rfl
 rw[e];exact h1
theorem cA.xI{b au:Nat} {next:Int} {len:Nat}{q:bD}(h:cA S w b n au az next ak len q): w.rangeAt b 0 [.int .i64 n,.int .i64 au,.int .i64 az]:=by
 intro j u hj;rw[Nat.zero_add]
 match j,hj with
 | 0,hj=>exact(h.own.cell 0).trans hj
 | 1,hj=>exact(h.own.cell 1).trans hj
 | 2,hj=>exact(h.own.cell 2).trans hj
def ZP(n au:Nat)(az next ak:Int)(L:List bU)(w:World)(e:Ending)(w':World): Prop:=∃ b S q,e= .returned (.pointer (some ⟨b,0,none⟩))∧bl S w' b n au az next ak L q∧(∀ k,S k→w.heap.size≤k)∧Below w.heap.size w w'
theorem GS{b au:Nat} {next:Int} {L:List bU}{q:bD}(h:bl S w b n au az next ak L q)(hk:KQ n au az next ak L): Calls af 66 #[.pointer (some ⟨b,0,none⟩)] w (ZP n au az next ak L w):=by
 have HT:=aa (dD b true w (h.bg.own.cell 3));have HLS:=aa (show ∀ W,Below w.heap.size w W→Calls af 104 #[.pointer (some ⟨b,0,none⟩)] W (ad5 L W)from fun W hW=>Po (h.ai hW) hk.WG);have HH:=aa h.bg;have HK:=aa hk;have nW:=aa hk.of;have Iu:=aa (show w.drew.rangeAt b 0 [.int .i64 n,.int .i64 au,.int .i64 az]∧w.drew.cell? ⟨b,5,none⟩=some (.int .u32 next)∧w.drew.cell? ⟨b,4,none⟩=some (.int .i64 ak)from⟨h.bg.xI,h.bg.own.cell 5,h.bg.own.cell 4⟩);clear h hk;go_enter Tryz.func66,Tryz.ntmps66;go_wp2_with fail;refine ah HT.o ?_;go_wp2_with fail;refine sY (S:=fun w'=>w'.rangeAt b 0 [.int .i64 n,.int .i64 au,.int .i64 az]∧w'.cell? ⟨b,5,none⟩=some (.int .u32 next)∧w'.cell? ⟨b,4,none⟩=some (.int .i64 ak)) (by exact Iu.o) fun hHeld=>?_
 refine cS 0 (some 9) hHeld ?_;refine cS 1 (some 10) hHeld ?_;refine cS 2 (some 11) hHeld ?_;refine ty 3 ?_;refine fj 4 (some 13) hHeld 80 (.tmp 12) b 0 [.int .i64 n,.int .i64 au,.int .i64 az] _ (fun w' h=>h.1) Tryz.underlying80 rfl dF ?_;refine cS 5 (some 14) hHeld ?_;refine cS 6 (some 15) hHeld ?_;refine cS 7 (some 16) hHeld ?_;refine cS 8 (some 17) hHeld ?_;refine cS 9 (some 18) hHeld ?_;refine cS 10 (some 19) hHeld ?_;refine cS 11 (some 20) hHeld ?_;refine cS 12 (some 21) hHeld ?_;refine ty 13 ?_;refine cD 14 fun K hK=>?_
 go_simp;refine(HLS.o _ (by repeat(first|with_reducible exact aq _ _|with_reducible refine aw ?_ _|with_reducible refine ay ?_|with_reducible refine bK ?_ _|(refine eK ?_ (by simp at *;omega) _)|with_reducible refine ar ?_ (by assumption)))).mono ?_;rintro e w2 ⟨v,rfl,hrow,hb2⟩;have nL:Below w.heap.size w w2:=ar (ay (aq _ _)) hb2;have HS2:=aa (show w2.rangeAt b 0 [.int .i64 n,.int .i64 au,.int .i64 az]∧w2.cell? ⟨b,5,none⟩=some (.int .u32 next)∧w2.cell? ⟨b,4,none⟩=some (.int .i64 ak)from⟨(HH.o.ai nL).xI,(HH.o.ai nL).own.cell 5,(HH.o.ai nL).own.cell 4⟩);obtain⟨VA,vc,rfl⟩:=hrow.any;have GD:=aa (EH n au az next ak (L.map VI) VA vc w2 HK.o.MC (aat hrow) (by rw[hZ];have:=HK.o.afq;have:=HK.o.au;omega) (by have:=HK.o.Pp;omega) (by rintro x hx;obtain⟨y,hy,rfl⟩:=List.mem_map.1 hx;have:=HK.o.kids y hy;have:=HK.o.Pp;show 0≤y.id∧y.id<4294967296;omega));rw[hZ] at GD;have cx:=aa nL;clear hrow hb2 nL;refine bW hK (by exact HS2.o) fun aoB=>?_
 clear hK K;refine cD 15 fun K hK=>?_
 go_simp;refine GD.o.mono ?_;rintro e w3 ⟨hb3,hm⟩;rw[nW.o] at hm;obtain⟨b',S',q',rfl,cK,hS'⟩:=hm;have XN:=ar cx.o hb3;have HS3:=aa (show w3.rangeAt b 0 [.int .i64 n,.int .i64 au,.int .i64 az]∧w3.cell? ⟨b,5,none⟩=some (.int .u32 next)∧w3.cell? ⟨b,4,none⟩=some (.int .i64 ak)from⟨(HH.o.ai XN).xI,(HH.o.ai XN).own.cell 5,(HH.o.ai XN).own.cell 4⟩);have HF:=aa (show ZP n au az next ak L w (.returned (.pointer (some ⟨b',0,none⟩))) w3 from⟨b',S',q',rfl,cK,fun k hk=>by have:=hS' k hk;have:=cx.o.size;omega,XN⟩);clear hb3 cK hS' XN GD;refine bW hK (by exact HS3.o) fun abe=>?_
 clear hK K;refine cS 16 (some 8) abe ?_;refine cS 17 (some 25) abe ?_;refine cS 18 (some 26) abe ?_;refine cS 19 (some 3) abe ?_;refine ty 20 ?_;refine bF ?_;go_wp2_with fail;go_ret;exact HF.o
end Bk
end
section
namespace Bk
def abj(x:bU): Array Value:=#[.agg #[.int .u32 x.id,.int .i64 x.av,.int .i64 x.aR]]
def KpV(vb:Nat)(v:Value)(A B:World): Prop:=B.heap[vb]? =A.heap[vb]?∧∀ k,v.ownBlock=some k→B.heap[k]? =A.heap[k]?
def abB(W:World)(v:Value)(L:List bU): Prop:=aO (fun _=>True) W 171 3 v L.length (fun i=>jN (L.getD i ⟨0,0,0⟩))
structure yK(W:World)(vb:Nat)(v:Value)(L:List bU): Prop where
 cell:aD W vb 98 #[v]
 row:abB W v L
theorem yK.keep{W W':World}{vb:Nat}{v:Value}{L:List bU}(h:yK W vb v L)(hb:Below W.heap.size W W'): yK W' vb v L:=⟨h.cell.keep hb,aO.keep h.row hb⟩
theorem yK.lt{W:World}{vb:Nat}{v:Value}{L:List bU}(h:yK W vb v L): ∀ k,v.ownBlock=some k→k<W.heap.size:=fun _ hk=>(dP h.row.own hk).1
theorem NB(n:Nat)(hn:2≤n)(y vb:Nat)(v:Value)(L:List bU)(hL:L.length≤16384)(J Jx:List bU→World→Prop)(W:World)(hJ:AbidesFrom W.heap.size J)
  (hY: ∀ pre x W1,x∈L→J pre W1→pre.length<L.length→YieldAt sQ (n - 1) af y (abj x) W1 fun e W'=>
   (e= .returned (.bool true)∧J (pre++ [x]) W'∧KpV vb v W1 W')∨(e= .returned (.bool false)∧Jx (pre++ [x]) W'))
  (hA:yK W vb v L) (h0:J [] W) :
  CallsIn sQ n af 363 #[.func (.yield y) #[] #[],.pointer (some ⟨vb,0,none⟩)] W fun e W'=>(∃ v,e= .returned v)∧
   ((∃ xs:List bU,xs=L∧J xs W')∨(∃ pre:List bU,pre <+: L∧Jx pre W')):=by
 obtain⟨A,cap,rfl⟩:=aO.any hA.row;obtain⟨g,hg⟩: ∃ g,0<L.length→A=some ⟨g,0,none⟩:=by
  rcases Nat.eq_zero_or_pos L.length with h|h
  ·exact⟨0,fun h'=>ag⟩
  obtain⟨g,cap',hv,_⟩:=aO.form hA.row h;injection hv with e1 _ e2
  exact⟨g,fun _=>e1⟩
 have x0:W.cell? ⟨vb,0,none⟩=some (.slice A L.length cap):=hA.cell.cell 0;have HRw:=hA.row;clear hA;refine callsIn_of_wp Tryz.func363 rfl trivial ?_ rfl;simp only[Tryz.ntmps363,List.size_toArray,List.length_cons,List.length_nil,Nat.reduceAdd,Nat.reduceSub,Qp,Qo,List.push_toArray,Qn,List.nil_append,List.cons_append]
 gi_wp2
 gi_loopw [7] (fun p wr=>∃ j:Nat,j≤L.length∧p= .int .i64 j∧J (L.take j) wr∧abB wr (.slice A L.length cap) L) (fun p _=>(L.length - intOf p).toNat)
 case atStart=>exact⟨0,Nat.zero_le _,rfl,h0,HRw⟩
 case round=>
  obtain⟨j,hj,rfl,hJj,hR⟩:=hrel;by_cases hlt:j<L.length
  ·obtain rfl:=hg ag;have tr:(j:Int)<(L.length:Int):=ag;have hl0:(0:Int)≤(j:Int):=ag;obtain⟨s,hs⟩:=ae (L.getD j ⟨0,0,0⟩);have hrg:=aO.range hR (fun _=>rfl) hlt;rw[hs] at hrg;have r0:wr.cell? ⟨g,j*3,none⟩=some (.int .u32 s.id):=hrg 0 _ rfl;have r1:wr.cell? ⟨g,j*3+1,none⟩=some (.int .i64 s.av):=hrg 1 _ rfl;have r2:wr.cell? ⟨g,j*3+2,none⟩=some (.int .i64 s.aR):=hrg 2 _ rfl;have MS:L.take (j+1)=L.take j++ [s]:=by
    rw[List.take_succ_eq_append_getElem hlt,←hs];rw[List.getD,cI hlt];rfl
   have hsm:s∈L:=by rw[←hs,List.getD,cI hlt];exact List.getElem_mem _
   obtain⟨w2,hw2⟩:=ae (wr.alloc (.cells #[.int .u32 s.id,.int .i64 s.av,.int .i64 s.aR] 171));have hb2:=aJ hw2;have hJ2:J (L.take j) w2:=hJ _ wr w2 none hJj hb2.none (fun r e=>pZ);have qo:abB w2 (.slice (some ⟨g,0,none⟩) L.length cap) L:=aO.keep hR hb2;have hlen:(L.take j).length<L.length:=AI;obtain⟨fn,tmps,assign,body,hy,hYR⟩:=hY (L.take j) s w2 hsm hJ2 hlen;dsimp only[abj] at hy;have ha2:aD w2 wr.heap.size 171 #[.int .u32 s.id,.int .i64 s.av,.int .i64 s.aR]:=by rw[←hw2];exact aD.fresh wr _ _
   have q0:w2.cell? ⟨wr.heap.size,0,none⟩=some (.int .u32 s.id):=ha2.cell 0;have q1:w2.cell? ⟨wr.heap.size,1,none⟩=some (.int .i64 s.av):=ha2.cell 1;have q2:w2.cell? ⟨wr.heap.size,2,none⟩=some (.int .i64 s.aR):=ha2.cell 2
   gi_wp2
   refine⟨fun h=>(nomatch h),hYR.mono ?_⟩;rintro e W3 (⟨rfl,hJ3,hk3⟩|⟨rfl,af9⟩)
   ·have dS:abB W3 (.slice (some ⟨g,0,none⟩) L.length cap) L:=aO.OU qo (hk3.2 g rfl)
    gi_wp2
    exact Wr
   gi_wp2
   refine bodyPost_ret (results_none rfl _ _ _) rfl ?_;exact⟨⟨_,rfl⟩,.inr ⟨L.take j++ [s],by rw[←MS];exact List.take_prefix _ _,af9⟩⟩
  have tr: ¬(j:Int)<(L.length:Int):=ag;obtain rfl:j=L.length:=ag
  gi_wp2
  go_end0;rw[List.take_length] at hJj;exact⟨⟨_,rfl⟩,.inl hJj⟩
theorem E0(n:Nat)(hn:2≤n){V:bU→Prop}(vb:Nat)(v:Value)(L:List bU)(hL:L.length≤16384)(hV: ∀ x∈L,V x)(W0:World)(hA:yK W0 vb v L):
  SeqStopsK sQ n af 363 #[.pointer (some ⟨vb,0,none⟩)] (fun x: {x:bU // V x}=>abj x.1) (KpV vb v) (fun xs=>xs.map (·.1)=L) (fun p=>p.map (·.1) <+: L) L.length W0:=by
 intro y J Jx W hb hJ hJx hY h0;refine CallsIn.mono (NB n hn y vb v L hL (fun pre W=>∃ p:List {x:bU // V x},p.map (·.1)=pre∧J p W) (fun pre W=>∃ p:List {x:bU // V x},p.map (·.1)=pre∧Jx p W) W ?_ ?_ (hA.keep (hb.mono (aL _))) ⟨[],rfl,h0⟩) ?_
 ·exact fun s A B row ⟨p,hp,hj⟩ hg hr=>⟨p,hp,hJ p A B row hj hg hr⟩
 ·rintro pre x W1 hx ⟨p,rfl,hj⟩ hlt;exact adi
 ·rintro e W' ⟨he,⟨xs,hx,p,hp,hj⟩|⟨pre,alI,p,hp,hj⟩⟩
  ·exact⟨he,.inl ⟨p,hp.trans hx,hj⟩⟩
  exact⟨he,.inr ⟨p,by show p.map (·.1) <+: L;rw[hp];exact alI,hj⟩⟩
def AlB(L:List bU)(w:World)(e:Ending)(w':World): Prop:=∃ vb v,e= .returned (.func (.func 363) #[] #[.pointer (some ⟨vb,0,none⟩)])∧yK w' vb v L∧w.heap.size≤vb∧(∀ k,v.ownBlock=some k→w.heap.size≤k)∧Below w.heap.size w w'
theorem R9(A:Option Addr)(l c:Nat)(w:World): Calls af 333 #[.slice A l c] w fun e w'=>e= .returned (.func (.func 363) #[] #[.pointer (some ⟨w.heap.size,0,none⟩)])∧w'=w.alloc (.cells #[.slice A l c] 98):=by
 go_enter Tryz.func333,Tryz.ntmps333;go_wp2_with fail;go_ret;exact⟨rfl,rfl⟩
theorem aca{S:Nat→Prop}{w:World}{b n au:Nat}{az next ak:Int}{L:List bU}{q:bD}(h:bl S w b n au az next ak L q)(hr:L.Pairwise fun x y=>x.id<y.id): Calls af 298 #[.pointer (some ⟨b,0,none⟩)] w (AlB L w):=by
 have HL:=aa (Po h hr);clear h hr;go_enter Tryz.func298,Tryz.ntmps298;go_wp2_with fail;refine HL.o.mono ?_;rintro e w1 ⟨v,rfl,hrow,hb1⟩;obtain⟨A,vc,rfl⟩:=aO.any hrow;have HR:=aa hrow;have HB:=aa hb1;clear hrow hb1 HL;go_wp2_with fail;refine(R9 A L.length vc w1).mono ?_;rintro e w2 ⟨rfl,hw2⟩;have ha2:aD w2 w1.heap.size 98 #[.slice A L.length vc]:=by rw[hw2];exact aD.fresh w1 _ _
 have hb2:Below w1.heap.size w1 w2:=by rw[hw2];exact aw (aq _ _) _
 have HF:=aa (show AlB L w (.returned (.func (.func 363) #[] #[.pointer (some ⟨w1.heap.size,0,none⟩)])) w2 from⟨w1.heap.size,_,rfl,⟨ha2,(HR.o.keep hb2).mono (fun _ _ _=>trivial)⟩,HB.o.size,fun k hk=>HR.o.block k hk,ar HB.o hb2⟩);clear hw2 ha2 hb2 HR HB;go_wp2_with fail;go_ret;exact HF.o
