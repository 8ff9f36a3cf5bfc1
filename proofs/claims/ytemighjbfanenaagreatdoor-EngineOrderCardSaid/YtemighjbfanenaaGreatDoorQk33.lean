import Derived.Test.YtemighjbfanenaaGreatDoorQk17
import Derived.Shelf.Abstract
import Derived.RegionIn
import Derived.RangeFuncWrites
set_option linter.all false
set_option maxRecDepth 100000
set_option maxHeartbeats 16000000
namespace Go.Proofs.YtemighjbfanenaaGreatDoor
open RowKit
open yj (fU hasB)
open km (PX Pv sM O8 KpA Slot CE py WL kept sf nH)
open Go.Fence renaming wide→sN
open Go.KeepsOthers renaming of_grownBy→abo,setCell→abn
open Go.Proofs.Tryz renaming prog→af
open Go.World renaming putObj_heap_other→tA
open Int renaming toNat_natCast→gY
open List renaming length_map→dZ,getElem?_eq_getElem→bY,mem_cons_self→jn,getD_eq_getElem?_getD→bR,getElem?_eq_none→gW,append_toArray→PC,mem_cons_of_mem→gz
open Nat renaming le_refl→aY
open RowKit.Below renaming heap_setCell→dJ,refl→ar
open _root_.Array renaming replicate_zero→PB,replicate_succ→PD
theorem agz{p:Prop}(h:p:=by
 go_simp;go_wp2_with fail;refine bW hK (by exact fX.o) fun hH8=>?_
 clear hK K;refine cJ 9 fun K hK=>?_
 refine fu _ (.tmp 15) (.tmp 23) 98 rfl 171 i0 (.agg #[.int .u32 0,.int .i64 0,.int .i64 0]) 3 24 Tryz.underlying98 OI hz0 hz1 hz2 rfl aM v pre.length (AV q.sb pre) rfl Ca.o ⟨W.heap.size,0,none⟩ 1 [.int .u32 bi.id,.int .i64 (bi.aw:Int),.int .i64 bi.aR] rfl rfl (iQ W.drew _ _) (sD bi) P4 ai ?_;intro ga ca w4 hr4 hg4
 replace hr4:=hr4.mono (T:=fun k=>w3.heap.size≤k) (fun k hk _=>by
  rcases hk with h8|h8
  ·exact h8
  subst h8;have h9:=HSW.o;show _≤_;simp;omega)
 have hz4:W.heap.size+1≤w4.heap.size:=by have:=hg4.size;simp at this;omega
 have wH:Below bb w w4:=(gj.o.trans (yf.o.mono mz.o)).grown hg4 (by have:=yf.o.size;have:=mz.o;omega) (fun k e=>by have:=Ca.o.block k e;omega);have hW4:aG w4 bb 52 #[.pointer (some ⟨b,0,none⟩)]:=(HAB.o.ah yf.o).bz hg4 (fun e=>by have:=Ca.o.block bb e;omega);have hO4:aG w4 ob 98 #[v]:=(HAO.o.ah yf.o).bz hg4 (fun e=>by have:=Ca.o.block ob e;omega);have hC4:cG S w4 b n au aA next aq L.length q:=HH.o.ak (by rw[kS.o];exact wH);have HS4:=aa (show w4.cell? ⟨bb,0,none⟩=some (.pointer (some ⟨b,0,none⟩))∧w4.cell? ⟨b,8,none⟩=some (.slice (some ⟨q.sg,0,none⟩) n q.sc)∧w4.rangeAt q.sg (i*3) [.int .u32 bi.id,.int .i64 (bi.aw:Int),.int .i64 bi.aR] from⟨hW4.cell 0,hC4.own.cell 8,ad6⟩);have o4:=hO4.cl 0;have f4:=hO4.mark 0;have hB5:Below bb w (w4.setCell ⟨ob,0,none⟩ (.slice (some ⟨ga,0,none⟩) (pre.length+1) ca)):=wH.setCell (p:=⟨ob,0,none⟩) (by have:=HOB.o;show bb≤ob;omega) _;have Hf:=hW4.other (p:=⟨ob,0,none⟩) aki (.slice (some ⟨ga,0,none⟩) (pre.length+1) ca);have hC5:cG S (w4.setCell ⟨ob,0,none⟩ (.slice (some ⟨ga,0,none⟩) (pre.length+1) ca)) b n au aA next aq L.length q:=HH.o.ak (by rw[kS.o];exact hB5);have X4:=aa (show(w4.setCell ⟨ob,0,none⟩ (.slice (some ⟨ga,0,none⟩) (pre.length+1) ca)).cell? ⟨bb,0,none⟩=some (.pointer (some ⟨b,0,none⟩))∧(w4.setCell ⟨ob,0,none⟩ (.slice (some ⟨ga,0,none⟩) (pre.length+1) ca)).cell? ⟨b,8,none⟩=some (.slice (some ⟨q.sg,0,none⟩) n q.sc)∧(w4.setCell ⟨ob,0,none⟩ (.slice (some ⟨ga,0,none⟩) (pre.length+1) ca)).rangeAt q.sg (i*3) [.int .u32 bi.id,.int .i64 (bi.aw:Int),.int .i64 bi.aR] from⟨Hf.cell 0,hC5.own.cell 8,ad5⟩);have HF:=aa (show ownPostG w3.heap.size (KpA lb g) (fun pre W=>w3.heap.size≤W.heap.size∧∃ v,aG W ob 98 #[v]∧aP (fun k=>w3.heap.size≤k) W 171 3 v pre.length (AV q.sb pre)∧aG W bb 52 #[.pointer (some ⟨b,0,none⟩)]∧Below bb w W) (fun _ _ _=>False) (pre++ [x]) W Exit.normal {tmps:=#[],defers:=[]} (w4.setCell ⟨ob,0,none⟩ (.slice (some ⟨ga,0,none⟩) (pre.length+1) ca))from by
  have hbl: ∀ k,k<w3.heap.size→k≠ob→(w4.setCell ⟨ob,0,none⟩ (.slice (some ⟨ga,0,none⟩) (pre.length+1) ca)).heap[k]? =W.heap[k]?:=fun k hk hne=>((dJ w4 ⟨ob,0,none⟩ _ k hne).trans (hg4.block k adU (fun e=>by have:=Ca.o.block k e.symm;omega))).trans (yf.o.block k (by have:=HSW.o;omega))
  refine⟨((Below.sX yf.o _).trans ((abo hg4 (fun j o e ho=>Ca.o.cells e ho)).from _)).trans ((abn _ _ _).from _),⟨hbl lb ako akn,hbl g hg3 hgo⟩,by have:=HSW.o;simp;omega,_,hO4.put 0 _,?_,Hf,hB5⟩;have h7:=hr4.put (q:=⟨ob,0,none⟩) (fun k hk=>by
   have h8:=hr4.block k hk;show ob≠k
   omega) (.slice (some ⟨ga,0,none⟩) (pre.length+1) ca)
  rw[List.length_append];rw[show AV q.sb (pre++ [x])=cK (AV q.sb pre) pre.length (jf bi)from Pf.o];exact h7)
 clear hr4 hg4 wH hW4 hO4 hC4 hB5 Hf hC5;refine bW hK (by exact HS4.o) fun hH9=>?_
 clear hK K;refine cJ 10 fun K hK=>?_
 go_simp;go_wp2_with fail;refine bW hK (by exact X4.o) fun Wr=>?_
 clear hK K;refine bM ?_;exact HF.o):p:=h
theorem ack{p:Prop}(h:p:=by
 rw[dZ] at hlt;obtain⟨fn,tmps,assign,body,hy,hYR⟩:=hY p ⟨x,hV x hx⟩ W1 hj hlt;refine⟨fn,tmps,assign,body,hy,hYR.mono ?_⟩;rintro e W' (⟨he,DO,hk⟩|⟨he,DO⟩)
 ·exact .inl ⟨he,⟨p++ [⟨x,hV x hx⟩],dM,DO⟩,hk⟩
 exact .inr ⟨he,⟨p++ [⟨x,hV x hx⟩],dM,DO⟩⟩):p:=h
theorem ad6{p:Prop}(h:p:=by have:=hC4.gh.range (fun _=>rfl) HI.o;rw[HBI.o] at this;exact this):p:=h
theorem ad5{p:Prop}(h:p:=by have:=hC5.gh.range (fun _=>rfl) HI.o;rw[HBI.o] at this;exact this):p:=h
theorem adU{p:Prop}(h:p:=by have:=HZ1.o;have:=R6.o;have:=HSW.o;(try simp);omega):p:=h
section
namespace Bk
open Go.RowKit Go.Shelf
theorem QY(n:Nat)(hn:2≤n){V:Slot→Prop}(lb g:Nat)(l:List Slot)(hl:l.length≤16384)(hV: ∀ x∈l,V x)(W0:World)(hA:sM W0 lb g l):
  SeqStopsK sN n af 308 #[.pointer (some ⟨lb,0,none⟩)] (fun x: {x:Slot // V x}=>WL x.1) (KpA lb g) (fun xs=>xs.map (·.1)=l) (fun _=>True) l.length W0:=by
 intro y J Jx W hb hJ hJx hY h0;refine CallsIn.mono (Pv n hn y lb g l hl (fun pre W=>∃ p:List {x:Slot // V x},p.map (·.1)=pre∧J p W) (fun pre W=>∃ p:List {x:Slot // V x},p.map (·.1)=pre∧Jx p W) W ?_ ?_ (hA.ah hb) ⟨[],rfl,h0⟩) ?_
 ·exact fun s A B row ⟨p,hp,hj⟩ hg hr=>⟨p,hp,hJ p A B row hj hg hr⟩
 ·rintro pre x W1 hx ⟨p,rfl,hj⟩ hlt;exact ack
 ·rintro e W' ⟨he,⟨xs,hx,p,hp,hj⟩|⟨pre,_,p,hp,hj⟩⟩
  ·exact⟨he,.inl ⟨p,hp.trans hx,hj⟩⟩
  exact⟨he,.inr ⟨p,trivial,hj⟩⟩
theorem uG{f:Nat→Slot}{m:Nat}(hT:CE f m): ∀ j,j≤m→(kept f j).Pairwise fun x y=>x.id≠y.id
 | 0,_=>List.Pairwise.nil
 | j+1,hj=>by
  by_cases hs:(f j).state=1
  ·rw[km.se hs,List.pairwise_append];refine⟨uG hT j ai,List.pairwise_singleton _ _,fun x hx y hy=>?_⟩;exact ab1
  rw[km.oG hs];exact uG hT j ai
theorem Vs{S:Nat→Prop}{w:World}{b n au:Nat}{aA next aq:Int}{L:List bS}{q:bI}(h:bo S w b n au aA next aq L q)(hr:L.Pairwise fun x y=>x.id<y.id){l:List Slot}
  (hp:l.Perm (kept q.f q.m)) (hs:l.Pairwise fun x y=>x.id≤y.id):l.map (fun s=>q.sb s.v.toNat)=L∧∀ s∈l,∃ i:Nat,i<n∧s.v=(i:Int):=by
 have hT:=h.bg.ids.tab;have Ha: ∀ s∈l,∃ x∈L,s.id=x.id∧s.v=(x.aw:Int):=by
  intro s hs;obtain⟨j,hj,h1,rfl⟩:=nH.1 (hp.mem_iff.1 hs);obtain⟨x,hx,he⟩:=h.under j hj h1;obtain⟨j',DO,R2,he',hv'⟩:=h.listed x hx;have:=hT.uniq j j' hj DO h1 R2 (by rw[he,he']);subst this;exact⟨x,hx,he,hv'⟩
 have hm: ∀ s∈l,(q.sb s.v.toNat).id=s.id:=by
  intro s hs;obtain⟨x,hx,he,hv⟩:=Ha s hs;rw[hv,gY,(h.cw x hx).2,he]
 have hlt:l.Pairwise fun x y=>x.id<y.id:=by
  have h1:l.Pairwise fun x y=>x.id≠y.id:=(List.Perm.pairwise_iff (fun {x y} RR=>RR.symm) hp).2 (uG hT _ (aY _))
  exact List.Pairwise.imp₂ (fun x y a b=>ai) hs h1
 refine⟨?_,fun s hs=>?_⟩
 ·refine sI.ext (key:=fun x:bS=>x.id) (sI.rX ?_) (sI.rX hr) fun x=>?_
  ·rw[List.pairwise_map];exact hlt.imp_of_mem (fun {x y} hx hy RR=>by rw[hm x hx,hm y hy];exact RR)
  rw[List.mem_map];constructor
  ·rintro⟨s,hs,rfl⟩;obtain⟨x,hx,he,hv⟩:=Ha s hs;rw[hv,gY,(h.cw x hx).2];exact hx
  intro hx;obtain⟨j,hj,h1,he,hv⟩:=h.listed x hx;exact⟨q.f j,hp.mem_iff.2 (nH.2 ⟨j,hj,h1,rfl⟩),by rw[hv,gY,(h.cw x hx).2]⟩
 ·obtain⟨x,hx,he,hv⟩:=Ha s hs;exact⟨x.aw,(h.cw x hx).1,hv⟩
end Bk
end
section
namespace Bk
open Go.RowKit Go.Shelf
attribute [local go_sem] Oper.semAt_some
abbrev BV(n:Nat)(s:Slot): Prop:=∃ i:Nat,i<n∧s.v=(i:Int)
def AV{n:Nat}(sb:Nat→bS)(pre:List {x:Slot // BV n x})(i:Nat): List Value:=jf ((pre.map fun x=>sb x.1.v.toNat).getD i ⟨0,0,0⟩)
theorem Qa{n:Nat}(sb:Nat→bS)(pre:List {x:Slot // BV n x})(x: {x:Slot // BV n x})(y:bS)(h:sb x.1.v.toNat=y): AV sb (pre++ [x])=cK (AV sb pre) pre.length (jf y):=by
 funext i;unfold AV cK;have hl:(pre.map fun x=>sb x.1.v.toNat).length=pre.length:=dZ ..;rw[List.map_append];by_cases hi:i=pre.length
 ·subst hi;rw[if_pos rfl,bR,List.getElem?_append_right ai,hl,Nat.sub_self,←h];rfl
 rw[if_neg hi];rcases Nat.lt_or_ge i pre.length with h1|h1
 ·rw[bR,List.getElem?_append_left ai,←bR]
 dsimp only;rw[bR,bR,gW fZ,gW ai]
def ac6(L:List bS)(w:World)(e:Ending)(w':World): Prop:=∃ v,e= .returned v∧aP (fun k=>w.heap.size≤k) w' 171 3 v L.length (fun i=>jf (L.getD i ⟨0,0,0⟩))∧Below w.heap.size w w'
theorem zt{S:Nat→Prop}{w:World}{b n au:Nat}{aA next aq:Int}{L:List bS}{q:bI}(h:bo S w b n au aA next aq L q)(hr:L.Pairwise fun x y=>x.id<y.id): Calls af 104 #[.pointer (some ⟨b,0,none⟩)] w (ac6 L w):=by
 have HH:=aa h.bg;obtain⟨i0,OI,hz0,hz1,hz2⟩:=info_parts JK;have HE:=aa (show ∀ l:List Slot,l.Perm (kept q.f q.m)→(l.Pairwise fun x y=>x.id≤y.id)→l.map (fun s=>q.sb s.v.toNat)=L∧∀ s∈l,BV n s from fun l hp hs=>Vs h hr hp hs);have HL:=aa (show L.length≤au from h.bg.ids.bj.1);have rA:=aa (show ∀ W,Below w.heap.size w W→Calls af 67 #[.pointer (some ⟨b,0,none⟩)] W (fun e w'=>e= .returned (.bool true)∧w'=W)from fun W hW=>cY b true W ((h.bg.ak hW).own.cell 3));have Si:=aa (show ∀ W,Below w.heap.size w W→Calls af 220 #[.pointer (some ⟨q.ip,0,none⟩)] W (PX q.f q.m W)from fun W hW=>by
  obtain⟨st,hst⟩:=(h.bg.ak hW).ids.cw;have hrm:=(h.bg.ak hW).ids.bj;exact O8 _ _ _ _ _ _ _ _ _ hst ⟨ai,hrm.2.2.2.2⟩)
 clear h hr;refine(callsIn_wide (n:=9)).1 ?_;refine callsIn_of_wp_marks Tryz.func104 rfl trivial ?_ rfl;simp only[Tryz.ntmps104,List.size_toArray,List.length_cons,List.length_nil,Nat.reduceAdd,Nat.reduceSub,PD,PB,List.push_toArray,PC,List.nil_append,List.cons_append];obtain⟨w2,hw2⟩:=ae ((w.alloc (.cells #[.pointer (some ⟨b,0,none⟩)] 52)).alloc (.cells #[.slice none 0 0] 98));have a1:aG w2 w.heap.size 52 #[.pointer (some ⟨b,0,none⟩)]:=by rw[←hw2];exact(aG.fresh w _ _).alloc _
 have a2:aG w2 (w.heap.size+1) 98 #[.slice none 0 0]:=by rw[←hw2];exact aG.new dM
 have hb2:Below w.heap.size w w2:=by rw[←hw2];exact ay (ay (ar _ _) _) _
 have c1:w2.cell? ⟨w.heap.size,0,none⟩=some (.pointer (some ⟨b,0,none⟩)):=a1.cell 0;have c2:w2.cell? ⟨b,7,none⟩=some (.pointer (some ⟨q.ip,0,none⟩)):=(HH.o.ak hb2).own.cell 7;have A1:=aa a1;have A2:=aa a2;have cu:=aa hb2;clear a1 a2 hb2
 gi_wp2_with (first|(refine⟨trivial,?_⟩;gi_at_call 67;refine(callsIn_wide.2 (rA.o _ cu.o)).mono ?_;rintro e w3 ⟨rfl,hw3⟩;rw[hw3];clear hw3 w3)|(refine⟨trivial,?_⟩;gi_at_call 220;refine(callsIn_wide.2 (Si.o _ cu.o)).mono ?_;rintro e w3 ⟨lb,g,l,rfl,hp,hs,hA,OE,hgb,hne,hb3⟩))
 have AW:=A1.jC hb3;have AO:=A2.jC hb3;have dV:=cu.dQ hb3;have HAA:=aa hA;have i':=aa (show l.length≤4096 from by
  have h1:=hp.length_eq;have h2:=sf q.f q.m;have h3:=HH.o.ids.full;have h4:=HH.o.ids.bj;omega)
 obtain⟨hEL,hEV⟩:=HE.o l hp hs;have hg3:g<w3.heap.size:=hA.lt;have ako:lb<w3.heap.size:=by obtain⟨cp,h1,_⟩:=hA.cell;exact h1.lt
 obtain⟨bb,wG⟩:=ae w.heap.size;obtain⟨ob,RS⟩:=ae (bb+1);have aki:bb≠ob:=ai;have ama:ob<w3.heap.size:=by have:=AO.o.lt;omega
 have amA:bb<w3.heap.size:=ai;have akn:lb≠ob:=by have:=A2.o.lt;omega
 have hgo:g≠ob:=by have:=A2.o.lt;omega
 rw[wG] at AW AO A1 A2 ⊢;rw[RS] at AO A2 ⊢;have kS:=aa wG;have HOB:=aa RS;clear wG RS hp hs hA hb3 c1 c2 hw2 OE hgb hne rA Si HE;refine wpIn_rangeFunc_ownH (n:=9) rfl aM (gf:=308) (lb:=#[.pointer (some ⟨lb,0,none⟩)]) rfl trivial (enters_of Tryz.func308 bh rfl)
  (QY 8 ai lb g l (by have:=i'.o;omega) hEV w3 HAA.o) (fun h k=>⟨k.1.trans h.1,k.2.trans h.2⟩) (fun W i o o' h hc hw hk=>⟨tA ai,tA ai⟩) (ar _ _) (fun _=>rfl)
  (fun pre W=>w3.heap.size≤W.heap.size∧∃ v,aG W ob 98 #[v]∧aP (fun k=>w3.heap.size≤k) W 171 3 v pre.length (AV q.sb pre)∧aG W bb 52 #[.pointer (some ⟨b,0,none⟩)]∧Below bb w W)
  (fun _ _ _=>False)
  (fun s A B row ⟨h0,v,h1,h2,h3,h4⟩ hgr hr=>⟨Nat.le_trans h0 hgr.size,v,oJ _ _ _ (fun _:Unit=>_) () A B row h1 hgr hr,yC _ _ _ _ (fun _:Unit=>_) (fun _=>_) (fun _=>_) () A B row h2 hgr hr,oJ _ _ _ (fun _:Unit=>_) () A B row h3 hgr hr,
   h4.grown hgr (by have:=h3.lt;omega) (fun k e=>by have:=(hr k e).1;omega)⟩)
  (fun _ _ _ _ _ h=>h.elim)
  ⟨aY _,_,AO.o,aP.nil _ _ _ _ _,AW.o,by have:=dV.o;rwa [kS.o] at this⟩
  (fun x a' _=>a'= {tmps:=#[.pointer (some ⟨b,0,none⟩),.pointer (some ⟨bb,0,none⟩),.slice none 0 0,.pointer (some ⟨ob,0,none⟩),undef,.int .i64 x.1.v,.pointer (some ⟨b,0,none⟩),.bool true,.pointer (some ⟨b,0,none⟩),.pointer (some ⟨b,0,none⟩),.pointer (some ⟨b,7,none⟩),.pointer (some ⟨q.ip,0,none⟩),.func (.func 308) #[] #[.pointer (some ⟨lb,0,none⟩)],.int .u32 x.1.id,.int .i64 x.1.v,undef,undef,undef,undef,undef,undef,undef,undef,undef,undef,undef],defers:=[]})
  (fun _ _ _ _ _ _ hs _ _=>hs) ?assign ?body ?done ?stop
 case assign=>
  intro i pre x W K hi hK;have hKK:=hK _ W (KeepsFrom.refl _ _) ⟨rfl,rfl⟩ hi rfl;dsimp only[WL]
  gi_wp2
  exact hKK
 case stop=>intro _ _ _ _ _ _ h;exact h.elim
 case done=>
  rintro D xs W hD CV ⟨h0,v,h1,h2,h3,h4⟩ hK;have hm:xs.map (fun x=>q.sb x.1.v.toNat)=L:=by rw[←hEL,←CV,List.map_map];rfl
  have hlen:xs.length=L.length:=by rw[←hm,dZ]
  have hrow:aP (fun k=>bb≤k) W 171 3 v L.length (fun i=>jf (L.getD i ⟨0,0,0⟩)):=by
   have h5:=h2.mono (T:=fun k=>bb≤k) (fun k hk _=>ai);unfold AV at h5;rw[hm,hlen] at h5;exact h5
  have c1:=h1.cl 0;have HR:=aa hrow;have H4:=aa h4;have HK:=aa hK;clear h1 h2 h3 h4 hK hm hlen hrow
  gi_wp2
  have FL:=grownBy_putObj' W D (.deferred none);have lH:Below bb w (W.putObj D (.deferred none)):=H4.o.grown FL (by have:=H4.o.size;have:=kS.o;omega) (fun k e=>by cases e;omega);have hrow':aP (fun k=>bb≤k) (W.putObj D (.deferred none)) 171 3 v L.length (fun i=>jf (L.getD i ⟨0,0,0⟩)):=yC 0 _ _ _ (fun _:Unit=>_) (fun _=>_) (fun _=>_) () W _ (some D) HR.o FL (fun k e=>by cases e;exact⟨Nat.zero_le _,_,HK.o,rfl⟩);refine⟨dM,.inl ⟨_,_,rfl,run_takeDeferred HK.o,?_⟩⟩;refine⟨_,results_tmp rfl _ _ _,?_⟩;refine⟨v,rfl,?_,?_⟩
  ·rw[kS.o];exact hrow'
  rw[kS.o];exact lH
 case body=>
  rintro r pre x a' W hl hr ⟨h0,v,h1,h2,h3,h4⟩ rfl hlt;obtain⟨i,hi,hxv⟩:=x.2;have hcm:cG S W b n au aA next aq L.length q:=HH.o.ak (by rw[kS.o];exact h4);have hli:(i:Int)<(n:Int):=ai;have CB:(0:Int)≤(i:Int):=ai;rw[hxv]
  gi_wp2
  obtain⟨bi,hbi⟩:=ae (q.sb i);have hrg:=hcm.gh.range (fun _=>rfl) hi;rw[hbi] at hrg;have HS0:=aa (show W.drew.cell? ⟨bb,0,none⟩=some (.pointer (some ⟨b,0,none⟩))∧W.drew.cell? ⟨b,8,none⟩=some (.slice (some ⟨q.sg,0,none⟩) n q.sc)∧W.drew.rangeAt q.sg (i*3) [.int .u32 bi.id,.int .i64 (bi.aw:Int),.int .i64 bi.aR] from⟨h3.cell 0,hcm.own.cell 8,hrg⟩);have mr:Below W.heap.size W (W.drew.alloc (.cells #[.int .u32 bi.id,.int .i64 (bi.aw:Int),.int .i64 bi.aR] 171)):=ay (az (ar _ _)) _;have Ca:=aa (h2.ah mr);have yf:=aa mr;have gj:=aa h4;have HAB:=aa h3;have HAO:=aa h1;have HI:=aa hi;have HBI:=aa hbi;have HSW:=aa h0;have mz:=aa (show bb≤W.heap.size from ai);have HZ1:=aa (show(W.drew.alloc (.cells #[.int .u32 bi.id,.int .i64 (bi.aw:Int),.int .i64 bi.aR] 171)).heap.size=W.heap.size+1 from dM);have R6:=aa (show(W.alloc (.cells #[.int .u32 bi.id,.int .i64 (bi.aw:Int),.int .i64 bi.aR] 171)).heap.size=W.heap.size+1 from dM);have hcx:=hcm.ak mr;have fX:=aa (show(W.drew.alloc (.cells #[.int .u32 bi.id,.int .i64 (bi.aw:Int),.int .i64 bi.aR] 171)).cell? ⟨bb,0,none⟩=some (.pointer (some ⟨b,0,none⟩))∧(W.drew.alloc (.cells #[.int .u32 bi.id,.int .i64 (bi.aw:Int),.int .i64 bi.aR] 171)).cell? ⟨b,8,none⟩=some (.slice (some ⟨q.sg,0,none⟩) n q.sc)∧(W.drew.alloc (.cells #[.int .u32 bi.id,.int .i64 (bi.aw:Int),.int .i64 bi.aR] 171)).rangeAt q.sg (i*3) [.int .u32 bi.id,.int .i64 (bi.aw:Int),.int .i64 bi.aR] from⟨(h3.ah mr).cell 0,hcx.own.cell 8,by have:=hcx.gh.range (fun _=>rfl) hi;rw[hbi] at this;exact this⟩);have o0:W.drew.cell? ⟨ob,0,none⟩=some v:=h1.cell 0;have o1:(W.drew.alloc (.cells #[.int .u32 bi.id,.int .i64 (bi.aw:Int),.int .i64 bi.aR] 171)).cell? ⟨ob,0,none⟩=some v:=(h1.ah mr).cell 0;have o2:(W.alloc (.cells #[.int .u32 bi.id,.int .i64 (bi.aw:Int),.int .i64 bi.aR] 171)).cell? ⟨ob,0,none⟩=some v:=o1;have hpl:pre.length≤4096:=by have:=i'.o;omega
  have Pf:=aa (show AV q.sb (pre++ [x])=cK (AV q.sb pre) pre.length (jf bi)from Qa q.sb pre x bi (by rw[hxv,gY,hbi]));clear h0 h1 h2 h3 h4 hrg mr hcx hcm hbi hr;refine yS (S:=fun w'=>w'.cell? ⟨bb,0,none⟩=some (.pointer (some ⟨b,0,none⟩))∧w'.cell? ⟨b,8,none⟩=some (.slice (some ⟨q.sg,0,none⟩) n q.sc)∧w'.rangeAt q.sg (i*3) [.int .u32 bi.id,.int .i64 (bi.aw:Int),.int .i64 bi.aR]) (fun⟨_,_,hx⟩=>hx) iI bh HS0.o (fun hHeld=>?_);refine cV 1 (some 16) hHeld ?_;refine cV 2 (some 17) hHeld ?_;refine cV 3 (some 18) hHeld ?_;refine cV 4 (some 19) hHeld ?_;refine cV 5 (some 20) hHeld ?_;refine ty 6 ?_;refine fc 7 (some 22) hHeld 171 (.tmp 21) q.sg (i*3) [.int .u32 bi.id,.int .i64 (bi.aw:Int),.int .i64 bi.aR] _ (fun w' h=>h.2.2) Tryz.underlying171 rfl eV ?_;try simp only[aZ]
  refine qh 0 8 (fun K hK=>?_) fun K hK=>?_
  ·go_simp;go_wp2_with fail;refine bW hK (by exact HS0.o) fun hH0=>?_
   clear hK K;refine cJ 8 fun K hK=>?_
   exact agz
  go_simp;go_wp2_with fail;refine bW hK (by exact fX.o) fun hH8=>?_
  clear hK K;refine cJ 0 fun K hK=>?_
  exact agz
end Bk
end
section
namespace Bk
structure Gm(n au:Nat)(aA next aq:Int)(L:List bS): Prop where
 LU:tP.Ct n au aA=true
 Ot:1≤next∧next<4294967296
 Vy:0≤aq∧aq≤1099511627776
 ZW:L.length≤au
 IM:L.Pairwise fun x y=>x.id<y.id
 kids: ∀ x∈L,1≤x.id∧x.id<next
 Vv: ∀ x∈L,x.aw<n
 aet:L.Pairwise fun x y=>x.aw≠y.aw
 agE: ∀ x∈L,x.aR=0∨aq<x.aR∧x.aR≤1099511627776
variable{n:Nat}{aA aq:Int}{S:Nat→Prop}{w:World}
theorem Gm.au{au:Nat} {next:Int} {L:List bS}(h:Gm n au aA next aq L): au≤4096:=by
 have:=tP.lR h.LU;omega
def UD(x:bS): Raw:=⟨x.id,x.aw,x.aR⟩
theorem Zu(x:bS): toB (UD x)=x:=by cases x;simp[toB,UD]
theorem UC{next:Int} : ∀ (l M:List bS) (last:Int),(∀ x∈l,last<x.id)→(l.Pairwise fun x y=>x.id<y.id)→(l.Pairwise fun x y=>x.aw≠y.aw)→
  (∀ x∈l,x.id<next∧x.aw<n∧(x.aR=0∨aq<x.aR∧x.aR≤1099511627776))→(∀ x∈l,∀ y∈M,y.aw≠x.aw)→RQ n next aq M last (l.map UD)=some (M++l)
 | [],M,_,_,_,_,_,_=>by simp[RQ]
 | x::l,M,last,h1,h2,h3,h4,h5=>by
  rw[List.pairwise_cons] at h2 h3;have hx:=h4 x (jn ..);have hm:CU n next aq M last (UD x)=true:=by
   simp only[CU,UD,Bool.and_eq_true,Bool.or_eq_true,decide_eq_true_eq,List.all_eq_true,Bool.not_eq_true',decide_eq_false_iff_not,beq_iff_eq];refine⟨decide_eq_true (h1 x (jn ..)),decide_eq_true hx.1,decide_eq_true (Int.natCast_nonneg _),decide_eq_true (Int.ofNat_lt.2 hx.2.1),fun y hy=>?_,?_⟩
   ·have h6:=h5 x (jn ..) y hy;exact decide_eq_false (fun e=>h6 (Int.ofNat.inj e))
   rcases hx.2.2 with e|⟨e1,e2⟩
   ·exact .inl e
   exact .inr ⟨decide_eq_true e1,decide_eq_true e2⟩
  rw[List.map_cons,RQ,if_pos hm,Zu];show RQ n next aq (M++ [x]) x.id (l.map UD)=_
  rw[UC l (M++ [x]) x.id h2.1 h2.2 h3.2 (fun y hy=>h4 y (gz _ hy)) (fun y hy z hz=>by
   rcases List.mem_append.1 hz with hz|hz
   ·exact h5 y (gz _ hy) z hz
   rw[List.mem_singleton] at hz;subst hz;exact h3.1 y hy)]
  simp
theorem Gm.of{au:Nat} {next:Int} {L:List bS}(h:Gm n au aA next aq L): nP n au next aq (L.map UD)=some L:=by
 unfold nP;rw[if_neg (by rw[dZ];have:=h.Ot;have:=h.Vy;have:=h.ZW;omega)];exact UC L [] 0 (fun x hx=>by have:=h.kids x hx;omega) h.IM h.aet (fun x hx=>⟨(h.kids x hx).2,h.Vv x hx,h.agE x hx⟩) (fun _ _ _ hy=>by cases hy)
theorem ZI{A:Option Addr}{c:Nat}{L:List bS}(h:aP S w 171 3 (.slice A L.length c) L.length (fun i=>jf (L.getD i ⟨0,0,0⟩))): Xy w A (L.map UD):=by
 intro hne;have hl:0<L.length:=by
  rcases Nat.eq_zero_or_pos L.length with h0|h0
  ·exact absurd (by rw[List.length_eq_zero_iff.1 h0];rfl) hne
  exact h0
 obtain⟨g,cap,hv,_,_,_,hg⟩:=h.form hl;injection hv with e1 _ e2
 subst e1 e2;refine⟨g,0,rfl,hg,fun k hk=>?_⟩;rw[dZ] at hk;have h1:=h.range (fun _=>rfl) hk;rw[Nat.zero_add];have e:(L.map UD).getD k ⟨0,0,0⟩=UD (L.getD k ⟨0,0,0⟩):=by
  rw[bR,bR,List.getElem?_map,bY hk];rfl
 rw[e];exact h1
theorem cG.xK{b au:Nat} {next:Int} {len:Nat}{q:bI}(h:cG S w b n au aA next aq len q): w.rangeAt b 0 [.int .i64 n,.int .i64 au,.int .i64 aA]:=by
 intro j u hj;rw[Nat.zero_add]
 match j,hj with
 | 0,hj=>exact(h.own.cell 0).trans hj
 | 1,hj=>exact(h.own.cell 1).trans hj
 | 2,hj=>exact(h.own.cell 2).trans hj
def YA(n au:Nat)(aA next aq:Int)(L:List bS)(w:World)(e:Ending)(w':World): Prop:=∃ b S q,e= .returned (.pointer (some ⟨b,0,none⟩))∧bo S w' b n au aA next aq L q∧(∀ k,S k→w.heap.size≤k)∧Below w.heap.size w w'
theorem Gk{b au:Nat} {next:Int} {L:List bS}{q:bI}(h:bo S w b n au aA next aq L q)(hk:Gm n au aA next aq L): Calls af 66 #[.pointer (some ⟨b,0,none⟩)] w (YA n au aA next aq L w):=by
 have HT:=aa (cY b true w (h.bg.own.cell 3));have HLS:=aa (show ∀ W,Below w.heap.size w W→Calls af 104 #[.pointer (some ⟨b,0,none⟩)] W (ac6 L W)from fun W hW=>zt (h.ak hW) hk.IM);have HH:=aa h.bg;have HK:=aa hk;have pg:=aa hk.of;have Hk:=aa (show w.drew.rangeAt b 0 [.int .i64 n,.int .i64 au,.int .i64 aA]∧w.drew.cell? ⟨b,5,none⟩=some (.int .u32 next)∧w.drew.cell? ⟨b,4,none⟩=some (.int .i64 aq)from⟨h.bg.xK,h.bg.own.cell 5,h.bg.own.cell 4⟩);clear h hk;go_enter Tryz.func66,Tryz.ntmps66;go_wp2_with fail;refine ag HT.o ?_;go_wp2_with fail;refine tW (S:=fun w'=>w'.rangeAt b 0 [.int .i64 n,.int .i64 au,.int .i64 aA]∧w'.cell? ⟨b,5,none⟩=some (.int .u32 next)∧w'.cell? ⟨b,4,none⟩=some (.int .i64 aq)) (by exact Hk.o) fun hHeld=>?_
 refine cV 0 (some 9) hHeld ?_;refine cV 1 (some 10) hHeld ?_;refine cV 2 (some 11) hHeld ?_;refine ty 3 ?_;refine fc 4 (some 13) hHeld 80 (.tmp 12) b 0 [.int .i64 n,.int .i64 au,.int .i64 aA] _ (fun w' h=>h.1) Tryz.underlying80 rfl dA ?_;refine cV 5 (some 14) hHeld ?_;refine cV 6 (some 15) hHeld ?_;refine cV 7 (some 16) hHeld ?_;refine cV 8 (some 17) hHeld ?_;refine cV 9 (some 18) hHeld ?_;refine cV 10 (some 19) hHeld ?_;refine cV 11 (some 20) hHeld ?_;refine cV 12 (some 21) hHeld ?_;refine ty 13 ?_;refine cJ 14 fun K hK=>?_
 go_simp;refine(HLS.o _ (by repeat(first|with_reducible exact ar _ _|with_reducible refine ay ?_ _|with_reducible refine az ?_|with_reducible refine aQ ?_ _|(refine eD ?_ (by simp at *;omega) _)|with_reducible refine av ?_ (by assumption)))).mono ?_;rintro e w2 ⟨v,rfl,hrow,hb2⟩;have o9:Below w.heap.size w w2:=av (az (ar _ _)) hb2;have HS2:=aa (show w2.rangeAt b 0 [.int .i64 n,.int .i64 au,.int .i64 aA]∧w2.cell? ⟨b,5,none⟩=some (.int .u32 next)∧w2.cell? ⟨b,4,none⟩=some (.int .i64 aq)from⟨(HH.o.ak o9).xK,(HH.o.ak o9).own.cell 5,(HH.o.ak o9).own.cell 4⟩);obtain⟨VA,vc,rfl⟩:=hrow.any;have Cc:=aa (yM n au aA next aq (L.map UD) VA vc w2 HK.o.LU (ZI hrow) (by rw[dZ];have:=HK.o.ZW;have:=HK.o.au;omega) (by have:=HK.o.Ot;omega) (by rintro x hx;obtain⟨y,hy,rfl⟩:=List.mem_map.1 hx;have:=HK.o.kids y hy;have:=HK.o.Ot;show 0≤y.id∧y.id<4294967296;omega));rw[dZ] at Cc;have cu:=aa o9;clear hrow hb2 o9;refine bW hK (by exact HS2.o) fun amH=>?_
 clear hK K;refine cJ 15 fun K hK=>?_
 go_simp;refine Cc.o.mono ?_;rintro e w3 ⟨hb3,hm⟩;rw[pg.o] at hm;obtain⟨b',S',q',rfl,cL,hS'⟩:=hm;have Wu:=av cu.o hb3;have HS3:=aa (show w3.rangeAt b 0 [.int .i64 n,.int .i64 au,.int .i64 aA]∧w3.cell? ⟨b,5,none⟩=some (.int .u32 next)∧w3.cell? ⟨b,4,none⟩=some (.int .i64 aq)from⟨(HH.o.ak Wu).xK,(HH.o.ak Wu).own.cell 5,(HH.o.ak Wu).own.cell 4⟩);have HF:=aa (show YA n au aA next aq L w (.returned (.pointer (some ⟨b',0,none⟩))) w3 from⟨b',S',q',rfl,cL,fun k hk=>by have:=hS' k hk;have:=cu.o.size;omega,Wu⟩);clear hb3 cL hS' Wu Cc;refine bW hK (by exact HS3.o) fun aar=>?_
 clear hK K;refine cV 16 (some 8) aar ?_;refine cV 17 (some 25) aar ?_;refine cV 18 (some 26) aar ?_;refine cV 19 (some 3) aar ?_;refine ty 20 ?_;refine bM ?_;go_wp2_with fail;go_ret;exact HF.o
end Bk
end
section
namespace Bk
def aaw(x:bS): Array Value:=#[.agg #[.int .u32 x.id,.int .i64 x.aw,.int .i64 x.aR]]
def KpV(vb:Nat)(v:Value)(A B:World): Prop:=B.heap[vb]? =A.heap[vb]?∧∀ k,v.ownBlock=some k→B.heap[k]? =A.heap[k]?
def aaM(W:World)(v:Value)(L:List bS): Prop:=aP (fun _=>True) W 171 3 v L.length (fun i=>jf (L.getD i ⟨0,0,0⟩))
structure yK(W:World)(vb:Nat)(v:Value)(L:List bS): Prop where
 cell:aG W vb 98 #[v]
 row:aaM W v L
theorem yK.ah{W W':World}{vb:Nat}{v:Value}{L:List bS}(h:yK W vb v L)(hb:Below W.heap.size W W'): yK W' vb v L:=⟨h.cell.ah hb,aP.ah h.row hb⟩
theorem yK.lt{W:World}{vb:Nat}{v:Value}{L:List bS}(h:yK W vb v L): ∀ k,v.ownBlock=some k→k<W.heap.size:=fun _ hk=>(eP h.row.own hk).1
theorem MF(n:Nat)(hn:2≤n)(y vb:Nat)(v:Value)(L:List bS)(hL:L.length≤16384)(J Jx:List bS→World→Prop)(W:World)(hJ:AbidesFrom W.heap.size J)
  (hY: ∀ pre x W1,x∈L→J pre W1→pre.length<L.length→YieldAt sN (n - 1) af y (aaw x) W1 fun e W'=>
   (e= .returned (.bool true)∧J (pre++ [x]) W'∧KpV vb v W1 W')∨(e= .returned (.bool false)∧Jx (pre++ [x]) W'))
  (hA:yK W vb v L) (h0:J [] W) :
  CallsIn sN n af 363 #[.func (.yield y) #[] #[],.pointer (some ⟨vb,0,none⟩)] W fun e W'=>(∃ v,e= .returned v)∧
   ((∃ xs:List bS,xs=L∧J xs W')∨(∃ pre:List bS,pre <+: L∧Jx pre W')):=by
 obtain⟨A,cap,rfl⟩:=aP.any hA.row;obtain⟨g,hg⟩: ∃ g,0<L.length→A=some ⟨g,0,none⟩:=by
  rcases Nat.eq_zero_or_pos L.length with h|h
  ·exact⟨0,fun h'=>ai⟩
  obtain⟨g,cap',hv,_⟩:=aP.form hA.row h;injection hv with e1 _ e2
  exact⟨g,fun _=>e1⟩
 have x0:W.cell? ⟨vb,0,none⟩=some (.slice A L.length cap):=hA.cell.cell 0;have HRw:=hA.row;clear hA;refine callsIn_of_wp Tryz.func363 rfl trivial ?_ rfl;simp only[Tryz.ntmps363,List.size_toArray,List.length_cons,List.length_nil,Nat.reduceAdd,Nat.reduceSub,PD,PB,List.push_toArray,PC,List.nil_append,List.cons_append]
 gi_wp2
 gi_loopw [7] (fun p wr=>∃ j:Nat,j≤L.length∧p= .int .i64 j∧J (L.take j) wr∧aaM wr (.slice A L.length cap) L) (fun p _=>(L.length - intOf p).toNat)
 case atStart=>exact⟨0,Nat.zero_le _,rfl,h0,HRw⟩
 case round=>
  obtain⟨j,hj,rfl,hJj,hR⟩:=hrel;by_cases hlt:j<L.length
  ·obtain rfl:=hg ai;have rD:(j:Int)<(L.length:Int):=ai;have hl0:(0:Int)≤(j:Int):=ai;obtain⟨s,hs⟩:=ae (L.getD j ⟨0,0,0⟩);have hrg:=aP.range hR (fun _=>rfl) hlt;rw[hs] at hrg;have r0:wr.cell? ⟨g,j*3,none⟩=some (.int .u32 s.id):=hrg 0 _ rfl;have r1:wr.cell? ⟨g,j*3+1,none⟩=some (.int .i64 s.aw):=hrg 1 _ rfl;have r2:wr.cell? ⟨g,j*3+2,none⟩=some (.int .i64 s.aR):=hrg 2 _ rfl;have L6:L.take (j+1)=L.take j++ [s]:=by
    rw[List.take_succ_eq_append_getElem hlt,←hs];rw[List.getD,bY hlt];rfl
   have hsm:s∈L:=by rw[←hs,List.getD,bY hlt];exact List.getElem_mem _
   obtain⟨w2,hw2⟩:=ae (wr.alloc (.cells #[.int .u32 s.id,.int .i64 s.aw,.int .i64 s.aR] 171));have hb2:=aK hw2;have hJ2:J (L.take j) w2:=hJ _ wr w2 none hJj hb2.none (fun r e=>nA);have qp:aaM w2 (.slice (some ⟨g,0,none⟩) L.length cap) L:=aP.ah hR hb2;have hlen:(L.take j).length<L.length:=EN;obtain⟨fn,tmps,assign,body,hy,hYR⟩:=hY (L.take j) s w2 hsm hJ2 hlen;dsimp only[aaw] at hy;have ha2:aG w2 wr.heap.size 171 #[.int .u32 s.id,.int .i64 s.aw,.int .i64 s.aR]:=by rw[←hw2];exact aG.fresh wr _ _
   have q0:w2.cell? ⟨wr.heap.size,0,none⟩=some (.int .u32 s.id):=ha2.cell 0;have q1:w2.cell? ⟨wr.heap.size,1,none⟩=some (.int .i64 s.aw):=ha2.cell 1;have q2:w2.cell? ⟨wr.heap.size,2,none⟩=some (.int .i64 s.aR):=ha2.cell 2
   gi_wp2
   refine⟨fun h=>(nomatch h),hYR.mono ?_⟩;rintro e W3 (⟨rfl,hJ3,hk3⟩|⟨rfl,ae3⟩)
   ·have dO:aaM W3 (.slice (some ⟨g,0,none⟩) L.length cap) L:=aP.NU qp (hk3.2 g rfl)
    gi_wp2
    exact Vk
   gi_wp2
   refine bodyPost_ret (results_none rfl _ _ _) rfl ?_;exact⟨⟨_,rfl⟩,.inr ⟨L.take j++ [s],by rw[←L6];exact List.take_prefix _ _,ae3⟩⟩
  have rD: ¬(j:Int)<(L.length:Int):=ai;obtain rfl:j=L.length:=ai
  gi_wp2
  go_end0;rw[List.take_length] at hJj;exact⟨⟨_,rfl⟩,.inl hJj⟩
theorem Ew(n:Nat)(hn:2≤n){V:bS→Prop}(vb:Nat)(v:Value)(L:List bS)(hL:L.length≤16384)(hV: ∀ x∈L,V x)(W0:World)(hA:yK W0 vb v L):
  SeqStopsK sN n af 363 #[.pointer (some ⟨vb,0,none⟩)] (fun x: {x:bS // V x}=>aaw x.1) (KpV vb v) (fun xs=>xs.map (·.1)=L) (fun p=>p.map (·.1) <+: L) L.length W0:=by
 intro y J Jx W hb hJ hJx hY h0;refine CallsIn.mono (MF n hn y vb v L hL (fun pre W=>∃ p:List {x:bS // V x},p.map (·.1)=pre∧J p W) (fun pre W=>∃ p:List {x:bS // V x},p.map (·.1)=pre∧Jx p W) W ?_ ?_ (hA.ah (hb.mono (aY _))) ⟨[],rfl,h0⟩) ?_
 ·exact fun s A B row ⟨p,hp,hj⟩ hg hr=>⟨p,hp,hJ p A B row hj hg hr⟩
 ·rintro pre x W1 hx ⟨p,rfl,hj⟩ hlt;exact ack
 ·rintro e W' ⟨he,⟨xs,hx,p,hp,hj⟩|⟨pre,ake,p,hp,hj⟩⟩
  ·exact⟨he,.inl ⟨p,hp.trans hx,hj⟩⟩
  exact⟨he,.inr ⟨p,by show p.map (·.1) <+: L;rw[hp];exact ake,hj⟩⟩
def AlB(L:List bS)(w:World)(e:Ending)(w':World): Prop:=∃ vb v,e= .returned (.func (.func 363) #[] #[.pointer (some ⟨vb,0,none⟩)])∧yK w' vb v L∧w.heap.size≤vb∧(∀ k,v.ownBlock=some k→w.heap.size≤k)∧Below w.heap.size w w'
theorem Q4(A:Option Addr)(l c:Nat)(w:World): Calls af 333 #[.slice A l c] w fun e w'=>e= .returned (.func (.func 363) #[] #[.pointer (some ⟨w.heap.size,0,none⟩)])∧w'=w.alloc (.cells #[.slice A l c] 98):=by
 go_enter Tryz.func333,Tryz.ntmps333;go_wp2_with fail;go_ret;exact⟨rfl,rfl⟩
theorem abk{S:Nat→Prop}{w:World}{b n au:Nat}{aA next aq:Int}{L:List bS}{q:bI}(h:bo S w b n au aA next aq L q)(hr:L.Pairwise fun x y=>x.id<y.id): Calls af 298 #[.pointer (some ⟨b,0,none⟩)] w (AlB L w):=by
 have HL:=aa (zt h hr);clear h hr;go_enter Tryz.func298,Tryz.ntmps298;go_wp2_with fail;refine HL.o.mono ?_;rintro e w1 ⟨v,rfl,hrow,hb1⟩;obtain⟨A,vc,rfl⟩:=aP.any hrow;have HR:=aa hrow;have HB:=aa hb1;clear hrow hb1 HL;go_wp2_with fail;refine(Q4 A L.length vc w1).mono ?_;rintro e w2 ⟨rfl,hw2⟩;have ha2:aG w2 w1.heap.size 98 #[.slice A L.length vc]:=by rw[hw2];exact aG.fresh w1 _ _
 have hb2:Below w1.heap.size w1 w2:=by rw[hw2];exact ay (ar _ _) _
 have HF:=aa (show AlB L w (.returned (.func (.func 363) #[] #[.pointer (some ⟨w1.heap.size,0,none⟩)])) w2 from⟨w1.heap.size,_,rfl,⟨ha2,(HR.o.ah hb2).mono (fun _ _ _=>trivial)⟩,HB.o.size,fun k hk=>HR.o.block k hk,av HB.o hb2⟩);clear hw2 ha2 hb2 HR HB;go_wp2_with fail;go_ret;exact HF.o
