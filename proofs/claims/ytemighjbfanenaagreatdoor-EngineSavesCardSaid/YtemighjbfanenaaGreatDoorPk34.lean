import Derived.Test.YtemighjbfanenaaGreatDoorPk33
import Derived.Test.YtemighjbfanenaaGreatDoorPk6
import Derived.Sort.Row
set_option linter.all false
set_option maxRecDepth 100000
set_option maxHeartbeats 16000000
namespace Go.Proofs.YtemighjbfanenaaGreatDoor
open RowKit
open Go.CallsIn renaming mono→iL,inRound→GZ
open Go.IntKind renaming wrap_u16→pj,u16→vk,wrap_u64→mJ
open Go.World renaming putObj_heap_other→tE
open List renaming length_append→dh
open _root_.Array renaming getElem?_eq_some_iff→eK
theorem xI{p:Prop}(h:p:=by rw[show k=p from hk];exact Zm.o):p:=h
section
namespace Im
open Go.RowKit Go.Shelf
open Bk
open Oc (Bs aP fF le eG il fZ)
attribute [local go_sem] Oper.semAt_some
def yl(x:bS): List UInt8:=le x.id.toNat 4++le x.aw 2++le x.aS.toNat 8
def O0(n ar nx ck len:Nat): List UInt8:=le n 2++le ar 4++le nx 4++le ck 8++le len 2
def jS(n ar nx ck:Nat)(L:List bS): List UInt8:=O0 n ar nx ck L.length++(L.map yl).flatten
theorem Xb(x:bS): (yl x).length=14:=by simp[yl,Oc.bF]
theorem wA: ∀ L:List bS,((L.map yl).flatten).length=14*L.length
 | []=>rfl
 | x::L=>by rw[List.map_cons,List.flatten_cons,dh,wA L,Xb,List.length_cons];omega
theorem Ea(n ar nx ck len:Nat): (O0 n ar nx ck len).length=20:=by simp[O0,Oc.bF]
theorem aI.tj{p:Nat}{t:TypeId}{cs:Array Value}{W W':World}(h:aI (· =p) W W')(hp:aG W p t cs)(B:Nat): KeepsFrom B W W':=
 ⟨h.size,fun k o _ hk ho=>(h.block k (eK.1 hk).1 (fun e=>by
  rw[show k=p from e,show W.heap[p]? =_ from hp] at hk;cases hk;cases ho)).trans hk⟩
theorem MO{β:Type}(B:Nat)(A:β→Option Addr)(f:β→List UInt8): OwnFrom B (fun s W=>Bs W (A s) (f s)):=fun s W W' row hs hg hr hne=>by
 obtain⟨g,off,h1,h2,h3⟩:=hs hne;have hc: ∃ u,(aP (f s))[0]? =some u:=by
  obtain⟨x,r,e⟩:=List.exists_cons_of_ne_nil hne;rw[e];exact⟨_,rfl⟩
 obtain⟨u,hu⟩:=hc;obtain⟨c,e,fr,hb,_⟩:=Go.Sort.cells_of_cell? (h3 0 u hu);have heq:W'.heap[g]? =W.heap[g]?:=hg.block g h2 (fun e=>by
  obtain⟨_,o,ho,hn⟩:=hr g e.symm;rw[hb] at ho;cases ho;cases hn)
 exact⟨g,off,h1,Nat.lt_of_lt_of_le h2 hg.size,fun i u hu=>(World.cell?_of_block (a:=⟨g,off+i,none⟩) heq).trans (h3 i u hu)⟩
theorem KY{β:Type}(B p:Nat)(f:β→List UInt8): OwnFrom B (fun s W=>eG W p (f s)):=fun s W W' row hs hg hr=>by
 obtain⟨A,c,h1,h2,h3⟩:=hs.ex;exact⟨A,c,oI B p _ (fun _:Unit=>_) () W W' row h1 hg hr,MO B (fun _:Unit=>A) (fun _=>f s) () W W' row h2 hg hr,h3⟩
def BX(x:bS): Prop:=(0≤x.id∧x.id<4294967296)∧x.aw<1024∧0≤x.aS∧x.aS≤1099511627776
def XJ(bs:List UInt8)(w:World)(e:Ending)(w':World): Prop:=
 ∃ A c,e= .returned (.tuple #[.slice A bs.length c,.int .i64 0])∧(bs≠ []→∃ g,A=some ⟨g,0,none⟩∧w.heap.size≤g∧jN w' 5 g bs)∧bs.length≤c∧Below w.heap.size w w'
theorem afE{S:Nat→Prop}{w:World}{b n ar nx ck:Nat}{aA:Int}{L:List bS}{q:bH}(h:bm S w b n ar aA nx ck L q)(hk:GD n ar aA nx ck L): Calls Tryz.prog 213 #[.pointer (some ⟨b,0,none⟩)] w (XJ (jS n ar nx ck L) w):=by
 have uL:=tR.lL hk.Mh;have D5:=hk.OL;have hck:=hk.VK;have hLn:=hk.Z6;have HX:=aa (show ∀ x∈L,BX x from fun x hx=>by
  have h1:=hk.kids x hx;have h2:=hk.VH x hx;have h3:=hk.agO x hx;unfold BX;omega)
 have HCP:=aa (GB h hk);have HH:=aa h;have HR:=aa hk.Jc;have aZ:vk.wrap (n:Int)=(n:Int):=by rw[pj];omega
 have hw2:IntKind.u32.wrap (ar:Int)=(ar:Int):=by rw[IntKind.wrap_u32];omega
 have hw3:IntKind.u64.wrap (ck:Int)=(ck:Int):=qW;have hw4:vk.wrap (L.length:Int)=(L.length:Int):=by rw[pj];omega
 have HLL:=aa (show L.length≤4096 from aj);have HN:=aa (show n<65536∧ar<4294967296∧nx<4294967296∧ck<18446744073709551616∧L.length<65536 from aj);clear h hk uL D5 hck hLn;refine(callsIn_wide (n:=9)).1 ?_;refine callsIn_of_wp_marks Tryz.func213 rfl trivial ?_ rfl;simp only[Tryz.ntmps213,List.size_toArray,List.length_cons,List.length_nil,Nat.reduceAdd,Nat.reduceSub,Array.replicate_succ,Array.replicate_zero,List.push_toArray,List.append_toArray,List.nil_append,List.cons_append]
 gi_wp2_with (refine⟨trivial,?_⟩;gi_at_call 66;refine(callsIn_wide.2 HCP.o).mono ?_;rintro e w1 ⟨b1,S1,q1,rfl,akN,hS1,hb1⟩)
 have bz:=aa hb1;have hc1:=HH.o.ak hb1;have kR:=aa hc1;clear akN hS1 hb1 HCP;obtain⟨w2,VP⟩:=ae (w1.alloc (.cells #[.slice none 0 0] 150));obtain⟨p,hp⟩:=ae w1.heap.size;have hW2:eG w2 p []:=by rw[←VP,←hp];exact Oc.eG.fresh w1
 have Zm:=aa (show w.heap.size≤p by rw[←hp];exact bz.o.size);have pc:=dU bz.o VP;have BM:p<w2.heap.size:=by rw[←VP,←hp];simp
 rw[VP,hp];refine⟨trivial,iL (callsIn_wide.2 (gB (HH.o.bf.ak pc))) ?_⟩;rintro e w3 ⟨rfl,hb3⟩;obtain⟨w4,aeJ⟩:=ae (w3.alloc (.cells #[.int .i64 n,.int .i64 ar,.int .i64 aA] 80));obtain⟨sv,Di⟩:=ae w3.heap.size;have mZ:=aK aeJ Di;have hb4:=dU hb3 aeJ;have Zf:=aa (hW2.ai hb4);have gH:=aa (av pc hb4);have pA:=aa mZ;have RI:=aa (show p≠sv by have:=hb3.size;omega);have s40:=mZ.cl 0;have s41:=mZ.cl 1;clear mZ;have s4h:w4.cell? ⟨w3.heap.size,0,none⟩=some (.int .i64 n):=by rw[Di];exact s40
 clear VP hp hW2 pc BM hb3 hb4 bz
 gi_wp2
 clear s4h s40 s41 Di aeJ;refine⟨trivial,iL (callsIn_wide.2 (Oc.eM p n _ w4 Zf.o dR HN.o.1)) ?_⟩;rintro e w5 ⟨⟨u5,rfl⟩,hW,hT⟩;have RB:=aa hW;have eA:=aa (aI.fresh hT gH.o (fun k hk=>xI));have fX:aG w5 sv 80 #[.int .i64 n,.int .i64 ar,.int .i64 aA]:=(hT.block sv pA.o.lt (fun e=>RI.o e.symm)).trans pA.o;have ou:=aa fX;clear hW hT Zf gH pA;have s50:=fX.cl 0;have s51:=fX.cl 1;clear fX
 gi_wp2
 clear s50 s51;refine⟨trivial,iL (callsIn_wide.2 (Oc.cY p ar _ w5 RB.o fH HN.o.2.1)) ?_⟩;rintro e w6 ⟨⟨u6,rfl⟩,hW,hT⟩;have HW6:=aa hW;have ij:=aa (aI.fresh hT eA.o (fun k hk=>xI));have yV:aG w6 sv 80 #[.int .i64 n,.int .i64 ar,.int .i64 aA]:=(hT.block sv ou.o.lt (fun e=>RI.o e.symm)).trans ou.o;have tC:=aa yV;clear hW hT RB eA ou;clear yV
 gi_wp2
 refine⟨trivial,iL (callsIn_wide.2 (wE (HH.o.bf.ak ij.o))) ?_⟩;rintro e w9 ⟨rfl,jH⟩;rw[jH];clear jH w9
 gi_wp2
 refine⟨trivial,iL (callsIn_wide.2 (Oc.cY p nx _ w6 HW6.o fH HN.o.2.2.1)) ?_⟩;rintro e w7 ⟨⟨u7,rfl⟩,hW,hT⟩;have Pp:=aa hW;have lI:=aa (aI.fresh hT ij.o (fun k hk=>xI));have Ek:aG w7 sv 80 #[.int .i64 n,.int .i64 ar,.int .i64 aA]:=(hT.block sv tC.o.lt (fun e=>RI.o e.symm)).trans tC.o;have yt:=aa Ek;clear hW hT HW6 ij tC;clear Ek
 gi_wp2
 refine⟨trivial,iL (callsIn_wide.2 (wI (HH.o.bf.ak lI.o))) ?_⟩;rintro e w9 ⟨rfl,jH⟩;rw[jH];clear jH w9
 gi_wp2
 refine⟨trivial,iL (callsIn_wide.2 (Oc.ej p ck _ w7 Pp.o fH HN.o.2.2.2.1)) ?_⟩;rintro e w8 ⟨⟨u8,rfl⟩,hW,hT⟩;have HW8:=aa hW;have py:=aa (aI.fresh hT lI.o (fun k hk=>xI));have O5:aG w8 sv 80 #[.int .i64 n,.int .i64 ar,.int .i64 aA]:=(hT.block sv yt.o.lt (fun e=>RI.o e.symm)).trans yt.o;have zE:=aa O5;clear hW hT Pp lI yt;clear O5
 gi_wp2
 refine⟨trivial,iL (callsIn_wide.2 (uY (HH.o.bf.ak py.o))) ?_⟩;rintro e w9 ⟨rfl,jH⟩;rw[jH];clear jH w9
 gi_wp2
 refine⟨trivial,iL (callsIn_wide.2 (Oc.eM p L.length _ w8 HW8.o fH HN.o.2.2.2.2)) ?_⟩;rintro e w9 ⟨⟨u9,rfl⟩,hW,hT⟩;have HW9:=aa hW;have zD:=aa (aI.fresh hT py.o (fun k hk=>xI));have dE:aG w9 sv 80 #[.int .i64 n,.int .i64 ar,.int .i64 aA]:=(hT.block sv zE.o.lt (fun e=>RI.o e.symm)).trans zE.o;have pz:=aa dE;clear hW hT HW8 py zE;clear dE pz
 gi_wp2
 refine⟨trivial,iL (callsIn_wide.2 (abr (HH.o.ak zD.o) HR.o)) ?_⟩;rintro e vq ⟨vb,v,rfl,hV,oh,hvk,wy⟩
 gi_wp2
 have hp9:p<w9.heap.size:=by obtain⟨A,c,h1,_⟩:=HW9.o.ex;exact h1.lt
 have ahv:=wy.size;have akb:vb≠p:=aj;have aka: ∀ k,v.ownBlock=some k→k≠p:=fun k hk=>by have:=hvk k hk;omega
 have alQ:vb<vq.heap.size:=hV.cell.lt;have VR:=hV.lt;have ahX:=HW9.o.ai wy;have akR:=av zD.o wy;obtain⟨hd,hhd⟩:=ae (([]++le n 2++le ar 4++le nx 4++le ck 8++le L.length 2:List UInt8));rw[hhd] at ahX;have HHD:=aa hhd;have Dp:hd.length=20:=by rw[←hhd];simp[Oc.bF]
 have PB:=aa Dp;clear hhd Dp HW9 zD wy oh hvk aZ hw2 hw3 hw4 HH HR kR hc1;refine wpIn_rangeFunc_ownH (n:=9) rfl aN (gf:=363) (lb:=#[.pointer (some ⟨vb,0,none⟩)]) rfl trivial (enters_of Tryz.func363 br rfl)
  (EN 8 aj vb v L (by have:=HLL.o;omega) HX.o vq hV) (fun h k=>⟨k.1.trans h.1,fun j hj=>(k.2 j hj).trans (h.2 j hj)⟩) (fun W i o o' h hc hw hk=>⟨tE aj,fun j hj=>tE (by have:=VR j hj;omega)⟩) (Below.refl _ _) (fun _=>rfl)
  (fun pre W=>vq.heap.size≤W.heap.size∧eG W p (hd++(pre.map fun x=>yl x.1).flatten)∧Below w.heap.size w W)
  (fun _ _ _=>False)
  (fun s A B row ⟨h0,h1,h4⟩ hgr hr=>⟨Nat.le_trans h0 hgr.size,KY _ _ (fun _:Unit=>_) () A B row h1 hgr hr,h4.grown hgr (by have:=Zm.o;omega) (fun k e=>by have:=(hr k e).1;have:=Zm.o;omega)⟩)
  (fun _ _ _ _ _ h=>h.elim)
  ⟨Nat.le_refl _,by simpa using ahX,akR⟩
  (fun x a' W=>∃ xb,vq.heap.size≤xb∧aG W xb 171 #[.int .u32 x.1.id,.int .i64 x.1.aw,.int .i64 x.1.aS]∧a'= {tmps:=#[.pointer (some ⟨b,0,none⟩),undef,.slice none 0 0,.int .i64 0,.pointer (some ⟨p,0,none⟩),.pointer (some ⟨sv,0,none⟩),.pointer (some ⟨xb,0,none⟩),.pointer (some ⟨b,0,none⟩),.pointer (some ⟨b1,0,none⟩),.bool false,.pointer (some ⟨b,0,none⟩),.agg #[.int .i64 n,.int .i64 ar,.int .i64 aA],.pointer (some ⟨sv,0,none⟩),.int .i64 n,.int .u16 n,u5,.pointer (some ⟨sv,1,none⟩),.int .i64 ar,.int .u32 ar,u6,.pointer (some ⟨b,0,none⟩),.int .u32 nx,u7,.pointer (some ⟨b,0,none⟩),.int .i64 ck,.int .u64 ck,u8,.pointer (some ⟨b,0,none⟩),.int .i64 L.length,.int .u16 L.length,u9,.pointer (some ⟨b,0,none⟩),.func (.func 363) #[] #[.pointer (some ⟨vb,0,none⟩)],.agg #[.int .u32 x.1.id,.int .i64 x.1.aw,.int .i64 x.1.aS],undef,undef,undef,undef,undef,undef,undef,undef,undef,undef,undef,undef],defers:=[]})
  (fun x a' _ A B row ⟨xb,h1,h2,h3⟩ hgr hr=>⟨xb,h1,oI _ _ _ (fun _:Unit=>_) () A B row h2 hgr hr,h3⟩) ?assign ?body ?done ?stop
 case assign=>
  intro i pre x W K ⟨h0,h1,h4⟩ hK;have hb:=ax (Below.refl W.heap.size W) (.cells #[.int .u32 x.1.id,.int .i64 x.1.aw,.int .i64 x.1.aS] 171);have hKK:=hK _ _ (Below.tj hb _) ⟨hb.block vb aj,fun j hj=>hb.block j (by have:=VR j hj;omega)⟩ ⟨by have:=hb.size;omega,h1.ai hb,av h4 hb⟩ ⟨W.heap.size,h0,aG.fresh W _ _,rfl⟩;clear hK;dsimp only[aaD]
  gi_wp2
  exact hKK
 case stop=>intro _ _ _ _ _ _ h;exact h.elim
 case done=>
  rintro D xs W hD yT ⟨h0,h1,h4⟩ hK;have hm:hd++(xs.map fun x=>yl x.1).flatten=jS n ar nx ck L:=by
   rw[←HHD.o,←yT];unfold jS O0;rw[List.map_map];simp
  rw[hm] at h1;have hlen:(jS n ar nx ck L).length≤70000000:=by
   unfold jS;rw[dh,Ea,wA];have:=HLL.o;omega
  have HO:=aa (Oc.lQ p _ W h1 hlen);have H4:=aa h4;have HK:=aa hK;have hDW:D<W.heap.size:=(eK.1 hK).1;clear h1 h4 hK hm hlen
  gi_wp2
  refine⟨trivial,iL (callsIn_wide.2 HO.o) ?_⟩;rintro e W2 ⟨A,c,rfl,hblk,hc,hg,Zc,hb⟩;have hK2:W2.heap[D]? =some (.deferred (some [])):=(hb.block D hDW).trans HK.o;have F4:=grownBy_putObj' W2 D (.deferred none);have lG:Below w.heap.size w (W2.putObj D (.deferred none)):=(av H4.o hb).grown F4 (by have:=H4.o.size;have:=hb.size;omega) (fun k e=>by cases e;have:=Zm.o;omega);have HF:=aa (show XJ (jS n ar nx ck L) w (.returned (.tuple #[.slice A (jS n ar nx ck L).length c,.int .i64 0])) (W2.putObj D (.deferred none))from⟨A,c,rfl,fun hne=>by
   obtain⟨g,h1,h2,cur,h3,h4'⟩:=hblk hne;exact⟨g,h1,by have:=H4.o.size;omega,cur,(tE aj).trans h3,h4'⟩,hc,lG⟩)
  have HK2:=aa hK2;clear hblk hc hg Zc hb hK2 F4 lG HO
  gi_wp2
  refine⟨dR,.inl ⟨_,_,rfl,run_takeDeferred HK2.o,?_⟩⟩;refine⟨_,results_tmp2 rfl _ _ _,?_⟩;exact HF.o
 case body=>
  rintro r pre ⟨⟨id,aw,aS⟩,hx⟩ a' W hl hr ⟨h0,h1,h4⟩ ⟨xb,zm,hax,rfl⟩ hlt;have hx':=hx;unfold BX at hx';dsimp only at hx';obtain⟨idn,rfl⟩: ∃ k:Nat,id=k:=⟨id.toNat,aj⟩;obtain⟨tn,rfl⟩: ∃ k:Nat,aS=k:=⟨aS.toNat,aj⟩;dsimp only at hax;have hpl:pre.length≤4096:=by have:=HLL.o;omega
  have lM:((pre.map fun x=>yl x.1).flatten).length=14*pre.length:=by
   have:=wA (pre.map (·.1))
   rwa [List.map_map,List.length_map] at this
  have hbl:(hd++(pre.map fun x=>yl x.1).flatten).length≤67000000:=by rw[dh,PB.o,lM];omega
  obtain⟨bs,tO⟩:=ae (hd++(pre.map fun x=>yl x.1).flatten);rw[tO] at h1 hbl;have iX:vk.wrap (aw:Int)=(aw:Int):=by rw[pj];omega
  have og:IntKind.u64.wrap (tn:Int)=(tn:Int):=qW;have e0:W.cell? ⟨xb,0,none⟩=some (.int .u32 idn):=hax.cell 0;have lF:xb≠p:=aj;have X6:=aa h1;have HA0:=aa hax;have HI0:=aa h4;have KW:=aa tO;have EG:=aa hbl;have H0:=aa h0;have HI:=aa (show idn<4294967296∧aw<65536∧tn<18446744073709551616 from aj);clear h1 hax h4 tO hbl h0 hx' lM hr
  gi_wp2
  refine⟨trivial,iL (GZ r (callsIn_wide.2 (Oc.cY p idn bs W X6.o (by have:=EG.o;omega) HI.o.1))) ?_⟩;rintro e Wa ⟨⟨ua,rfl⟩,hWa,JM⟩;have haa:aG Wa xb 171 #[.int .u32 idn,.int .i64 aw,.int .i64 tn]:=(JM.block xb HA0.o.lt lF).trans HA0.o;have e1:=haa.cl 1;have HWa:=aa hWa;have HTa:=aa JM;have KX:=aa haa;clear hWa JM haa
  gi_wp2
  refine⟨trivial,iL (GZ r (callsIn_wide.2 (Oc.eM p aw _ Wa HWa.o (by have:=EG.o;simp[Oc.bF];omega) HI.o.2.1))) ?_⟩;rintro e Wb ⟨⟨ub,rfl⟩,hWb,hTb⟩;have hab:aG Wb xb 171 #[.int .u32 idn,.int .i64 aw,.int .i64 tn]:=(hTb.block xb KX.o.lt lF).trans KX.o;have e2:=hab.cl 2;have HWb:=aa hWb;have HTb:=aa hTb;clear hWb hTb hab
  gi_wp2
  refine⟨trivial,iL (GZ r (callsIn_wide.2 (Oc.ej p tn _ Wb HWb.o (by have:=EG.o;simp[Oc.bF];omega) HI.o.2.2))) ?_⟩;rintro e Wc ⟨⟨uc,rfl⟩,hWc,hTc⟩;have hT:=(HTa.o.trans HTb.o).trans hTc;have HF:=aa (show ownPostG vq.heap.size (KpV vb v) (fun pre W=>vq.heap.size≤W.heap.size∧eG W p (hd++(pre.map fun x=>yl x.1).flatten)∧Below w.heap.size w W) (fun _ _ _=>False) (pre++ [⟨⟨(idn:Int),aw,(tn:Int)⟩,hx⟩]) W Exit.normal {tmps:=#[],defers:=[]} Wc from by
   obtain⟨A,c,hp0,_⟩:=X6.o.ex;refine⟨aI.tj hT hp0 _,⟨hT.block vb (by have:=H0.o;omega) akb,fun j hj=>hT.block j (by have:=VR j hj;have:=H0.o;omega) (aka j hj)⟩,Nat.le_trans H0.o hT.size,?_,aI.fresh hT HI0.o (fun k hk=>xI)⟩;rw[List.map_append,List.flatten_append,←List.append_assoc,KW.o];simpa[yl,List.append_assoc] using hWc)
  clear hWc hTc hT
  gi_wp2
  exact HF.o
