import Derived.Test.YtemighjbfanenaaGreatDoorQk33
import Derived.Test.YtemighjbfanenaaGreatDoorQk6
import Derived.Sort.Row
set_option linter.all false
set_option maxRecDepth 100000
set_option maxHeartbeats 16000000
namespace Go.Proofs.YtemighjbfanenaaGreatDoor
open RowKit
open Go.CallsIn renaming mono→iH,inRound→GC
open Go.IntKind renaming wrap_u16→pn,wrap_u64→lN,u16→uY
open Go.World renaming putObj_heap_other→tA
open List renaming length_append→bZ
open _root_.Array renaming getElem?_eq_some_iff→eL
theorem xu{p:Prop}(h:p:=by rw[show k=p from hk];exact Zf.o):p:=h
section
namespace Im
open Go.RowKit Go.Shelf
open Bk
open Oc (Bs aO fG le eF ib gl)
attribute [local go_sem] Oper.semAt_some
def xY(x:bS): List UInt8:=le x.id.toNat 4++le x.aw 2++le x.aR.toNat 8
def OK(n au nx ck len:Nat): List UInt8:=le n 2++le au 4++le nx 4++le ck 8++le len 2
def jT(n au nx ck:Nat)(L:List bS): List UInt8:=OK n au nx ck L.length++(L.map xY).flatten
theorem WW(x:bS): (xY x).length=14:=by simp[xY,Oc.bG]
theorem vU: ∀ L:List bS,((L.map xY).flatten).length=14*L.length
 | []=>rfl
 | x::L=>by rw[List.map_cons,List.flatten_cons,bZ,vU L,WW,List.length_cons];omega
theorem DT(n au nx ck len:Nat): (OK n au nx ck len).length=20:=by simp[OK,Oc.bG]
theorem aI.sX{p:Nat}{t:TypeId}{cs:Array Value}{W W':World}(h:aI (· =p) W W')(hp:aG W p t cs)(B:Nat): KeepsFrom B W W':=
 ⟨h.size,fun k o _ hk ho=>(h.block k (eL.1 hk).1 (fun e=>by
  rw[show k=p from e,show W.heap[p]? =_ from hp] at hk;cases hk;cases ho)).trans hk⟩
theorem Mx{β:Type}(B:Nat)(A:β→Option Addr)(f:β→List UInt8): OwnFrom B (fun s W=>Bs W (A s) (f s)):=fun s W W' row hs hg hr hne=>by
 obtain⟨g,off,h1,h2,h3⟩:=hs hne;have hc: ∃ u,(aO (f s))[0]? =some u:=by
  obtain⟨x,r,e⟩:=List.exists_cons_of_ne_nil hne;rw[e];exact⟨_,rfl⟩
 obtain⟨u,hu⟩:=hc;obtain⟨c,e,fr,hb,_⟩:=Go.Sort.cells_of_cell? (h3 0 u hu);have heq:W'.heap[g]? =W.heap[g]?:=hg.block g h2 (fun e=>by
  obtain⟨_,o,ho,hn⟩:=hr g e.symm;rw[hb] at ho;cases ho;cases hn)
 exact⟨g,off,h1,Nat.lt_of_lt_of_le h2 hg.size,fun i u hu=>(World.cell?_of_block (a:=⟨g,off+i,none⟩) heq).trans (h3 i u hu)⟩
theorem KG{β:Type}(B p:Nat)(f:β→List UInt8): OwnFrom B (fun s W=>eF W p (f s)):=fun s W W' row hs hg hr=>by
 obtain⟨A,c,h1,h2,h3⟩:=hs.ex;exact⟨A,c,oJ B p _ (fun _:Unit=>_) () W W' row h1 hg hr,Mx B (fun _:Unit=>A) (fun _=>f s) () W W' row h2 hg hr,h3⟩
def BX(x:bS): Prop:=(0≤x.id∧x.id<4294967296)∧x.aw<1024∧0≤x.aR∧x.aR≤1099511627776
def XB(bs:List UInt8)(w:World)(e:Ending)(w':World): Prop:=
 ∃ A c,e= .returned (.tuple #[.slice A bs.length c,.int .i64 0])∧(bs≠ []→∃ g,A=some ⟨g,0,none⟩∧w.heap.size≤g∧jO w' 5 g bs)∧bs.length≤c∧Below w.heap.size w w'
theorem afv{S:Nat→Prop}{w:World}{b n au nx ck:Nat}{aA:Int}{L:List bS}{q:bI}(h:bo S w b n au aA nx ck L q)(hk:Gm n au aA nx ck L): Calls Tryz.prog 213 #[.pointer (some ⟨b,0,none⟩)] w (XB (jT n au nx ck L) w):=by
 have uI:=tP.lR hk.LU;have DL:=hk.Ot;have hck:=hk.Vy;have hLn:=hk.ZW;have HX:=aa (show ∀ x∈L,BX x from fun x hx=>by
  have h1:=hk.kids x hx;have h2:=hk.Vv x hx;have h3:=hk.agE x hx;unfold BX;omega)
 have HCP:=aa (Gk h hk);have HH:=aa h;have HR:=aa hk.IM;have a8:uY.wrap (n:Int)=(n:Int):=by rw[pn];omega
 have hw2:IntKind.u32.wrap (au:Int)=(au:Int):=by rw[IntKind.wrap_u32];omega
 have hw3:IntKind.u64.wrap (ck:Int)=(ck:Int):=ow;have hw4:uY.wrap (L.length:Int)=(L.length:Int):=by rw[pn];omega
 have HLL:=aa (show L.length≤4096 from ai);have HN:=aa (show n<65536∧au<4294967296∧nx<4294967296∧ck<18446744073709551616∧L.length<65536 from ai);clear h hk uI DL hck hLn;refine(callsIn_wide (n:=9)).1 ?_;refine callsIn_of_wp_marks Tryz.func213 rfl trivial ?_ rfl;simp only[Tryz.ntmps213,List.size_toArray,List.length_cons,List.length_nil,Nat.reduceAdd,Nat.reduceSub,Array.replicate_succ,Array.replicate_zero,List.push_toArray,List.append_toArray,List.nil_append,List.cons_append]
 gi_wp2_with (refine⟨trivial,?_⟩;gi_at_call 66;refine(callsIn_wide.2 HCP.o).mono ?_;rintro e w1 ⟨b1,S1,q1,rfl,akK,hS1,hb1⟩)
 have bA:=aa hb1;have hc1:=HH.o.ak hb1;have ku:=aa hc1;clear akK hS1 hb1 HCP;obtain⟨w2,VG⟩:=ae (w1.alloc (.cells #[.slice none 0 0] 150));obtain⟨p,hp⟩:=ae w1.heap.size;have hW2:eF w2 p []:=by rw[←VG,←hp];exact Oc.eF.fresh w1
 have Zf:=aa (show w.heap.size≤p by rw[←hp];exact bA.o.size);have o9:=ek bA.o VG;have Bl:p<w2.heap.size:=by rw[←VG,←hp];simp
 rw[VG,hp];refine⟨trivial,iH (callsIn_wide.2 (fT (HH.o.bg.ak o9))) ?_⟩;rintro e w3 ⟨rfl,hb3⟩;obtain⟨w4,aey⟩:=ae (w3.alloc (.cells #[.int .i64 n,.int .i64 au,.int .i64 aA] 80));obtain⟨sv,CY⟩:=ae w3.heap.size;have oa:=aJ aey CY;have hb4:=ek hb3 aey;have Za:=aa (hW2.ah hb4);have gj:=aa (av o9 hb4);have pB:=aa oa;have Rt:=aa (show p≠sv by have:=hb3.size;omega);have s40:=oa.cl 0;have s41:=oa.cl 1;clear oa;have s4h:w4.cell? ⟨w3.heap.size,0,none⟩=some (.int .i64 n):=by rw[CY];exact s40
 clear VG hp hW2 o9 Bl hb3 hb4 bA
 gi_wp2
 clear s4h s40 s41 CY aey;refine⟨trivial,iH (callsIn_wide.2 (Oc.eO p n _ w4 Za.o dM HN.o.1)) ?_⟩;rintro e w5 ⟨⟨u5,rfl⟩,hW,hT⟩;have Rj:=aa hW;have eu:=aa (aI.fresh hT gj.o (fun k hk=>xu));have gB:aG w5 sv 80 #[.int .i64 n,.int .i64 au,.int .i64 aA]:=(hT.block sv pB.o.lt (fun e=>Rt.o e.symm)).trans pB.o;have pj:=aa gB;clear hW hT Za gj pB;have s50:=gB.cl 0;have s51:=gB.cl 1;clear gB
 gi_wp2
 clear s50 s51;refine⟨trivial,iH (callsIn_wide.2 (Oc.df p au _ w5 Rj.o fI HN.o.2.1)) ?_⟩;rintro e w6 ⟨⟨u6,rfl⟩,hW,hT⟩;have HW6:=aa hW;have iL:=aa (aI.fresh hT eu.o (fun k hk=>xu));have yG:aG w6 sv 80 #[.int .i64 n,.int .i64 au,.int .i64 aA]:=(hT.block sv pj.o.lt (fun e=>Rt.o e.symm)).trans pj.o;have tx:=aa yG;clear hW hT Rj eu pj;clear yG
 gi_wp2
 refine⟨trivial,iH (callsIn_wide.2 (vY (HH.o.bg.ak iL.o))) ?_⟩;rintro e w9 ⟨rfl,jI⟩;rw[jI];clear jI w9
 gi_wp2
 refine⟨trivial,iH (callsIn_wide.2 (Oc.df p nx _ w6 HW6.o fI HN.o.2.2.1)) ?_⟩;rintro e w7 ⟨⟨u7,rfl⟩,hW,hT⟩;have O':=aa hW;have nc:=aa (aI.fresh hT iL.o (fun k hk=>xu));have D4:aG w7 sv 80 #[.int .i64 n,.int .i64 au,.int .i64 aA]:=(hT.block sv tx.o.lt (fun e=>Rt.o e.symm)).trans tx.o;have vq:=aa D4;clear hW hT HW6 iL tx;clear D4
 gi_wp2
 refine⟨trivial,iH (callsIn_wide.2 (wu (HH.o.bg.ak nc.o))) ?_⟩;rintro e w9 ⟨rfl,jI⟩;rw[jI];clear jI w9
 gi_wp2
 refine⟨trivial,iH (callsIn_wide.2 (Oc.ed p ck _ w7 O'.o fI HN.o.2.2.2.1)) ?_⟩;rintro e w8 ⟨⟨u8,rfl⟩,hW,hT⟩;have HW8:=aa hW;have ou:=aa (aI.fresh hT nc.o (fun k hk=>xu));have OS:aG w8 sv 80 #[.int .i64 n,.int .i64 au,.int .i64 aA]:=(hT.block sv vq.o.lt (fun e=>Rt.o e.symm)).trans vq.o;have wM:=aa OS;clear hW hT O' nc vq;clear OS
 gi_wp2
 refine⟨trivial,iH (callsIn_wide.2 (uS (HH.o.bg.ak ou.o))) ?_⟩;rintro e w9 ⟨rfl,jI⟩;rw[jI];clear jI w9
 gi_wp2
 refine⟨trivial,iH (callsIn_wide.2 (Oc.eO p L.length _ w8 HW8.o fI HN.o.2.2.2.2)) ?_⟩;rintro e w9 ⟨⟨u9,rfl⟩,hW,hT⟩;have HW9:=aa hW;have CF:=aa (aI.fresh hT ou.o (fun k hk=>xu));have dG:aG w9 sv 80 #[.int .i64 n,.int .i64 au,.int .i64 aA]:=(hT.block sv wM.o.lt (fun e=>Rt.o e.symm)).trans wM.o;have pA:=aa dG;clear hW hT HW8 ou wM;clear dG pA
 gi_wp2
 refine⟨trivial,iH (callsIn_wide.2 (abk (HH.o.ak CF.o) HR.o)) ?_⟩;rintro e vg ⟨vb,v,rfl,hV,oh,hvk,vT⟩
 gi_wp2
 have hp9:p<w9.heap.size:=by obtain⟨A,c,h1,_⟩:=HW9.o.ex;exact h1.lt
 have aho:=vT.size;have aj8:vb≠p:=ai;have aj7: ∀ k,v.ownBlock=some k→k≠p:=fun k hk=>by have:=hvk k hk;omega
 have alM:vb<vg.heap.size:=hV.cell.lt;have VI:=hV.lt;have ahS:=HW9.o.ah vT;have akO:=av CF.o vT;obtain⟨hd,hhd⟩:=ae (([]++le n 2++le au 4++le nx 4++le ck 8++le L.length 2:List UInt8));rw[hhd] at ahS;have HHD:=aa hhd;have C8:hd.length=20:=by rw[←hhd];simp[Oc.bG]
 have Po:=aa C8;clear hhd C8 HW9 CF vT oh hvk a8 hw2 hw3 hw4 HH HR ku hc1;refine wpIn_rangeFunc_ownH (n:=9) rfl aM (gf:=363) (lb:=#[.pointer (some ⟨vb,0,none⟩)]) rfl trivial (enters_of Tryz.func363 bh rfl)
  (Ew 8 ai vb v L (by have:=HLL.o;omega) HX.o vg hV) (fun h k=>⟨k.1.trans h.1,fun j hj=>(k.2 j hj).trans (h.2 j hj)⟩) (fun W i o o' h hc hw hk=>⟨tA ai,fun j hj=>tA (by have:=VI j hj;omega)⟩) (Below.refl _ _) (fun _=>rfl)
  (fun pre W=>vg.heap.size≤W.heap.size∧eF W p (hd++(pre.map fun x=>xY x.1).flatten)∧Below w.heap.size w W)
  (fun _ _ _=>False)
  (fun s A B row ⟨h0,h1,h4⟩ hgr hr=>⟨Nat.le_trans h0 hgr.size,KG _ _ (fun _:Unit=>_) () A B row h1 hgr hr,h4.grown hgr (by have:=Zf.o;omega) (fun k e=>by have:=(hr k e).1;have:=Zf.o;omega)⟩)
  (fun _ _ _ _ _ h=>h.elim)
  ⟨Nat.le_refl _,by simpa using ahS,akO⟩
  (fun x a' W=>∃ xb,vg.heap.size≤xb∧aG W xb 171 #[.int .u32 x.1.id,.int .i64 x.1.aw,.int .i64 x.1.aR]∧a'= {tmps:=#[.pointer (some ⟨b,0,none⟩),undef,.slice none 0 0,.int .i64 0,.pointer (some ⟨p,0,none⟩),.pointer (some ⟨sv,0,none⟩),.pointer (some ⟨xb,0,none⟩),.pointer (some ⟨b,0,none⟩),.pointer (some ⟨b1,0,none⟩),.bool false,.pointer (some ⟨b,0,none⟩),.agg #[.int .i64 n,.int .i64 au,.int .i64 aA],.pointer (some ⟨sv,0,none⟩),.int .i64 n,.int .u16 n,u5,.pointer (some ⟨sv,1,none⟩),.int .i64 au,.int .u32 au,u6,.pointer (some ⟨b,0,none⟩),.int .u32 nx,u7,.pointer (some ⟨b,0,none⟩),.int .i64 ck,.int .u64 ck,u8,.pointer (some ⟨b,0,none⟩),.int .i64 L.length,.int .u16 L.length,u9,.pointer (some ⟨b,0,none⟩),.func (.func 363) #[] #[.pointer (some ⟨vb,0,none⟩)],.agg #[.int .u32 x.1.id,.int .i64 x.1.aw,.int .i64 x.1.aR],undef,undef,undef,undef,undef,undef,undef,undef,undef,undef,undef,undef],defers:=[]})
  (fun x a' _ A B row ⟨xb,h1,h2,h3⟩ hgr hr=>⟨xb,h1,oJ _ _ _ (fun _:Unit=>_) () A B row h2 hgr hr,h3⟩) ?assign ?body ?done ?stop
 case assign=>
  intro i pre x W K ⟨h0,h1,h4⟩ hK;have hb:=ay (Below.refl W.heap.size W) (.cells #[.int .u32 x.1.id,.int .i64 x.1.aw,.int .i64 x.1.aR] 171);have hKK:=hK _ _ (Below.sX hb _) ⟨hb.block vb ai,fun j hj=>hb.block j (by have:=VI j hj;omega)⟩ ⟨by have:=hb.size;omega,h1.ah hb,av h4 hb⟩ ⟨W.heap.size,h0,aG.fresh W _ _,rfl⟩;clear hK;dsimp only[aaw]
  gi_wp2
  exact hKK
 case stop=>intro _ _ _ _ _ _ h;exact h.elim
 case done=>
  rintro D xs W hD CV ⟨h0,h1,h4⟩ hK;have hm:hd++(xs.map fun x=>xY x.1).flatten=jT n au nx ck L:=by
   rw[←HHD.o,←CV];unfold jT OK;rw[List.map_map];simp
  rw[hm] at h1;have hlen:(jT n au nx ck L).length≤70000000:=by
   unfold jT;rw[bZ,DT,vU];have:=HLL.o;omega
  have HO:=aa (Oc.lV p _ W h1 hlen);have H4:=aa h4;have HK:=aa hK;have hDW:D<W.heap.size:=(eL.1 hK).1;clear h1 h4 hK hm hlen
  gi_wp2
  refine⟨trivial,iH (callsIn_wide.2 HO.o) ?_⟩;rintro e W2 ⟨A,c,rfl,hblk,hc,hg,Y8,hb⟩;have hK2:W2.heap[D]? =some (.deferred (some [])):=(hb.block D hDW).trans HK.o;have FL:=grownBy_putObj' W2 D (.deferred none);have lH:Below w.heap.size w (W2.putObj D (.deferred none)):=(av H4.o hb).grown FL (by have:=H4.o.size;have:=hb.size;omega) (fun k e=>by cases e;have:=Zf.o;omega);have HF:=aa (show XB (jT n au nx ck L) w (.returned (.tuple #[.slice A (jT n au nx ck L).length c,.int .i64 0])) (W2.putObj D (.deferred none))from⟨A,c,rfl,fun hne=>by
   obtain⟨g,h1,h2,cur,h3,h4'⟩:=hblk hne;exact⟨g,h1,by have:=H4.o.size;omega,cur,(tA ai).trans h3,h4'⟩,hc,lH⟩)
  have HK2:=aa hK2;clear hblk hc hg Y8 hb hK2 FL lH HO
  gi_wp2
  refine⟨dM,.inl ⟨_,_,rfl,run_takeDeferred HK2.o,?_⟩⟩;refine⟨_,results_tmp2 rfl _ _ _,?_⟩;exact HF.o
 case body=>
  rintro r pre ⟨⟨id,aw,aR⟩,hx⟩ a' W hl hr ⟨h0,h1,h4⟩ ⟨xb,yX,hax,rfl⟩ hlt;have hx':=hx;unfold BX at hx';dsimp only at hx';obtain⟨idn,rfl⟩: ∃ k:Nat,id=k:=⟨id.toNat,ai⟩;obtain⟨tn,rfl⟩: ∃ k:Nat,aR=k:=⟨aR.toNat,ai⟩;dsimp only at hax;have hpl:pre.length≤4096:=by have:=HLL.o;omega
  have lS:((pre.map fun x=>xY x.1).flatten).length=14*pre.length:=by
   have:=vU (pre.map (·.1))
   rwa [List.map_map,List.length_map] at this
  have hbl:(hd++(pre.map fun x=>xY x.1).flatten).length≤67000000:=by rw[bZ,Po.o,lS];omega
  obtain⟨bs,tM⟩:=ae (hd++(pre.map fun x=>xY x.1).flatten);rw[tM] at h1 hbl;have jD:uY.wrap (aw:Int)=(aw:Int):=by rw[pn];omega
  have og:IntKind.u64.wrap (tn:Int)=(tn:Int):=ow;have e0:W.cell? ⟨xb,0,none⟩=some (.int .u32 idn):=hax.cell 0;have mF:xb≠p:=ai;have XZ:=aa h1;have HA0:=aa hax;have HI0:=aa h4;have KE:=aa tM;have El:=aa hbl;have H0:=aa h0;have HI:=aa (show idn<4294967296∧aw<65536∧tn<18446744073709551616 from ai);clear h1 hax h4 tM hbl h0 hx' lS hr
  gi_wp2
  refine⟨trivial,iH (GC r (callsIn_wide.2 (Oc.df p idn bs W XZ.o (by have:=El.o;omega) HI.o.1))) ?_⟩;rintro e Wa ⟨⟨ua,rfl⟩,hWa,Jp⟩;have haa:aG Wa xb 171 #[.int .u32 idn,.int .i64 aw,.int .i64 tn]:=(Jp.block xb HA0.o.lt mF).trans HA0.o;have e1:=haa.cl 1;have HWa:=aa hWa;have HTa:=aa Jp;have KF:=aa haa;clear hWa Jp haa
  gi_wp2
  refine⟨trivial,iH (GC r (callsIn_wide.2 (Oc.eO p aw _ Wa HWa.o (by have:=El.o;simp[Oc.bG];omega) HI.o.2.1))) ?_⟩;rintro e Wb ⟨⟨ub,rfl⟩,hWb,hTb⟩;have hab:aG Wb xb 171 #[.int .u32 idn,.int .i64 aw,.int .i64 tn]:=(hTb.block xb KF.o.lt mF).trans KF.o;have e2:=hab.cl 2;have HWb:=aa hWb;have HTb:=aa hTb;clear hWb hTb hab
  gi_wp2
  refine⟨trivial,iH (GC r (callsIn_wide.2 (Oc.ed p tn _ Wb HWb.o (by have:=El.o;simp[Oc.bG];omega) HI.o.2.2))) ?_⟩;rintro e Wc ⟨⟨uc,rfl⟩,hWc,hTc⟩;have hT:=(HTa.o.trans HTb.o).trans hTc;have HF:=aa (show ownPostG vg.heap.size (KpV vb v) (fun pre W=>vg.heap.size≤W.heap.size∧eF W p (hd++(pre.map fun x=>xY x.1).flatten)∧Below w.heap.size w W) (fun _ _ _=>False) (pre++ [⟨⟨(idn:Int),aw,(tn:Int)⟩,hx⟩]) W Exit.normal {tmps:=#[],defers:=[]} Wc from by
   obtain⟨A,c,hp0,_⟩:=XZ.o.ex;refine⟨aI.sX hT hp0 _,⟨hT.block vb (by have:=H0.o;omega) aj8,fun j hj=>hT.block j (by have:=VI j hj;have:=H0.o;omega) (aj7 j hj)⟩,Nat.le_trans H0.o hT.size,?_,aI.fresh hT HI0.o (fun k hk=>xu)⟩;rw[List.map_append,List.flatten_append,←List.append_assoc,KE.o];simpa[xY,List.append_assoc] using hWc)
  clear hWc hTc hT
  gi_wp2
  exact HF.o
