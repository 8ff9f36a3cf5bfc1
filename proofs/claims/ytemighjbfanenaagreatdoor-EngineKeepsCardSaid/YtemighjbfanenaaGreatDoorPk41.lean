import Derived.Test.YtemighjbfanenaaGreatDoorPk40
import Derived.Test.YtemighjbfanenaaGreatDoorPk6
import Derived.Sort.Row
set_option linter.all false
set_option maxRecDepth 100000
set_option maxHeartbeats 16000000
namespace Go.Proofs.YtemighjbfanenaaGreatDoor
open RowKit
open Go.CallsIn renaming mono→iK,inRound→G7
open Go.IntKind renaming wrap_u64→mH,u16→vh,wrap_u16→o7
open Go.World renaming putObj_heap_other→tA
open List renaming length_append→dz
open _root_.Array renaming getElem?_eq_some_iff→eP
theorem xk{p:Prop}(h:p:=by rw[show k=p from hk];exact HPW.o):p:=h
section
namespace Im
open Go.RowKit Go.Shelf
open Bk
open Oc (Bs aN fJ le eL iq gj)
attribute [local go_sem] Oper.semAt_some
def xX(x:bU): List UInt8:=le x.id.toNat 4++le x.av 2++le x.aR.toNat 8
def PB(n au nx ck len:Nat): List UInt8:=le n 2++le au 4++le nx 4++le ck 8++le len 2
def kh(n au nx ck:Nat)(L:List bU): List UInt8:=PB n au nx ck L.length++(L.map xX).flatten
theorem Yd(x:bU): (xX x).length=14:=by simp[xX,Oc.bM]
theorem vY: ∀ L:List bU,((L.map xX).flatten).length=14*L.length
 | []=>rfl
 | x::L=>by rw[List.map_cons,List.flatten_cons,dz,vY L,Yd,List.length_cons];omega
theorem Em(n au nx ck len:Nat): (PB n au nx ck len).length=20:=by simp[PB,Oc.bM]
theorem aG.th{p:Nat}{t:TypeId}{cs:Array Value}{W W':World}(h:aG (· =p) W W')(hp:aD W p t cs)(B:Nat): KeepsFrom B W W':=
 ⟨h.size,fun k o _ hk ho=>(h.block k (eP.1 hk).1 (fun e=>by
  rw[show k=p from e,show W.heap[p]? =_ from hp] at hk;cases hk;cases ho)).trans hk⟩
theorem Ns{β:Type}(B:Nat)(A:β→Option Addr)(f:β→List UInt8): OwnFrom B (fun s W=>Bs W (A s) (f s)):=fun s W W' row hs hg hr hne=>by
 obtain⟨g,off,h1,h2,h3⟩:=hs hne;have hc: ∃ u,(aN (f s))[0]? =some u:=by
  obtain⟨x,r,e⟩:=List.exists_cons_of_ne_nil hne;rw[e];exact⟨_,rfl⟩
 obtain⟨u,hu⟩:=hc;obtain⟨c,e,fr,hb,_⟩:=Go.Sort.cells_of_cell? (h3 0 u hu);have heq:W'.heap[g]? =W.heap[g]?:=hg.block g h2 (fun e=>by
  obtain⟨_,o,ho,hn⟩:=hr g e.symm;rw[hb] at ho;cases ho;cases hn)
 exact⟨g,off,h1,Nat.lt_of_lt_of_le h2 hg.size,fun i u hu=>(World.cell?_of_block (a:=⟨g,off+i,none⟩) heq).trans (h3 i u hu)⟩
theorem Ll{β:Type}(B p:Nat)(f:β→List UInt8): OwnFrom B (fun s W=>eL W p (f s)):=fun s W W' row hs hg hr=>by
 obtain⟨A,c,h1,h2,h3⟩:=hs.ex;exact⟨A,c,oB B p _ (fun _:Unit=>_) () W W' row h1 hg hr,Ns B (fun _:Unit=>A) (fun _=>f s) () W W' row h2 hg hr,h3⟩
def BX(x:bU): Prop:=(0≤x.id∧x.id<4294967296)∧x.av<1024∧0≤x.aR∧x.aR≤1099511627776
def YL(bs:List UInt8)(w:World)(e:Ending)(w':World): Prop:=
 ∃ A c,e= .returned (.tuple #[.slice A bs.length c,.int .i64 0])∧(bs≠ []→∃ g,A=some ⟨g,0,none⟩∧w.heap.size≤g∧eC w' 5 g bs)∧bs.length≤c∧Below w.heap.size w w'
theorem agK{S:Nat→Prop}{w:World}{b n au nx ck:Nat}{az:Int}{L:List bU}{q:bD}(h:bl S w b n au az nx ck L q)(hk:KQ n au az nx ck L): Calls Tryz.prog 213 #[.pointer (some ⟨b,0,none⟩)] w (YL (kh n au nx ck L) w):=by
 have uJ:=tS.lL hk.MC;have Ef:=hk.Pp;have PD:=hk.WK;have hLn:=hk.afq;have HX:=aa (show ∀ x∈L,BX x from fun x hx=>by
  have h1:=hk.kids x hx;have h2:=hk.WE x hx;have h3:=hk.ahR x hx;unfold BX;omega)
 have HCP:=aa (GS h hk);have HH:=aa h;have HR:=aa hk.WG;have aX:vh.wrap (n:Int)=(n:Int):=by rw[o7];omega
 have hw2:IntKind.u32.wrap (au:Int)=(au:Int):=by rw[IntKind.wrap_u32];omega
 have hw3:IntKind.u64.wrap (ck:Int)=(ck:Int):=py;have hw4:vh.wrap (L.length:Int)=(L.length:Int):=by rw[o7];omega
 have HLL:=aa (show L.length≤4096 from ag);have HN:=aa (show n<65536∧au<4294967296∧nx<4294967296∧ck<18446744073709551616∧L.length<65536 from ag);clear h hk uJ Ef PD hLn;refine(callsIn_wide (n:=9)).1 ?_;refine callsIn_of_wp_marks Tryz.func213 rfl trivial ?_ rfl;simp only[Tryz.ntmps213,List.size_toArray,List.length_cons,List.length_nil,Nat.reduceAdd,Nat.reduceSub,Array.replicate_succ,Array.replicate_zero,List.push_toArray,List.append_toArray,List.nil_append,List.cons_append]
 gi_wp2_with (refine⟨trivial,?_⟩;gi_at_call 66;refine(callsIn_wide.2 HCP.o).mono ?_;rintro e w1 ⟨b1,S1,q1,rfl,ams,hS1,hb1⟩)
 have bu:=aa hb1;have hc1:=HH.o.ai hb1;have kZ:=aa hc1;clear ams hS1 hb1 HCP;obtain⟨w2,WR⟩:=ae (w1.alloc (.cells #[.slice none 0 0] 150));obtain⟨p,hp⟩:=ae w1.heap.size;have hW2:eL w2 p []:=by rw[←WR,←hp];exact Oc.eL.fresh w1
 have HPW:=aa (show w.heap.size≤p by rw[←hp];exact bu.o.size);have nL:=eH bu.o WR;have Bw:p<w2.heap.size:=by rw[←WR,←hp];simp
 rw[WR,hp];refine⟨trivial,iK (callsIn_wide.2 (fT (HH.o.bg.ai nL))) ?_⟩;rintro e w3 ⟨rfl,hb3⟩;obtain⟨w4,afz⟩:=ae (w3.alloc (.cells #[.int .i64 n,.int .i64 au,.int .i64 az] 80));obtain⟨sv,Di⟩:=ae w3.heap.size;have mh:=aH afz Di;have hb4:=eH hb3 afz;have HW4:=aa (hW2.keep hb4);have gI:=aa (ar nL hb4);have po:=aa mh;have Sv:=aa (show p≠sv by have:=hb3.size;omega);have s40:=mh.cl 0;have s41:=mh.cl 1;clear mh;have s4h:w4.cell? ⟨w3.heap.size,0,none⟩=some (.int .i64 n):=by rw[Di];exact s40
 clear WR hp hW2 nL Bw hb3 hb4 bu
 gi_wp2
 clear s4h s40 s41 Di afz;refine⟨trivial,iK (callsIn_wide.2 (Oc.eV p n _ w4 HW4.o dA HN.o.1)) ?_⟩;rintro e w5 ⟨⟨u5,rfl⟩,hW,hT⟩;have Sn:=aa hW;have eQ:=aa (aG.fresh hT gI.o (fun k hk=>xk));have fY:aD w5 sv 80 #[.int .i64 n,.int .i64 au,.int .i64 az]:=(hT.block sv po.o.lt (fun e=>Sv.o e.symm)).trans po.o;have o6:=aa fY;clear hW hT HW4 gI po;have s50:=fY.cl 0;have s51:=fY.cl 1;clear fY
 gi_wp2
 clear s50 s51;refine⟨trivial,iK (callsIn_wide.2 (Oc.cY p au _ w5 Sn.o dC HN.o.2.1)) ?_⟩;rintro e w6 ⟨⟨u6,rfl⟩,hW,hT⟩;have Y8:=aa hW;have jy:=aa (aG.fresh hT eQ.o (fun k hk=>xk));have vt:aD w6 sv 80 #[.int .i64 n,.int .i64 au,.int .i64 az]:=(hT.block sv o6.o.lt (fun e=>Sv.o e.symm)).trans o6.o;have wA:=aa vt;clear hW hT Sn eQ o6;clear vt
 gi_wp2
 refine⟨trivial,iK (callsIn_wide.2 (wh (HH.o.bg.ai jy.o))) ?_⟩;rintro e w9 ⟨rfl,jT⟩;rw[jT];clear jT w9
 gi_wp2
 refine⟨trivial,iK (callsIn_wide.2 (Oc.cY p nx _ w6 Y8.o dC HN.o.2.2.1)) ?_⟩;rintro e w7 ⟨⟨u7,rfl⟩,hW,hT⟩;have P1:=aa hW;have pj:=aa (aG.fresh hT jy.o (fun k hk=>xk));have Ik:aD w7 sv 80 #[.int .i64 n,.int .i64 au,.int .i64 az]:=(hT.block sv wA.o.lt (fun e=>Sv.o e.symm)).trans wA.o;have zh:=aa Ik;clear hW hT Y8 jy wA;clear Ik
 gi_wp2
 refine⟨trivial,iK (callsIn_wide.2 (sO (HH.o.bg.ai pj.o))) ?_⟩;rintro e w9 ⟨rfl,jT⟩;rw[jT];clear jT w9
 gi_wp2
 refine⟨trivial,iK (callsIn_wide.2 (Oc.ej p ck _ w7 P1.o dC HN.o.2.2.2.1)) ?_⟩;rintro e w8 ⟨⟨u8,rfl⟩,hW,hT⟩;have HW8:=aa hW;have ru:=aa (aG.fresh hT pj.o (fun k hk=>xk));have Nh:aD w8 sv 80 #[.int .i64 n,.int .i64 au,.int .i64 az]:=(hT.block sv zh.o.lt (fun e=>Sv.o e.symm)).trans zh.o;have zg:=aa Nh;clear hW hT P1 pj zh;clear Nh
 gi_wp2
 refine⟨trivial,iK (callsIn_wide.2 (uX (HH.o.bg.ai ru.o))) ?_⟩;rintro e w9 ⟨rfl,jT⟩;rw[jT];clear jT w9
 gi_wp2
 refine⟨trivial,iK (callsIn_wide.2 (Oc.eV p L.length _ w8 HW8.o dC HN.o.2.2.2.2)) ?_⟩;rintro e w9 ⟨⟨u9,rfl⟩,hW,hT⟩;have HW9:=aa hW;have CT:=aa (aG.fresh hT ru.o (fun k hk=>xk));have dE:aD w9 sv 80 #[.int .i64 n,.int .i64 au,.int .i64 az]:=(hT.block sv zg.o.lt (fun e=>Sv.o e.symm)).trans zg.o;have pn:=aa dE;clear hW hT HW8 ru zg;clear dE pn
 gi_wp2
 refine⟨trivial,iK (callsIn_wide.2 (aca (HH.o.ai CT.o) HR.o)) ?_⟩;rintro e tX ⟨vb,v,rfl,hV,mN,hvk,vX⟩
 gi_wp2
 have hp9:p<w9.heap.size:=by obtain⟨A,c,h1,_⟩:=HW9.o.ex;exact h1.lt
 have aiJ:=vX.size;have alA:vb≠p:=ag;have alz: ∀ k,v.ownBlock=some k→k≠p:=fun k hk=>by have:=hvk k hk;omega
 have anA:vb<tX.heap.size:=hV.cell.lt;have WT:=hV.lt;have ajd:=HW9.o.keep vX;have amy:=ar CT.o vX;obtain⟨hd,hhd⟩:=ae (([]++le n 2++le au 4++le nx 4++le ck 8++le L.length 2:List UInt8));rw[hhd] at ajd;have HHD:=aa hhd;have tM:hd.length=20:=by rw[←hhd];simp[Oc.bM]
 have Qa:=aa tM;clear hhd tM HW9 CT vX mN hvk aX hw2 hw3 hw4 HH HR kZ hc1;refine wpIn_rangeFunc_ownH (n:=9) rfl aM (gf:=363) (lb:=#[.pointer (some ⟨vb,0,none⟩)]) rfl trivial (enters_of Tryz.func363 aW rfl)
  (E0 8 ag vb v L (by have:=HLL.o;omega) HX.o tX hV) (fun h k=>⟨k.1.trans h.1,fun j hj=>(k.2 j hj).trans (h.2 j hj)⟩) (fun W i o o' h hc hw hk=>⟨tA ag,fun j hj=>tA (by have:=WT j hj;omega)⟩) (Below.refl _ _) (fun _=>rfl)
  (fun pre W=>tX.heap.size≤W.heap.size∧eL W p (hd++(pre.map fun x=>xX x.1).flatten)∧Below w.heap.size w W)
  (fun _ _ _=>False)
  (fun s A B row ⟨h0,h1,h4⟩ hgr hr=>⟨Nat.le_trans h0 hgr.size,Ll _ _ (fun _:Unit=>_) () A B row h1 hgr hr,h4.grown hgr (by have:=HPW.o;omega) (fun k e=>by have:=(hr k e).1;have:=HPW.o;omega)⟩)
  (fun _ _ _ _ _ h=>h.elim)
  ⟨Nat.le_refl _,by simpa using ajd,amy⟩
  (fun x a' W=>∃ xb,tX.heap.size≤xb∧aD W xb 171 #[.int .u32 x.1.id,.int .i64 x.1.av,.int .i64 x.1.aR]∧a'= {tmps:=#[.pointer (some ⟨b,0,none⟩),undef,.slice none 0 0,.int .i64 0,.pointer (some ⟨p,0,none⟩),.pointer (some ⟨sv,0,none⟩),.pointer (some ⟨xb,0,none⟩),.pointer (some ⟨b,0,none⟩),.pointer (some ⟨b1,0,none⟩),.bool false,.pointer (some ⟨b,0,none⟩),.agg #[.int .i64 n,.int .i64 au,.int .i64 az],.pointer (some ⟨sv,0,none⟩),.int .i64 n,.int .u16 n,u5,.pointer (some ⟨sv,1,none⟩),.int .i64 au,.int .u32 au,u6,.pointer (some ⟨b,0,none⟩),.int .u32 nx,u7,.pointer (some ⟨b,0,none⟩),.int .i64 ck,.int .u64 ck,u8,.pointer (some ⟨b,0,none⟩),.int .i64 L.length,.int .u16 L.length,u9,.pointer (some ⟨b,0,none⟩),.func (.func 363) #[] #[.pointer (some ⟨vb,0,none⟩)],.agg #[.int .u32 x.1.id,.int .i64 x.1.av,.int .i64 x.1.aR],undef,undef,undef,undef,undef,undef,undef,undef,undef,undef,undef,undef],defers:=[]})
  (fun x a' _ A B row ⟨xb,h1,h2,h3⟩ hgr hr=>⟨xb,h1,oB _ _ _ (fun _:Unit=>_) () A B row h2 hgr hr,h3⟩) ?assign ?body ?done ?stop
 case assign=>
  intro i pre x W K ⟨h0,h1,h4⟩ hK;have hb:=aw (Below.refl W.heap.size W) (.cells #[.int .u32 x.1.id,.int .i64 x.1.av,.int .i64 x.1.aR] 171);have hKK:=hK _ _ (Below.th hb _) ⟨hb.block vb ag,fun j hj=>hb.block j (by have:=WT j hj;omega)⟩ ⟨by have:=hb.size;omega,h1.keep hb,ar h4 hb⟩ ⟨W.heap.size,h0,aD.fresh W _ _,rfl⟩;clear hK;dsimp only[abj]
  gi_wp2
  exact hKK
 case stop=>intro _ _ _ _ _ _ h;exact h.elim
 case done=>
  rintro D xs W hD Df ⟨h0,h1,h4⟩ hK;have hm:hd++(xs.map fun x=>xX x.1).flatten=kh n au nx ck L:=by
   rw[←HHD.o,←Df];unfold kh PB;rw[List.map_map];simp
  rw[hm] at h1;have hlen:(kh n au nx ck L).length≤70000000:=by
   unfold kh;rw[dz,Em,vY];have:=HLL.o;omega
  have HO:=aa (Oc.lQ p _ W h1 hlen);have H4:=aa h4;have HK:=aa hK;have hDW:D<W.heap.size:=(eP.1 hK).1;clear h1 h4 hK hm hlen
  gi_wp2
  refine⟨trivial,iK (callsIn_wide.2 HO.o) ?_⟩;rintro e W2 ⟨A,c,rfl,hblk,hc,hg,RV,hb⟩;have hK2:W2.heap[D]? =some (.deferred (some [])):=(hb.block D hDW).trans HK.o;have xN:=grownBy_putObj' W2 D (.deferred none);have lF:Below w.heap.size w (W2.putObj D (.deferred none)):=(ar H4.o hb).grown xN (by have:=H4.o.size;have:=hb.size;omega) (fun k e=>by cases e;have:=HPW.o;omega);have HF:=aa (show YL (kh n au nx ck L) w (.returned (.tuple #[.slice A (kh n au nx ck L).length c,.int .i64 0])) (W2.putObj D (.deferred none))from⟨A,c,rfl,fun hne=>by
   obtain⟨g,h1,h2,cur,h3,h4'⟩:=hblk hne;exact⟨g,h1,by have:=H4.o.size;omega,cur,(tA ag).trans h3,h4'⟩,hc,lF⟩)
  have HK2:=aa hK2;clear hblk hc hg RV hb hK2 xN lF HO
  gi_wp2
  refine⟨dA,.inl ⟨_,_,rfl,run_takeDeferred HK2.o,?_⟩⟩;refine⟨_,results_tmp2 rfl _ _ _,?_⟩;exact HF.o
 case body=>
  rintro r pre ⟨⟨id,av,aR⟩,hx⟩ a' W hl hr ⟨h0,h1,h4⟩ ⟨xb,Dg,hax,rfl⟩ hlt;have hx':=hx;unfold BX at hx';dsimp only at hx';obtain⟨idn,rfl⟩: ∃ k:Nat,id=k:=⟨id.toNat,ag⟩;obtain⟨tn,rfl⟩: ∃ k:Nat,aR=k:=⟨aR.toNat,ag⟩;dsimp only at hax;have hpl:pre.length≤4096:=by have:=HLL.o;omega
  have lM:((pre.map fun x=>xX x.1).flatten).length=14*pre.length:=by
   have:=vY (pre.map (·.1))
   rwa [List.map_map,List.length_map] at this
  have hbl:(hd++(pre.map fun x=>xX x.1).flatten).length≤67000000:=by rw[dz,Qa.o,lM];omega
  obtain⟨bs,tN⟩:=ae (hd++(pre.map fun x=>xX x.1).flatten);rw[tN] at h1 hbl;have jK:vh.wrap (av:Int)=(av:Int):=by rw[o7];omega
  have mM:IntKind.u64.wrap (tn:Int)=(tn:Int):=py;have e0:W.cell? ⟨xb,0,none⟩=some (.int .u32 idn):=hax.cell 0;have mz:xb≠p:=ag;have Y9:=aa h1;have HA0:=aa hax;have HI0:=aa h4;have Lj:=aa tN;have vd:=aa hbl;have H0:=aa h0;have HI:=aa (show idn<4294967296∧av<65536∧tn<18446744073709551616 from ag);clear h1 hax h4 tN hbl h0 hx' lM hr
  gi_wp2
  refine⟨trivial,iK (G7 r (callsIn_wide.2 (Oc.cY p idn bs W Y9.o (by have:=vd.o;omega) HI.o.1))) ?_⟩;rintro e Wa ⟨⟨ua,rfl⟩,hWa,JT⟩;have haa:aD Wa xb 171 #[.int .u32 idn,.int .i64 av,.int .i64 tn]:=(JT.block xb HA0.o.lt mz).trans HA0.o;have e1:=haa.cl 1;have HWa:=aa hWa;have HTa:=aa JT;have Lk:=aa haa;clear hWa JT haa
  gi_wp2
  refine⟨trivial,iK (G7 r (callsIn_wide.2 (Oc.eV p av _ Wa HWa.o (by have:=vd.o;simp[Oc.bM];omega) HI.o.2.1))) ?_⟩;rintro e Wb ⟨⟨ub,rfl⟩,hWb,hTb⟩;have hab:aD Wb xb 171 #[.int .u32 idn,.int .i64 av,.int .i64 tn]:=(hTb.block xb Lk.o.lt mz).trans Lk.o;have e2:=hab.cl 2;have HWb:=aa hWb;have HTb:=aa hTb;clear hWb hTb hab
  gi_wp2
  refine⟨trivial,iK (G7 r (callsIn_wide.2 (Oc.ej p tn _ Wb HWb.o (by have:=vd.o;simp[Oc.bM];omega) HI.o.2.2))) ?_⟩;rintro e Wc ⟨⟨uc,rfl⟩,hWc,hTc⟩;have hT:=(HTa.o.trans HTb.o).trans hTc;have HF:=aa (show ownPostG tX.heap.size (KpV vb v) (fun pre W=>tX.heap.size≤W.heap.size∧eL W p (hd++(pre.map fun x=>xX x.1).flatten)∧Below w.heap.size w W) (fun _ _ _=>False) (pre++ [⟨⟨(idn:Int),av,(tn:Int)⟩,hx⟩]) W Exit.normal {tmps:=#[],defers:=[]} Wc from by
   obtain⟨A,c,hp0,_⟩:=Y9.o.ex;refine⟨aG.th hT hp0 _,⟨hT.block vb (by have:=H0.o;omega) alA,fun j hj=>hT.block j (by have:=WT j hj;have:=H0.o;omega) (alz j hj)⟩,Nat.le_trans H0.o hT.size,?_,aG.fresh hT HI0.o (fun k hk=>xk)⟩;rw[List.map_append,List.flatten_append,←List.append_assoc,Lj.o];simpa[xX,List.append_assoc] using hWc)
  clear hWc hTc hT
  gi_wp2
  exact HF.o
