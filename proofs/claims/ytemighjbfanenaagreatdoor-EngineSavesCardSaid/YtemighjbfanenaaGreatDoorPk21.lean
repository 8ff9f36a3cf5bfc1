import Derived.Test.YtemighjbfanenaaGreatDoorPk20
set_option linter.all false
set_option maxRecDepth 100000
set_option maxHeartbeats 16000000
namespace Go.Proofs.YtemighjbfanenaaGreatDoor
open RowKit
open Oc (il Bs fZ ej cY lQ zV eM eG fF aP ed bu bQ le rh eP cI mV eY val)
open Cr (cj ic)
open Go.Proofs.Tryz renaming prog→af
open Go.Value renaming slice→ji
open Go.World renaming cell?_of_block→eO,frozen?_of_block→PY
open Nat renaming zero_le→cm
open RowKit.Below renaming refl→au
theorem Vq{p:Prop}(h:p:=by
 go_enter Tryz.func337,Tryz.ntmps337;go_wp2_with fail;go_ret;exact⟨rfl,ax (au _ _) _⟩):p:=h
section
namespace En
theorem Lg.sJ(l:Lg)(b:By)(hd:l.done≤l.eD.length): (l.append b).cw=l.cw∧(l.append b).aF=l.aF++qE l.bX (l.last+1) b∧(l.append b).dx=l.dx∧(l.append b).last=l.last+1∧(l.append b).bX=l.bX∧(l.append b).used=l.used+22+b.length:=by
 refine⟨?_,?_,rfl,?_,rfl,?_⟩
 ·unfold Lg.cw Lg.append;simp only;rw[List.take_append_of_le_length hd]
 ·unfold Lg.aF Lg.append;simp only;rw[List.drop_append_of_le_length hd,sF,List.length_drop,show l.first+l.done+(l.eD.length - l.done)=l.last by unfold Lg.last;omega];simp[jc]
 ·unfold Lg.last Lg.append;simp;omega
 unfold Lg.used Lg.append;simp only;rw[sF,List.length_append];simp[jc,qD];omega
def PH(SL:Nat→Prop)(q r p:Nat)(l:Lg)(g:Rg)(size:Nat)(b:By)(w:World)(e:Ending)(w':World): Prop:=
 (if l.fits (g.bytes size) b.length=true then e= .returned (.tuple #[.int .u64 (l.last+1:Nat),.int .i64 0])∧uX q r p (l.append b) g size (Gr SL w w') w' else e= .returned (.tuple #[.int .u64 0,.int .i64 6])∧uX q r p l g size (Gr SL w w') w')∧aI SL w w'
variable{w:World}{r p size:Nat}
theorem M3{SL:Nat→Prop}{q:Nat} {l:Lg}{g:Rg}{v:Value}(h:gD SL w q r p l g size v)(b:By)(gb off c:Nat)(hB:Bs w (some ⟨gb,off,none⟩) b)(hne:b≠ [])(hl:b.length≤32)(ht:cj w):
  Calls af 218 #[.pointer (some ⟨q,0,none⟩),.slice (some ⟨gb,off,none⟩) b.length c] w (PH SL q r p l g size b w):=by
 have x4:w.cell? ⟨q,4,none⟩=some (.pointer (some ⟨r,0,none⟩)):=h.own.cell 4;have Ng:=aa (XU h b.length aj);have hl':(b.length:Int)≤32:=aj;have hn': ¬(32:Int)<(b.length:Int):=aj;have H:=aa h;have HB:=aa hB;have kV:=aa hne;have M6:=aa ht;obtain⟨n,hn⟩:=ae b.length;obtain⟨fits,JD⟩:=ae (l.fits (g.bytes size) n);rw[hn] at hl hl' hn' Ng ⊢;rw[JD] at Ng;have HN:=aa hn;have HFI:=aa JD;have L:=aa (cE q r p l g size);clear h hB hne ht hn;cases fits with
 | false=>
  clear JD;go_enter Tryz.func218,Tryz.ntmps218;go_wp2_with fail;refine ag (iT q r w x4) ?_;go_wp2_with fail;refine Ng.o.mono ?_;rintro e w1 ⟨rfl,hb1⟩;have HF:=aa (show PH SL q r p l g size b w (.returned (.tuple #[.int .u64 0,.int .i64 6])) w1 from by
   refine⟨?_,aI.aU hb1⟩;rw[HN.o,HFI.o,if_neg dR];exact⟨rfl,L.o.AB (L.o.ak ⟨_,H.o⟩ hb1) H.o.lt hb1.size⟩)
  clear hb1;go_wp2_with fail;go_ret2;exact HF.o
 | true=>
  have hf:=JD;unfold Lg.fits at hf;simp only[Bool.and_eq_true,decide_eq_true_eq] at hf;obtain⟨⟨_,JB⟩,hroom⟩:=hf;have Mr:=H.o.ok.last;have HLA:=aa JB;have HRO:=aa hroom;have hw:IntKind.u64.wrap ((l.last:Nat):Int)=((l.last:Nat):Int):=IntWalk.u64_in _ aj;obtain⟨A,cv,hv⟩:=cy H.o.row;have HV:=aa hv;clear JD JB hroom Mr hv;go_enter Tryz.func218,Tryz.ntmps218;go_wp2_with fail;refine ag (iT q r w x4) ?_;go_wp2_with fail;refine Ng.o.mono ?_;rintro e w1 ⟨rfl,hb1⟩;obtain⟨v1,h1⟩:=L.o.ak ⟨_,H.o⟩ hb1;have CX:=aa (Kh h1);rw[if_neg HLA.o] at CX;have x5:w1.cell? ⟨q,5,none⟩=some (.int .u64 (l.bX:Nat)):=h1.own.cell 5;have HFP:=aa (abo l.bX (l.last+1) b gb off c w1 H.o.ok.bX (by have:=HLA.o;have:=H.o.ok.last;omega) (HB.o.ai hb1) kV.o (by rw[HN.o];exact hl) (M6.o.ai hb1));rw[HN.o] at HFP;have bz:=aa hb1;have H1:=aa h1;obtain⟨ls,hls⟩:=ae (l.last+1);obtain⟨ep,Mw⟩:=ae l.bX;rw[hls] at CX HFP;rw[Mw] at x5 HFP;have Sr:=aa hls;have HEP:=aa Mw;clear hb1 h1 hls Mw hw Ng;go_wp2_with fail;refine ag CX.o ?_;go_wp2_with fail;refine HFP.o.mono ?_;rintro e w2 ⟨⟨A2,c2,rfl,pc⟩,hb2⟩;obtain⟨fb,vu⟩:=ae (qE ep ls b);have lM:fb.length=22+n:=by rw[←vu,qD,HN.o]
  rw[vu] at pc ⊢;have ahG:fb≠ []:=by intro e;rw[e] at lM;simp at lM;omega
  obtain⟨g2,o2,rfl,hg2,hc2⟩:=pc ahG;have MA:Below w.heap.size w w2:=av bz.o hb2;have jo:aG w2 q 88 (lgC l r v):=H.o.own.ai MA;obtain⟨ws,hws⟩:=ae l.aF;obtain⟨wl,Hu⟩:=ae ws.length;have hrow2:w2.ownsRow 0 5 1 (.slice A wl cv) wl (aP ws):=by
   have h1:=dY H.o.row (w':=w2) fun k hk=>MA.block k (dM H.o.row hk).1
   rwa [HV.o,hws,Hu] at h1
  have hvv:v= .slice A wl cv:=by rw[HV.o,hws,Hu]
  have x0:w2.cell? ⟨q,0,none⟩=some (.slice A wl cv):=by rw[←hvv];exact jo.cell 0
  have x3:w2.cell? ⟨q,3,none⟩=some (.int .u64 (l.last:Nat)):=jo.cell 3;have m0:=jo.mark 0;have m3:=jo.mark 3;have hsm:wl+(22+n)≤268435456:=by
   have h1:=H.o.small.2;have h2:=HRO.o;have h3:=H.o.rg.eQ;rw[hws,Hu] at h1;omega
  obtain⟨i0,hi,hz0,hz1,hz2⟩:=info_parts eY;have alp:=aa jo;have aiY:=aa hrow2;have HVV:=aa hvv;have HSM:=aa hsm;have Gs:=aa lM;have af5:=aa MA;have alD:=aa pc;have HWS:=aa hws;have HWL:=aa Hu;have PA:=aa vu;have HI0:=aa hi;have HZ0:=aa hz0;have HZ1:=aa hz1;have Sk:=aa hz2;have HQ:=aa (show ∀ k,(ji A wl cv).ownBlock=some k→k≠q from fun k hk=>(H.o.bA.2.2 k (by rw[hvv];exact hk)).2.1);have HQL:=aa jo.lt;rw[lM];clear jo hrow2 hvv hsm lM MA pc hws Hu vu hi hz0 hz1 hz2 hb2 ahG hg2 hc2;go_wp2_with (refine wpList_append_own_at _ rfl _ _ 34 rfl 0 5 i0 (.int .u8 0) 1 1 Tryz.underlying34 HI0.o HZ0.o HZ1.o Sk.o rfl aN (.slice A wl cv) wl (aP ws) rfl aiY.o ⟨g2,o2,none⟩ (22+n) c2 (aP fb) rfl (by rw[bu,Gs.o,Nat.mul_one]) alD.o.read (bQ _) (by have:=HSM.o;unfold maxLen;omega) (by have:=HSM.o;omega) (cm _) ?_;intro v5 w5 kz lZ V3 ahU;obtain⟨A5,c5,rfl⟩:=cy kz;have m0':w5.frozen? ⟨q,0,none⟩=false:=(PY (a:=⟨q,0,none⟩) (lZ.block q HQL.o (fun e=>HQ.o q e.symm rfl))).trans m0;have x0':w5.cell? ⟨q,0,none⟩=some (.slice A wl cv):=(eO (a:=⟨q,0,none⟩) (lZ.block q HQL.o (fun e=>HQ.o q e.symm rfl))).trans x0;have m3':w5.frozen? ⟨q,3,none⟩=false:=(PY (a:=⟨q,3,none⟩) (lZ.block q HQL.o (fun e=>HQ.o q e.symm rfl))).trans m3;have x3':w5.cell? ⟨q,3,none⟩=some (.int .u64 (l.last:Nat)):=(eO (a:=⟨q,3,none⟩) (lZ.block q HQL.o (fun e=>HQ.o q e.symm rfl))).trans x3;have EC:=aa kz;have wH:=aa lZ;have alK:=aa ahU;clear kz lZ V3 ahU);go_ret2;have hq:=H.o.bA;have hql:=HQL.o;have OU:w2.heap.size≤w5.heap.size:=wH.o.size;have ho5:aG w5 q 88 (lgC l r (.slice A wl cv)):=(wH.o.block q HQL.o (fun e=>HQ.o q e.symm rfl)).trans (by have:=alp.o;rw[HVV.o] at this;exact this);obtain⟨wf,zn⟩:=ae ((w5.setCell ⟨q,0,none⟩ (.slice A5 (wl+(22+n)) c5)).setCell ⟨q,3,none⟩ (.int .u64 ((ls:Nat):Int)));have hTq:aI (· =q) w5 wf:=by rw[←zn];exact(aI.at w5 q 0 _).Cb 3 _
  have Hw:aG wf q 88 #[.slice A5 (wl+(22+n)) c5,.int .i64 (l.cw.length:Nat),.int .u64 (l.dx:Nat),.int .u64 (ls:Nat),.pointer (some ⟨r,0,none⟩),.int .u64 (l.bX:Nat)]:=by
   have h1:=(ho5.put 0 (.slice A5 (wl+(22+n)) c5)).put 3 (.int .u64 ((ls:Nat):Int));rw[zn] at h1;simpa[lgC] using h1
  rw[zn];obtain⟨f1,f2,f3,f4,f5,f6⟩:=l.sJ b H.o.ok.done;have oh: ∀ k,(ji A wl cv).ownBlock=some k→SL k∧k≠q∧k≠r:=fun k hk=>hq.2.2 k (by rw[HVV.o];exact hk)
  have hTw:aI SL w wf:=((aI.aU af5.o).grown wH.o (fun k hk=>.inl (oh k hk).1)).trans (hTq.mono fun k _ e=>by subst e;exact hq.1);have hwz:w.heap.size≤w2.heap.size:=af5.o.size;have hvk: ∀ k,(ji A5 (wl+(22+n)) c5).ownBlock=some k→(SL k∨k=w2.heap.size)∧k≠q∧k≠r∧k<w5.heap.size:=fun k hk=>by
   have hk5:=(dM EC.o hk).1;have hrl:=H.o.rg.own.lt;rcases alK.o with e|e
   ·rw[hk] at e;have h1:=oh k e.symm;exact⟨.inl h1.1,h1.2.1,h1.2.2,hk5⟩
   rw[hk] at e;injection e with e
   exact⟨.inr e,aj,aj,hk5⟩
  have Js:r≠q:=fun e=>by
   subst e;have a1:=H.o.own;have a2:=H.o.rg.own;unfold aG at a1 a2;rw[a1] at a2;injection a2 with a2
   injection a2 with _ a3
   revert a3;decide
  have hrl:=H.o.rg.own.lt;have vr:wf.heap[r]? =w.heap[r]?:=(hTq.block r aj Js).trans ((wH.o.block r aj (fun e=>(oh r e.symm).2.2 rfl)).trans (af5.o.block r hrl));have hzf:=hTq.size;unfold PH;rw[HN.o,HFI.o,if_pos rfl];refine⟨⟨by rw[Sr.o];rfl,.slice A5 (wl+(22+n)) c5,?_,⟨vr.trans H.o.rg.own,H.o.rg.size,H.o.rg.count⟩,?_,⟨.inl hq.1,.inl hq.2.1,fun k hk=>?_⟩,fun k hk=>?_,⟨?_,?_,H.o.ok.bX,?_⟩,?_⟩,hTw⟩
  ·unfold lgC;rw[f1,f3,f4,f5,Sr.o];exact Hw
  ·rw[f2,HWS.o,HEP.o,Sr.o,PA.o,List.length_append,HWL.o,Gs.o,ed];exact dY EC.o fun k hk=>hTq.block k (hvk k hk).2.2.2 (hvk k hk).2.1
  ·have h1:=hvk k hk;refine⟨?_,h1.2.1,h1.2.2.1⟩;rcases h1.1 with h2|h2
   ·exact .inl h2
   exact .inr ⟨aj,aj⟩
  ·rcases hk with hk|hk
   ·have:=H.o.lt k hk;omega
   exact hk.2
  ·show l.done≤(l.eD++ [b]).length
   have:=H.o.ok.done;simp;omega
  ·rw[f4];have h1:=HLA.o;have h2:=H.o.ok.last;omega
  ·intro x hx;rcases List.mem_append.1 hx with hx|hx
   ·exact H.o.ok.short x hx
   rw[List.mem_singleton.1 hx,HN.o];exact hl
  rw[f6,HN.o];have:=HRO.o;omega
theorem Lg.ZQ(l:Lg)(ep:Nat): (l.reset ep).cw= []∧(l.reset ep).aF= []∧(l.reset ep).dx=l.last∧(l.reset ep).last=l.last∧(l.reset ep).bX=ep∧(l.reset ep).used=0:=⟨rfl,rfl,rfl,rfl,rfl,rfl⟩
def aip(SL:Nat→Prop)(q r p:Nat)(l:Lg)(g:Rg)(size ep:Nat)(w:World)(e:Ending)(w':World): Prop:=e= .returned (.int .i64 0)∧uX q r p (l.reset ep) g size SL w'∧aI (· =q) w w'
theorem Rx{SL:Nat→Prop}{q:Nat} {l:Lg}{g:Rg}{v:Value}(h:gD SL w q r p l g size v)(ep:Nat)(Mw:ep<18446744073709551616):
  Calls af 215 #[.pointer (some ⟨q,0,none⟩),.int .u64 ep] w (aip SL q r p l g size ep w):=by
 have x4:w.cell? ⟨q,4,none⟩=some (.pointer (some ⟨r,0,none⟩)):=h.own.cell 4;have Gm:=aa (Cn h);have H:=aa h;have HEP:=aa Mw;clear h Mw;go_enter Tryz.func215,Tryz.ntmps215;go_wp2_with fail;refine ag (iT q r w x4) ?_;go_wp2_with fail;refine Gm.o.mono ?_;rintro e w1 ⟨⟨u,rfl⟩,ho,ht⟩;have m1:=ho.mark 1;have m5:=ho.mark 5;have x1:w1.cell? ⟨q,1,none⟩=some (.int .i64 (l.used:Nat)):=ho.cell 1;have x5:w1.cell? ⟨q,5,none⟩=some (.int .u64 (l.bX:Nat)):=ho.cell 5;have HO:=aa ho;have HT:=aa ht;clear ho ht;go_wp2_with fail;go_ret;obtain⟨wf,zn⟩:=ae ((w1.setCell ⟨q,1,none⟩ (.int .i64 0)).setCell ⟨q,5,none⟩ (.int .u64 ((ep:Nat):Int)));have hTq:aI (· =q) w1 wf:=by rw[←zn];exact(aI.at w1 q 1 _).Cb 5 _
 have Hw:aG wf q 88 #[.slice none 0 0,.int .i64 0,.int .u64 (l.last:Nat),.int .u64 (l.last:Nat),.pointer (some ⟨r,0,none⟩),.int .u64 ((ep:Nat):Int)]:=by
  have h1:=(HO.o.put 1 (.int .i64 0)).put 5 (.int .u64 ((ep:Nat):Int));rw[zn] at h1;simpa using h1
 have hTw:aI (· =q) w wf:=HT.o.trans hTq;rw[zn];have Js:r≠q:=fun e=>by
  subst e;have a1:=H.o.own;have a2:=H.o.rg.own;unfold aG at a1 a2;rw[a1] at a2;injection a2 with a2
  injection a2 with _ a3
  revert a3;decide
 refine⟨rfl,⟨.slice none 0 0,?_,⟨(hTw.block r H.o.rg.own.lt Js).trans H.o.rg.own,H.o.rg.size,H.o.rg.count⟩,?_,⟨H.o.bA.1,H.o.bA.2.1,fun k hk=>Lh⟩,fun k hk=>Nat.lt_of_lt_of_le (H.o.lt k hk) hTw.size,⟨Nat.le_refl _,H.o.ok.last,HEP.o,fun x hx=>by cases hx⟩,cm _⟩,hTw⟩
 ·exact Hw
 ·exact td wf 0 1 _
def aiw(r p:Nat)(l:Lg)(g:Rg)(size:Nat)(w:World)(e:Ending)(w':World): Prop:=∃ q,e= .returned (.tuple #[.pointer (some ⟨q,0,none⟩),.int .i64 0])∧w.heap.size≤q∧uX q r p l g size (fun k=>k=q∨k=r) w'∧Below w.heap.size w w'
theorem Pm{g:Rg}(h:fT w r p g size)(ep seq:Nat)(Mw:ep<18446744073709551616)(hseq:seq<18446744073709551616):
  Calls af 32 #[.pointer (some ⟨r,0,none⟩),.int .u64 ep,.int .u64 seq] w (aiw r p ⟨ep,seq,[],0⟩ g size w):=by
 have uZ:=aa (nC h);have hby:=h.eQ;have hb0:1≤g.bytes size:=by
  have h1:=h.size;have h2:=h.count;unfold Rg.bytes;exact Nat.mul_pos h2.1 h1.1
 obtain⟨B,hB⟩:=ae (g.bytes size);rw[hB] at uZ hby hb0;have hq:((B:Int)==0)=false:=mM;have CQ:(B==0)=false:=mM;have H:=aa h;have HEP:=aa Mw;have HSQ:=aa hseq;clear h Mw hseq hby hb0 hB;go_enter Tryz.func32,Tryz.ntmps32;go_wp2_with fail;refine uZ.o.mono ?_;rintro e w1 ⟨rfl,hb1⟩;have bz:=aa hb1;clear hb1;go_wp2_with fail;go_ret2;obtain⟨wf,zn⟩:=ae (w1.alloc (.cells #[.slice none 0 0,.int .i64 0,.int .u64 ((seq:Nat):Int),.int .u64 ((seq:Nat):Int),.pointer (some ⟨r,0,none⟩),.int .u64 ((ep:Nat):Int)] 88));rw[zn];have hbf:=aL zn;have Hw:aG wf w1.heap.size 88 #[.slice none 0 0,.int .i64 0,.int .u64 ((seq:Nat):Int),.int .u64 ((seq:Nat):Int),.pointer (some ⟨r,0,none⟩),.int .u64 ((ep:Nat):Int)]:=by rw[←zn];exact aG.fresh w1 _ _
 have hrf:fT wf r p g size:=(H.o.ai bz.o).ai hbf;refine⟨w1.heap.size,rfl,bz.o.size,⟨.slice none 0 0,Hw,hrf,td wf 0 1 _,⟨.inl rfl,.inr rfl,fun k hk=>Lh⟩,fun k hk=>?_,⟨Nat.le_refl _,HSQ.o,HEP.o,fun x hx=>by cases hx⟩,cm _⟩,av bz.o hbf⟩;rcases hk with rfl|rfl
 ·exact Hw.lt
 ·exact hrf.own.lt
end En
end
section
namespace En
structure qH(w:World)(s ra rb p:Nat)(sl:Sl)(size:Nat): Prop where
 own:aG w s 93 #[.pointer (some ⟨ra,0,none⟩),.pointer (some ⟨rb,0,none⟩)]
 a:fT w ra p sl.a size
 b:fT w rb p sl.b size
 eq:sl.b.count=sl.a.count
 two:2≤sl.a.count
variable{w:World}{s ra rb p size:Nat}
theorem qH.ai{w':World} {sl:Sl}(h:qH w s ra rb p sl size)(hb:Below w.heap.size w w'): qH w' s ra rb p sl size:=⟨h.own.ai hb,h.a.ai hb,h.b.ai hb,h.eq,h.two⟩
theorem qH.cO{S:Nat→Prop}{w':World} {sl:Sl}(h:qH w s ra rb p sl size)(ht:aI S w w')(h1: ¬S s)(h2: ¬S ra)(h3: ¬S rb): qH w' s ra rb p sl size:=⟨ht.arr h.own h1,h.a.cO ht h2,h.b.cO ht h3,h.eq,h.two⟩
theorem ym(s ra:Nat)(w:World)(h:w.cell? ⟨s,0,none⟩=some (.pointer (some ⟨ra,0,none⟩))): Calls af 208 #[.pointer (some ⟨s,0,none⟩)] w fun e w'=>e= .returned (.bool true)∧w'=w:=by
 go_enter Tryz.func208,Tryz.ntmps208;go_wp2_with fail;go_ret;exact⟨rfl,rfl⟩
theorem yn{sl:Sl}(h:qH w s ra rb p sl size): Calls af 97 #[.pointer (some ⟨s,0,none⟩)] w fun e w'=>e= .returned (.int .i64 (sl.bytes size:Nat))∧Below w.heap.size w w':=by
 have x0:w.cell? ⟨s,0,none⟩=some (.pointer (some ⟨ra,0,none⟩)):=h.own.cell 0;have uZ:=aa fun(W:World) (hW:Below w.heap.size w W)=>nC (h.a.ai hW)
 have ze:=aa fun(W:World) (hW:Below w.heap.size w W)=>kC (h.a.ai hW)
 have h2:=h.a.eQ;have h3:size≤sl.a.bytes size:=by unfold Rg.bytes;exact Nat.le_mul_of_pos_left _ (by have:=h.two;omega)
 unfold Sl.bytes;obtain⟨a,ha⟩:=ae (sl.a.bytes size);rw[ha] at uZ h2 h3 ⊢;have hab:(a:Int) - (size:Int)=((a - size:Nat):Int):=aj;have ha4:(a:Int)≤268435456:=aj;have hwr:IntKind.i64.wrap ((a - size:Nat):Int)=((a - size:Nat):Int):=IntWalk.i64_in _ aj;clear h ha h2;go_enter Tryz.func97,Tryz.ntmps97;go_wp2_with fail;refine ag (ym s ra w x0) ?_;go_wp2_with fail;refine ud (S:=(fun w'=>w'.cell? ⟨s,0,none⟩=some (.pointer (some ⟨ra,0,none⟩)))) (by exact x0) fun hHeld=>?_
 refine ov 0 1 2 3 4 5 7 8 ?_;refine lu 9 10 11 12 ?_;refine cG 6 fun K hK=>?_
 go_simp;refine(uZ.o _ (az (au _ _))).mono ?_;rintro e w2 ⟨rfl,hw2⟩;have BK:Below w.heap.size w w2:=av (az (au _ _)) hw2;have q4:w2.cell? ⟨s,0,none⟩=some (.pointer (some ⟨ra,0,none⟩)):=(BK.cell (p:=⟨s,0,none⟩) (World.block_lt_of_cell? _ _ x0)).trans x0;have KR:=aa BK;clear hw2 BK;go_wp2_with fail;refine bW hK (by exact q4) fun qB=>?_
 clear hK K;refine cG 13 fun K hK=>?_
 go_simp;refine ag (ze.o _ KR.o) ?_;go_wp2_with fail;refine bW hK (by exact q4) fun ajP=>?_
 clear hK K;refine tX 14 15 ?_;refine bO ?_;go_wp2_with fail;go_ret;exact⟨rfl,KR.o⟩
def oc(h:Hd): Array Value:=#[.int .u64 (h.gen:Nat),.int .u64 (h.l8:Nat),.int .i64 (h.len:Nat),.int .u32 (h.sum:Nat)]
theorem Gk(h:Hd)(w:World): Calls af 337 #[.agg (oc h)] w fun e w'=>e= .returned (.bool h.may)∧Below w.heap.size w w':=by
 obtain⟨gen,l8,len,sum⟩:=h;unfold oc Hd.may;simp only;by_cases h1:0<gen
 ·have Sg:(0:Int)<(gen:Int):=by omega
  rw[show decide (0<gen)=true from xm,Bool.true_and];have h2:decide (len≤67108864)=decide ((len:Int)≤67108864):=by rw[decide_eq_decide];omega
  rw[h2];have h3:(0:Int)≤(len:Int):=aj;exact Vq
 have Sg: ¬(0:Int)<(gen:Int):=aj;rw[show decide (0<gen)=false from xm,Bool.false_and];exact Vq
end En
end
section
namespace En
def aim(ra rb p:Nat)(sl:Sl)(size:Nat)(w:World)(e:Ending)(w':World): Prop:=∃ s,e= .returned (.tuple #[.pointer (some ⟨s,0,none⟩),.int .i64 0])∧w.heap.size≤s∧qH w' s ra rb p sl size∧Below w.heap.size w w'
theorem Pe{w:World}{ra rb p:Nat}{sl:Sl}{size:Nat}(ha:fT w ra p sl.a size)(hb:fT w rb p sl.b size)(heq:sl.b.count=sl.a.count)(aeL:2≤sl.a.count):
  Calls af 51 #[.pointer (some ⟨ra,0,none⟩),.pointer (some ⟨rb,0,none⟩)] w (aim ra rb p sl size w):=by
 have hby:=ha.eQ;have hsz:=ha.size;have h2:2*size≤sl.a.bytes size:=by unfold Rg.bytes;exact Nat.mul_le_mul_right _ aeL
 have vw:sl.b.bytes size=sl.a.bytes size:=by unfold Rg.bytes;rw[heq]
 have HA:=aa fun(W:World) (hW:Below w.heap.size w W)=>nC (ha.ai hW)
 have HB:=aa fun(W:World) (hW:Below w.heap.size w W)=>nC (hb.ai hW)
 have CZ:=aa fun(W:World) (hW:Below w.heap.size w W)=>kC (ha.ai hW)
 have KW:=aa fun(W:World) (hW:Below w.heap.size w W)=>kC (hb.ai hW)
 rw[vw] at HB;obtain⟨B,hB⟩:=ae (sl.a.bytes size);rw[hB] at HA HB hby h2;have hq:((B:Int)==0)=false:=mM;have CQ:(B==0)=false:=mM;have sr:(size:Int)≤4096:=aj;have pq: ¬(B:Int)<2*(size:Int):=aj;have HRA:=aa ha;have uZ:=aa hb;have HEQ:=aa heq;have HTW:=aa aeL;clear ha hb heq aeL hby hsz h2 vw hB;go_enter Tryz.func51,Tryz.ntmps51;go_wp2_with fail;refine(HA.o w (au _ _)).mono ?_;rintro e w1 ⟨rfl,hb1⟩;have sN:=aa hb1;clear hb1;go_wp2_with fail;refine(HB.o w1 sN.o).mono ?_;rintro e w2 ⟨rfl,hb2⟩;have KR:=aa (show Below w.heap.size w w2 from av sN.o hb2);clear hb2;go_wp2_with fail;refine(HA.o w2 KR.o).mono ?_;rintro e w3 ⟨rfl,hb3⟩;have M5:=aa (show Below w.heap.size w w3 from av KR.o hb3);clear hb3;go_wp2_with fail;refine(HB.o w3 M5.o).mono ?_;rintro e w4 ⟨rfl,hb4⟩;have Zf:=aa (show Below w.heap.size w w4 from av M5.o hb4);clear hb4;go_wp2_with fail;refine ag (CZ.o w4 Zf.o) ?_;go_wp2_with fail;refine ag (KW.o w4 Zf.o) ?_;go_wp2_with fail;refine(HA.o w4 Zf.o).mono ?_;rintro e w5 ⟨rfl,dX⟩;have RB:=aa (show Below w.heap.size w w5 from av Zf.o dX);clear dX;go_wp2_with fail;refine ag (CZ.o w5 RB.o) ?_;go_wp2_with fail;go_ret2;obtain⟨wf,zn⟩:=ae (w5.alloc (.cells #[.pointer (some ⟨ra,0,none⟩),.pointer (some ⟨rb,0,none⟩)] 93));rw[zn];have hbf:=dU RB.o zn;have Hw:aG wf w5.heap.size 93 #[.pointer (some ⟨ra,0,none⟩),.pointer (some ⟨rb,0,none⟩)]:=by rw[←zn];exact aG.fresh w5 _ _
 exact⟨w5.heap.size,rfl,RB.o.size,⟨Hw,HRA.o.ai hbf,uZ.o.ai hbf,HEQ.o,HTW.o⟩,hbf⟩
