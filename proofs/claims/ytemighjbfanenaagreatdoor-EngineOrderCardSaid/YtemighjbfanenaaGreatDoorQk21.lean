import Derived.Test.YtemighjbfanenaaGreatDoorQk20
set_option linter.all false
set_option maxRecDepth 100000
set_option maxHeartbeats 16000000
namespace Go.Proofs.YtemighjbfanenaaGreatDoor
open RowKit
open Oc (ib Bs gl ed df lV zB eO eF fG aO dX bu bO le qV eT cM mW e8 val)
open Cr (cj ij)
open Go.Proofs.Tryz renaming prog→af
open Go.Value renaming slice→jl
open Go.World renaming frozen?_of_block→PM,cell?_of_block→eQ
open Nat renaming zero_le→cx
open RowKit.Below renaming refl→ar
theorem Vf{p:Prop}(h:p:=by
 go_enter Tryz.func337,Tryz.ntmps337;go_wp2_with fail;go_ret;exact⟨rfl,ay (ar _ _) _⟩):p:=h
section
namespace En
theorem Lg.sG(l:Lg)(b:By)(hd:l.done≤l.eC.length): (l.append b).cz=l.cz∧(l.append b).aD=l.aD++qz l.bX (l.last+1) b∧(l.append b).cm=l.cm∧(l.append b).last=l.last+1∧(l.append b).bX=l.bX∧(l.append b).used=l.used+22+b.length:=by
 refine⟨?_,?_,rfl,?_,rfl,?_⟩
 ·unfold Lg.cz Lg.append;simp only;rw[List.take_append_of_le_length hd]
 ·unfold Lg.aD Lg.append;simp only;rw[List.drop_append_of_le_length hd,sA,List.length_drop,show l.first+l.done+(l.eC.length - l.done)=l.last by unfold Lg.last;omega];simp[jd]
 ·unfold Lg.last Lg.append;simp;omega
 unfold Lg.used Lg.append;simp only;rw[sA,List.length_append];simp[jd,qy];omega
def Pu(SL:Nat→Prop)(q r p:Nat)(l:Lg)(g:Rg)(size:Nat)(b:By)(w:World)(e:Ending)(w':World): Prop:=
 (if l.fits (g.bytes size) b.length=true then e= .returned (.tuple #[.int .u64 (l.last+1:Nat),.int .i64 0])∧uR q r p (l.append b) g size (Gr SL w w') w' else e= .returned (.tuple #[.int .u64 0,.int .i64 6])∧uR q r p l g size (Gr SL w w') w')∧aI SL w w'
variable{w:World}{r p size:Nat}
theorem MM{SL:Nat→Prop}{q:Nat} {l:Lg}{g:Rg}{v:Value}(h:gF SL w q r p l g size v)(b:By)(gb off c:Nat)(hB:Bs w (some ⟨gb,off,none⟩) b)(hne:b≠ [])(hl:b.length≤32)(ht:cj w):
  Calls af 218 #[.pointer (some ⟨q,0,none⟩),.slice (some ⟨gb,off,none⟩) b.length c] w (Pu SL q r p l g size b w):=by
 have x4:w.cell? ⟨q,4,none⟩=some (.pointer (some ⟨r,0,none⟩)):=h.own.cell 4;have MY:=aa (XM h b.length ai);have hl':(b.length:Int)≤32:=ai;have hn': ¬(32:Int)<(b.length:Int):=ai;have H:=aa h;have HB:=aa hB;have kX:=aa hne;have MP:=aa ht;obtain⟨n,hn⟩:=ae b.length;obtain⟨fits,Jf⟩:=ae (l.fits (g.bytes size) n);rw[hn] at hl hl' hn' MY ⊢;rw[Jf] at MY;have HN:=aa hn;have HFI:=aa Jf;have L:=aa (cI q r p l g size);clear h hB hne ht hn;cases fits with
 | false=>
  clear Jf;go_enter Tryz.func218,Tryz.ntmps218;go_wp2_with fail;refine ag (iU q r w x4) ?_;go_wp2_with fail;refine MY.o.mono ?_;rintro e w1 ⟨rfl,hb1⟩;have HF:=aa (show Pu SL q r p l g size b w (.returned (.tuple #[.int .u64 0,.int .i64 6])) w1 from by
   refine⟨?_,aI.aW hb1⟩;rw[HN.o,HFI.o,if_neg dM];exact⟨rfl,L.o.Ac (L.o.ak ⟨_,H.o⟩ hb1) H.o.lt hb1.size⟩)
  clear hb1;go_wp2_with fail;go_ret2;exact HF.o
 | true=>
  have hf:=Jf;unfold Lg.fits at hf;simp only[Bool.and_eq_true,decide_eq_true_eq] at hf;obtain⟨⟨_,Jd⟩,hroom⟩:=hf;have C7:=H.o.ok.last;have zf:=aa Jd;have HRO:=aa hroom;have hw:IntKind.u64.wrap ((l.last:Nat):Int)=((l.last:Nat):Int):=IntWalk.u64_in _ ai;obtain⟨A,cv,hv⟩:=cB H.o.row;have HV:=aa hv;clear Jf Jd hroom C7 hv;go_enter Tryz.func218,Tryz.ntmps218;go_wp2_with fail;refine ag (iU q r w x4) ?_;go_wp2_with fail;refine MY.o.mono ?_;rintro e w1 ⟨rfl,hb1⟩;obtain⟨v1,h1⟩:=L.o.ak ⟨_,H.o⟩ hb1;have F7:=aa (JY h1);rw[if_neg zf.o] at F7;have x5:w1.cell? ⟨q,5,none⟩=some (.int .u64 (l.bX:Nat)):=h1.own.cell 5;have HFP:=aa (abh l.bX (l.last+1) b gb off c w1 H.o.ok.bX (by have:=zf.o;have:=H.o.ok.last;omega) (HB.o.ah hb1) kX.o (by rw[HN.o];exact hl) (MP.o.ah hb1));rw[HN.o] at HFP;have bA:=aa hb1;have H1:=aa h1;obtain⟨ls,hls⟩:=ae (l.last+1);obtain⟨ep,Me⟩:=ae l.bX;rw[hls] at F7 HFP;rw[Me] at x5 HFP;have HLS:=aa hls;have HEP:=aa Me;clear hb1 h1 hls Me hw MY;go_wp2_with fail;refine ag F7.o ?_;go_wp2_with fail;refine HFP.o.mono ?_;rintro e w2 ⟨⟨A2,c2,rfl,o9⟩,hb2⟩;obtain⟨fb,vk⟩:=ae (qz ep ls b);have lS:fb.length=22+n:=by rw[←vk,qy,HN.o]
  rw[vk] at o9 ⊢;have ahz:fb≠ []:=by intro e;rw[e] at lS;simp at lS;omega
  obtain⟨g2,o2,rfl,hg2,hc2⟩:=o9 ahz;have Mi:Below w.heap.size w w2:=av bA.o hb2;have jr:aG w2 q 88 (lgC l r v):=H.o.own.ah Mi;obtain⟨ws,hws⟩:=ae l.aD;obtain⟨wl,CW⟩:=ae ws.length;have hrow2:w2.ownsRow 0 5 1 (.slice A wl cv) wl (aO ws):=by
   have h1:=eB H.o.row (w':=w2) fun k hk=>Mi.block k (eP H.o.row hk).1
   rwa [HV.o,hws,CW] at h1
  have hvv:v= .slice A wl cv:=by rw[HV.o,hws,CW]
  have x0:w2.cell? ⟨q,0,none⟩=some (.slice A wl cv):=by rw[←hvv];exact jr.cell 0
  have x3:w2.cell? ⟨q,3,none⟩=some (.int .u64 (l.last:Nat)):=jr.cell 3;have m0:=jr.mark 0;have m3:=jr.mark 3;have hsm:wl+(22+n)≤268435456:=by
   have h1:=H.o.small.2;have h2:=HRO.o;have h3:=H.o.rg.eU;rw[hws,CW] at h1;omega
  obtain⟨i0,hi,hz0,hz1,hz2⟩:=info_parts e8;have alk:=aa jr;have aiV:=aa hrow2;have HVV:=aa hvv;have HSM:=aa hsm;have Ga:=aa lS;have afV:=aa Mi;have alz:=aa o9;have HWS:=aa hws;have HWL:=aa CW;have Pn:=aa vk;have HI0:=aa hi;have HZ0:=aa hz0;have HZ1:=aa hz1;have R6:=aa hz2;have HQ:=aa (show ∀ k,(jl A wl cv).ownBlock=some k→k≠q from fun k hk=>(H.o.bB.2.2 k (by rw[hvv];exact hk)).2.1);have HQL:=aa jr.lt;rw[lS];clear jr hrow2 hvv hsm lS Mi o9 hws CW vk hi hz0 hz1 hz2 hb2 ahz hg2 hc2;go_wp2_with (refine wpList_append_own_at _ rfl _ _ 34 rfl 0 5 i0 (.int .u8 0) 1 1 Tryz.underlying34 HI0.o HZ0.o HZ1.o R6.o rfl aM (.slice A wl cv) wl (aO ws) rfl aiV.o ⟨g2,o2,none⟩ (22+n) c2 (aO fb) rfl (by rw[bu,Ga.o,Nat.mul_one]) alz.o.read (bO _) (by have:=HSM.o;unfold maxLen;omega) (by have:=HSM.o;omega) (cx _) ?_;intro v5 w5 kA mg VU ahP;obtain⟨A5,c5,rfl⟩:=cB kA;have m0':w5.frozen? ⟨q,0,none⟩=false:=(PM (a:=⟨q,0,none⟩) (mg.block q HQL.o (fun e=>HQ.o q e.symm rfl))).trans m0;have x0':w5.cell? ⟨q,0,none⟩=some (.slice A wl cv):=(eQ (a:=⟨q,0,none⟩) (mg.block q HQL.o (fun e=>HQ.o q e.symm rfl))).trans x0;have m3':w5.frozen? ⟨q,3,none⟩=false:=(PM (a:=⟨q,3,none⟩) (mg.block q HQL.o (fun e=>HQ.o q e.symm rfl))).trans m3;have x3':w5.cell? ⟨q,3,none⟩=some (.int .u64 (l.last:Nat)):=(eQ (a:=⟨q,3,none⟩) (mg.block q HQL.o (fun e=>HQ.o q e.symm rfl))).trans x3;have Eh:=aa kA;have wk:=aa mg;have alG:=aa ahP;clear kA mg VU ahP);go_ret2;have hq:=H.o.bB;have hql:=HQL.o;have OA:w2.heap.size≤w5.heap.size:=wk.o.size;have ho5:aG w5 q 88 (lgC l r (.slice A wl cv)):=(wk.o.block q HQL.o (fun e=>HQ.o q e.symm rfl)).trans (by have:=alk.o;rw[HVV.o] at this;exact this);obtain⟨wf,yY⟩:=ae ((w5.setCell ⟨q,0,none⟩ (.slice A5 (wl+(22+n)) c5)).setCell ⟨q,3,none⟩ (.int .u64 ((ls:Nat):Int)));have hTq:aI (· =q) w5 wf:=by rw[←yY];exact(aI.at w5 q 0 _).BQ 3 _
  have Ha:aG wf q 88 #[.slice A5 (wl+(22+n)) c5,.int .i64 (l.cz.length:Nat),.int .u64 (l.cm:Nat),.int .u64 (ls:Nat),.pointer (some ⟨r,0,none⟩),.int .u64 (l.bX:Nat)]:=by
   have h1:=(ho5.put 0 (.slice A5 (wl+(22+n)) c5)).put 3 (.int .u64 ((ls:Nat):Int));rw[yY] at h1;simpa[lgC] using h1
  rw[yY];obtain⟨f1,f2,f3,f4,f5,f6⟩:=l.sG b H.o.ok.done;have oh: ∀ k,(jl A wl cv).ownBlock=some k→SL k∧k≠q∧k≠r:=fun k hk=>hq.2.2 k (by rw[HVV.o];exact hk)
  have hTw:aI SL w wf:=((aI.aW afV.o).grown wk.o (fun k hk=>.inl (oh k hk).1)).trans (hTq.mono fun k _ e=>by subst e;exact hq.1);have hwz:w.heap.size≤w2.heap.size:=afV.o.size;have hvk: ∀ k,(jl A5 (wl+(22+n)) c5).ownBlock=some k→(SL k∨k=w2.heap.size)∧k≠q∧k≠r∧k<w5.heap.size:=fun k hk=>by
   have hk5:=(eP Eh.o hk).1;have hrl:=H.o.rg.own.lt;rcases alG.o with e|e
   ·rw[hk] at e;have h1:=oh k e.symm;exact⟨.inl h1.1,h1.2.1,h1.2.2,hk5⟩
   rw[hk] at e;injection e with e
   exact⟨.inr e,ai,ai,hk5⟩
  have I6:r≠q:=fun e=>by
   subst e;have a1:=H.o.own;have a2:=H.o.rg.own;unfold aG at a1 a2;rw[a1] at a2;injection a2 with a2
   injection a2 with _ a3
   revert a3;decide
  have hrl:=H.o.rg.own.lt;have vh:wf.heap[r]? =w.heap[r]?:=(hTq.block r ai I6).trans ((wk.o.block r ai (fun e=>(oh r e.symm).2.2 rfl)).trans (afV.o.block r hrl));have hzf:=hTq.size;unfold Pu;rw[HN.o,HFI.o,if_pos rfl];refine⟨⟨by rw[HLS.o];rfl,.slice A5 (wl+(22+n)) c5,?_,⟨vh.trans H.o.rg.own,H.o.rg.size,H.o.rg.count⟩,?_,⟨.inl hq.1,.inl hq.2.1,fun k hk=>?_⟩,fun k hk=>?_,⟨?_,?_,H.o.ok.bX,?_⟩,?_⟩,hTw⟩
  ·unfold lgC;rw[f1,f3,f4,f5,HLS.o];exact Ha
  ·rw[f2,HWS.o,HEP.o,HLS.o,Pn.o,List.length_append,HWL.o,Ga.o,dX];exact eB Eh.o fun k hk=>hTq.block k (hvk k hk).2.2.2 (hvk k hk).2.1
  ·have h1:=hvk k hk;refine⟨?_,h1.2.1,h1.2.2.1⟩;rcases h1.1 with h2|h2
   ·exact .inl h2
   exact .inr ⟨ai,ai⟩
  ·rcases hk with hk|hk
   ·have:=H.o.lt k hk;omega
   exact hk.2
  ·show l.done≤(l.eC++ [b]).length
   have:=H.o.ok.done;simp;omega
  ·rw[f4];have h1:=zf.o;have h2:=H.o.ok.last;omega
  ·intro x hx;rcases List.mem_append.1 hx with hx|hx
   ·exact H.o.ok.short x hx
   rw[List.mem_singleton.1 hx,HN.o];exact hl
  rw[f6,HN.o];have:=HRO.o;omega
theorem Lg.ZG(l:Lg)(ep:Nat): (l.reset ep).cz= []∧(l.reset ep).aD= []∧(l.reset ep).cm=l.last∧(l.reset ep).last=l.last∧(l.reset ep).bX=ep∧(l.reset ep).used=0:=⟨rfl,rfl,rfl,rfl,rfl,rfl⟩
def aik(SL:Nat→Prop)(q r p:Nat)(l:Lg)(g:Rg)(size ep:Nat)(w:World)(e:Ending)(w':World): Prop:=e= .returned (.int .i64 0)∧uR q r p (l.reset ep) g size SL w'∧aI (· =q) w w'
theorem Rc{SL:Nat→Prop}{q:Nat} {l:Lg}{g:Rg}{v:Value}(h:gF SL w q r p l g size v)(ep:Nat)(Me:ep<18446744073709551616):
  Calls af 215 #[.pointer (some ⟨q,0,none⟩),.int .u64 ep] w (aik SL q r p l g size ep w):=by
 have x4:w.cell? ⟨q,4,none⟩=some (.pointer (some ⟨r,0,none⟩)):=h.own.cell 4;have F4:=aa (B4 h);have H:=aa h;have HEP:=aa Me;clear h Me;go_enter Tryz.func215,Tryz.ntmps215;go_wp2_with fail;refine ag (iU q r w x4) ?_;go_wp2_with fail;refine F4.o.mono ?_;rintro e w1 ⟨⟨u,rfl⟩,ho,ht⟩;have m1:=ho.mark 1;have m5:=ho.mark 5;have x1:w1.cell? ⟨q,1,none⟩=some (.int .i64 (l.used:Nat)):=ho.cell 1;have x5:w1.cell? ⟨q,5,none⟩=some (.int .u64 (l.bX:Nat)):=ho.cell 5;have HO:=aa ho;have HT:=aa ht;clear ho ht;go_wp2_with fail;go_ret;obtain⟨wf,yY⟩:=ae ((w1.setCell ⟨q,1,none⟩ (.int .i64 0)).setCell ⟨q,5,none⟩ (.int .u64 ((ep:Nat):Int)));have hTq:aI (· =q) w1 wf:=by rw[←yY];exact(aI.at w1 q 1 _).BQ 5 _
 have Ha:aG wf q 88 #[.slice none 0 0,.int .i64 0,.int .u64 (l.last:Nat),.int .u64 (l.last:Nat),.pointer (some ⟨r,0,none⟩),.int .u64 ((ep:Nat):Int)]:=by
  have h1:=(HO.o.put 1 (.int .i64 0)).put 5 (.int .u64 ((ep:Nat):Int));rw[yY] at h1;simpa using h1
 have hTw:aI (· =q) w wf:=HT.o.trans hTq;rw[yY];have I6:r≠q:=fun e=>by
  subst e;have a1:=H.o.own;have a2:=H.o.rg.own;unfold aG at a1 a2;rw[a1] at a2;injection a2 with a2
  injection a2 with _ a3
  revert a3;decide
 refine⟨rfl,⟨.slice none 0 0,?_,⟨(hTw.block r H.o.rg.own.lt I6).trans H.o.rg.own,H.o.rg.size,H.o.rg.count⟩,?_,⟨H.o.bB.1,H.o.bB.2.1,fun k hk=>KY⟩,fun k hk=>Nat.lt_of_lt_of_le (H.o.lt k hk) hTw.size,⟨Nat.le_refl _,H.o.ok.last,HEP.o,fun x hx=>by cases hx⟩,cx _⟩,hTw⟩
 ·exact Ha
 ·exact sV wf 0 1 _
def ais(r p:Nat)(l:Lg)(g:Rg)(size:Nat)(w:World)(e:Ending)(w':World): Prop:=∃ q,e= .returned (.tuple #[.pointer (some ⟨q,0,none⟩),.int .i64 0])∧w.heap.size≤q∧uR q r p l g size (fun k=>k=q∨k=r) w'∧Below w.heap.size w w'
theorem O7{g:Rg}(h:fV w r p g size)(ep seq:Nat)(Me:ep<18446744073709551616)(hseq:seq<18446744073709551616):
  Calls af 32 #[.pointer (some ⟨r,0,none⟩),.int .u64 ep,.int .u64 seq] w (ais r p ⟨ep,seq,[],0⟩ g size w):=by
 have uT:=aa (ny h);have hby:=h.eU;have hb0:1≤g.bytes size:=by
  have h1:=h.size;have h2:=h.count;unfold Rg.bytes;exact Nat.mul_pos h2.1 h1.1
 obtain⟨B,hB⟩:=ae (g.bytes size);rw[hB] at uT hby hb0;have hq:((B:Int)==0)=false:=mQ;have Cz:(B==0)=false:=mQ;have H:=aa h;have HEP:=aa Me;have HSQ:=aa hseq;clear h Me hseq hby hb0 hB;go_enter Tryz.func32,Tryz.ntmps32;go_wp2_with fail;refine uT.o.mono ?_;rintro e w1 ⟨rfl,hb1⟩;have bA:=aa hb1;clear hb1;go_wp2_with fail;go_ret2;obtain⟨wf,yY⟩:=ae (w1.alloc (.cells #[.slice none 0 0,.int .i64 0,.int .u64 ((seq:Nat):Int),.int .u64 ((seq:Nat):Int),.pointer (some ⟨r,0,none⟩),.int .u64 ((ep:Nat):Int)] 88));rw[yY];have hbf:=aK yY;have Ha:aG wf w1.heap.size 88 #[.slice none 0 0,.int .i64 0,.int .u64 ((seq:Nat):Int),.int .u64 ((seq:Nat):Int),.pointer (some ⟨r,0,none⟩),.int .u64 ((ep:Nat):Int)]:=by rw[←yY];exact aG.fresh w1 _ _
 have hrf:fV wf r p g size:=(H.o.ah bA.o).ah hbf;refine⟨w1.heap.size,rfl,bA.o.size,⟨.slice none 0 0,Ha,hrf,sV wf 0 1 _,⟨.inl rfl,.inr rfl,fun k hk=>KY⟩,fun k hk=>?_,⟨Nat.le_refl _,HSQ.o,HEP.o,fun x hx=>by cases hx⟩,cx _⟩,av bA.o hbf⟩;rcases hk with rfl|rfl
 ·exact Ha.lt
 ·exact hrf.own.lt
end En
end
section
namespace En
structure qC(w:World)(s ra rb p:Nat)(sl:Sl)(size:Nat): Prop where
 own:aG w s 93 #[.pointer (some ⟨ra,0,none⟩),.pointer (some ⟨rb,0,none⟩)]
 a:fV w ra p sl.a size
 b:fV w rb p sl.b size
 eq:sl.b.count=sl.a.count
 two:2≤sl.a.count
variable{w:World}{s ra rb p size:Nat}
theorem qC.ah{w':World} {sl:Sl}(h:qC w s ra rb p sl size)(hb:Below w.heap.size w w'): qC w' s ra rb p sl size:=⟨h.own.ah hb,h.a.ah hb,h.b.ah hb,h.eq,h.two⟩
theorem qC.cR{S:Nat→Prop}{w':World} {sl:Sl}(h:qC w s ra rb p sl size)(ht:aI S w w')(h1: ¬S s)(h2: ¬S ra)(h3: ¬S rb): qC w' s ra rb p sl size:=⟨ht.arr h.own h1,h.a.cR ht h2,h.b.cR ht h3,h.eq,h.two⟩
theorem xZ(s ra:Nat)(w:World)(h:w.cell? ⟨s,0,none⟩=some (.pointer (some ⟨ra,0,none⟩))): Calls af 208 #[.pointer (some ⟨s,0,none⟩)] w fun e w'=>e= .returned (.bool true)∧w'=w:=by
 go_enter Tryz.func208,Tryz.ntmps208;go_wp2_with fail;go_ret;exact⟨rfl,rfl⟩
theorem ya{sl:Sl}(h:qC w s ra rb p sl size): Calls af 97 #[.pointer (some ⟨s,0,none⟩)] w fun e w'=>e= .returned (.int .i64 (sl.bytes size:Nat))∧Below w.heap.size w w':=by
 have x0:w.cell? ⟨s,0,none⟩=some (.pointer (some ⟨ra,0,none⟩)):=h.own.cell 0;have uT:=aa fun(W:World) (hW:Below w.heap.size w W)=>ny (h.a.ah hW)
 have yO:=aa fun(W:World) (hW:Below w.heap.size w W)=>kF (h.a.ah hW)
 have h2:=h.a.eU;have h3:size≤sl.a.bytes size:=by unfold Rg.bytes;exact Nat.le_mul_of_pos_left _ (by have:=h.two;omega)
 unfold Sl.bytes;obtain⟨a,ha⟩:=ae (sl.a.bytes size);rw[ha] at uT h2 h3 ⊢;have hab:(a:Int) - (size:Int)=((a - size:Nat):Int):=ai;have ha4:(a:Int)≤268435456:=ai;have hwr:IntKind.i64.wrap ((a - size:Nat):Int)=((a - size:Nat):Int):=IntWalk.i64_in _ ai;clear h ha h2;go_enter Tryz.func97,Tryz.ntmps97;go_wp2_with fail;refine ag (xZ s ra w x0) ?_;go_wp2_with fail;refine tW (S:=(fun w'=>w'.cell? ⟨s,0,none⟩=some (.pointer (some ⟨ra,0,none⟩)))) (by exact x0) fun hHeld=>?_
 refine ov 0 1 2 3 4 5 7 8 ?_;refine lA 9 10 11 12 ?_;refine cJ 6 fun K hK=>?_
 go_simp;refine(uT.o _ (az (ar _ _))).mono ?_;rintro e w2 ⟨rfl,hw2⟩;have Bi:Below w.heap.size w w2:=av (az (ar _ _)) hw2;have q4:w2.cell? ⟨s,0,none⟩=some (.pointer (some ⟨ra,0,none⟩)):=(Bi.cell (p:=⟨s,0,none⟩) (World.block_lt_of_cell? _ _ x0)).trans x0;have Kw:=aa Bi;clear hw2 Bi;go_wp2_with fail;refine bW hK (by exact q4) fun qw=>?_
 clear hK K;refine cJ 13 fun K hK=>?_
 go_simp;refine ag (yO.o _ Kw.o) ?_;go_wp2_with fail;refine bW hK (by exact q4) fun ajN=>?_
 clear hK K;refine tJ 14 15 ?_;refine bM ?_;go_wp2_with fail;go_ret;exact⟨rfl,Kw.o⟩
def n9(h:Hd): Array Value:=#[.int .u64 (h.gen:Nat),.int .u64 (h.mh:Nat),.int .i64 (h.len:Nat),.int .u32 (h.sum:Nat)]
theorem F2(h:Hd)(w:World): Calls af 337 #[.agg (n9 h)] w fun e w'=>e= .returned (.bool h.may)∧Below w.heap.size w w':=by
 obtain⟨gen,mh,len,sum⟩:=h;unfold n9 Hd.may;simp only;by_cases h1:0<gen
 ·have R2:(0:Int)<(gen:Int):=by omega
  rw[show decide (0<gen)=true from wW,Bool.true_and];have h2:decide (len≤67108864)=decide ((len:Int)≤67108864):=by rw[decide_eq_decide];omega
  rw[h2];have h3:(0:Int)≤(len:Int):=ai;exact Vf
 have R2: ¬(0:Int)<(gen:Int):=ai;rw[show decide (0<gen)=false from wW,Bool.false_and];exact Vf
end En
end
section
namespace En
def aih(ra rb p:Nat)(sl:Sl)(size:Nat)(w:World)(e:Ending)(w':World): Prop:=∃ s,e= .returned (.tuple #[.pointer (some ⟨s,0,none⟩),.int .i64 0])∧w.heap.size≤s∧qC w' s ra rb p sl size∧Below w.heap.size w w'
theorem O1{w:World}{ra rb p:Nat}{sl:Sl}{size:Nat}(ha:fV w ra p sl.a size)(hb:fV w rb p sl.b size)(heq:sl.b.count=sl.a.count)(aeA:2≤sl.a.count):
  Calls af 51 #[.pointer (some ⟨ra,0,none⟩),.pointer (some ⟨rb,0,none⟩)] w (aih ra rb p sl size w):=by
 have hby:=ha.eU;have hsz:=ha.size;have h2:2*size≤sl.a.bytes size:=by unfold Rg.bytes;exact Nat.mul_le_mul_right _ aeA
 have wG:sl.b.bytes size=sl.a.bytes size:=by unfold Rg.bytes;rw[heq]
 have HA:=aa fun(W:World) (hW:Below w.heap.size w W)=>ny (ha.ah hW)
 have HB:=aa fun(W:World) (hW:Below w.heap.size w W)=>ny (hb.ah hW)
 have CG:=aa fun(W:World) (hW:Below w.heap.size w W)=>kF (ha.ah hW)
 have KE:=aa fun(W:World) (hW:Below w.heap.size w W)=>kF (hb.ah hW)
 rw[wG] at HB;obtain⟨B,hB⟩:=ae (sl.a.bytes size);rw[hB] at HA HB hby h2;have hq:((B:Int)==0)=false:=mQ;have Cz:(B==0)=false:=mQ;have tL:(size:Int)≤4096:=ai;have px: ¬(B:Int)<2*(size:Int):=ai;have HRA:=aa ha;have uT:=aa hb;have HEQ:=aa heq;have HTW:=aa aeA;clear ha hb heq aeA hby hsz h2 wG hB;go_enter Tryz.func51,Tryz.ntmps51;go_wp2_with fail;refine(HA.o w (ar _ _)).mono ?_;rintro e w1 ⟨rfl,hb1⟩;have sK:=aa hb1;clear hb1;go_wp2_with fail;refine(HB.o w1 sK.o).mono ?_;rintro e w2 ⟨rfl,hb2⟩;have Kw:=aa (show Below w.heap.size w w2 from av sK.o hb2);clear hb2;go_wp2_with fail;refine(HA.o w2 Kw.o).mono ?_;rintro e w3 ⟨rfl,hb3⟩;have MO:=aa (show Below w.heap.size w w3 from av Kw.o hb3);clear hb3;go_wp2_with fail;refine(HB.o w3 MO.o).mono ?_;rintro e w4 ⟨rfl,hb4⟩;have Za:=aa (show Below w.heap.size w w4 from av MO.o hb4);clear hb4;go_wp2_with fail;refine ag (CG.o w4 Za.o) ?_;go_wp2_with fail;refine ag (KE.o w4 Za.o) ?_;go_wp2_with fail;refine(HA.o w4 Za.o).mono ?_;rintro e w5 ⟨rfl,dU⟩;have Rj:=aa (show Below w.heap.size w w5 from av Za.o dU);clear dU;go_wp2_with fail;refine ag (CG.o w5 Rj.o) ?_;go_wp2_with fail;go_ret2;obtain⟨wf,yY⟩:=ae (w5.alloc (.cells #[.pointer (some ⟨ra,0,none⟩),.pointer (some ⟨rb,0,none⟩)] 93));rw[yY];have hbf:=ek Rj.o yY;have Ha:aG wf w5.heap.size 93 #[.pointer (some ⟨ra,0,none⟩),.pointer (some ⟨rb,0,none⟩)]:=by rw[←yY];exact aG.fresh w5 _ _
 exact⟨w5.heap.size,rfl,Rj.o.size,⟨Ha,HRA.o.ah hbf,uT.o.ah hbf,HEQ.o,HTW.o⟩,hbf⟩
