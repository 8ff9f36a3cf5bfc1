import Derived.Test.YtemighjbfanenaaGreatDoorPk20
import Derived.Test.YtemighjbfanenaaGreatDoorPk1
import Derived.Test.YtemighjbfanenaaGreatDoorPk6
set_option linter.all false
set_option maxRecDepth 100000
set_option maxHeartbeats 16000000
namespace Go.Proofs.YtemighjbfanenaaGreatDoor
open RowKit
open Oc (iq Bs gj ej cY lQ zE eV eL fJ aN eh bn bO le rU eZ dm mV dX val)
open Cr (cn iy)
open Go.Value renaming slice→jr
open Go.World renaming frozen?_of_block→Qx,cell?_of_block→eF
open Nat renaming zero_le→cu
open RowKit.Below renaming refl→aq
open Tryz renaming prog→af
theorem Wm{p:Prop}(h:p:=by
 go_enter Tryz.func337,Tryz.ntmps337;go_wp2_with fail;go_ret;exact⟨rfl,aw (aq _ _) _⟩):p:=h
section
namespace En
theorem Lg.sD(l:Lg)(b:By)(hd:l.done≤l.eD.length): (l.append b).cE=l.cE∧(l.append b).aK=l.aK++qx l.bY (l.last+1) b∧(l.append b).dO=l.dO∧(l.append b).last=l.last+1∧(l.append b).bY=l.bY∧(l.append b).used=l.used+22+b.length:=by
 refine⟨?_,?_,rfl,?_,rfl,?_⟩
 ·unfold Lg.cE Lg.append;simp only;rw[List.take_append_of_le_length hd]
 ·unfold Lg.aK Lg.append;simp only;rw[List.drop_append_of_le_length hd,sw,List.length_drop,show l.first+l.done+(l.eD.length - l.done)=l.last by unfold Lg.last;omega];simp[jh]
 ·unfold Lg.last Lg.append;simp;omega
 unfold Lg.used Lg.append;simp only;rw[sw,List.length_append];simp[jh,qw];omega
def Qf(SL:Nat→Prop)(q r p:Nat)(l:Lg)(g:Rg)(size:Nat)(b:By)(w:World)(e:Ending)(w':World): Prop:=
 (if l.fits (g.bytes size) b.length=true then e= .returned (.tuple #[.int .u64 (l.last+1:Nat),.int .i64 0])∧uW q r p (l.append b) g size (Gr SL w w') w' else e= .returned (.tuple #[.int .u64 0,.int .i64 6])∧uW q r p l g size (Gr SL w w') w')∧aG SL w w'
variable{w:World}{r p size:Nat}
theorem NK{SL:Nat→Prop}{q:Nat} {l:Lg}{g:Rg}{v:Value}(h:gF SL w q r p l g size v)(b:By)(gb off c:Nat)(hB:Bs w (some ⟨gb,off,none⟩) b)(hne:b≠ [])(hl:b.length≤32)(ht:cn w):
  Calls af 218 #[.pointer (some ⟨q,0,none⟩),.slice (some ⟨gb,off,none⟩) b.length c] w (Qf SL q r p l g size b w):=by
 have x4:w.cell? ⟨q,4,none⟩=some (.pointer (some ⟨r,0,none⟩)):=h.own.cell 4;have NW:=aa (YW h b.length ag);have hl':(b.length:Int)≤32:=ag;have hn': ¬(32:Int)<(b.length:Int):=ag;have H:=aa h;have HB:=aa hB;have jV:=aa hne;have NM:=aa ht;obtain⟨n,hn⟩:=ae b.length;obtain⟨fits,JJ⟩:=ae (l.fits (g.bytes size) n);rw[hn] at hl hl' hn' NW ⊢;rw[JJ] at NW;have HN:=aa hn;have HFI:=aa JJ;have L:=aa (cC q r p l g size);clear h hB hne ht hn;cases fits with
 | false=>
  clear JJ;go_enter Tryz.func218,Tryz.ntmps218;go_wp2_with fail;refine ah (iV q r w x4) ?_;go_wp2_with fail;refine NW.o.mono ?_;rintro e w1 ⟨rfl,hb1⟩;have HF:=aa (show Qf SL q r p l g size b w (.returned (.tuple #[.int .u64 0,.int .i64 6])) w1 from by
   refine⟨?_,aG.aU hb1⟩;rw[HN.o,HFI.o,if_neg dA];exact⟨rfl,L.o.Ag (L.o.ai ⟨_,H.o⟩ hb1) H.o.lt hb1.size⟩)
  clear hb1;go_wp2_with fail;go_ret2;exact HF.o
 | true=>
  have hf:=JJ;unfold Lg.fits at hf;simp only[Bool.and_eq_true,decide_eq_true_eq] at hf;obtain⟨⟨_,JI⟩,hroom⟩:=hf;have MY:=H.o.ok.last;have HLA:=aa JI;have HRO:=aa hroom;have hw:IntKind.u64.wrap ((l.last:Nat):Int)=((l.last:Nat):Int):=IntWalk.u64_in _ ag;obtain⟨A,cv,hv⟩:=cg H.o.row;have HV:=aa hv;clear JJ JI hroom MY hv;go_enter Tryz.func218,Tryz.ntmps218;go_wp2_with fail;refine ah (iV q r w x4) ?_;go_wp2_with fail;refine NW.o.mono ?_;rintro e w1 ⟨rfl,hb1⟩;obtain⟨v1,h1⟩:=L.o.ai ⟨_,H.o⟩ hb1;have GF:=aa (Kw h1);rw[if_neg HLA.o] at GF;have x5:w1.cell? ⟨q,5,none⟩=some (.int .u64 (l.bY:Nat)):=h1.own.cell 5;have HFP:=aa (ab7 l.bY (l.last+1) b gb off c w1 H.o.ok.bY (by have:=HLA.o;have:=H.o.ok.last;omega) (HB.o.keep hb1) jV.o (by rw[HN.o];exact hl) (NM.o.keep hb1));rw[HN.o] at HFP;have bu:=aa hb1;have H1:=aa h1;obtain⟨ls,hls⟩:=ae (l.last+1);obtain⟨ep,M4⟩:=ae l.bY;rw[hls] at GF HFP;rw[M4] at x5 HFP;have HLS:=aa hls;have HEP:=aa M4;clear hb1 h1 hls M4 hw NW;go_wp2_with fail;refine ah GF.o ?_;go_wp2_with fail;refine HFP.o.mono ?_;rintro e w2 ⟨⟨A2,c2,rfl,nL⟩,hb2⟩;obtain⟨fb,vr⟩:=ae (qx ep ls b);have lM:fb.length=22+n:=by rw[←vr,qw,HN.o]
  rw[vr] at nL ⊢;have aiV:fb≠ []:=by intro e;rw[e] at lM;simp at lM;omega
  obtain⟨g2,o2,rfl,hg2,hc2⟩:=nL aiV;have M9:Below w.heap.size w w2:=ar bu.o hb2;have gM:aD w2 q 88 (lgC l r v):=H.o.own.keep M9;obtain⟨ws,hws⟩:=ae l.aK;obtain⟨wl,H9⟩:=ae ws.length;have hrow2:w2.ownsRow 0 5 1 (.slice A wl cv) wl (aN ws):=by
   have h1:=dY H.o.row (w':=w2) fun k hk=>M9.block k (dP H.o.row hk).1
   rwa [HV.o,hws,H9] at h1
  have hvv:v= .slice A wl cv:=by rw[HV.o,hws,H9]
  have x0:w2.cell? ⟨q,0,none⟩=some (.slice A wl cv):=by rw[←hvv];exact gM.cell 0
  have x3:w2.cell? ⟨q,3,none⟩=some (.int .u64 (l.last:Nat)):=gM.cell 3;have m0:=gM.mark 0;have m3:=gM.mark 3;have hsm:wl+(22+n)≤268435456:=by
   have h1:=H.o.small.2;have h2:=HRO.o;have h3:=H.o.rg.e8;rw[hws,H9] at h1;omega
  obtain⟨i0,hi,hz0,hz1,hz2⟩:=info_parts dX;have am6:=aa gM;have akg:=aa hrow2;have HVV:=aa hvv;have HSM:=aa hsm;have GJ:=aa lM;have ahb:=aa M9;have anl:=aa nL;have HWS:=aa hws;have HWL:=aa H9;have Lh:=aa vr;have HI0:=aa hi;have HZ0:=aa hz0;have HZ1:=aa hz1;have Tn:=aa hz2;have HQ:=aa (show ∀ k,(jr A wl cv).ownBlock=some k→k≠q from fun k hk=>(H.o.bt.2.2 k (by rw[hvv];exact hk)).2.1);have HQL:=aa gM.lt;rw[lM];clear gM hrow2 hvv hsm lM M9 nL hws H9 vr hi hz0 hz1 hz2 hb2 aiV hg2 hc2;go_wp2_with (refine wpList_append_own_at _ rfl _ _ 34 rfl 0 5 i0 (.int .u8 0) 1 1 Tryz.underlying34 HI0.o HZ0.o HZ1.o Tn.o rfl aM (.slice A wl cv) wl (aN ws) rfl akg.o ⟨g2,o2,none⟩ (22+n) c2 (aN fb) rfl (by rw[bn,GJ.o,Nat.mul_one]) anl.o.read (bO _) (by have:=HSM.o;unfold maxLen;omega) (by have:=HSM.o;omega) (cu _) ?_;intro v5 w5 bT lY Xe ai9;obtain⟨A5,c5,rfl⟩:=cg bT;have m0':w5.frozen? ⟨q,0,none⟩=false:=(Qx (a:=⟨q,0,none⟩) (lY.block q HQL.o (fun e=>HQ.o q e.symm rfl))).trans m0;have x0':w5.cell? ⟨q,0,none⟩=some (.slice A wl cv):=(eF (a:=⟨q,0,none⟩) (lY.block q HQL.o (fun e=>HQ.o q e.symm rfl))).trans x0;have m3':w5.frozen? ⟨q,3,none⟩=false:=(Qx (a:=⟨q,3,none⟩) (lY.block q HQL.o (fun e=>HQ.o q e.symm rfl))).trans m3;have x3':w5.cell? ⟨q,3,none⟩=some (.int .u64 (l.last:Nat)):=(eF (a:=⟨q,3,none⟩) (lY.block q HQL.o (fun e=>HQ.o q e.symm rfl))).trans x3;have EL:=aa bT;have wy:=aa lY;have ant:=aa ai9;clear bT lY Xe ai9);go_ret2;have hq:=H.o.bt;have hql:=HQL.o;have KX:w2.heap.size≤w5.heap.size:=wy.o.size;have ho5:aD w5 q 88 (lgC l r (.slice A wl cv)):=(wy.o.block q HQL.o (fun e=>HQ.o q e.symm rfl)).trans (by have:=am6.o;rw[HVV.o] at this;exact this);obtain⟨wf,yU⟩:=ae ((w5.setCell ⟨q,0,none⟩ (.slice A5 (wl+(22+n)) c5)).setCell ⟨q,3,none⟩ (.int .u64 ((ls:Nat):Int)));have hTq:aG (· =q) w5 wf:=by rw[←yU];exact(aG.at w5 q 0 _).B1 3 _
  have Ib:aD wf q 88 #[.slice A5 (wl+(22+n)) c5,.int .i64 (l.cE.length:Nat),.int .u64 (l.dO:Nat),.int .u64 (ls:Nat),.pointer (some ⟨r,0,none⟩),.int .u64 (l.bY:Nat)]:=by
   have h1:=(ho5.put 0 (.slice A5 (wl+(22+n)) c5)).put 3 (.int .u64 ((ls:Nat):Int));rw[yU] at h1;simpa[lgC] using h1
  rw[yU];obtain⟨f1,f2,f3,f4,f5,f6⟩:=l.sD b H.o.ok.done;have mN: ∀ k,(jr A wl cv).ownBlock=some k→SL k∧k≠q∧k≠r:=fun k hk=>hq.2.2 k (by rw[HVV.o];exact hk)
  have hTw:aG SL w wf:=((aG.aU ahb.o).grown wy.o (fun k hk=>.inl (mN k hk).1)).trans (hTq.mono fun k _ e=>by subst e;exact hq.1);have hwz:w.heap.size≤w2.heap.size:=ahb.o.size;have hvk: ∀ k,(jr A5 (wl+(22+n)) c5).ownBlock=some k→(SL k∨k=w2.heap.size)∧k≠q∧k≠r∧k<w5.heap.size:=fun k hk=>by
   have hk5:=(dP EL.o hk).1;have hrl:=H.o.rg.own.lt;rcases ant.o with e|e
   ·rw[hk] at e;have h1:=mN k e.symm;exact⟨.inl h1.1,h1.2.1,h1.2.2,hk5⟩
   rw[hk] at e;injection e with e
   exact⟨.inr e,ag,ag,hk5⟩
  have Jz:r≠q:=fun e=>by
   subst e;have a1:=H.o.own;have a2:=H.o.rg.own;unfold aD at a1 a2;rw[a1] at a2;injection a2 with a2
   injection a2 with _ a3
   revert a3;decide
  have hrl:=H.o.rg.own.lt;have vq:wf.heap[r]? =w.heap[r]?:=(hTq.block r ag Jz).trans ((wy.o.block r ag (fun e=>(mN r e.symm).2.2 rfl)).trans (ahb.o.block r hrl));have hzf:=hTq.size;unfold Qf;rw[HN.o,HFI.o,if_pos rfl];refine⟨⟨by rw[HLS.o];rfl,.slice A5 (wl+(22+n)) c5,?_,⟨vq.trans H.o.rg.own,H.o.rg.size,H.o.rg.count⟩,?_,⟨.inl hq.1,.inl hq.2.1,fun k hk=>?_⟩,fun k hk=>?_,⟨?_,?_,H.o.ok.bY,?_⟩,?_⟩,hTw⟩
  ·unfold lgC;rw[f1,f3,f4,f5,HLS.o];exact Ib
  ·rw[f2,HWS.o,HEP.o,HLS.o,Lh.o,List.length_append,HWL.o,GJ.o,eh];exact dY EL.o fun k hk=>hTq.block k (hvk k hk).2.2.2 (hvk k hk).2.1
  ·have h1:=hvk k hk;refine⟨?_,h1.2.1,h1.2.2.1⟩;rcases h1.1 with h2|h2
   ·exact .inl h2
   exact .inr ⟨ag,ag⟩
  ·rcases hk with hk|hk
   ·have:=H.o.lt k hk;omega
   exact hk.2
  ·show l.done≤(l.eD++ [b]).length
   have:=H.o.ok.done;simp;omega
  ·rw[f4];have h1:=HLA.o;have h2:=H.o.ok.last;omega
  ·intro x hx;rcases List.mem_append.1 hx with hx|hx
   ·exact H.o.ok.short x hx
   rw[List.mem_singleton.1 hx,HN.o];exact hl
  rw[f6,HN.o];have:=HRO.o;omega
theorem Lg.aar(l:Lg)(ep:Nat): (l.reset ep).cE= []∧(l.reset ep).aK= []∧(l.reset ep).dO=l.last∧(l.reset ep).last=l.last∧(l.reset ep).bY=ep∧(l.reset ep).used=0:=⟨rfl,rfl,rfl,rfl,rfl,rfl⟩
def ajF(SL:Nat→Prop)(q r p:Nat)(l:Lg)(g:Rg)(size ep:Nat)(w:World)(e:Ending)(w':World): Prop:=e= .returned (.int .i64 0)∧uW q r p (l.reset ep) g size SL w'∧aG (· =q) w w'
theorem Sh{SL:Nat→Prop}{q:Nat} {l:Lg}{g:Rg}{v:Value}(h:gF SL w q r p l g size v)(ep:Nat)(M4:ep<18446744073709551616):
  Calls af 215 #[.pointer (some ⟨q,0,none⟩),.int .u64 ep] w (ajF SL q r p l g size ep w):=by
 have x4:w.cell? ⟨q,4,none⟩=some (.pointer (some ⟨r,0,none⟩)):=h.own.cell 4;have GA:=aa (Cc h);have H:=aa h;have HEP:=aa M4;clear h M4;go_enter Tryz.func215,Tryz.ntmps215;go_wp2_with fail;refine ah (iV q r w x4) ?_;go_wp2_with fail;refine GA.o.mono ?_;rintro e w1 ⟨⟨u,rfl⟩,ho,ht⟩;have m1:=ho.mark 1;have m5:=ho.mark 5;have x1:w1.cell? ⟨q,1,none⟩=some (.int .i64 (l.used:Nat)):=ho.cell 1;have x5:w1.cell? ⟨q,5,none⟩=some (.int .u64 (l.bY:Nat)):=ho.cell 5;have HO:=aa ho;have HT:=aa ht;clear ho ht;go_wp2_with fail;go_ret;obtain⟨wf,yU⟩:=ae ((w1.setCell ⟨q,1,none⟩ (.int .i64 0)).setCell ⟨q,5,none⟩ (.int .u64 ((ep:Nat):Int)));have hTq:aG (· =q) w1 wf:=by rw[←yU];exact(aG.at w1 q 1 _).B1 5 _
 have Ib:aD wf q 88 #[.slice none 0 0,.int .i64 0,.int .u64 (l.last:Nat),.int .u64 (l.last:Nat),.pointer (some ⟨r,0,none⟩),.int .u64 ((ep:Nat):Int)]:=by
  have h1:=(HO.o.put 1 (.int .i64 0)).put 5 (.int .u64 ((ep:Nat):Int));rw[yU] at h1;simpa using h1
 have hTw:aG (· =q) w wf:=HT.o.trans hTq;rw[yU];have Jz:r≠q:=fun e=>by
  subst e;have a1:=H.o.own;have a2:=H.o.rg.own;unfold aD at a1 a2;rw[a1] at a2;injection a2 with a2
  injection a2 with _ a3
  revert a3;decide
 refine⟨rfl,⟨.slice none 0 0,?_,⟨(hTw.block r H.o.rg.own.lt Jz).trans H.o.rg.own,H.o.rg.size,H.o.rg.count⟩,?_,⟨H.o.bt.1,H.o.bt.2.1,fun k hk=>LD⟩,fun k hk=>Nat.lt_of_lt_of_le (H.o.lt k hk) hTw.size,⟨Nat.le_refl _,H.o.ok.last,HEP.o,fun x hx=>by cases hx⟩,cu _⟩,hTw⟩
 ·exact Ib
 ·exact qd wf 0 1 _
def ajM(r p:Nat)(l:Lg)(g:Rg)(size:Nat)(w:World)(e:Ending)(w':World): Prop:=∃ q,e= .returned (.tuple #[.pointer (some ⟨q,0,none⟩),.int .i64 0])∧w.heap.size≤q∧uW q r p l g size (fun k=>k=q∨k=r) w'∧Below w.heap.size w w'
theorem PY{g:Rg}(h:fV w r p g size)(ep seq:Nat)(M4:ep<18446744073709551616)(hseq:seq<18446744073709551616):
  Calls af 32 #[.pointer (some ⟨r,0,none⟩),.int .u64 ep,.int .u64 seq] w (ajM r p ⟨ep,seq,[],0⟩ g size w):=by
 have tP:=aa (ny h);have hby:=h.e8;have hb0:1≤g.bytes size:=by
  have h1:=h.size;have h2:=h.count;unfold Rg.bytes;exact Nat.mul_pos h2.1 h1.1
 obtain⟨B,hB⟩:=ae (g.bytes size);rw[hB] at tP hby hb0;have hq:((B:Int)==0)=false:=mK;have CL:(B==0)=false:=mK;have H:=aa h;have HEP:=aa M4;have HSQ:=aa hseq;clear h M4 hseq hby hb0 hB;go_enter Tryz.func32,Tryz.ntmps32;go_wp2_with fail;refine tP.o.mono ?_;rintro e w1 ⟨rfl,hb1⟩;have bu:=aa hb1;clear hb1;go_wp2_with fail;go_ret2;obtain⟨wf,yU⟩:=ae (w1.alloc (.cells #[.slice none 0 0,.int .i64 0,.int .u64 ((seq:Nat):Int),.int .u64 ((seq:Nat):Int),.pointer (some ⟨r,0,none⟩),.int .u64 ((ep:Nat):Int)] 88));rw[yU];have hbf:=aJ yU;have Ib:aD wf w1.heap.size 88 #[.slice none 0 0,.int .i64 0,.int .u64 ((seq:Nat):Int),.int .u64 ((seq:Nat):Int),.pointer (some ⟨r,0,none⟩),.int .u64 ((ep:Nat):Int)]:=by rw[←yU];exact aD.fresh w1 _ _
 have hrf:fV wf r p g size:=(H.o.keep bu.o).keep hbf;refine⟨w1.heap.size,rfl,bu.o.size,⟨.slice none 0 0,Ib,hrf,qd wf 0 1 _,⟨.inl rfl,.inr rfl,fun k hk=>LD⟩,fun k hk=>?_,⟨Nat.le_refl _,HSQ.o,HEP.o,fun x hx=>by cases hx⟩,cu _⟩,ar bu.o hbf⟩;rcases hk with rfl|rfl
 ·exact Ib.lt
 ·exact hrf.own.lt
end En
end
section
namespace En
structure qz(w:World)(s ra rb p:Nat)(sl:Sl)(size:Nat): Prop where
 own:aD w s 93 #[.pointer (some ⟨ra,0,none⟩),.pointer (some ⟨rb,0,none⟩)]
 a:fV w ra p sl.a size
 b:fV w rb p sl.b size
 eq:sl.b.count=sl.a.count
 two:2≤sl.a.count
variable{w:World}{s ra rb p size:Nat}
theorem qz.keep{w':World} {sl:Sl}(h:qz w s ra rb p sl size)(hb:Below w.heap.size w w'): qz w' s ra rb p sl size:=⟨h.own.keep hb,h.a.keep hb,h.b.keep hb,h.eq,h.two⟩
theorem qz.cG{S:Nat→Prop}{w':World} {sl:Sl}(h:qz w s ra rb p sl size)(ht:aG S w w')(h1: ¬S s)(h2: ¬S ra)(h3: ¬S rb): qz w' s ra rb p sl size:=⟨ht.arr h.own h1,h.a.cG ht h2,h.b.cG ht h3,h.eq,h.two⟩
theorem xZ(s ra:Nat)(w:World)(h:w.cell? ⟨s,0,none⟩=some (.pointer (some ⟨ra,0,none⟩))): Calls af 208 #[.pointer (some ⟨s,0,none⟩)] w fun e w'=>e= .returned (.bool true)∧w'=w:=by
 go_enter Tryz.func208,Tryz.ntmps208;go_wp2_with fail;go_ret;exact⟨rfl,rfl⟩
theorem ya{sl:Sl}(h:qz w s ra rb p sl size): Calls af 97 #[.pointer (some ⟨s,0,none⟩)] w fun e w'=>e= .returned (.int .i64 (sl.bytes size:Nat))∧Below w.heap.size w w':=by
 have x0:=h.own.cl 0;have tP:=aa fun(W:World) (hW:Below w.heap.size w W)=>ny (h.a.keep hW)
 have yO:=aa fun(W:World) (hW:Below w.heap.size w W)=>kJ (h.a.keep hW)
 have h2:=h.a.e8;have h3:size≤sl.a.bytes size:=by unfold Rg.bytes;exact Nat.le_mul_of_pos_left _ (by have:=h.two;omega)
 unfold Sl.bytes;obtain⟨a,ha⟩:=ae (sl.a.bytes size);rw[ha] at tP h2 h3 ⊢;have hab:(a:Int) - (size:Int)=((a - size:Nat):Int):=ag;have ha4:(a:Int)≤268435456:=ag;have hwr:IntKind.i64.wrap ((a - size:Nat):Int)=((a - size:Nat):Int):=IntWalk.i64_in _ ag;clear h ha h2;go_enter Tryz.func97,Tryz.ntmps97;go_wp2_with fail;refine ah (xZ s ra w x0) ?_;go_wp2_with fail;refine sY (S:=(fun w'=>w'.cell? ⟨s,0,none⟩=some (.pointer (some ⟨ra,0,none⟩)))) (by exact x0) fun hHeld=>?_
 refine nZ 0 1 2 3 4 5 7 8 ?_;refine kW 9 10 11 12 ?_;refine cD 6 fun K hK=>?_
 go_simp;refine(tP.o _ (ay (aq _ _))).mono ?_;rintro e w2 ⟨rfl,hw2⟩;have Bt:Below w.heap.size w w2:=ar (ay (aq _ _)) hw2;have q4:w2.cell? ⟨s,0,none⟩=some (.pointer (some ⟨ra,0,none⟩)):=(Bt.cell (p:=⟨s,0,none⟩) (World.block_lt_of_cell? _ _ x0)).trans x0;have Gz:=aa Bt;clear hw2 Bt;go_wp2_with fail;refine bW hK (by exact q4) fun qp=>?_
 clear hK K;refine cD 13 fun K hK=>?_
 go_simp;refine ah (yO.o _ Gz.o) ?_;go_wp2_with fail;refine bW hK (by exact q4) fun ak4=>?_
 clear hK K;refine uw 14 15 ?_;refine bF ?_;go_wp2_with fail;go_ret;exact⟨rfl,Gz.o⟩
def od(h:Hd): Array Value:=#[.int .u64 (h.gen:Nat),.int .u64 (h.lZ:Nat),.int .i64 (h.len:Nat),.int .u32 (h.sum:Nat)]
theorem Gw(h:Hd)(w:World): Calls af 337 #[.agg (od h)] w fun e w'=>e= .returned (.bool h.may)∧Below w.heap.size w w':=by
 obtain⟨gen,lZ,len,sum⟩:=h;unfold od Hd.may;simp only;by_cases h1:0<gen
 ·have K8:(0:Int)<(gen:Int):=by omega
  rw[show decide (0<gen)=true from wU,Bool.true_and];have h2:decide (len≤67108864)=decide ((len:Int)≤67108864):=by rw[decide_eq_decide];omega
  rw[h2];have h3:(0:Int)≤(len:Int):=ag;exact Wm
 have K8: ¬(0:Int)<(gen:Int):=ag;rw[show decide (0<gen)=false from wU,Bool.false_and];exact Wm
end En
end
section
namespace En
def ajC(ra rb p:Nat)(sl:Sl)(size:Nat)(w:World)(e:Ending)(w':World): Prop:=∃ s,e= .returned (.tuple #[.pointer (some ⟨s,0,none⟩),.int .i64 0])∧w.heap.size≤s∧qz w' s ra rb p sl size∧Below w.heap.size w w'
theorem PR{w:World}{ra rb p:Nat}{sl:Sl}{size:Nat}(ha:fV w ra p sl.a size)(hb:fV w rb p sl.b size)(heq:sl.b.count=sl.a.count)(afB:2≤sl.a.count):
  Calls af 51 #[.pointer (some ⟨ra,0,none⟩),.pointer (some ⟨rb,0,none⟩)] w (ajC ra rb p sl size w):=by
 have hby:=ha.e8;have hsz:=ha.size;have h2:2*size≤sl.a.bytes size:=by unfold Rg.bytes;exact Nat.mul_le_mul_right _ afB
 have wH:sl.b.bytes size=sl.a.bytes size:=by unfold Rg.bytes;rw[heq]
 have HA:=aa fun(W:World) (hW:Below w.heap.size w W)=>ny (ha.keep hW)
 have HB:=aa fun(W:World) (hW:Below w.heap.size w W)=>ny (hb.keep hW)
 have CU:=aa fun(W:World) (hW:Below w.heap.size w W)=>kJ (ha.keep hW)
 have Lj:=aa fun(W:World) (hW:Below w.heap.size w W)=>kJ (hb.keep hW)
 rw[wH] at HB;obtain⟨B,hB⟩:=ae (sl.a.bytes size);rw[hB] at HA HB hby h2;have hq:((B:Int)==0)=false:=mK;have CL:(B==0)=false:=mK;have tL:(size:Int)≤4096:=ag;have mW: ¬(B:Int)<2*(size:Int):=ag;have HRA:=aa ha;have tP:=aa hb;have HEQ:=aa heq;have HTW:=aa afB;clear ha hb heq afB hby hsz h2 wH hB;go_enter Tryz.func51,Tryz.ntmps51;go_wp2_with fail;refine(HA.o w (aq _ _)).mono ?_;rintro e w1 ⟨rfl,hb1⟩;have sK:=aa hb1;clear hb1;go_wp2_with fail;refine(HB.o w1 sK.o).mono ?_;rintro e w2 ⟨rfl,hb2⟩;have Gz:=aa (show Below w.heap.size w w2 from ar sK.o hb2);clear hb2;go_wp2_with fail;refine(HA.o w2 Gz.o).mono ?_;rintro e w3 ⟨rfl,hb3⟩;have Ir:=aa (show Below w.heap.size w w3 from ar Gz.o hb3);clear hb3;go_wp2_with fail;refine(HB.o w3 Ir.o).mono ?_;rintro e w4 ⟨rfl,hb4⟩;have HW4:=aa (show Below w.heap.size w w4 from ar Ir.o hb4);clear hb4;go_wp2_with fail;refine ah (CU.o w4 HW4.o) ?_;go_wp2_with fail;refine ah (Lj.o w4 HW4.o) ?_;go_wp2_with fail;refine(HA.o w4 HW4.o).mono ?_;rintro e w5 ⟨rfl,dR⟩;have Sn:=aa (show Below w.heap.size w w5 from ar HW4.o dR);clear dR;go_wp2_with fail;refine ah (CU.o w5 Sn.o) ?_;go_wp2_with fail;go_ret2;obtain⟨wf,yU⟩:=ae (w5.alloc (.cells #[.pointer (some ⟨ra,0,none⟩),.pointer (some ⟨rb,0,none⟩)] 93));rw[yU];have hbf:=eH Sn.o yU;have Ib:aD wf w5.heap.size 93 #[.pointer (some ⟨ra,0,none⟩),.pointer (some ⟨rb,0,none⟩)]:=by rw[←yU];exact aD.fresh w5 _ _
 exact⟨w5.heap.size,rfl,Sn.o.size,⟨Ib,HRA.o.keep hbf,tP.o.keep hbf,HEQ.o,HTW.o⟩,hbf⟩
