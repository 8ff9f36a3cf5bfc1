import Derived.Test.YtemighjbfanenaaGreatDoorQk37
import Derived.Test.YtemighjbfanenaaGreatDoorQk42
import Derived.Test.YtemighjbfanenaaGreatDoorQk44
set_option linter.all false
set_option maxRecDepth 100000
set_option maxHeartbeats 16000000
namespace Go.Proofs.YtemighjbfanenaaGreatDoor
open RowKit
open Cr (cj)
open Rf (iD)
open En (YC dI iW p4 nX Ka rB Es Live Ee kG sJ lL Rec Rp fp Rq JP oK td BF fA aS aH cN yB yU Fm kZ sT bt cS Su)
open Oc (Bs aO qV eT cM)
open Bk (fL)
open Eg (kE)
open Classical renaming byContradiction→Gx
open Go.Calls renaming quiet_of_same→dm
open Go.IntKind renaming wrap_u64→lN
open Go.Proofs.Tryz renaming prog→af
open List renaming length_map→dZ,getD_eq_getElem?_getD→bR,length_drop→lY,getElem?_eq_some_iff→iX,length_append→bZ,getElem?_eq_getElem→bY
open Nat renaming not_lt_zero→gw,zero_le→cx
open RowKit.Below renaming refl→ar
theorem U1{p:Prop}(h:p:=by
 refine wpQuiet_nil ?_;intro _ hw';obtain⟨nq,hw''⟩:=hw';subst hw'';have iK:=aa (show Below wr.heap.size wr (wb.drewN nq)from aQ iK.o nq);obtain⟨wc,agK⟩:=ae (wb.drewN nq);rw[agK] at iK ⊢;clear agK x1 q0 q1 a2 a6;obtain⟨x1,q0,q1⟩:=M1.o _ iK.o;go_wp2_with fail;refine wp_region_quiet_lit bh bh ?_;repeat(first|go_big_quiet_step (fail)|quiet_step (fail))
 refine wpQuiet_nil ?_;intro _ hw';obtain⟨nq,hw''⟩:=hw';subst hw'';have iK:=aa (show Below wr.heap.size wr (wc.drewN nq)from aQ iK.o nq);obtain⟨wd,agJ⟩:=ae (wc.drewN nq);rw[agJ] at iK ⊢;clear agJ x1 q0 q1;obtain⟨x1,q0,q1⟩:=M1.o _ iK.o;go_wp2_with fail;refine ag (HPE.o _ iK.o) ?_;go_wp2_with fail;go_roundw
 case rel=>exact⟨j+1,r',rC,x',HJ.o,by go_num,(Rm.o _ iK.o).1,(Rm.o _ iK.o).2.1,(Rm.o _ iK.o).2.2⟩
 case measure=>simp[intOf];omega):p:=h
section
namespace En
theorem bD.else{S:Nat→Prop}{aB:Nat→Nat}{w w':World}{e:Nat}{q:rB}{wt:Value}{es:Es}(h:bD aB w e q wt es)(ht:aI S w w')(hS: ∀ k,S k→aB k=0)(hc:cj w')(hr:fp w'): bD aB w' e q wt es:=by
 have no: ∀ {k r:Nat},aB k=r→r≠0→¬S k:=fun hk hr hs=>hr (hk.symm.trans (hS _ hs))
 have r:=h.rest;exact⟨⟨r.does.same (ht.block _ r.does.lt (no r.r6 aM)),(cI ..).cR r.log ht (fun k hk=>no hk aM),(aF ..).cR r.dev ht (fun k hk=>no hk aM),gS r.book ht (fun k hk=>no hk aM),r.slots.cR ht (no r.r7.1 aM) (no r.r7.2.1 aM) (no r.r7.2.2 aM),r.r5,r.r6,r.r7,fun k hk=>Nat.lt_of_lt_of_le (r.lt k hk) ht.size,hc,hr,r.kW⟩,
  ht.arr h.own (no r.r5 aM),h.aD.same fun g hg hl=>ht.block g hl (no hg aM)⟩
end En
end
section
namespace Rf
open En (bD)
theorem ZP(sh lg:Int)(wide:Bool)(ep sq:Nat)(he:ep<18446744073709551616)(hs:sq<18446744073709551616): (Fy sh lg wide ep sq).Inv∧(Fy sh lg wide ep sq).rg.bytes (Fy sh lg wide ep sq).dev.dk.size≤900000:=by
 obtain⟨h1,h2,h3,h4⟩:=Ue sh;have hm:Qt wide=64∨Qt wide=128:=by cases wide;exact .inl rfl;exact .inr rfl
 obtain⟨k,hk,hk2,hk4,_⟩:=AQ h1 h2 hm;have p5:mdK sh (Qt wide)=k:=by unfold mdK;rw[hk];rfl
 have hlg:(lg % 8).toNat≤7:=ai;have hn:mdN sh lg (Qt wide)=2*k+1+(lg % 8).toNat:=by unfold mdN;rw[p5]
 refine⟨?_,?_⟩
 ·unfold Fy;refine td ai ai ai (by rw[hn];omega) ai (by rw[p5];omega) (by rw[hn,p5];omega) he hs
 unfold Fy;show(mdN sh lg (Qt wide) - 2*mdK sh (Qt wide))*Qt wide≤900000
 rw[hn,p5];rcases hm with h|h <;>rw[h] <;>omega
theorem Xa{l:List iM}(h: ∀ a∈l,a.Ok){j:Nat}(hj:j<min l.length 40): (JL l j).ry∧(JL l j).bV≤8:=by
 have hl:j<l.length:=ai;have e:l.getD j ⟨0,0,0,0,0⟩=l[j]:=by rw[bR,bY hl];rfl
 have fw:=NQ (h l[j] (List.getElem_mem hl)) (i:=j) ai;refine⟨by unfold JL;rw[e];exact fw.may,?_⟩;unfold JL iM.rq;dsimp only;split
 ·omega
 decide
end Rf
end
section
namespace En
inductive Shown (e:Es) (q:Rq) (got:List Rp) (e':Es):Prop where
 | none (x:Rp) (h0:got= []) (hc:bt q.ax=true) (hl:e'.log.last=e.log.last+1) (ht:x.tag=q.tag) (hw:e'.aD=e.aD++ [x])
 | own (ws:List Rp) (x:Rp) (h0:got=ws++ [x]) (ht:x.tag=q.tag) (hk:x.ax=q.ax) (hw:e'.aD=e.aD.drop ws.length) (ha:ws= []∨ws=e.aD∧e'.log.cm=e'.log.last)
  (hl:(e'.log.last=e.log.last∧e'.bk=e.bk∧(q.ax=8∨q.ax=9→x.err=0→x.count=ws.length∧e'.aD= []∧e'.log.cm=e'.log.last))∨(e'.log.last=e.log.last+1∧bt q.ax=true∧e'.aD= []∧e'.log.cm=e'.log.last∧x.err=0)):Shown e q got e'
theorem rI.shown{e:Es}{q:Rq}{r:List Rp × Es}(h:rI e q r): Shown e q r.1 r.2:=by
 cases h with
 | told x e' h1 h2 h3 h4 h5 h8 hf hi=>exact .own [] x rfl h1 h2 (by rw[h5];rfl) (.inl rfl) (.inl ⟨h4,h3,fun hk he=>by rcases hk with hk|hk;exact absurd hk h8;exact absurd he (hf hk)⟩)
 | aD x e' h1 h2 h3 h4 h5 h6 hi=>exact .none x rfl h1 h5 h2 h6
 | full x e' h1 h2 h3 h4 h5 h6 h7 hi=>exact .own e.aD x rfl h2 h3 (by rw[h7,List.drop_length]) (.inr ⟨rfl,h6⟩) (.inr ⟨h5,h1,h7,h6,h4⟩)
 | all x e' h1 h2 h3 h4 h5 h6 h7 h8 h9 hi=>exact .own e.aD x rfl h2 h3 (by rw[h9,List.drop_length]) (.inr ⟨rfl,h8⟩) (.inl ⟨h7,h6,fun _ _=>⟨h5,h9,h8⟩⟩)
structure JM(b0 e:Nat)(q:rB)(r0:Nat→Nat)(w5:World)(r:Nat→Nat)(wt:Value)(x:Es)(tv:Value)(tg:List Int)(W:World): Prop where
 lx:Live b0 r W e q wt x
 gx: ∀ k,r k≠0→r0 k≠0∨w5.heap.size≤k
 rest:aI (fun k=>r0 k≠0) w5 W
 tags:oK (fun k=>w5.heap.size≤k∧r k=0) W tv tg
 tab:cj w5∧fp w5
section
variable {b0 e:Nat}{q:rB}{r0:Nat→Nat}{w5:World}{r:Nat→Nat}{wt:Value}{x:Es}{tv:Value}{tg:List Int}{W W':World}
theorem JM.ah(h:JM b0 e q r0 w5 r wt x tv tg W)(hb:Below W.heap.size W W'): JM b0 e q r0 w5 r wt x tv tg W':=
 ⟨h.lx.ak hb,h.gx,h.rest.trans (aI.aW hb),h.tags.same fun k hk hl=>⟨hb.block k hl,hk⟩,h.tab⟩
theorem JM.done{r':Nat→Nat}{rC:Value}{x':Es}(h:JM b0 e q r0 w5 r wt x tv tg W)(hL:Live b0 r' W' e q rC x')(hr: ∀ k,r' k≠0→r k≠0∨W.heap.size≤k)(ht:aI (fun k=>r k≠0) W W'): JM b0 e q r0 w5 r' rC x' tv tg W':=by
 have hz:=h.rest.size;refine⟨hL,fun k hk=>?_,h.rest.new (ht.mono fun k _ hk=>h.gx k hk),h.tags.same fun k hk hl=>⟨ht.block k hl fun hne=>hne hk.2,hk.1,Gx fun hne=>?_⟩,h.tab⟩
 ·rcases hr k hk with a|a
  ·exact h.gx k a
  exact .inr ai
 rcases hr k hne with a|a
 ·exact a hk.2
 omega
theorem JM.kT{tv':Value}{tg':List Int}(h:JM b0 e q r0 w5 r wt x tv tg W)(ht:oK (fun k=>w5.heap.size≤k∧r k=0) W tv' tg'): JM b0 e q r0 w5 r wt x tv' tg' W:=⟨h.lx,h.gx,h.rest,ht,h.tab⟩
theorem JM.app{tv':Value}{t:Int}(h:JM b0 e q r0 w5 r wt x tv tg W)(h2:oK (fun k=>(w5.heap.size≤k∧r k=0)∨W.heap.size≤k) W' tv' (tg++ [t]))(ht:aI (fun k=>w5.heap.size≤k∧r k=0) W W'): JM b0 e q r0 w5 r wt x tv' (tg++ [t]) W':=by
 have hz:=h.rest.size;have h0: ∀ k,k<w5.heap.size→¬(w5.heap.size≤k∧r k=0):=fun k hk he=>ai
 have hc:cj W':=h.lx.cw.rest.ij.cR ht (h0 _ h.tab.1.lt);have hp:fp W':=h.lx.cw.rest.rep.cR ht (h0 _ h.tab.2.lt);refine⟨⟨h.lx.cw.else ht (fun k hk=>hk.2) hc hp,h.lx.inv,h.lx.may,h.lx.bytes,h.lx.news⟩,h.gx,h.rest.new (ht.mono fun k _ hk=>.inr hk.1),h2.same fun k hk _=>⟨rfl,?_⟩,h.tab⟩;rcases hk with hk|hk
 ·exact hk
 exact⟨ai,Gx fun hne=>by have:=h.lx.cw.rest.lt k hne;omega⟩
end
end En
end
section
namespace Rf
open En (JM Shown)
def air(w:World)(e:Ending)(w':World): Prop:=e= .returned (.bool true)∧Below w.heap.size w w'
theorem ae6(a b c:Int)(W:World): (Instr.field 80 (.agg #[.int .i64 a,.int .i64 b,.int .i64 c]) 2).run af W= .ok (.int .i64 c) W:=bh
theorem Cm(k:Int)(h:bt k=true)(w:World): Calls af 40 #[.int .i64 k] w fun e w'=>e= .returned (.bool true)∧w'=w:=by
 rcases En.cA h with rfl|rfl|rfl|rfl|rfl
 all_goals
  go_enter Tryz.func40,Tryz.ntmps40;go_wp2_with fail;go_ret;exact⟨rfl,rfl⟩
variable{r0 r:Nat→Nat}
theorem lh{z k:Nat}(h: ∀ k,r k≠0→r0 k≠0∨z≤k)(h0:r0 k=0)(hk:k<z): r k=0:=Gx fun hne=>by
 rcases h k hne with a|a
 ·exact a h0
 omega
structure Odd(b0 e:Nat)(q:rB)(r0:Nat→Nat)(w5:World)(r:Nat→Nat)(wt:Value)(x:Es)(tv:Value)(tg:List Int)(xq:Nat)(rq:Rq)(Sw:Nat→Prop)(bw:Nat)(bk:En.dI)(v:Value)(l:List Rp)(W:World): Prop where
 u:JM b0 e q r0 w5 r wt x tv tg W
 rq:aG W xq 41 (cS rq)
 was:fL Sw W bw bk
 got:aP (fun _=>True) W 108 7 v l.length (yU l)
theorem Odd.ah{b0 e:Nat}{q:rB}{w5:World}{wt:Value}{x:Es}{tv:Value}{tg:List Int}{xq:Nat}{rq:Rq}{Sw:Nat→Prop}{bw:Nat}{bk:En.dI}{v:Value}{l:List Rp}{W W':World}(h:Odd b0 e q r0 w5 r wt x tv tg xq rq Sw bw bk v l W)(hb:Below W.heap.size W W'): Odd b0 e q r0 w5 r wt x tv tg xq rq Sw bw bk v l W':=
 ⟨h.u.ah hb,h.rq.ah hb,lK h.was hb,h.got.ah hb⟩
theorem Odd.at{b0 e:Nat}{q:rB}{w5:World}{wt:Value}{x:Es}{tv:Value}{tg:List Int}{xq:Nat}{rq:Rq}{Sw:Nat→Prop}{bw:Nat}{bk:En.dI}{g c:Nat}{l:List Rp}{W:World}(h:Odd b0 e q r0 w5 r wt x tv tg xq rq Sw bw bk (.slice (some ⟨g,0,none⟩) l.length c) l W){i:Nat}(hi:i<l.length){y:Rp}(hy:l[i]=y):
  W.cell? ⟨g,i*7,none⟩=some (.int .u32 y.tag)∧W.cell? ⟨g,i*7+1,none⟩=some (.int .i64 y.ax)∧W.cell? ⟨g,i*7+2,none⟩=some (.int .i64 y.err)∧W.cell? ⟨g,i*7+6,none⟩=some (.int .i64 y.count):=by
 have hc:yU l i=(En.lf y).toList:=by unfold yU;rw[bR,bY hi];show(En.lf l[i]).toList=_;rw[hy]
 have hr:=h.got.range (Fm l) hi;rw[hc] at hr;exact⟨hr 0 _ rfl,hr 1 _ rfl,hr 2 _ rfl,hr 6 _ rfl⟩
theorem Uy(s:StN)(hs:s.Ok)(l:List iM)(fw: ∀ a∈l,a.Ok)(A:Option Addr)(c:Nat)(w:World)(hA:Ng w A l)(hl:l.length≤70368744177664)(CC:cj w)(hrt:fp w):
  Calls af 6 #[.agg (NS s),.slice A l.length c] w (air w):=by
 obtain⟨xs,CV⟩:=ae w.heap.size;obtain⟨w1,a8⟩:=ae (w.alloc (.cells (NS s) 24));have Dd:=aa (aJ a8 CV);have bA:=aa (aK a8);have HA:=aa hA;have uk:=aa fw;have Df:=aa CC;have HRT:=aa hrt;have HS:=aa hs;have HLL:=aa hl;obtain⟨n,hn⟩:=ae (min l.length 40);have amc:n≤40:=ai;have HN:=aa hn;clear hA fw CC hrt hs hl hn;go_enter Tryz.func6,Tryz.ntmps6;go_wp2_with fail;clear a8 CV;refine(W6 w1 (Df.o.ah bA.o) (HRT.o.ah bA.o)).mono ?_;rintro en w2 ⟨rfl,hb⟩;have Dc:=Dd.jC hb;have cu:=bA.dQ hb;clear hb Dd bA;go_wp2_with (refine aC rfl 24 (.tmp 2) rfl xs 24 (NS s) Dc.o rfl _ Tryz.underlying24 rfl qf ?_);refine(SA s w2).mono ?_;rintro en w3 ⟨rfl,hb⟩;have dV:=cu.dQ hb;clear hb Dc cu;go_wp2_with fail;refine(DC s.shape s.log s.wide 0 0 HS.o.shape HS.o.log aM aM w3 (Df.o.ah dV.o) (HRT.o.ah dV.o)).mono ?_;rintro en w4 ⟨P,rfl,hM⟩;have HM:=aa hM;have gj:=aa (av dV.o hM.ak);clear hM;obtain⟨cs,hcs⟩: ∃ cs:Array Value,cs= #[.pointer (some ⟨P.q.p,0,none⟩),.pointer (some ⟨P.e,0,none⟩),.pointer (some ⟨P.q.rl,0,none⟩),.pointer (some ⟨P.q.sl,0,none⟩),.pointer (some ⟨P.m,0,none⟩),.pointer (some ⟨P.v,0,none⟩)]:=⟨_,rfl⟩;have HC0:=aa (show cs[0]? =some (.pointer (some ⟨P.q.p,0,none⟩))by rw[hcs];rfl);have ku:=aa (show cs[1]? =some (.pointer (some ⟨P.e,0,none⟩))by rw[hcs];rfl);have HXA:=aa (show aG w4 P.x iD cs by rw[hcs];exact HM.o.own);clear hcs;obtain⟨es,hes⟩:=ae (Fy s.shape s.log s.wide 0 0);obtain⟨m1,m2⟩:=ZP s.shape s.log s.wide 0 0 aM aM;rw[hes] at HM m1 m2;have HWZ:=aa (show es.aD= [] by rw[←hes];rfl);have HMI:=aa m1;have HMB:=aa m2;clear hes m1 m2;have x1:w4.cell? ⟨P.x,1,none⟩=some (.pointer (some ⟨P.e,0,none⟩)):=(HXA.o.cell 1).trans ku.o;go_wp2_with fail;refine(p4 HM.o.eng HMI.o.up HMI.o.bk).mono ?_;rintro en w5 ⟨bb,Sb,rfl,cL,hS,hb⟩;obtain⟨qb,hqb⟩:=cL;have Hj:=aa (Bk.fT hqb.bg);have eu:=aa hb;clear hS hb hqb x1;obtain⟨gr,hgr⟩:=ae (es.bk.aA:Nat);have HG:=aa hgr;rw[hgr] at Hj;clear hgr;go_wp2_with fail;refine Hj.o.mono ?_;rintro en w6 ⟨rfl,hb⟩;have iL:=eu.dQ hb;clear hb Hj eu;have hf:=ae6 (es.bk.n:Int) (es.bk.au:Int) (gr:Int);go_wp2_with fail;clear hf;refine(aaL l uk.o A c w6 (HA.o.ah (av gj.o iL.o)) HLL.o).mono ?_;rintro en wz ⟨v7,rfl,hR,hb⟩;rw[HN.o] at hR;obtain⟨A7,c7,rfl⟩:=hR.any;have hm:=HM.o;have hz:=hm.ak.size;have hz2:=iL.o.size;have hz3:=hb.size;have hb4:=av iL.o hb;have r1: ∀ k,P.aB k≠0→k<w4.heap.size:=hm.eng.rest.lt;have HU0:=aa (show JM w3.heap.size P.e P.q P.aB wz P.aB (.slice none 0 0) es (.slice none 0 0) (es.aD.map (·.tag)) wz from
  ⟨⟨hm.eng.ak hb4,HMI.o,(fun r hr=>by rw[HWZ.o] at hr;cases hr),HMB.o,hm.news⟩,fun k hk=>.inl hk,aI.refl _ _,.inl ⟨rfl,by rw[HWZ.o];rfl⟩,Df.o.ah (av gj.o hb4),HRT.o.ah (av gj.o hb4)⟩)
 have HFX:=aa (show ∀ W,aI (fun k=>P.aB k≠0) wz W→aG W P.x iD cs∧aP (fun k=>w6.heap.size≤k) W 41 5 (.slice A7 n c7) n (F0 l)from fun W ht=>
  ⟨ht.arr (HXA.o.ah hb4) (fun a=>a hm.xno),hR.same fun g hg hl=>ht.block g hl fun a=>by have:=r1 g a;omega⟩)
 have Ca:=aa (show ∀ r:Nat→Nat,(∀ k,r k≠0→P.aB k≠0∨wz.heap.size≤k)→r P.x=0 from fun r hr=>lh hr hm.xno (by have:=HXA.o.lt;omega));have HZZ:=aa (show w3.heap.size≤wz.heap.size from ai);have HBZ:=aa (show ∀ W,aI (fun k=>P.aB k≠0) wz W→Below w.heap.size w W from fun W ht=>aI.fresh ht (av gj.o hb4) fun k hk=>by have:=dV.o.size;have:=hm.news k hk;omega);clear hm hz hz2 hz3 hb4 r1 hR hb HM dV gj iL HA HS HXA HMI HMB;go_wp2_with fail;go_loopw [8,10] (fun tv i wr=>∃ (j:Nat) (r:Nat→Nat) (wt:Value) (x:Es),j≤n∧i= .int .i64 j∧JM w3.heap.size P.e P.q P.aB wz r wt x tv (x.aD.map (·.tag)) wr∧(∀ y∈x.aD,y.tag≤j)∧x.bk.aA=gr) (fun _ i _=>(n - intOf i).toNat)
 case atStart=>exact⟨0,_,_,es,cx _,rfl,HU0.o,(fun y hy=>by rw[HWZ.o] at hy;cases hy),HG.o⟩
 case round=>
  obtain⟨j,r,wt,x,hj,rfl,hU,LY,hgr⟩:=hrel;clear HU0;by_cases h2:j<n
  ·have Y9:(j:Int)<(n:Int):=by omega
   obtain⟨hqm,hqt⟩:=Xa uk.o (j:=j) (by rw[HN.o];exact h2);obtain⟨g7,cap,hv,_,_,_,_⟩:=(HFX.o _ hU.rest).2.form ai;injection hv with e1 _ e2
   subst e1 e2;have rG:=aa (HFX.o _ hU.rest).2;obtain⟨q,hq⟩:=ae (JL l j);have wj:=aa (show F0 l j= [.int .i64 q.ax,.int .u32 q.tag,.int .u32 q.id,.int .i64 q.aw,.int .i64 q.bV] by unfold F0;rw[hq];rfl);have HTG:=aa (show q.tag=(j:Int)+1 by rw[←hq];unfold JL iM.rq Io;rfl);rw[hq] at hqm;have HQM:=aa hqm;have HU:=aa hU;have HTL:=aa LY;have HGR:=aa hgr;have HJ:=aa h2;clear hqm hqt hq hU LY hgr;obtain⟨xq,il⟩:=ae wr.heap.size;obtain⟨w7,wE⟩:=ae (wr.alloc (.cells #[.int .i64 0,.int .u32 0,.int .u32 0,.int .i64 0,.int .i64 0] 41));have vq:=aa (aJ wE il);have nc:=aa (aK wE);have tj:=aa (show wr.heap.size≤xq from Nat.le_of_eq il);go_upto_region 13 with(first|(refine fq rfl 41 _ rfl rG.o (fun _=>rfl) j h2 iI _ Tryz.underlying41 rfl aH ?_;rw[wj.o])|(refine aj rfl 41 (.tmp 11) _ rfl xq 41 _ (cS q) vq.o rfl rfl rfl aH (by simp[cS,Value.oneCell']) ?_;intro w8 OS V6 hs8;have wM:=aa OS;have ou:=aa (show Below wr.heap.size wr w8 from br nc.o V6 tj.o);clear OS V6 hs8))
   clear wE il vq nc rG;have fX:=aa (show ∀ W,Below w8.heap.size w8 W→(W.cell? ⟨P.x,1,none⟩=some (.pointer (some ⟨P.e,0,none⟩))∧True)from fun W hW=>⟨((HFX.o _ (HU.o.rest.trans (aI.aW (av ou.o hW)))).1.cell 1).trans ku.o,trivial⟩);refine tW (S:=(fun W=>W.cell? ⟨P.x,1,none⟩=some (.pointer (some ⟨P.e,0,none⟩))∧True)) (by exact fX.o _ (az (ar _ _))) fun hHeld=>?_
   have js:=aa (show Below w8.heap.size w8 w8.drew from az (ar _ _));refine ov 0 1 2 3 5 6 7 8 ?_;refine cJ 4 fun K hK=>?_
   go_simp;refine(p4 ((HU.o.ah (av ou.o js.o)).lx.cw) HU.o.lx.inv.up HU.o.lx.inv.bk).mono ?_;rintro e wp ⟨bw,Sw,rfl,cL,hS,hb⟩;have iK:=aa cL;have HSW:=aa (show ∀ k,Sw k→w8.heap.size≤k from fun k hk=>Nat.le_trans js.o.size (hS k hk));have js:=js.dQ hb;clear cL hS hb;go_wp2_with fail;refine bW hK (by exact fX.o _ js.o) fun lI=>?_
   clear hK K;refine cJ 9 fun K hK=>?_
   go_simp;refine ag (nX ((HU.o.ah (av ou.o js.o)).lx.cw) HU.o.lx.inv.up) ?_;go_wp2_with fail;refine bW hK (by exact fX.o _ js.o) fun BB=>?_
   clear hK K;refine tJ 10 11 ?_;refine bM ?_;have Ky:=aa (HU.o.ah (av ou.o js.o));have Gf:=aa (wM.o.ah js.o);clear js fX hHeld lI BB wM;go_wp2_with (refine aC rfl 41 (.tmp 11) rfl xq 41 _ Gf.o rfl _ Tryz.underlying41 rfl aH ?_);refine(YC Ky.o.lx (Nat.le_trans HZZ.o Ky.o.rest.size) (HFX.o _ Ky.o.rest).1 (Ca.o _ Ky.o.gx) ku.o HQM.o).mono ?_;rintro en w9 ⟨v,r',rC,rfl,hR,hL,hr,ht⟩;obtain⟨got,aeL⟩:=ae ((x.rep q).1);obtain⟨x',hx'⟩:=ae ((x.rep q).2);have OC:=(HU.o.lx.inv.Mv HQM.o.good).shown;have aeJ:=HU.o.lx.inv.kin HQM.o.good;have h65:got.length≤65:=by rw[←aeL];exact(HU.o.lx.inv.Mv HQM.o.good).short (by have:=HU.o.lx.inv.full;have:=HU.o.lx.inv.bk.aA;omega)
   rw[aeL] at hR OC;rw[hx'] at hL OC aeJ;have aiM:=aa OC;have HKG:=aa (show x'.bk.aA=gr from aeJ.aA.trans HGR.o);have HOD:=aa (show Odd w3.heap.size P.e P.q P.aB wz r' rC x' u8 (x.aD.map (·.tag)) xq q Sw bw x.bk v got w9 from
    ⟨Ky.o.done hL hr ht,ht.arr Gf.o (fun hne=>by have:=HU.o.lx.cw.rest.lt xq hne;have:=tj.o;omega),En.gS iK.o ht (fun k hk hne=>by have h1:=HU.o.lx.cw.rest.lt k hne;have h2:=HSW.o k hk;have h3:=ou.o.size;omega),hR.mono fun _ _ _=>trivial⟩)
   have ai6:=aa h65;clear hR hL hr ht aeL hx' OC aeJ h65 Ky Gf iK HSW ou tj;obtain⟨ws,hws,htn,hall⟩: ∃ ws:List Rp,((got= []∧ws= [])∨∃ y,got=ws++ [y]∧y.tag=q.tag∧y.ax=q.ax)∧(ws= []∨ws=x.aD∧x'.log.cm=x'.log.last)∧
     ((got= []∧ws= []∧bt q.ax=true∧x'.log.last=x.log.last+1∧∃ y:Rp,y.tag=q.tag∧x'.aD=x.aD++ [y])∨∃ y:Rp,got=ws++ [y]∧x'.aD=x.aD.drop ws.length∧
      ((x'.log.last=x.log.last∧x'.bk=x.bk∧(q.ax=8∨q.ax=9→y.err=0→y.count=(ws.length:Int)∧x'.aD= []∧x'.log.cm=x'.log.last))∨(x'.log.last=x.log.last+1∧bt q.ax=true∧x'.aD= []∧x'.log.cm=x'.log.last∧y.err=0))):=by
    cases aiM.o with
    | none y h0 h1 h2 h3 h4=>exact⟨[],.inl ⟨h0,rfl⟩,.inl rfl,.inl ⟨h0,rfl,h1,h2,y,h3,h4⟩⟩
    | own ws y h0 h1 h2 h3 h4 h5=>exact⟨ws,.inr ⟨y,h0,h1,h2⟩,h4,.inr ⟨y,h0,h3,h5⟩⟩
   have HWS:=aa hws;have HTN:=aa htn;have M7:=aa hall;clear hws htn hall;obtain⟨Av,cv,rfl⟩:=HOD.o.got.any;have CW:ws.length≤got.length:=by
    rcases HWS.o with⟨h1,h2⟩|⟨y,h1,_⟩
    ·rw[h2];exact cx _
    rw[h1,bZ];exact Nat.le_add_right _ _
   have HE0:=aa (show ∀ W,aI (fun k=>P.aB k≠0) wz W→W.cell? ⟨P.x,1,none⟩=some (.pointer (some ⟨P.e,0,none⟩))from fun W hW=>((HFX.o _ hW).1.cell 1).trans ku.o);have mj:=aa (kE HOD.o.u.lx.cw.own);rw[HOD.o.u.lx.inv.up] at mj;have x1:=HE0.o _ HOD.o.u.rest;have aeM:=ai6.o;go_wp2_with fail;refine ag mj.o ?_;clear x1 mj;clear aeM;go_wp2_with fail;go_loopw [8,16,17] (fun tv own k wr2=>∃ (i:Nat) (o:Int),i≤got.length∧k= .int .i64 i∧own= .int .i64 o∧(i≤ws.length→o=0)∧(ws.length<i→o=1)∧Odd w3.heap.size P.e P.q P.aB wz r' rC x' tv ((x.aD.drop (min i ws.length)).map (·.tag)) xq q Sw bw x.bk (.slice Av got.length cv) got wr2) (fun _ _ k _=>(got.length - intOf k).toNat)
   case atStart=>exact⟨0,0,cx _,rfl,rfl,fun _=>rfl,fun h=>absurd h (gw _),by rw[Nat.zero_min,List.drop_zero];exact HOD.o⟩
   case round=>
    obtain⟨i,o,hi,rfl,rfl,ho0,ho1,hO⟩:=hrel;clear HOD;have aeM:=ai6.o;by_cases h3:i<got.length
    ·have h3':(i:Int)<(got.length:Int):=by omega
     obtain⟨gg,cg,hv,_⟩:=hO.got.form ai;injection hv with e1 _ e2
     subst e1 e2;obtain⟨z,hz⟩:=ae (got[i]);have HO:=aa hO;have HAT:=aa (show ∀ W,Odd w3.heap.size P.e P.q P.aB wz r' rC x' u8 ((x.aD.drop (min i ws.length)).map (·.tag)) xq q Sw bw x.bk (.slice (some ⟨gg,0,none⟩) got.length cv) got W→_ from fun W hW=>hW.at h3 hz);have c0:=(HAT.o _ hO).1;have q0:wr.cell? ⟨xq,0,none⟩=some (.int .i64 q.ax):=hO.rq.cell 0;have q1:wr.cell? ⟨xq,1,none⟩=some (.int .u32 q.tag):=hO.rq.cell 1;clear hO;by_cases h4:i<ws.length
     ·as_aux_lemma=>
       have ho:=ho0 ai;obtain⟨hwx,Jj⟩:ws=x.aD∧x'.log.cm=x'.log.last:=by
        rcases HTN.o with h|h
        ·rw[h] at h4;exact absurd h4 (gw _)
        exact h
       have hzw:z=x.aD[i]'(by rw[←hwx];exact h4):=by
        rcases HWS.o with⟨h1,h2⟩|⟨y,h1,_⟩
        ·rw[h2] at h4;exact absurd h4 (gw _)
        have e:=bY h3;rw[hz,h1,List.getElem?_append_left h4,hwx] at e;exact(iX.1 e).2.symm
       have hzm:z∈x.aD:=by rw[hzw];exact List.getElem_mem _
       have hzt:=HTL.o z hzm;have hze:z.err=0:=HU.o.lx.inv.fine z hzm;have Rx:=aa (show(x.aD.drop (min i ws.length)).map (·.tag)=z.tag::(x.aD.drop (min (i+1) ws.length)).map (·.tag)by
        rw[Nat.min_eq_left ai,Nat.min_eq_left ai,List.drop_eq_getElem_cons (by rw[←hwx];exact h4),←hzw,List.map_cons])
       obtain⟨tl,Z4⟩:=ae ((x.aD.drop (min (i+1) ws.length)).map (·.tag));have HTE:=aa Z4;rw[Z4] at Rx;have iN:=aa HO.o.u.tags;rw[Rx.o] at iN;obtain⟨gt,off,ct,rfl⟩: ∃ g off c,u8= .slice (some ⟨g,off,none⟩) (z.tag::tl).length c:=by
        rcases iN.o with⟨_,h⟩|⟨g,off,c,cs,h,_⟩
        ·cases h
        exact⟨g,off,c,h⟩
       obtain⟨gI,ct0,CC⟩:=iN.o.tail;have iJ:=aa gI;obtain⟨m,hm⟩:=ae tl.length;have hm9:m≤100:=by
        have h9:tl.length=(x.aD.drop (min (i+1) ws.length)).length:=by rw[←Z4,dZ]
        rw[lY,←hwx] at h9;have:=aeM;have:=CW;omega
       have e1:(z.tag==q.tag)=false:=beq_eq_false_iff_ne.2 (by rw[HTG.o];omega);have e2:((m:Int)+1==0)=false:=bQ;have HMM:=aa hm;rw[List.length_cons,hm];rw[hm] at CC;clear gI Z4 hzm hzt hzw hm;subst ho;have KD:=aa (fun k=>iW (HO.o.ah (aQ (ar _ _) k)).u.lx.cw HO.o.u.lx.inv.up);have zf:=aa (fun k=>nX (HO.o.ah (aQ (ar _ _) k)).u.lx.cw HO.o.u.lx.inv.up);have HWT:=aa (fun k=>sJ (HO.o.ah (aQ (ar _ _) k)).u.lx.cw.rest.dev);rw[HO.o.u.lx.inv.row] at HWT;rw[Jj] at KD;go_wp2_with fail;refine wp_region_quiet_lit bh bh ?_;repeat(first|go_big_quiet_step (fail)|quiet_step (fail))
       refine wpQuiet_nil ?_;intro _ hw';obtain⟨nq,hw''⟩:=hw';subst hw'';have HO:=aa (HO.o.ah (aQ (ar _ _) nq));have iJ:=aa (iJ.o.same (T:=fun k=>wz.heap.size≤k∧r' k=0) (w':=wr.drewN nq) fun k hk hl=>⟨(aQ (ar wr.heap.size wr) nq).block k hl,hk⟩);obtain⟨wa,Cu⟩:=ae (wr.drewN nq);have KD:=aa (fun k=>iW (HO.o.ah (aQ (ar _ _) k)).u.lx.cw HO.o.u.lx.inv.up);have zf:=aa (fun k=>nX (HO.o.ah (aQ (ar _ _) k)).u.lx.cw HO.o.u.lx.inv.up);have HWT:=aa (fun k=>sJ (HO.o.ah (aQ (ar _ _) k)).u.lx.cw.rest.dev);rw[HO.o.u.lx.inv.row] at HWT;rw[Jj] at KD;have d0:wa.cell? ⟨P.x,0,none⟩=some (.pointer (some ⟨P.q.p,0,none⟩)):=by rw[←Cu];exact((HFX.o _ HO.o.u.rest).1.cell 0).trans HC0.o
       have d1:wa.cell? ⟨P.x,1,none⟩=some (.pointer (some ⟨P.e,0,none⟩)):=by rw[←Cu];exact((HFX.o _ HO.o.u.rest).1.cell 1).trans ku.o
       obtain⟨a0,a1,a2,a6⟩:=HAT.o _ HO.o;have f0:wa.cell? ⟨gt,off,none⟩=some (.int .u32 z.tag):=by rw[←Cu];exact ct0
       rw[hze] at a2;rw[Cu] at HO iJ KD zf HWT a0 a1 a2 a6 ⊢;clear Cu c0 q0 q1 ct0 e1 Jj a6 a1;go_wp2_with fail;refine wp_region_quiet_lit bh bh ?_;repeat(first|go_big_quiet_step ((first|(go_at_call 25;exact dm (KD.o _))|(go_at_call 26;exact dm (zf.o _))|(go_at_call 39;exact dm (HWT.o _))))|quiet_step ((first|(go_at_call 25;exact dm (KD.o _))|(go_at_call 26;exact dm (zf.o _))|(go_at_call 39;exact dm (HWT.o _)))))
       refine wpQuiet_nil ?_;intro _ hw';obtain⟨nq,hw''⟩:=hw';subst hw'';have HO:=aa (HO.o.ah (aQ (ar _ _) nq));have iJ:=aa (iJ.o.same (T:=fun k=>wz.heap.size≤k∧r' k=0) (w':=wa.drewN nq) fun k hk hl=>⟨(aQ (ar wa.heap.size wa) nq).block k hl,hk⟩);obtain⟨wb,YX⟩:=ae (wa.drewN nq);rw[YX] at HO iJ ⊢;clear YX a0 a2 f0 d0 d1 KD zf HWT e2;go_wp2_with fail;go_roundw
       case rel=>exact⟨i+1,0,h3,by go_num,rfl,fun _=>rfl,fun h=>ai,by rw[HTE.o];have h9:=iJ.o;rw[HMM.o] at h9;exact⟨HO.o.u.kT h9,HO.o.rq,HO.o.was,HO.o.got⟩⟩
       case measure=>simp[intOf];omega
     as_aux_lemma=>
      obtain⟨y,hy,hyt,hyk⟩: ∃ y,got=ws++ [y]∧y.tag=q.tag∧y.ax=q.ax:=by
       rcases HWS.o with⟨h1,_⟩|h1
       ·rw[h1] at h3;exact absurd h3 (gw _)
       exact h1
      have hiw:i=ws.length:=by have h9:got.length=ws.length+1:=by rw[hy,bZ];rfl
                               omega
      have hzy:z=y:=by rw[←hz];simp only[hy,hiw,List.getElem_concat_length]
      have ho:=ho0 ai;subst ho;have pU:got.length=i+1:=by rw[hy,bZ,hiw];rfl
      have Sc:=aa pU;have HIW:=aa hiw;have a1:=(HAT.o _ HO.o).2.1;rw[hzy,hyt] at c0;rw[hzy,hyk] at a1;have kB:((got.length:Int)) - 1=(i:Int):=ai;clear hy hyt hyk hiw hzy hz pU;go_wp2_with fail;refine wp_region_quiet_lit bh bh ?_;repeat(first|go_big_quiet_step (fail)|quiet_step (fail))
      refine wpQuiet_nil ?_;intro _ hw';obtain⟨nq,hw''⟩:=hw';subst hw'';have HO:=aa (HO.o.ah (aQ (ar _ _) nq));obtain⟨wa,Cu⟩:=ae (wr.drewN nq);have q0:wa.cell? ⟨xq,0,none⟩=some (.int .i64 q.ax):=by rw[←Cu];exact q0
      have a1:wa.cell? ⟨gg,i*7+1,none⟩=some (.int .i64 q.ax):=by rw[←Cu];exact a1
      rw[Cu] at HO ⊢;clear Cu c0 q1;go_wp2_with fail;refine wp_region_quiet_lit bh bh ?_;repeat(first|go_big_quiet_step (fail)|quiet_step (fail))
      refine wpQuiet_nil ?_;intro _ hw';obtain⟨nq,hw''⟩:=hw';subst hw'';have HO:=aa (HO.o.ah (aQ (ar _ _) nq));obtain⟨wb,YX⟩:=ae (wa.drewN nq);rw[YX] at HO ⊢;clear YX q0 a1 kB;go_wp2_with fail;go_roundw
      case rel=>exact⟨i+1,1,h3,by go_num,rfl,fun h=>by have:=HIW.o;omega,fun _=>rfl,by
       have h9:=HO.o;rw[Nat.min_eq_right (by have:=HIW.o;omega)] at h9 ⊢;exact h9⟩
      case measure=>simp[intOf];omega
    obtain rfl:i=got.length:=ai;rw[Nat.min_eq_right CW] at hO;obtain⟨T,hT⟩:=ae ((x.aD.drop ws.length).map (·.tag));rw[hT] at hO;obtain⟨At,ct,rfl⟩:=hO.u.tags.any;have HK:=aa (fun W' (hb:Below wr.heap.size wr W')=>hO.ah hb);have HT:=aa hT;have M1:=aa (show ∀ W',Below wr.heap.size wr W'→W'.cell? ⟨P.x,1,none⟩=some (.pointer (some ⟨P.e,0,none⟩))∧W'.cell? ⟨xq,0,none⟩=some (.int .i64 q.ax)∧W'.cell? ⟨xq,1,none⟩=some (.int .u32 q.tag)from fun W' hb=>⟨HE0.o _ (hO.u.ah hb).rest,(hO.rq.ah hb).cell 0,(hO.rq.ah hb).cell 1⟩);have Ky:=aa hO.u.lx.inv.up;have hlt:=hO.u.lx.inv.log.last;have kf:=hO.u.lx.inv.full;rw[HKG.o] at kf;have iK:=aa (ar wr.heap.size wr);obtain⟨x1,q0,q1⟩:=M1.o _ iK.o;obtain⟨k,hk⟩:=ae T.length;have J8:=aa hk;have hk9:k≤100:=by
     have h9:T.length=x.aD.length - ws.length:=by rw[←hT,dZ,lY]
     have:=HU.o.lx.inv.full;have:=HU.o.lx.inv.bk.aA;omega
    rw[hk];clear hO hT hk;have hf1:=aa kf;have rD:=aa hlt;clear kf hlt;rcases M7.o with⟨g0,w0,hc,hl,y,hyt,YT⟩|⟨y,g0,YT,ahJ⟩
    ·as_aux_lemma=>
      have o0:o=0:=ho0 (by rw[g0,w0];exact Nat.le_refl _);subst o0;have C7:=rD.o;rw[hl] at C7;have b1:((x.log.last:Int)+1==(x.log.last:Int))=false:=bQ;have a8:IntKind.u64.wrap ((x.log.last:Int)+1)=(x.log.last:Int)+1:=ow;have zf:=aa (show ∀ W',Below wr.heap.size wr W'→Calls af 26 #[.pointer (some ⟨P.e,0,none⟩)] W' (fun en w'=>en= .returned (.int .u64 ((x.log.last:Int)+1))∧w'=W')from fun W' hb=>by
       have h9:=nX (HK.o _ hb).u.lx.cw Ky.o;rw[hl] at h9;exact h9)
      clear C7;go_wp2_with fail;refine ag (zf.o _ iK.o) ?_;go_wp2_with fail;refine ag (zf.o _ iK.o) ?_;go_wp2_with fail;refine ag (Cm q.ax hc wr) ?_;go_wp2_with fail;refine wp_region_quiet_lit bh bh ?_;repeat(first|go_big_quiet_step (fail)|quiet_step (fail))
      refine wpQuiet_nil ?_;intro _ hw';obtain⟨nq,hw''⟩:=hw';subst hw'';have iK:=aa (show Below wr.heap.size wr (wr.drewN nq)from aQ iK.o nq);obtain⟨wa,VF⟩:=ae (wr.drewN nq);rw[VF] at iK ⊢;clear VF x1 q0 q1;obtain⟨x1,q0,q1⟩:=M1.o _ iK.o;go_wp2_with fail;refine wp_region_quiet_lit bh bh ?_;repeat(first|go_big_quiet_step (fail)|quiet_step (fail))
      refine wpQuiet_nil ?_;intro _ hw';obtain⟨nq,hw''⟩:=hw';subst hw'';have iK:=aa (show Below wr.heap.size wr (wa.drewN nq)from aQ iK.o nq);obtain⟨wb,VE⟩:=ae (wa.drewN nq);rw[VE] at iK ⊢;clear VE x1 q0 q1;obtain⟨x1,q0,q1⟩:=M1.o _ iK.o;have RE:=aa (ay iK.o (.cells #[.int .u32 q.tag] 39));have Pe:=aa (HK.o _ RE.o).u.tags;rw[J8.o] at Pe;have OD:(wb.alloc (.cells #[.int .u32 q.tag] 39)).cell? ⟨wb.heap.size,0,none⟩=some (.int .u32 q.tag):=(aG.fresh wb 39 #[.int .u32 q.tag]).cell 0;go_upto_region 37 with(at_builtin;refine Su _ rfl (.tmp 283) (.tmp 286) rfl Pe.o rfl q.tag ⟨wb.heap.size,0,none⟩ rfl OD (by rw[J8.o];omega) ?_;intro v2 w2 h1 h2;have HN1:=aa h1;have Pj:=aa h2;clear h1 h2)
      have HU2:=aa ((HK.o _ RE.o).u.app HN1.o Pj.o);obtain⟨A2,c2,rfl⟩:=HN1.o.any;have zu:x'.aD.length=k+1:=by
       have h9:=J8.o;rw[←HT.o,dZ,lY,w0] at h9;rw[YT,bZ];simp only[List.length_nil,Nat.sub_zero,List.length_singleton] at h9 ⊢;omega
      have HPE:=aa (lL HU2.o.lx.cw Ky.o);rw[zu] at HPE;have hf9:=hf1.o;rw[zu] at hf9;have hf8: ¬(gr:Int)≤(k:Int)+1:=ai;have uH:(T++ [q.tag]).length=k+1:=by rw[bZ,J8.o];rfl
      rw[uH];have x1:w2.cell? ⟨P.x,1,none⟩=some (.pointer (some ⟨P.e,0,none⟩)):=HE0.o _ HU2.o.rest;clear b1 a8 q0 q1 OD hc hl;go_wp2_with fail;refine ag (HPE.o) ?_;go_wp2_with fail;go_roundw
      case rel=>exact⟨j+1,r',rC,x',HJ.o,by go_num,by
       have h9:=HU2.o;rw[←uH];have e9:x'.aD.map (·.tag)=T++ [q.tag]:=by rw[YT,List.map_append,←HT.o,w0];simp[hyt]
       rw[e9];exact h9,fun z hz=>by
       rw[YT] at hz;rcases List.mem_append.1 hz with hz|hz
       ·have:=HTL.o z hz;omega
       rw[List.mem_singleton] at hz;subst hz;rw[hyt,HTG.o];omega,HKG.o⟩
      case measure=>simp[intOf];omega
    have o1:o=1:=ho1 (by rw[g0,bZ];exact Nat.lt_succ_self _);subst o1;obtain⟨m,hm⟩:=ae ws.length;have pU:got.length=m+1:=by rw[g0,bZ,hm];rfl
    have OJ:m<got.length:=ai;have hgy:got[m]=y:=by
     have e:got[m]? =some y:=by rw[g0,←hm,List.getElem?_append_right (Nat.le_refl _),Nat.sub_self];rfl
     exact(iX.1 e).2
    obtain⟨gg,cg,hv,_⟩:=(HK.o _ iK.o).got.form ai;injection hv with e1 _ e2
    subst e1 e2;have HAT:=aa (fun W' (hb:Below wr.heap.size wr W')=>(HK.o W' hb).at OJ hgy);have zu:x'.aD.length=k:=by
     have h9:=J8.o;rw[←HT.o,dZ] at h9;rw[YT];exact h9
    have kB:(got.length:Int) - 1=(m:Int):=ai;have HPE:=aa (fun W' (hb:Below wr.heap.size wr W')=>lL (HK.o W' hb).u.lx.cw Ky.o);rw[zu] at HPE;have hf9:=hf1.o;rw[zu] at hf9;have hf8: ¬(gr:Int)≤(k:Int):=ai;have Rm:=aa (show ∀ W',Below wr.heap.size wr W'→JM w3.heap.size P.e P.q P.aB wz r' rC x' (.slice At k ct) (x'.aD.map (·.tag)) W'∧(∀ z∈x'.aD,z.tag≤((j+1:Nat):Int))∧x'.bk.aA=gr from fun W' hb=>⟨by
     have h9:=(HK.o W' hb).u;rw[J8.o] at h9;rw[YT,HT.o];exact h9,fun z hz=>by
     rw[YT] at hz;have:=HTL.o z (List.mem_of_mem_drop hz);omega,HKG.o⟩)
    have Sc:=aa pU;have HMM:=aa hm;clear hgy zu hf9 pU;rcases ahJ with⟨hl,cL,ahI⟩|⟨hl,hc,hw0,Y5,hye⟩
    ·as_aux_lemma=>
      skip;have zf:=aa (show ∀ W',Below wr.heap.size wr W'→Calls af 26 #[.pointer (some ⟨P.e,0,none⟩)] W' (fun en w'=>en= .returned (.int .u64 (x.log.last:Nat))∧w'=W')from fun W' hb=>by
       have h9:=nX (HK.o _ hb).u.lx.cw Ky.o;rw[hl] at h9;exact h9)
      have fC:=aa cL;have HCN:=aa ahI;clear cL ahI;go_wp2_with fail;refine ag (zf.o _ iK.o) ?_;go_wp2_with fail;refine(p4 (HK.o _ iK.o).u.lx.cw Ky.o (HK.o _ iK.o).u.lx.inv.bk).mono ?_;rintro en wa ⟨b2,S2,rfl,cL,hS,hb⟩;rw[fC.o] at cL;have iK:=iK.dQ hb;have cu:=aa cL;clear cL hS hb x1 q0 q1;obtain⟨x1,q0,q1⟩:=M1.o _ iK.o;go_wp2_with fail;refine(Bk.aaT (HK.o _ iK.o).was cu.o HU.o.lx.inv.bk.afi).mono ?_;rintro en wb ⟨rfl,hb⟩;have iK:=iK.dQ hb;clear hb x1 q0 q1 cu;obtain⟨x1,q0,q1⟩:=M1.o _ iK.o;go_wp2_with fail;obtain⟨_,_,a2,a6⟩:=HAT.o _ iK.o;by_cases k8:q.ax=8
      ·rw[k8] at q0;by_cases ye:y.err=0
       ·as_aux_lemma=>
         obtain⟨c1,c2,c3⟩:=HCN.o (.inl k8) ye;have k0:k=0:=by
          have h9:=J8.o;rw[←HT.o,dZ,←YT,c2] at h9;exact h9.symm
         subst k0;have KD:=aa (show ∀ W',Below wr.heap.size wr W'→Calls af 25 #[.pointer (some ⟨P.e,0,none⟩)] W' (fun en w'=>en= .returned (.int .u64 (x.log.last:Nat))∧w'=W')from fun W' hb=>by
          have h9:=iW (HK.o _ hb).u.lx.cw Ky.o;rw[c3,hl] at h9;exact h9)
         rw[ye] at a2;rw[c1,HMM.o] at a6;clear c1 c2 c3;refine wp_region_quiet_lit bh bh ?_;repeat(first|go_big_quiet_step ((first|(go_at_call 25;exact dm (KD.o _ (aQ iK.o _)))|(go_at_call 26;exact dm (zf.o _ (aQ iK.o _)))))|quiet_step ((first|(go_at_call 25;exact dm (KD.o _ (aQ iK.o _)))|(go_at_call 26;exact dm (zf.o _ (aQ iK.o _))))))
         exact U1
       as_aux_lemma=>
        have ye':(y.err==0)=false:=beq_eq_false_iff_ne.2 ye;refine wp_region_quiet_lit bh bh ?_;repeat(first|go_big_quiet_step (fail)|quiet_step (fail))
        exact U1
      have b8:(q.ax==8)=false:=beq_eq_false_iff_ne.2 k8;by_cases k9:q.ax=9
      ·rw[k9] at q0;by_cases ye:y.err=0
       ·as_aux_lemma=>
         obtain⟨c1,c2,c3⟩:=HCN.o (.inr k9) ye;have k0:k=0:=by
          have h9:=J8.o;rw[←HT.o,dZ,←YT,c2] at h9;exact h9.symm
         subst k0;have KD:=aa (show ∀ W',Below wr.heap.size wr W'→Calls af 25 #[.pointer (some ⟨P.e,0,none⟩)] W' (fun en w'=>en= .returned (.int .u64 (x.log.last:Nat))∧w'=W')from fun W' hb=>by
          have h9:=iW (HK.o _ hb).u.lx.cw Ky.o;rw[c3,hl] at h9;exact h9)
         rw[ye] at a2;rw[c1,HMM.o] at a6;clear c1 c2 c3;refine wp_region_quiet_lit bh bh ?_;repeat(first|go_big_quiet_step ((first|(go_at_call 25;exact dm (KD.o _ (aQ iK.o _)))|(go_at_call 26;exact dm (zf.o _ (aQ iK.o _)))))|quiet_step ((first|(go_at_call 25;exact dm (KD.o _ (aQ iK.o _)))|(go_at_call 26;exact dm (zf.o _ (aQ iK.o _))))))
         exact U1
       as_aux_lemma=>
        have ye':(y.err==0)=false:=beq_eq_false_iff_ne.2 ye;refine wp_region_quiet_lit bh bh ?_;repeat(first|go_big_quiet_step (fail)|quiet_step (fail))
        exact U1
      as_aux_lemma=>
       have b9:(q.ax==9)=false:=beq_eq_false_iff_ne.2 k9;refine wp_region_quiet_lit bh bh ?_;repeat(first|go_big_quiet_step (fail)|quiet_step (fail))
       exact U1
    as_aux_lemma=>
     have C7:=rD.o;rw[hl] at C7;have b1:((x.log.last:Int)+1==(x.log.last:Int))=false:=bQ;have a8:IntKind.u64.wrap ((x.log.last:Int)+1)=(x.log.last:Int)+1:=ow;have zf:=aa (show ∀ W',Below wr.heap.size wr W'→Calls af 26 #[.pointer (some ⟨P.e,0,none⟩)] W' (fun en w'=>en= .returned (.int .u64 ((x.log.last:Int)+1))∧w'=W')from fun W' hb=>by
      have h9:=nX (HK.o _ hb).u.lx.cw Ky.o;rw[hl] at h9;exact h9)
     have KD:=aa (show ∀ W',Below wr.heap.size wr W'→Calls af 25 #[.pointer (some ⟨P.e,0,none⟩)] W' (fun en w'=>en= .returned (.int .u64 ((x.log.last:Int)+1))∧w'=W')from fun W' hb=>by
      have h9:=iW (HK.o _ hb).u.lx.cw Ky.o;rw[Y5,hl] at h9;exact h9)
     have k0:k=0:=by
      have h9:=J8.o;rw[←HT.o,dZ,←YT,hw0] at h9;exact h9.symm
     subst k0;have DM:=En.cA hc;have b8:(q.ax==8)=false:=bQ;have b9:(q.ax==9)=false:=bQ;clear C7 DM;go_wp2_with fail;refine ag (zf.o _ iK.o) ?_;go_wp2_with fail;refine ag (zf.o _ iK.o) ?_;go_wp2_with fail;refine ag (Cm q.ax hc wr) ?_;go_wp2_with fail;refine wp_region_quiet_lit bh bh ?_;repeat(first|go_big_quiet_step (fail)|quiet_step (fail))
     refine wpQuiet_nil ?_;intro _ hw';obtain⟨nq,hw''⟩:=hw';subst hw'';have iK:=aa (show Below wr.heap.size wr (wr.drewN nq)from aQ iK.o nq);obtain⟨wa,VF⟩:=ae (wr.drewN nq);rw[VF] at iK ⊢;clear VF x1 q0 q1;obtain⟨x1,q0,q1⟩:=M1.o _ iK.o;obtain⟨_,_,a2,a6⟩:=HAT.o _ iK.o;rw[hye] at a2;go_wp2_with fail;refine wp_region_quiet_lit bh bh ?_;repeat(first|go_big_quiet_step ((first|(go_at_call 25;exact dm (KD.o _ (aQ iK.o _)))|(go_at_call 26;exact dm (zf.o _ (aQ iK.o _)))))|quiet_step ((first|(go_at_call 25;exact dm (KD.o _ (aQ iK.o _)))|(go_at_call 26;exact dm (zf.o _ (aQ iK.o _))))))
     refine wpQuiet_nil ?_;intro _ hw';obtain⟨nq,hw''⟩:=hw';subst hw'';have iK:=aa (show Below wr.heap.size wr (wa.drewN nq)from aQ iK.o nq);obtain⟨wb,VE⟩:=ae (wa.drewN nq);rw[VE] at iK ⊢;clear VE x1 q0 q1 a2 a6;obtain⟨x1,q0,q1⟩:=M1.o _ iK.o;go_wp2_with fail;refine ag (HPE.o _ iK.o) ?_;go_wp2_with fail;go_roundw
     case rel=>exact⟨j+1,r',rC,x',HJ.o,by go_num,(Rm.o _ iK.o).1,(Rm.o _ iK.o).2.1,(Rm.o _ iK.o).2.2⟩
     case measure=>simp[intOf];omega
  obtain rfl:n=j:=ai;have HF:=aa (HBZ.o _ hU.rest);clear hU LY hgr;go_wp2_with fail;go_ret;exact⟨rfl,HF.o⟩
