import Derived.Laws.BitsAllLaws
import Derived.Test.YtemighjbfanenaaGreatDoorPk17
set_option linter.all false
set_option maxRecDepth 100000
set_option maxHeartbeats 16000000
namespace Go.Proofs.YtemighjbfanenaaGreatDoor
open RowKit
open yy (fS hasB)
open ki (eU Slot)
open Hp (eJ)
open And renaming intro→dy
open Bool renaming not_eq_true→aby
open Go.Calls renaming quiet_of_same→nj
open Go.IntKind renaming u64→cR,u32→iE,i64→aO
open Go.Proofs.Tryz renaming underlying3→fu,underlying211→G4,prog→af,underlying39→G2,underlying100→G5,underlying316→G6,underlying355→Ag
open Go.Value renaming int→gI,oneCell'→fw
open Go.WalkArith renaming wf_i64→lJ
open Int renaming not_le→Ah
open List renaming filter_eq_self→G7,mem_cons→lT,filter_cons_of_neg→jg,filter_cons_of_pos→kM,pairwise_cons→G3,mem_map→nk,length_cons→vp,getElem?_take→mL
open Nat renaming pow_lt_pow_right→CG,lt_of_lt_of_le→aW
open Option.some renaming inj→cM
open RowKit.Below renaming heap_setCell→dH,refl→au
theorem Fw{p:Prop}(h:p:=by have:=iY.o _ HS.o.1;have:=HGE.o;simp at e;omega):p:=h
theorem Fo{p:Prop}(h:p:=by have:=iY.o _ HS.o.2.2;have:=HGE.o;omega):p:=h
theorem Fm{p:Prop}(h:p:=by have:=iY.o _ HS.o.2.1;have:=HGE.o;omega):p:=h
theorem Fc{p:Prop}(h:p:=by have:=iY.o _ e;have:=HGE.o;omega):p:=h
theorem TI{p:Prop}(h:p:=by rcases hk with rfl|rfl;exact hf0.2.2.2.1;exact hf0.2.2.2.2.1):p:=h
theorem uz{p:Prop}(h:p:=by simpa using h):p:=h
theorem Lt{p:Prop}(h:p:=by rw[aby];simpa using Nc4.o):p:=h
theorem Lc{p:Prop}(h:p:=by subst hk;exact hf0.2.2.1):p:=h
theorem K4{p:Prop}(h:p:=by rw[hφ];exact⟨rfl,rfl⟩):p:=h
section
namespace Hp
theorem sG: (af.info? 211).map (·.size)=some 2:=br
theorem cell_of_heap{w w':World}{p:Nat}(h:w'.heap[p]? =w.heap[p]?)(j:Nat): w'.cell? ⟨p,j,none⟩=w.cell? ⟨p,j,none⟩:=by simp[World.cell?,h]
theorem M1(S:Nat→Prop)(p:Nat)(next:Int)(f:Nat→eJ)(w:World)(h:bR S w p 0 next f):
  Calls af 159 #[.pointer (some ⟨p,0,none⟩)] w fun e w'=>e= .returned (.tuple #[.agg #[.int .i64 0,.int .u32 0],.int .i64 0,.bool false])∧Below w.heap.size w w':=by
 obtain⟨w1,aZ⟩:=ae (w.alloc (.cells #[.int .i64 0,.int .u32 0] 211));obtain⟨xr,mO⟩:=ae w.heap.size;have bt:=aK aZ mO;have hb1:=aL aZ;obtain⟨iv,mb,φ,hp,hr,hm,hpl,sp,sm⟩:=(eH hb1 h).cQ;obtain⟨A,cap,rfl⟩:=hr.any;have x1:w1.cell? ⟨p,1,none⟩=some (.slice A 0 cap):=hp.cell 1;have HN:=aa (zM p w1 (hp.cell 0));have bz:=aa hb1;have dz:=aa bt;have pg:=aa mO;clear h hp hr hm hpl hb1 bt;go_enter Tryz.func159,Tryz.ntmps159;go_wp2_with fail;refine ag HN.o ?_;obtain⟨w3,hw3⟩:=ae (w1.alloc (.cells #[.int .i64 0,.int .u32 0] 211));obtain⟨xv,hxv⟩:=ae w1.heap.size;have pB:=aa (aK hw3 hxv);have dV:=aa (aL hw3);have gM:=dz.js dV.o;go_wp2_with (first|(refine aC rfl 211 _ rfl xv 211 _ pB.o rfl _ G4 rfl sG ?_)|(refine ah rfl 211 _ _ rfl xr 211 _ #[.int .i64 0,.int .u32 0] gM.o rfl rfl rfl sG qY ?_;intro w4 mZ hg4 sr;have pA:=aa mZ;have gH:=aa (show Below w.heap.size w w4 from bn (av bz.o dV.o) hg4 (Nat.le_of_eq pg.o));clear mZ hg4 sr));exact bodyPost_ret (jZ Tryz.results159 _ im (aJ 211 pA.o _ G4 rfl sG)) rfl ⟨rfl,gH.o⟩
theorem M0(S:Nat→Prop)(p l:Nat)(next:Int)(f:Nat→eJ)(w:World)(h:bR S w p l next f)(hl:0<l):
  Calls af 159 #[.pointer (some ⟨p,0,none⟩)] w fun e w'=>e= .returned (.tuple #[.agg #[.int .i64 (f 0).aS,.int .u32 (f 0).id],.int .i64 (f 0).bc,.bool true])∧Below w.heap.size w w':=by
 obtain⟨w1,aZ⟩:=ae (w.alloc (.cells #[.int .i64 0,.int .u32 0] 211));obtain⟨xr,mO⟩:=ae w.heap.size;have bt:=aK aZ mO;have hb1:=aL aZ;obtain⟨iv,mb,φ,hp,hr,hm,hpl,sp,sm⟩:=(eH hb1 h).cQ;obtain⟨g,cap,rfl,sg,sx,uj,sw⟩:=hr.form hl;have x1:w1.cell? ⟨p,1,none⟩=some (.slice (some ⟨g,0,none⟩) l cap):=hp.cell 1;have ri:=hr.range (fN f) hl;have y0:w1.cell? ⟨g,0,none⟩=some (.int .i64 (f 0).aS):=ri 0 _ rfl;have y1:w1.cell? ⟨g,1,none⟩=some (.int .u32 (f 0).id):=ri 1 _ rfl;have y2:w1.cell? ⟨g,2,none⟩=some (.int .i64 (f 0).bc):=ri 2 _ rfl;have hl0:((l:Int)==0)=false:=cg;have oZ:(0:Int)<(l:Int):=aj;have HN:=aa (zM p w1 (hp.cell 0));have hpx: ¬p=xr:=iB hp bt aN;have hgx: ¬g=xr:=fun e=>FI hr bt aN e.symm
 have HL:=aa (show ¬p=xr∧¬g=xr∧p<w1.heap.size∧g<w1.heap.size from⟨hpx,hgx,hp.lt,sw⟩);have bz:=aa hb1;have dz:=aa bt;have pg:=aa mO;clear h hp hr hm hpl hb1 bt ri hpx hgx;go_enter Tryz.func159,Tryz.ntmps159;go_wp2_with fail;refine ag HN.o ?_;go_wp2_with fail;refine wp_region_held_drew (S:=(fun w'=>w'.cell? ⟨p,1,none⟩=some (.slice (some ⟨g,0,none⟩) l cap)∧w'.cell? ⟨g,0,none⟩=some (.int .i64 (f 0).aS)∧w'.cell? ⟨g,1,none⟩=some (.int .u32 (f 0).id)∧w'.cell? ⟨g,2,none⟩=some (.int .i64 (f 0).bc))) br (by exact⟨x1,y0,y1,y2⟩) (fun hHeld=>?_);refine ov 0 1 2 3 4 5 6 7 ?_;refine Qd 8 9 10 11 12 13 ?_;refine cG 14 fun K hK=>?_
 rw[if_pos im];refine cT 211 _ _ rfl xr 211 _ #[.int .i64 (f 0).aS,.int .u32 (f 0).id] dz.o rfl rfl rfl sG qY ?_;intro w4 mZ hg4 sr;have gH:=aa (show Below w.heap.size w w4 from bn (av bz.o (az (au _ _))) hg4 (Nat.le_of_eq pg.o));have pA:=aa mZ;have kp: ∀ j,w4.cell? ⟨p,j,none⟩=w1.cell? ⟨p,j,none⟩:=fun j=>cell_of_heap (hg4.block p HL.o.2.2.1 (fun e=>HL.o.1 (cM e))) j
 have kg: ∀ j,w4.cell? ⟨g,j,none⟩=w1.cell? ⟨g,j,none⟩:=fun j=>cell_of_heap (hg4.block g HL.o.2.2.2 (fun e=>HL.o.2.1 (cM e))) j
 refine hK.out _ _ ⟨(kp 1).trans x1,(kg 0).trans y0,(kg 1).trans y1,(kg 2).trans y2⟩ (fun mC=>?_);clear kp kg mZ hg4 sr;clear hK K;try simp only[aY]
 refine tX 15 16 ?_;refine bO ?_;go_wp2_with fail;exact bodyPost_ret (jZ Tryz.results159 _ im (aJ 211 pA.o _ G4 rfl sG)) rfl ⟨rfl,by first|exact gH.o|(rw[←pg.o];exact gH.o)⟩
end Hp
end
section
namespace Hp
variable{S:Nat→Prop}{w:World}{l:Nat}
theorem _root_.Go.Proofs.YtemighjbfanenaaGreatDoor.aM.shrink{e:TypeId}{sz n g cap k:Nat}{c:Nat→List Value}(h:aM S w e sz (.slice (some ⟨g,0,none⟩) n cap) n c)(hc: ∀ i,(c i).length=sz)(hk:k≤n): aM S w e sz (.slice (some ⟨g,0,none⟩) k cap) k c:=by
 refine⟨?_,h.block⟩;rcases h.own.2 with⟨hv',_⟩|⟨g',cap',cur,hv',h0,hh,h1,h2,h3,h4⟩
 ·cases hv'
 injection hv' with e1 _ e2
 injection e1 with e1
 injection e1 with e1
 subst e1 e2;refine⟨cf hc k,.inr ⟨g,cap,cur,rfl,h0,hh,aj,h2,h3,?_⟩⟩;apply List.ext_getElem?;intro j;have hm:k*sz≤n*sz:=Nat.mul_le_mul_right sz hk;rcases Nat.lt_or_ge j (k*sz)with hj|hj
 ·have hsz:0<sz:=by rcases Nat.eq_zero_or_pos sz with h0|h0;· subst h0;omega
                    exact h0
  have Hy:j / sz<k:=(Nat.div_lt_iff_lt_mul hsz).2 hj;have Mt:j % sz<sz:=Nat.mod_lt _ hsz;have hke:j / sz*sz+j % sz=j:=by rw[Nat.mul_comm];exact Nat.div_add_mod j sz
  have q1:(flat c n)[j]? =(flat c k)[j]?:=by
   conv=>lhs;rw[←hke]
   conv=>rhs;rw[←hke]
   rw[gA hc aj Mt,gA hc Hy Mt]
  rw[←q1,←h4,mL,if_pos hj,mL,if_pos aj]
 rw[mL,if_neg aj,List.getElem?_eq_none (by rw[cf hc k];exact hj)]
theorem _root_.Go.Proofs.YtemighjbfanenaaGreatDoor.aM.congr{e:TypeId}{sz n:Nat}{v:Value}{c d:Nat→List Value}(h:aM S w e sz v n c)(hc: ∀ i,i<n→c i=d i): aM S w e sz v n d:=⟨iQ hc▸h.own,h.block⟩
theorem lp{P:Program}{ops:Array Oper}{rest:List Oper}{o:Oper}{a:Act}{Q:Exit→Act→World→Prop}
  (hg:o.guard=none) (m x:Operand) (t k:TypeId) (hop:o.op= .call {callee:=.builtin .delete,args:=#[m,x],argTypes:=#[t,k]}) (e:TypeId) (q:IntKind) (hk:P.underlying k=some (.int q)) (ht:P.underlying t=some (.map k e))
  (b n:Nat) (φ:Int→Option Int) (hm:a.eval m= .map (some b)) (h:dp P k e q w b n φ) (i:Int) (hx:a.eval x= .int q i) (hi:(Lit.int q i).wf=true)
  (hK: ∀ w',dp P k e q w' b (if(φ i).isSome then n - 1 else n) (tN φ i none)→w.grownBy w' (some b)→wpList P ops Q rest (a.put o.dst (.tuple #[])) w') :
  wpList P ops Q (o::rest) a w:=by
 refine wpList_plain hg fun K' hK'=>?_
 obtain⟨w',hrun,r1,r2⟩:=h.drop hk ht hi o.type;unfold Oper.wp;simp[execOp,hop,resolve,invoke,builtin,hm,hx,hrun,Result.andThen];exact hK' _ _ (hK w' r1 r2)
theorem jV.take{f:Nat→eJ}{φ:Int→Option Int}(h:jV f (l+1) φ): jV f l (tN φ (f l).bc Option.none):=by
 refine⟨fun i hi=>?_,fun x i hx=>?_⟩
 ·have hne:(f i).bc≠(f l).bc:=fun e=>by have:=h.inj aj aj e;omega
  rw[cP _ _ hne];exact h.1 i aj
 by_cases e:x=(f l).bc
 ·subst e;rw[fo] at hx;cases hx
 rw[cP _ _ e] at hx;obtain⟨j,hj,e1,e2⟩:=h.2 x i hx;exact⟨j,by have:j≠l:=fun e3=>e (by rw[←e2,e3]);omega,e1,e2⟩
theorem LR(f:Nat→eJ)(l:Nat): rT f l l=f:=if_pos rfl
theorem IL(f:Nat→eJ){a:Nat} (h:a≠l): rT f l a=gl (cN f a l) l a:=if_neg h
theorem bR.cut{p g cap mb nm:Nat} {next:Int}{f:Nat→eJ}{φ:Int→Option Int}(hp:aG w p 319 #[rp,.slice (some ⟨g,0,none⟩) l cap,.map (some mb),.int .i64 next])(hr:aM S w 355 3 (.slice (some ⟨g,0,none⟩) l cap) l (gw f))(hm:dp af 3 3 .i64 w mb nm (tN φ (f l).bc Option.none))(hnm:nm=l)(hpl:jV f (l+1) φ)(sp:S p)(sm:S mb)
  (hb:l+1≤65536∧0≤next∧next≤1099511627776∧∀ i,i<l+1→0≤(f i).bc∧(f i).bc<next):bR S w p l next f:=
 ⟨⟨_,mb,_,hp,hr,hnm▸hm,hpl.take,sp,sm⟩,aj,hb.2.1,hb.2.2.1,fun i hi=>hb.2.2.2 i aj⟩
theorem zH(S:Nat→Prop)(p l a:Nat)(next:Int)(f:Nat→eJ)(w:World)(h:bR S w p (l+1) next f)(hS: ∀ k,S k→k<w.heap.size)(ha:a≤l):
  Calls af 246 #[.pointer (some ⟨p,0,none⟩),.int .i64 a] w fun e w'=>(∃ v,e= .returned v)∧bR S w' p l next (rT f l a)∧aI S w w':=by
 obtain⟨w1,aZ⟩:=ae (w.alloc (.cells #[.int .i64 0,.int .u32 0,.int .i64 0] 355));obtain⟨xr,mO⟩:=ae w.heap.size;have bt:=aK aZ mO;have hb1:=aL aZ;have kS:=eH hb1 h;have sB:aI S w w1:=(aI.refl S w).ak hb1;obtain⟨w2,hw2⟩:=ae (w1.alloc (.cells #[.int .i64 (f a).aS,.int .u32 (f a).id,.int .i64 (f a).bc] 355));obtain⟨vb,oh⟩:=ae w1.heap.size;have hV2:=aK hw2 oh;have hb2:=aL hw2;have rC:=eH hb2 kS;have hX2:=bt.ai hb2;have jB:=sB.ak hb2;obtain⟨iv,mb,φ,hp,hr,hm,hpl,sp,sm⟩:=kS.cQ;obtain⟨g,cap,rfl,sg,sx,uj,sw⟩:=hr.form aj;have x1:w1.cell? ⟨p,1,none⟩=some (.slice (some ⟨g,0,none⟩) (l+1:Nat) cap):=hp.cell 1;have u1:w2.cell? ⟨p,1,none⟩=some (.slice (some ⟨g,0,none⟩) (l+1:Nat) cap):=(hp.ai hb2).cell 1;have ri:=hr.range (fN f) (show a<l+1 from aj);have y0:w1.cell? ⟨g,a*3,none⟩=some (.int .i64 (f a).aS):=ri 0 _ rfl;have y1:w1.cell? ⟨g,a*3+1,none⟩=some (.int .u32 (f a).id):=ri 1 _ rfl;have y2:w1.cell? ⟨g,a*3+2,none⟩=some (.int .i64 (f a).bc):=ri 2 _ rfl;have gQ:=h.bound;have R8:l+1≤65536:=gQ.1;have iY:=aa hS;have Zw:=aa (show -9223372036854775808≤(f a).bc∧(f a).bc≤9223372036854775807 by have:=gQ.2.2.2 a aj;omega);have HGE:=aa (show w.heap.size≤xr∧w.heap.size≤vb by rw[←mO,←oh,←aZ];simp);have ha1:(a:Int)<(l:Int)+1:=aj;have ha0:(0:Int)≤(a:Int):=aj;have hw0:aO.wrap ((l:Int)+1 - 1)=(l:Int):=by rw[IntKind.wrap_i64];omega
 have zA:=aa rC;have HV2:=aa hV2;have CW:=aa hX2;have gh:=aa jB;have HW:=aa (dy mO oh);have uq:=aa hr;clear kS rC hV2 hX2 jB sB bt hb1 hb2 hp hr hm hpl sp sm sg ri gQ h hS;rcases Nat.eq_or_lt_of_le ha with Q7|Q7
 ·have hne:((a:Int) != (l:Int))=false:=by simp[Q7]
  have hlt:decide ((a:Int)<(l:Int))=false:=by simp[Q7]
  have F3: ¬(a:Int)<(l:Int):=aj;have Sz:=aa Q7;clear Q7 ha;obtain⟨w3,hw3⟩:=ae (w2.alloc (.cells #[.int .i64 0,.int .u32 0,.int .i64 0] 355));obtain⟨xz,hxz⟩:=ae w2.heap.size;have dD:=aK hw3 hxz;have hb3:=aL hw3;have fj:=eH hb3 zA.o;have hV3:=HV2.o.ai hb3;have hX3:=CW.o.ai hb3;have kf:=gh.o.ak hb3;obtain⟨iv,mb,φ,hp,hr,hm,hpl,sp,sm⟩:=fj.cQ;obtain⟨g,cap,rfl,sg,sx,uj,sw⟩:=hr.form aj;have gQ:=fj.bound;have q1:w3.cell? ⟨p,1,none⟩=some (.slice (some ⟨g,0,none⟩) (l+1:Nat) cap):=hp.cell 1;have z0:=dD.cl 0;have z1:=dD.cl 1;have z2:=dD.cl 2;have oZ:(l:Int)<(l:Int)+1:=aj;have hl0:(0:Int)≤(l:Int):=aj;have HP:=aa hp;have HR:=aa (show aM S w3.drew 355 3 (.slice (some ⟨g,0,none⟩) (l+1:Nat) cap) (l+1) (gw f)from hr.same fun _ _ _=>rfl);have HM:=aa hm;have Na:=aa hpl;have Sy:=aa gQ;have HS:=aa (dy sp (dy sm sg));have HV3:=aa hV3;have Ie:=aa hX3;have jF:=aa kf;have HXZ:=aa hxz;clear fj hV3 hX3 kf hp hr hm hpl hb3 dD gQ sp sm sg;go_enter Tryz.func246,Tryz.ntmps246;go_wp2_with fail;go_still_tail 7,br;change wpList _ _ _ _ _ w3.drew;refine cU rfl 355 _ _ rfl HR.o (fN _) l aj rfl [.int .i64 0,.int .u32 0,.int .i64 0] rfl rfl LL iq ?_;intro w4 hr4 hg4 sr;have F4:p≠g:=HR.o.mz rfl (show aG w3.drew p _ _ from HP.o) aN;have Sa:mb≠g:=HR.o.Mc rfl (HM.o.same (w':=w3.drew) rfl);have KG:p≠mb:=dm HM.o HP.o;have Ro:aI (· =g) w3 w4:=((aI.refl _ _).ak (az (au _ _))).grown hg4 (fun k e=>.inl (cM e).symm);have ui:=Ro.arr HP.o F4;have xZ:=HM.o.same (Ro.block mb HM.o.lt Sa);have hV4:=Ro.arr HV3.o (fun e=>Fo);have hX4:=Ro.arr Ie.o (fun e=>Fo);have jJ:aI S w w4:=jF.o.trans (Ro.mono fun k _ hk=>by subst hk;exact HS.o.2.2);have zq:aM S w4 355 3 (.slice (some ⟨g,0,none⟩) l cap) l (gw f):=(hr4.shrink (fun i=>by unfold cH;split;rfl;rfl) aj).congr fun i hi=>bl _ _ aj
  have q1:w4.cell? ⟨p,1,none⟩=some (.slice (some ⟨g,0,none⟩) (l+1:Nat) cap):=ui.cell 1;have m1:=ui.mark 1;have aeQ:=ui.lt;have hlc:(l:Int)≤(cap:Int):=aj;have Hv:=ui.put 1 (.slice (some ⟨g,0,none⟩) l cap);have su:=zq.put (q:=⟨p,1,none⟩) (fun k hk=>by injection hk with hk;exact hk▸F4) (.slice (some ⟨g,0,none⟩) l cap);have rK:dp af 3 3 .i64 (w4.setCell ⟨p,1,none⟩ (.slice (some ⟨g,0,none⟩) l cap)) mb (l+1) φ:=xZ.same (dH w4 ⟨p,1,none⟩ _ mb (fun e=>KG e.symm));have hV5:=hV4.other (p:=⟨p,1,none⟩) (fun e=>Fw) (.slice (some ⟨g,0,none⟩) l cap);have hX5:=hX4.other (p:=⟨p,1,none⟩) (fun e=>Fw) (.slice (some ⟨g,0,none⟩) l cap);have oG:=jJ.put (p:=⟨p,1,none⟩) (.inl HS.o.1) (.slice (some ⟨g,0,none⟩) l cap);obtain⟨w5,iX⟩:=ae (w4.setCell ⟨p,1,none⟩ (.slice (some ⟨g,0,none⟩) l cap));rw[iX] at Hv su rK hV5 hX5 oG;have q2:w5.cell? ⟨p,2,none⟩=some (.map (some mb)):=Hv.cell 2;have v2:=hV5.cl 2;have Dx:=aa Hv;have qL:=aa su;have Gq:=aa (show dp af 3 3 .i64 w5.drew mb (l+1) φ from rK);have HV5:=aa hV5;have M4:=aa hX5;have px:=aa oG;have HN:=aa (dy F4 (dy Sa KG));clear hr4 hg4 sr F4 Sa KG Ro ui xZ hV4 hX4 jJ zq Hv su rK hV5 hX5 oG z0 z1 z2 HP HR HM HV3 Ie jF;go_wp2_with fail;go_still_tail 6,br;change wpList _ _ _ _ _ w5.drew;refine lp rfl _ _ 316 3 rfl 3 .i64 fu G6 mb (l+1) φ rfl Gq.o (f a).bc rfl (lJ Zw.o) ?_;intro w6 CS kq;have lM:(f a).bc=(f l).bc:=by rw[Sz.o]
  have hsome:(φ (f a).bc).isSome=true:=by rw[lM,Na.o.1 l aj];rfl
  rw[if_pos hsome,lM] at CS;have Xp:aI (· =mb) w5 w6:=((aI.refl _ _).ak (az (au _ _))).grown kq (fun k e=>.inl (cM e).symm);have zR:=Xp.arr Dx.o HN.o.2.2;have CP:=qL.o.pN (w':=w6) ⟨kq.os,kq.tape,kq.output,kq.size,kq.block⟩ (fun e=>HN.o.2.1 e.symm);have JQ:bR S w6 p l next f:=bR.cut zR CP CS aj Na.o HS.o.1 HS.o.2.1 Sy.o;have hV6:=Xp.arr HV5.o (fun e=>Fm);have hX6:=Xp.arr M4.o (fun e=>Fm);have pV:aI S w w6:=px.o.trans (Xp.mono fun k _ hk=>by subst hk;exact HS.o.2.1);have kZ:=aa JQ;have HV6:=aa hV6;have EA:=aa hX6;have vy:=aa pV;clear CS kq lM hsome Xp zR CP JQ hV6 hX6 pV Dx qL Gq HV5 M4 px HN q1 q2 v2 m1 aeQ sw;go_wp2_with (first|(refine aC rfl 355 _ rfl vb 355 _ HV6.o rfl _ Ag rfl iq ?_)|(refine ah rfl 355 _ _ rfl xr 355 _ #[.int .i64 (f a).aS,.int .u32 (f a).id,.int .i64 (f a).bc] EA.o rfl rfl rfl iq qY ?_;intro w8 O5 Wj hs8;have zE:=aa O5;have HG8:=aa Wj;clear O5 Wj hs8));have TT:aI (· =xr) w6 w8:=(aI.refl _ _).grown HG8.o (fun k e=>.inl (cM e).symm);refine bodyPost_ret (dw Tryz.results246 _ im (aJ 355 zE.o _ Ag rfl iq)) rfl ⟨⟨_,rfl⟩,?_,(vy.o.grown HG8.o (fun k e=>.inr (by have:=HGE.o;have:=cM e;omega)))⟩;rw[Sz.o,LR];exact kZ.o.same fun k hk hl=>TT.block k hl (fun e=>by have:=iY.o _ hk;have:=HGE.o;omega)
 ·have hne:((a:Int) != (l:Int))=true:=by simp;omega
  have hlt:decide ((a:Int)<(l:Int))=true:=fV;have F3:(a:Int)<(l:Int):=aj;have Sz:=aa Q7;clear Q7 ha;go_enter Tryz.func246,Tryz.ntmps246;go_wp2_with fail;refine(zI S p (l+1) a l next f w2 zA.o (by have:=Sz.o;omega) aj).mono ?_;rintro e R4 ⟨⟨v3,rfl⟩,F8,B1⟩;have ae9:=B1.arr HV2.o (fun e=>Fc);have ae8:=B1.arr CW.o (fun e=>Fc);have B1:=gh.o.trans B1;clear u1 y0 y1 y2 x1 hw2;obtain⟨w2,hw2⟩: ∃ w2,w2=R4:=⟨_,rfl⟩;rw[←hw2] at F8 ae9 ae8 B1 ⊢;clear zA HV2 CW gh hw2;have zA:=aa F8;have HV2:=aa ae9;have CW:=aa ae8;have gh:=aa B1;clear F8 ae9 ae8 B1;obtain⟨w3,hw3⟩:=ae (w2.alloc (.cells #[.int .i64 0,.int .u32 0,.int .i64 0] 355));obtain⟨xz,hxz⟩:=ae w2.heap.size;have dD:=aK hw3 hxz;have hb3:=aL hw3;have fj:=eH hb3 zA.o;have hV3:=HV2.o.ai hb3;have hX3:=CW.o.ai hb3;have kf:=gh.o.ak hb3;obtain⟨iv,mb,φ,hp,hr,hm,hpl,sp,sm⟩:=fj.cQ;obtain⟨g,cap,rfl,sg,sx,uj,sw⟩:=hr.form aj;have gQ:=fj.bound;have q1:w3.cell? ⟨p,1,none⟩=some (.slice (some ⟨g,0,none⟩) (l+1:Nat) cap):=hp.cell 1;have z0:=dD.cl 0;have z1:=dD.cl 1;have z2:=dD.cl 2;have oZ:(l:Int)<(l:Int)+1:=aj;have hl0:(0:Int)≤(l:Int):=aj;have HP:=aa hp;have HR:=aa (show aM S w3.drew 355 3 (.slice (some ⟨g,0,none⟩) (l+1:Nat) cap) (l+1) (gw (cN f a l))from hr.same fun _ _ _=>rfl);have HM:=aa hm;have Na:=aa hpl;have Sy:=aa gQ;have HS:=aa (dy sp (dy sm sg));have HV3:=aa hV3;have Ie:=aa hX3;have jF:=aa kf;have HXZ:=aa hxz;clear fj hV3 hX3 kf hp hr hm hpl hb3 dD gQ sp sm sg;go_wp2_with fail;go_still_tail 7,br;change wpList _ _ _ _ _ w3.drew;refine cU rfl 355 _ _ rfl HR.o (fN _) l aj rfl [.int .i64 0,.int .u32 0,.int .i64 0] rfl rfl LL iq ?_;intro w4 hr4 hg4 sr;have F4:p≠g:=HR.o.mz rfl (show aG w3.drew p _ _ from HP.o) aN;have Sa:mb≠g:=HR.o.Mc rfl (HM.o.same (w':=w3.drew) rfl);have KG:p≠mb:=dm HM.o HP.o;have Ro:aI (· =g) w3 w4:=((aI.refl _ _).ak (az (au _ _))).grown hg4 (fun k e=>.inl (cM e).symm);have ui:=Ro.arr HP.o F4;have xZ:=HM.o.same (Ro.block mb HM.o.lt Sa);have hV4:=Ro.arr HV3.o (fun e=>Fo);have hX4:=Ro.arr Ie.o (fun e=>Fo);have jJ:aI S w w4:=jF.o.trans (Ro.mono fun k _ hk=>by subst hk;exact HS.o.2.2);have zq:aM S w4 355 3 (.slice (some ⟨g,0,none⟩) l cap) l (gw (cN f a l)):=(hr4.shrink (fun i=>by unfold cH;split;rfl;rfl) aj).congr fun i hi=>bl _ _ aj
  have q1:w4.cell? ⟨p,1,none⟩=some (.slice (some ⟨g,0,none⟩) (l+1:Nat) cap):=ui.cell 1;have m1:=ui.mark 1;have aeQ:=ui.lt;have hlc:(l:Int)≤(cap:Int):=aj;have Hv:=ui.put 1 (.slice (some ⟨g,0,none⟩) l cap);have su:=zq.put (q:=⟨p,1,none⟩) (fun k hk=>by injection hk with hk;exact hk▸F4) (.slice (some ⟨g,0,none⟩) l cap);have rK:dp af 3 3 .i64 (w4.setCell ⟨p,1,none⟩ (.slice (some ⟨g,0,none⟩) l cap)) mb (l+1) φ:=xZ.same (dH w4 ⟨p,1,none⟩ _ mb (fun e=>KG e.symm));have hV5:=hV4.other (p:=⟨p,1,none⟩) (fun e=>Fw) (.slice (some ⟨g,0,none⟩) l cap);have hX5:=hX4.other (p:=⟨p,1,none⟩) (fun e=>Fw) (.slice (some ⟨g,0,none⟩) l cap);have oG:=jJ.put (p:=⟨p,1,none⟩) (.inl HS.o.1) (.slice (some ⟨g,0,none⟩) l cap);obtain⟨w5,iX⟩:=ae (w4.setCell ⟨p,1,none⟩ (.slice (some ⟨g,0,none⟩) l cap));rw[iX] at Hv su rK hV5 hX5 oG;have q2:w5.cell? ⟨p,2,none⟩=some (.map (some mb)):=Hv.cell 2;have v2:=hV5.cl 2;have Dx:=aa Hv;have qL:=aa su;have Gq:=aa (show dp af 3 3 .i64 w5.drew mb (l+1) φ from rK);have HV5:=aa hV5;have M4:=aa hX5;have px:=aa oG;have HN:=aa (dy F4 (dy Sa KG));clear hr4 hg4 sr F4 Sa KG Ro ui xZ hV4 hX4 jJ zq Hv su rK hV5 hX5 oG z0 z1 z2 HP HR HM HV3 Ie jF;go_wp2_with fail;go_still_tail 6,br;change wpList _ _ _ _ _ w5.drew;refine lp rfl _ _ 316 3 rfl 3 .i64 fu G6 mb (l+1) φ rfl Gq.o (f a).bc rfl (lJ Zw.o) ?_;intro w6 CS kq;have lM:(f a).bc=((cN f a l) l).bc:=by rw[Ob]
  have hsome:(φ (f a).bc).isSome=true:=by rw[lM,Na.o.1 l aj];rfl
  rw[if_pos hsome,lM] at CS;have Xp:aI (· =mb) w5 w6:=((aI.refl _ _).ak (az (au _ _))).grown kq (fun k e=>.inl (cM e).symm);have zR:=Xp.arr Dx.o HN.o.2.2;have CP:=qL.o.pN (w':=w6) ⟨kq.os,kq.tape,kq.output,kq.size,kq.block⟩ (fun e=>HN.o.2.1 e.symm);have JQ:bR S w6 p l next (cN f a l):=bR.cut zR CP CS aj Na.o HS.o.1 HS.o.2.1 Sy.o;have hV6:=Xp.arr HV5.o (fun e=>Fm);have hX6:=Xp.arr M4.o (fun e=>Fm);have pV:aI S w w6:=px.o.trans (Xp.mono fun k _ hk=>by subst hk;exact HS.o.2.1);have kZ:=aa JQ;have HV6:=aa hV6;have EA:=aa hX6;have vy:=aa pV;clear CS kq lM hsome Xp zR CP JQ hV6 hX6 pV Dx qL Gq HV5 M4 px HN q1 q2 v2 m1 aeQ sw;go_wp2_with fail;refine(DM S p l a next _ w6 kZ.o (by have:=Sz.o;omega)).mono ?_;rintro e w7 ⟨⟨v7,rfl⟩,hI7,hT7⟩;have hV7:=hT7.arr HV6.o (fun e=>Fc);have hX7:=hT7.arr EA.o (fun e=>Fc);have hT7:=vy.o.trans hT7;clear kZ HV6 EA vy;have kZ:=aa hI7;have HV6:=aa hV7;have EA:=aa hX7;have vy:=aa hT7;clear hI7 hV7 hX7 hT7;go_wp2_with (first|(refine aC rfl 355 _ rfl vb 355 _ HV6.o rfl _ Ag rfl iq ?_)|(refine ah rfl 355 _ _ rfl xr 355 _ #[.int .i64 (f a).aS,.int .u32 (f a).id,.int .i64 (f a).bc] EA.o rfl rfl rfl iq qY ?_;intro w8 O5 Wj hs8;have zE:=aa O5;have HG8:=aa Wj;clear O5 Wj hs8));have TT:aI (· =xr) w7 w8:=(aI.refl _ _).grown HG8.o (fun k e=>.inl (cM e).symm);refine bodyPost_ret (dw Tryz.results246 _ im (aJ 355 zE.o _ Ag rfl iq)) rfl ⟨⟨_,rfl⟩,?_,(vy.o.grown HG8.o (fun k e=>.inr (by have:=HGE.o;have:=cM e;omega)))⟩;rw[IL f (by have:=Sz.o;omega)];exact kZ.o.same fun k hk hl=>TT.block k hl (fun e=>by have:=iY.o _ hk;have:=HGE.o;omega)
end Hp
end
section
namespace Hp
theorem Gz(S:Nat→Prop)(p l i:Nat)(next:Int)(f:Nat→eJ)(w:World)(h:bR S w p (l+1) next f)(hS: ∀ k,S k→k<w.heap.size)(hi:i≤l):
  Calls af 161 #[.pointer (some ⟨p,0,none⟩),.int .i64 (f i).bc] w fun e w'=>e= .returned (.bool true)∧bR S w' p l next (rT f l i)∧aI S w w':=by
 obtain⟨iv,mb,φ,hp,hr,hm,hpl,sp,sm⟩:=h.cQ;have x2:w.cell? ⟨p,2,none⟩=some (.map (some mb)):=hp.cell 2;have hφ:φ (f i).bc=some (i:Int):=hpl.1 i aj;have gQ:=h.bound.2.2.2 i aj;have HW:=aa (show -9223372036854775808≤(f i).bc∧(f i).bc≤9223372036854775807 by have:=h.bound.2.2.1;omega);have HN:=aa (zM p w (hp.cell 0));have HM:=aa hm;have HT:=aa (zH S p l i next f w h hS hi);clear h hp hr hm hpl sp sm hS gQ;have HE:=aa (show(φ (f i).bc).getD 0=(i:Int)∧(φ (f i).bc).isSome=true from K4);go_enter Tryz.func161,Tryz.ntmps161;go_wp2_with fail;refine ag HN.o ?_;go_wp2_with (refine ll rfl _ _ 316 rfl 3 3 .i64 fu fu G6 (Jg _) mb (l+1) φ rfl HM.o (f i).bc rfl (lJ HW.o) ?_;rw[HE.o.1,HE.o.2]);refine HT.o.mono ?_;rintro e w3 ⟨⟨v3,rfl⟩,fj,kf⟩;have gG:=aa fj;have jF:=aa kf;clear fj kf;go_wp2_with fail;go_ret;exact⟨rfl,gG.o,jF.o⟩
end Hp
end
section
namespace yy
theorem MT(x k:Nat)(hx:x<18446744073709551616)(hk:k<64): Go.bits BinOp.andNot cR (x:Int) (cR.wrap (2 ^ k))=((x &&& (18446744073709551615 - 2 ^ k):Nat):Int):=by
 have h1:(2:Nat) ^ k<18446744073709551616:=CG (n:=64) aN hk;have e:cR.wrap ((2:Int) ^ k)=((2 ^ k:Nat):Int):=by
  rw[show((2:Int) ^ k)=((2 ^ k:Nat):Int)from dR,IntKind.wrap_u64];generalize(2:Nat) ^ k=y at h1;omega
 rw[e,u64_andNot_nat x (2 ^ k) hx h1]
theorem Dy(p g c n i:Nat)(ws:Nat→Nat)(w:World)(h:fS w p g c n ws)(hi:i<n)(hn:n≤1000000): Calls af 247 #[.pointer (some ⟨p,0,none⟩),.int .i64 i,.bool false] w fun e w'=>e= .returned (.int .i64 0)∧fS w' p g c n (fun j=>if j=i / 64 then ws j &&& (18446744073709551615 - 2 ^ (i % 64))else ws j)∧w.grownBy w' (some g):=by
 have x0:w.cell? ⟨p,0,none⟩=some (.bool true):=h.own.cell 0;have x1:w.cell? ⟨p,1,none⟩=some (.int .i64 n):=h.own.cell 1;have x2:w.cell? ⟨p,2,none⟩=some (.slice (some ⟨g,0,none⟩) ((n+63) / 64) c):=h.own.cell 2;obtain⟨q,hq⟩:=ae (i / 64);obtain⟨k,hk⟩:=ae (i % 64);have hqn:q<(n+63) / 64:=aj;obtain⟨y0,m0⟩:=h.word hqn;have e1:(i:Int) / 64=(q:Int):=aj;have e2:(i:Int) % 64=(k:Int):=aj;obtain⟨nw,V2⟩:=ae ((n+63) / 64);rw[V2] at x2 hqn;rw[hq,hk];have ahe:(q:Int)<(nw:Int):=aj;have VX:(0:Int)≤(q:Int):=aj;have We:k<64:=aj;have Mv:(i:Int)<(n:Int):=aj;have CT:(0:Int)≤(i:Int):=aj;have zQ:p≠g:=h.apart;have t1:(i:Int).tmod 64=(k:Int):=Tv;have D6:(0:Int)≤(k:Int):=aj;have v1:aO.wrap (q:Int)=(q:Int):=IntWalk.i64_in _ aj;have v2:aO.wrap (k:Int)=(k:Int):=IntWalk.i64_in _ aj;have HS:=aa h;clear h hq hk V2;go_enter Tryz.func247,Tryz.ntmps247;go_wp2_with fail;refine ag (Xo p _ x0) ?_;go_wp2_with fail;have hS:w.cell? ⟨p,2,none⟩=some (.slice (some ⟨g,0,none⟩) nw c)∧w.cell? ⟨g,q,none⟩=some (.int .u64 (ws q))∧w.frozen? ⟨g,q,none⟩=false:=⟨x2,y0,m0⟩;go_still_tail 13,br;change wpList _ _ _ _ _ w.drew;have Wz:w.drew.cell? ⟨p,2,none⟩=some (.slice (some ⟨g,0,none⟩) nw c)∧w.drew.cell? ⟨g,q,none⟩=some (.int .u64 (ws q))∧w.drew.frozen? ⟨g,q,none⟩=false:=hS;obtain⟨z1,z2,z3⟩:=Wz;obtain⟨w2,hw2⟩:=ae w.drew;rw[hw2] at z1 z2 z3 ⊢;have KR:=aa hw2;clear hw2 hS;go_wp2_with fail;go_ret;rw[MT _ _ (HS.o.small q) We,←KR.o];have h0:=HS.o;have kX:w.grownBy w.drew (some g):=⟨rfl,rfl,rfl,Nat.le_refl _,fun _ _ _=>rfl⟩;have hg2:w.drew.grownBy (w.drew.setCell ⟨g,q,none⟩ (.int .u64 ((ws q &&& (18446744073709551615 - 2 ^ k):Nat):Int))) (some g):=⟨rfl,rfl,rfl,dR,fun j _ hj=>dH _ _ _ j (fun e=>hj mm)⟩;obtain⟨cur,r1,r2⟩:=h0.row;refine⟨rfl,⟨aG.other (aG.drew h0.own) zQ _,⟨cur.setIfInBounds q (.int .u64 ((ws q &&& (18446744073709551615 - 2 ^ k):Nat):Int)),?_,fun j hj=>?_⟩,fun j=>?_,zQ⟩,kX.trans hg2⟩
 ·have r3:w.drew.heap[g]? =some (.cells cur 22 (0,0)):=r1;simp[World.setCell,Array.getElem?_modify,r3]
 ·rw[Array.getElem?_setIfInBounds];by_cases e:j=q
  ·subst e;have hc:j<cur.size:=(Array.getElem?_eq_some_iff.1 (r2 j hj)).1;rw[if_pos rfl,if_pos hc];simp
  rw[if_neg (fun h=>e h.symm),if_neg e];exact r2 j hj
 by_cases e:j=q
 ·rw[if_pos e];exact Nat.lt_of_le_of_lt Nat.and_le_left (h0.small j)
 rw[if_neg e];exact h0.small j
theorem Cf(p g c n i:Nat)(ws:Nat→Nat)(w:World)(h:fS w p g c n ws)(hi:i<n)(hn:n≤1000000): Calls af 163 #[.pointer (some ⟨p,0,none⟩),.int .i64 i] w fun e w'=>e= .returned (.int .i64 0)∧fS w' p g c n (fun j=>if j=i / 64 then ws j &&& (18446744073709551615 - 2 ^ (i % 64))else ws j)∧w.grownBy w' (some g):=by
 have HC:=aa (Dy p g c n i ws w h hi hn);clear h;go_enter Tryz.func163,Tryz.ntmps163;exact aci
theorem Ei(ws:Nat→Nat)(i j:Nat): hasB (fun k=>if k=i / 64 then ws k &&& (18446744073709551615 - 2 ^ (i % 64))else ws k) j=(hasB ws j && !decide (j=i)):=by
 unfold hasB;show(if j / 64=i / 64 then ws (j / 64) &&& (18446744073709551615 - 2 ^ (i % 64))else ws (j / 64)).testBit (j % 64)=_
 by_cases h:j / 64=i / 64
 ·have hk:i % 64<64:=by omega
  have h2:(2:Nat) ^ (i % 64)<2 ^ 64:=CG aN hk;have h3:(18446744073709551615:Nat) - 2 ^ (i % 64)=2 ^ 64 - (2 ^ (i % 64)+1):=aj;rw[if_pos h,Nat.testBit_and,h3,Nat.testBit_two_pow_sub_succ h2,Nat.testBit_two_pow];have h4:decide (j % 64<64)=true:=zU;rw[h4,Bool.true_and];congr 2;rw[Bool.eq_iff_iff,decide_eq_true_eq,decide_eq_true_eq];omega
 rw[if_neg h];have:decide (j=i)=false:=decide_eq_false (fun e=>h mm);rw[this,Bool.not_false,Bool.and_true]
end yy
end
section
namespace Bk
open Hp (bR)
def without(L:List bS)(id:Int): List bS:=L.filter fun y=>!decide (y.id=id)
theorem cD{L:List bS}{id:Int}{y:bS}: y∈without L id↔y∈L∧y.id≠id:=by unfold without;rw[List.mem_filter];simp
theorem nJ: ∀ {L:List bS},(L.Pairwise fun x y=>x.id≠y.id)→∀ {x y:bS},x∈L→y∈L→x.id=y.id→x=y
 | [],_,_,_,h,_,_=>mq
 | a::L,hp,x,y,hx,hy,e=>by
  rw[G3] at hp;rcases lT.1 hx with h1|h1 <;>rcases lT.1 hy with h2|h2
  ·rw[h1,h2]
  ·rw[h1] at e;exact absurd e (hp.1 y h2)
  ·rw[h2] at e;exact absurd e.symm (hp.1 x h1)
  exact nJ hp.2 h1 h2 e
theorem pP: ∀ {L:List bS},(L.Pairwise fun x y=>x.aw≠y.aw)→∀ {x y:bS},x∈L→y∈L→x.aw=y.aw→x=y
 | [],_,_,_,h,_,_=>mq
 | a::L,hp,x,y,hx,hy,e=>by
  rw[G3] at hp;rcases lT.1 hx with h1|h1 <;>rcases lT.1 hy with h2|h2
  ·rw[h1,h2]
  ·rw[h1] at e;exact absurd e (hp.1 y h2)
  ·rw[h2] at e;exact absurd e.symm (hp.1 x h1)
  exact pP hp.2 h1 h2 e
theorem EM{L:List bS}{id:Int}(h: ∀ y∈L,y.id≠id): without L id=L:=by unfold without;rw[G7];intro y hy;simpa using h y hy
theorem lU: ∀ {L:List bS},(L.Pairwise fun x y=>x.id≠y.id)→∀ {x:bS},x∈L→(without L x.id).length+1=L.length∧ke (without L x.id)+(if 0<x.aS then 1 else 0)=ke L
 | [],_,_,h=>mq
 | a::L,hp,x,hx=>by
  rw[G3] at hp;rcases lT.1 hx with rfl|hx
  ·have e:without (x::L) x.id=L:=by
    have:=EM (L:=L) (id:=x.id) (fun y hy e=>hp.1 y hy e.symm);unfold without at this ⊢;rw[jg dR,this]
   rw[e];refine⟨rfl,?_⟩;unfold ke;by_cases h:0<x.aS
   ·rw[kM uz,if_pos h];rfl
   rw[jg uz,if_neg h];rfl
  have hne:a.id≠x.id:=hp.1 x hx;have e:without (a::L) x.id=a::without L x.id:=by unfold without;rw[kM (by simpa using hne)]
  obtain⟨h1,h2⟩:=lU hp.2 hx;rw[e];refine⟨by simp only[vp];omega,?_⟩;unfold ke at h2 ⊢;by_cases h:0<a.aS
  ·rw[kM uz,kM uz,vp,vp];omega
  rw[jg uz,jg uz];omega
theorem mE.UK{L:List bS}{q:bH}(h:mE L q)(hd:L.Pairwise fun x y=>x.id≠y.id){x:bS}(hx:x∈L)(ht: ¬0<x.aS): mE (without L x.id) q:=by
 have e:=(lU hd hx).2;rw[if_neg ht] at e;refine⟨by rw[h.len];omega,by rw[h.cnt];omega,fun y hy hp=>h.held y (cD.1 hy).1 hp,fun y hy=>?_,fun i hi=>h.free i fun y hy hp=>?_,h.ord,fun y hy=>h.ids y (cD.1 hy).1⟩
 ·obtain⟨z,hz,r1,r2⟩:=h.items y hy;refine⟨z,cD.2 ⟨hz,fun e=>?_⟩,r1,r2⟩;obtain rfl:=nJ hd hz hx e;exact ht r1
 intro e2;by_cases e3:y.id=x.id
 ·obtain rfl:=nJ hd hy hx e3;exact ht hp
 exact hi y (cD.2 ⟨hy,e3⟩) hp e2
theorem mE.UJ{L:List bS}{q q':bH}(h:mE L q)(hd:L.Pairwise fun x y=>x.id≠y.id){x:bS}(hx:x∈L)(ht:0<x.aS){l i:Nat}(hl:q.hl=l+1)(hi:i≤l){hh:Int}(hf:q.hf i=⟨x.aS,x.id,hh⟩)
  (Wh: ∀ i j,i<l+1→j<l+1→(q.hf i).bc=(q.hf j).bc→i=j) (e1:q'.hl=l) (e2:q'.hm+1=q.hm) (e3:q'.hf=Hp.rT q.hf l i) (e4:q'.φ=tN q.φ x.id none):mE (without L x.id) q':=by
 have e:=(lU hd hx).2;rw[if_pos ht] at e;have Dn: ∀ y,Hp.In q'.hf q'.hl y↔Hp.In q.hf q.hl y∧y≠⟨x.aS,x.id,hh⟩:=fun y=>by rw[e1,e3,Hp.Z7 hi Wh,hl,hf]
 refine⟨by have:=h.len;omega,by have:=h.cnt;omega,fun y hy hp=>?_,fun y hy=>?_,fun j hj=>?_,?_,fun y hy=>h.ids y (cD.1 hy).1⟩
 ·obtain⟨hy1,YY⟩:=cD.1 hy;obtain⟨t,h1,h2⟩:=h.held y hy1 hp;refine⟨t,by rw[e4,cP _ _ YY];exact h1,(Dn _).2 ⟨h2,fun e5=>?_⟩⟩;injection e5 with _ e5
  exact YY e5
 ·obtain⟨hy1,YY⟩:=(Dn y).1 hy;obtain⟨z,hz,r1,r2,r3⟩:=h.items y hy1;have hzx:z.id≠x.id:=fun e5=>by
   obtain rfl:=nJ hd hz hx e5;obtain⟨t,h1,h2⟩:=h.held z hz r1;obtain⟨z2,hz2,s1,s2,s3⟩:=h.items ⟨z.aS,z.id,hh⟩ ⟨i,aj,hf⟩;injection s2 with _ s4
   rw[←s4] at s3;rw[s3] at r3;injection r3 with r3
   exact YY (by rw[r2,←r3])
  exact⟨z,cD.2 ⟨hz,hzx⟩,r1,r2,by rw[e4,cP _ _ hzx];exact r3⟩
 ·rw[e4];by_cases e5:j=x.id
  ·rw[e5];exact fo _ _ _
  rw[cP _ _ e5];refine h.free j fun y hy hp e6=>?_
  have hyx:y.id≠x.id:=fun e7=>e5 (e6.symm.trans e7)
  exact hj y (cD.2 ⟨hy,hyx⟩) hp e6
 ·rw[e1,e3];exact Hp.Fy (hl▸h.ord) hi
theorem cC.WX{S:Nat→Prop}{w w':World}{b n ar:Nat}{aA next aq:Int}{len:Nat}{q:bH}(h:cC S w b n ar aA next aq len q)(ht:aI q.H w w'){hl:Nat}{hf:Nat→eJ}(hi:bR q.H w' q.hp hl q.hn hf):
  cC S w' b n ar aA next aq len {q with hl:=hl,hf:=hf}:=by
 have hno: ∀ x,(∀ k,q.H k→k≠x)→¬q.H x:=fun x hx e=>hx x e rfl
 exact⟨h.qw ht (hno _ fun k hk=>(h.apart k hk).2.1),h.lC ht (hno _ fun k hk=>(h.apart k hk).2.2.1) (hno _ fun k hk=>(h.apart k hk).2.2.2.1),h.qx ht (hno _ fun k hk=>(h.apart k hk).2.2.2.2.1) (hno _ fun k hk=>(h.apart k hk).2.2.2.2.2.1),h.lD ht (hno _ fun k hk=>(h.apart k hk).2.2.2.2.2.2.1),hi,h.nL ht (hno _ fun k hk=>(h.apart k hk).2.2.2.2.2.2.2),h.bA,h.apart,fun k hk=>aW (h.lt k hk) ht.size⟩
def YF(q:bH)(hl hm:Nat)(hf:Nat→eJ)(φ:Int→Option Int): bH:={q with hl:=hl,hm:=hm,hf:=hf,φ:=φ}
def abn(S:Nat→Prop)(w:World)(b n ar:Nat)(aA next aq:Int)(len:Nat)(L:List bS)(q:bH)(id:Int)(e:Ending)(w':World): Prop:=(∃ v,e= .returned v)∧(∃ hl hm hf φ,cC S w' b n ar aA next aq len (YF q hl hm hf φ)∧mE (without L id) (YF q hl hm hf φ))∧aI S w w'
theorem O7(S:Nat→Prop)(b n ar:Nat)(aA next aq:Int)(len:Nat)(L:List bS)(x:bS)(q:bH)(w:World)(h:cC S w b n ar aA next aq len q)(hh:mE L q)(hd:L.Pairwise fun x y=>x.id≠y.id)(hx:x∈L):
  Calls af 72 #[.pointer (some ⟨b,0,none⟩),.int .u32 x.id] w (abn S w b n ar aA next aq len L q x.id):=by
 have hz0:=Hp.Jg;have x10:w.cell? ⟨b,10,none⟩=some (.map (some q.mb)):=h.own.cell 10;have x9:w.cell? ⟨b,9,none⟩=some (.pointer (some ⟨q.hp,0,none⟩)):=h.own.cell 9;have pT:=hh.ids x hx;have HH:=aa h;have HHA:=aa hh;have HD:=aa hd;have HX:=aa hx;have HIR:=aa pT;have zn:(Lit.int iE x.id).wf=true:=WalkArith.wf_u32 aj;by_cases ht:0<x.aS
 ·obtain⟨hd0,hφ,i,hi,hf⟩:=hh.held x hx ht;have HE:=aa (show(q.φ x.id).getD 0=hd0∧(q.φ x.id).isSome=true from K4);obtain⟨l,hl⟩: ∃ l,q.hl=l+1:=⟨q.hl - 1,aj⟩;have aeV:bR q.H w q.hp (l+1) q.hn q.hf:=hl▸h.due;have hlt: ∀ k,q.H k→k<w.heap.size:=fun k hk=>h.lt k (h.apart k hk).1
  have Zt:=aa (show Calls af 161 #[.pointer (some ⟨q.hp,0,none⟩),.int .i64 hd0] w fun e w'=>e= .returned (.bool true)∧bR q.H w' q.hp l q.hn (Hp.rT q.hf l i)∧aI q.H w w' by
   have:=Hp.Gz q.H q.hp l i q.hn q.hf w aeV hlt aj;rw[hf] at this;exact this)
  have HIN:=aa (show ∀ i j,i<l+1→j<l+1→(q.hf i).bc=(q.hf j).bc→i=j from by
   obtain⟨iv,mb,φ,_,_,_,hpl,_⟩:=aeV.cQ;exact fun i j h1 h2 e=>hpl.inj h1 h2 e)
  have HQ:=aa (dy hl (dy (show i≤l from aj) (dy hf ht)));have hc0:1≤q.hm:=by rw[hh.cnt,←hh.len];omega
  clear h hh hd hx pT hφ hf hl hi aeV hlt ht;go_enter Tryz.func72,Tryz.ntmps72;go_wp2_with (refine ll rfl _ _ 100 rfl 39 3 .u32 G2 fu G5 (hz0 _) q.mb q.hm q.φ rfl HH.o.held x.id rfl zn ?_;rw[HE.o.1,HE.o.2]);refine Zt.o.mono ?_;rintro e w1 ⟨rfl,kS,sB⟩;have hc1:=HH.o.WX sB kS;have y10:w1.cell? ⟨b,10,none⟩=some (.map (some q.mb)):=hc1.own.cell 10;have kR:=aa hc1;have jq:=aa (show aI S w w1 from sB.mono fun k _ hk=>(HH.o.apart k hk).1);clear hc1 kS sB x9 x10;go_wp2_with (refine Hp.lp rfl _ _ 100 39 rfl 3 .u32 G2 G5 q.mb q.hm q.φ rfl kR.o.held x.id rfl zn ?_;intro w2 vt hg2;have HM2:=aa vt;have yq:=aa hg2;clear vt hg2);have hTm:aI (· =q.mb) w1 w2:=(aI.refl _ _).grown yq.o (fun k e=>.inl (cM e).symm);have vt:=HM2.o;rw[if_pos HE.o.2] at vt;have hc2:=kR.o.D8 hTm vt;refine bodyPost_end (results_none Tryz.results72 _ _ _) rfl ⟨⟨_,rfl⟩,⟨l,q.hm - 1,Hp.rT q.hf l i,tN q.φ x.id none,hc2,?_⟩,jq.o.trans (hTm.mono fun k _ hk=>by subst hk;exact HH.o.bA.2.2.2.2.2)⟩;exact HHA.o.UJ HD.o HX.o HQ.o.2.2.2 HQ.o.1 HQ.o.2.1 HQ.o.2.2.1 HIN.o rfl (by show q.hm - 1+1=q.hm;omega) rfl rfl
 ·have hφ:q.φ x.id=none:=hh.free x.id fun y hy hp e=>by
   obtain rfl:=nJ hd hy hx e;exact ht hp
  have HE:=aa (show(q.φ x.id).getD 0=0∧(q.φ x.id).isSome=false from K4);have HF:=aa (hh.UK hd hx ht);clear h hh hd hx pT hφ ht;go_enter Tryz.func72,Tryz.ntmps72;go_wp2_with (refine ll rfl _ _ 100 rfl 39 3 .u32 G2 fu G5 (hz0 _) q.mb q.hm q.φ rfl HH.o.held x.id rfl zn ?_;rw[HE.o.1,HE.o.2]);refine bodyPost_end (results_none Tryz.results72 _ _ _) rfl ⟨⟨_,rfl⟩,⟨q.hl,q.hm,q.hf,q.φ,HH.o,HF.o⟩,aI.refl _ _⟩
end Bk
end
section
namespace Bk
open Hp (bR)
variable{w:World}
theorem bm.make{S:Nat→Prop}{b n ar:Nat}{aA next aq:Int}{L:List bS}{q:bH}(hc:cC S w b n ar aA next aq L.length q)(hb: ∀ i,i<n→(hasB q.ws i=true↔∃ x∈L,x.aw=i))(hl: ∀ x∈L,x.aw<n∧q.sb x.aw=x)
  (ht: ∀ a v,ki.jE q.f q.m a v↔∃ x∈L,x.id=a∧(x.aw:Int)=v) (hn:q.hn≤next∧(q.hn=next→∃ x∈L,x.id=next)) (hz:1≤n∧n≤1024) (hg:mE L q):bm S w b n ar aA next aq L q:=
 ⟨hc,hb,hl,fun j hj hs=>by
  obtain⟨x,hx,e,_⟩:=(ht _ _).1 ⟨j,hj,hs,rfl,rfl⟩;exact⟨x,hx,e.symm⟩,fun x hx=>(ht _ _).2 ⟨x,hx,rfl,rfl⟩,⟨by rw[hg.len];exact JF L,hn,by rw[hg.cnt];exact JF L,hz⟩,hg⟩
theorem bm.free{S:Nat→Prop}{b n ar:Nat}{aA next aq:Int}{L:List bS}{q:bH}(h:bm S w b n ar aA next aq L q)(hk: ∀ x∈L,x.id<next): q.hn<next:=by
 obtain⟨h1,h2⟩:=h.small.2.1;rcases Int.lt_or_le q.hn next with h3|h3
 ·exact h3
 obtain⟨x,hx,e⟩:=h2 aj;have:=hk x hx;omega
def abp(S:Nat→Prop)(w:World)(b n ar:Nat)(aA next aq:Int)(L:List bS)(q:bH)(x:bS)(e:Ending)(w':World): Prop:=(∃ v,e= .returned v)∧(∃ q',bm S w' b n ar aA next aq (without L x.id) q'∧q'.hp=q.hp)∧aI S w w'
theorem vbk{T:Nat→Prop}{w1 w2:World} {vb:Nat}{t:TypeId}{cs:Array Value}(hS: ∀ k,T k→k<w.heap.size)(hv:w.heap.size=vb)(ha:aG w1 vb t cs)(ht:aI T w1 w2): aG w2 vb t cs:=ht.arr ha (fun e=>by have:=hS _ e;omega)
theorem O8(S:Nat→Prop)(b n ar:Nat)(aA next aq:Int)(L:List bS)(x:bS)(q:bH)(w:World)(h:bm S w b n ar aA next aq L q)(hd:L.Pairwise fun x y=>x.id≠y.id)(hs:L.Pairwise fun x y=>x.aw≠y.aw)(hk: ∀ x∈L,x.id<next)(hx:x∈L):
  Calls af 73 #[.pointer (some ⟨b,0,none⟩),.agg #[.int .u32 x.id,.int .i64 x.aw,.int .i64 x.aS]] w (abp S w b n ar aA next aq L q x):=by
 have Wi:=h.free hk;obtain⟨i,R9,his,hie,hiv⟩:=h.listed x hx;have Z8:=(h.cQ x hx).1;have hn4:=h.small.2.2.2;have pT:=h.qy.ids x hx;have HH:=aa h;have HD:=aa hd;have HS:=aa hs;have HX:=aa hx;have HI:=aa (dy R9 (dy his hie));have HHN:=aa Wi;have iY:=aa (show ∀ k,S k→k<w.heap.size from h.bf.lt);clear h hd hs hk hx R9 his hie hiv Wi;go_enter Tryz.func73,Tryz.ntmps73;obtain⟨w1,aZ⟩:=ae (w.alloc (.cells #[.int .u32 x.id,.int .i64 x.aw,.int .i64 x.aS] 171));obtain⟨vb,oh⟩:=ae w.heap.size;have bt:=aK aZ oh;have hb1:=aL aZ;have hc1:=HH.o.bf.ak hb1;have y0:=bt.cl 0;have kR:=aa hc1;have dz:=aa bt;have bz:=aa hb1;have zb:=aa oh;clear hc1 bt hb1;go_wp2_with fail;refine(O7 S b n ar aA next aq L.length L x q w1 kR.o HH.o.qy HD.o HX.o).mono ?_;rintro e w2 ⟨⟨v2,rfl⟩,⟨hl,hm,hf,φ,hc2,hg2⟩,jB⟩;have ia:=vbk iY.o zb.o dz.o jB;have ah0:aI S w w2:=(aI.aU bz.o).trans jB;have x7:w2.cell? ⟨b,7,none⟩=some (.pointer (some ⟨q.ip,0,none⟩)):=hc2.own.cell 7;have z0:=ia.cl 0;have zB:=aa hc2;have yq:=aa hg2;have iZ:=aa ia;have gh:=aa ah0;clear hc2 hg2 ia jB ah0 kR dz bz y0 aZ;go_wp2_with fail;go_still_tail 6,br;change wpList _ _ _ _ _ w2.drew;have wR:=zB.o.ak (az (au _ _));have Yo:=aa (ki.Gz q.ip q.ig q.m ar L.length q.gr x.id q.f w2.drew wR.ids pT HI.o.1 HI.o.2.1 HI.o.2.2);clear wR;go_wp2_with fail;refine Yo.o.mono ?_;rintro e w3 ⟨rfl,hi3,oZ,kf⟩;have hc3:=(zB.o.ak (az (au _ _))).vX kf hi3;have hf0:=HH.o.bf.bA;have Dr:aI S w2.drew w3:=kf.mono fun k _ hk=>TI
 have dD:=vbk iY.o zb.o (show aG w2.drew vb _ _ from iZ.o) Dr;have ac6:aI S w w3:=(gh.o.ak (az (au _ _))).trans Dr;have x6:w3.cell? ⟨b,6,none⟩=some (.pointer (some ⟨q.tp,0,none⟩)):=hc3.own.cell 6;have z1:=dD.cl 1;have RR:=aa hc3;have pB:=aa dD;have jF:=aa ac6;clear hc3 dD kf Dr ac6 hi3 zB iZ gh Yo x7 z0;go_wp2_with fail;go_still_tail 6,br;change wpList _ _ _ _ _ w3.drew;have wR:=RR.o.ak (az (au _ _));have Yo:=aa (yy.Cf q.tp q.tg q.tc n x.aw q.ws w3.drew wR.taken Z8 aj);clear wR;go_wp2_with fail;refine Yo.o.mono ?_;rintro e w4 ⟨rfl,sr,hg4⟩;have KP:aI (· =q.tg) w3.drew w4:=(aI.refl _ _).grown hg4 (fun k e=>.inl (cM e).symm);have KO:=(RR.o.ak (az (au _ _))).qj KP sr;have yb:aI S w3.drew w4:=KP.mono fun k _ hk=>Lc
 have mZ:=vbk iY.o zb.o (show aG w3.drew vb _ _ from pB.o) yb;have ac5:aI S w w4:=(jF.o.ak (az (au _ _))).trans yb;have x8:w4.cell? ⟨b,8,none⟩=some (.slice (some ⟨q.sg,0,none⟩) n q.sc):=KO.own.cell 8;have z1':=mZ.cl 1;have QQ:(x.aw:Int)<(n:Int):=aj;have hx0:(0:Int)≤(x.aw:Int):=aj;have tu:(n:Int)≤1024:=aj;have RQ:=aa KO;have nX:=aa ac5;have mj:=aa (KO.ak (az (au _ _))).fW;clear KO mZ KP yb ac5 sr hg4 RR pB jF Yo x6 z1;go_wp2_with fail;go_still_tail 8,br;change wpList _ _ _ _ _ w4.drew;refine cU rfl 171 _ _ rfl mj.o (fun _=>rfl) x.aw Z8 rfl (je ⟨0,0,0⟩) rfl rfl (sH _) eT ?_;intro w5 su ft hs5;have qL:=aa su;have oP:=aa ft;clear su ft hs5 x8 z1';have JL:aI (· =q.sg) w4.drew w5:=(aI.refl _ _).grown oP.o (fun k e=>.inl (cM e).symm);have su:=qL.o;rw[rV] at su;have F5:=(RQ.o.ak (az (au _ _))).nE JL su;have oG:aI S w w5:=(nX.o.ak (az (au _ _))).trans (JL.mono fun k _ hk=>Fs);have hlen:=(lU HD.o HX.o).1;rw[show L.length - 1=(without L x.id).length from aj] at F5;refine bodyPost_end (results_none Tryz.results73 _ _ _) rfl ⟨⟨_,rfl⟩,⟨_,bm.make F5 ?_ ?_ ?_ ?_ hn4 ⟨yq.o.len,yq.o.cnt,yq.o.held,yq.o.items,yq.o.free,yq.o.ord,yq.o.ids⟩,rfl⟩,oG⟩
 ·intro j hj;show hasB (fun k=>if k=x.aw / 64 then q.ws k &&& (18446744073709551615 - 2 ^ (x.aw % 64))else q.ws k) j=true↔_
  rw[yy.Ei,Bool.and_eq_true,HH.o.bits j hj,Bool.not_eq_true',decide_eq_false_iff_not];constructor
  ·rintro⟨⟨y,hy,rfl⟩,hne⟩;refine⟨y,cD.2 ⟨hy,fun e=>hne ?_⟩,rfl⟩;rw[nJ HD.o hy HX.o e]
  rintro⟨y,hy,rfl⟩;obtain⟨h1,h2⟩:=cD.1 hy;exact⟨⟨y,h1,rfl⟩,fun e=>h2 (by rw[pP HS.o h1 HX.o e])⟩
 ·intro y hy;obtain⟨h1,h2⟩:=cD.1 hy;refine⟨(HH.o.cQ y h1).1,?_⟩;show cH q.sb x.aw ⟨0,0,0⟩ y.aw=y
  rw[bl _ _ (fun e=>h2 (by rw[pP HS.o h1 HX.o e]))];exact(HH.o.cQ y h1).2
 ·intro a v;show ki.jE (ki.upd q.f i ⟨2,0,0⟩) q.m a v↔_
  rw[ki.K3 HH.o.bf.ids.tab HI.o.1 HI.o.2.1,HH.o.tbl,HI.o.2.2];constructor
  ·rintro⟨⟨y,hy,rfl,r⟩,hne⟩;exact⟨y,cD.2 ⟨hy,hne⟩,rfl,r⟩
  rintro⟨y,hy,rfl,r⟩;obtain⟨h1,h2⟩:=cD.1 hy;exact⟨⟨y,h1,rfl,r⟩,h2⟩
 ·have:=HHN.o;exact⟨by show q.hn≤next;omega,fun e=>absurd (show q.hn=next from e) aj⟩
end Bk
end
section
namespace Bk
open Hp (bR)
def stays(uk:Int)(x:bS): Bool:=decide (x.aS=0)||decide (uk<x.aS)
theorem C8{L:List bS}{id:Int}{K:bS→Bool}(h: ∀ y∈L,y.id=id→K y=false): (without L id).filter K=L.filter K:=by
 induction L with
 | nil=>rfl
 | cons a L ih=>
  have ih':=ih fun y hy=>h y (List.mem_cons_of_mem _ hy)
  unfold without at ih' ⊢;by_cases e:a.id=id
  ·rw[jg (by simpa using e),ih',jg (by rw[h a (List.mem_cons_self ..) e];simp)]
  rw[kM (by simpa using e)];by_cases k:K a=true
  ·rw[kM k,kM k,ih']
  rw[jg k,jg k,ih']
theorem yF(L:List bS)(id:Int): (without L id).Sublist L:=List.filter_sublist
def FV(p:Nat)(w:World): Nat:=match w.cell? ⟨p,1,none⟩with
 | some (.slice _ n _)=>n
 | _=>0
theorem BJ{S:Nat→Prop}{w:World}{p l:Nat}{next:Int}{f:Nat→eJ}(h:bR S w p l next f): FV p w=l:=by
 obtain⟨iv,mb,φ,hp,hr,_⟩:=h.cQ;obtain⟨A,cap,rfl⟩:=hr.any;have h1:w.cell? ⟨p,1,none⟩=some (.slice A l cap):=hp.cell 1;simp only[FV,h1]
theorem mE.first{L:List bS}{q:bH}(h:mE L q)(hl:0<q.hl): ∃ x∈L,0<x.aS∧(q.hf 0).aS=x.aS∧(q.hf 0).id=x.id∧∀ y∈L,0<y.aS→x.aS≤y.aS:=by
 obtain⟨x,hx,h1,h2,_⟩:=h.items (q.hf 0) ⟨0,hl,rfl⟩;have e1:(q.hf 0).aS=x.aS:=by rw[h2]
 have e2:(q.hf 0).id=x.id:=by rw[h2]
 refine⟨x,hx,h1,e1,e2,fun y hy hp=>?_⟩;obtain⟨t,_,i,hi,hf⟩:=h.held y hy hp;have:=h.ord.least i hi;rw[Hp.vU,hf,e1] at this;simp only at this;omega
def aaU(S:Nat→Prop)(w:World)(b n ar:Nat)(aA next uk:Int)(L:List bS)(e:Ending)(w':World): Prop:=e= .returned (.int .i64 0)∧(∃ q',bm S w' b n ar aA next uk (L.filter (stays uk)) q')∧aI S w w'
theorem ZG(S:Nat→Prop)(b n ar:Nat)(aA next aq uk:Int)(L:List bS)(q:bH)(w:World)(h:bm S w b n ar aA next aq L q)(hd:L.Pairwise fun x y=>x.id≠y.id)(hs:L.Pairwise fun x y=>x.aw≠y.aw)(hk: ∀ x∈L,x.id<next)(h0: ∀ x∈L,0≤x.aS)(hc:aq<uk):
  Calls af 70 #[.pointer (some ⟨b,0,none⟩),.int .i64 uk] w (aaU S w b n ar aA next uk L):=by
 have x4:w.cell? ⟨b,4,none⟩=some (.int .i64 aq):=h.bf.own.cell 4;have m4:=h.bf.own.mark 4;have hbl:=h.bf.own.lt;have T1:=(aI.refl (fun j=>j=b) w).put (p:=⟨b,4,none⟩) (.inl rfl) (.int .i64 uk);have D4:=h.bf.own.put 4 (.int .i64 uk);obtain⟨w1,aZ⟩:=ae (w.setCell ⟨b,4,none⟩ (.int .i64 uk));rw[aZ] at T1 D4;have h1:bm S w1 b n ar aA next uk L q:=h.lV (h.bf.lV T1 D4);have jq:=aa (show aI S w w1 from T1.mono fun k _ hk=>by subst hk;exact h.bf.bA.1);have H1:=aa h1;have HD:=aa hd;have HS:=aa hs;have HK:=aa hk;have H0:=aa h0;have hle: ¬uk≤aq:=aj;clear h hd hs hk h0 T1 D4 h1;go_enter Tryz.func70,Tryz.ntmps70;go_wp2_with fail;go_loopw [] (fun wr=>∃ (M:List bS) (p:bH),p.hp=q.hp∧bm S wr b n ar aA next uk M p∧M.Sublist L∧M.filter (stays uk)=L.filter (stays uk)∧aI S w wr) (fun wr=>FV q.hp wr)
 case atStart=>exact⟨L,q,rfl,H1.o,List.Sublist.refl _,rfl,jq.o⟩
 case round=>
  clear H1 jq;obtain⟨M,p,hpp,hB,aad,ahI,hT⟩:=hrel;have x7:wr.cell? ⟨b,9,none⟩=some (.pointer (some ⟨p.hp,0,none⟩)):=hB.bf.own.cell 9;have hdM:M.Pairwise fun x y=>x.id≠y.id:=HD.o.sublist aad
  have hsM:M.Pairwise fun x y=>x.aw≠y.aw:=HS.o.sublist aad
  have HPP:=aa hpp;have HB:=aa hB;have Ya:=aa aad;have afV:=aa ahI;have HT:=aa hT;have HMS:=aa (dy hdM hsM);have HIT:=aa (BJ hB.bf.due);clear hpp aad ahI hT hdM hsM;rcases Nat.eq_zero_or_pos p.hl with hl|hl
  ·have HL:=aa (Hp.M1 p.H p.hp p.hn p.hf wr (hl▸hB.bf.due));have Yz:=aa (show M.filter (stays uk)=M from by
    rw[G7];intro x hx;have h1:ke M=0:=by rw[←hB.qy.len];exact hl
    have h2: ¬0<x.aS:=fun h=>by
     have:x∈M.filter fun x=>decide (0<x.aS):=List.mem_filter.2 ⟨hx,uz⟩
     rw[List.length_eq_zero_iff.1 h1] at this;cases this
    have h3:=H0.o x (Ya.o.subset hx);have:x.aS=0:=aj;unfold stays;simp[this])
   clear hB hl;go_wp2_with fail;refine HL.o.mono ?_;rintro e w2 ⟨rfl,hb2⟩;have cu:=aa hb2;clear hb2;go_wp2_with fail;go_ret;have hb3:Below wr.heap.size wr (w2.alloc (Obj.cells #[gI aO 0,gI iE 0] 211)):=ax cu.o _;refine⟨rfl,⟨p,?_⟩,HT.o.ak hb3⟩;rw[←afV.o,Yz.o];exact HB.o.ak hb3
  obtain⟨x,hx,VO,e1,e2,aho⟩:=hB.qy.first hl
  have hxL:=Ya.o.subset hx;have HXI:=aa (hB.qy.ids x hx);have HL:=aa (show Calls af 159 #[.pointer (some ⟨p.hp,0,none⟩)] wr fun e w'=>e= .returned (.tuple #[.agg #[.int .i64 x.aS,.int .u32 x.id],.int .i64 (p.hf 0).bc,.bool true])∧Below wr.heap.size wr w' by
   have:=Hp.M0 p.H p.hp p.hl p.hn p.hf wr hB.bf.due hl;rw[e1,e2] at this;exact this)
  have HX:=aa (dy hx (dy VO aho));have HKX:=aa (fun y hy=>HK.o y (Ya.o.subset hy));clear hB hx aho e1 e2 hxL;by_cases hlt:uk<x.aS
  ·have F3:decide (uk<x.aS)=true:=decide_eq_true hlt;have Yz:=aa (show M.filter (stays uk)=M from by
    rw[G7];intro y hy;have h3:=H0.o y (Ya.o.subset hy);unfold stays;by_cases h4:0<y.aS
    ·have:=HX.o.2.2 y hy h4;have h5:decide (uk<y.aS)=true:=zU;rw[h5,Bool.or_true]
    have:y.aS=0:=aj;simp[this])
   clear hl;go_wp2_with fail;refine HL.o.mono ?_;rintro e w2 ⟨rfl,hb2⟩;have cu:=aa hb2;clear hb2;go_wp2_with fail;go_ret;have hb3:Below wr.heap.size wr (w2.alloc (Obj.cells #[gI aO x.aS,gI iE x.id] 211)):=ax cu.o _;refine⟨rfl,⟨p,?_⟩,HT.o.ak hb3⟩;rw[←afV.o,Yz.o];exact HB.o.ak hb3
  have F3:decide (uk<x.aS)=false:=decide_eq_false hlt;have alq:=aa (show stays uk x=false from by
   unfold stays;rw[F3,Bool.or_false];exact decide_eq_false aj)
  have HLP:=aa hl;clear hl;go_wp2_with fail;refine HL.o.mono ?_;rintro e w2 ⟨rfl,hb2⟩;obtain⟨w3,hw3⟩:=ae (w2.alloc (.cells #[.int .i64 x.aS,.int .u32 x.id] 211));obtain⟨db,hdb⟩:=ae w2.heap.size;have Wv:=aK hw3 hdb;have hb3:=dU hb2 hw3;have y1:=Wv.cl 1;have y0:=Wv.cl 0;have dV:=aa hb3;clear hb2 hb3 Wv;go_wp2_with fail;refine(CC (HB.o.ak dV.o) x HX.o.1 HXI.o).mono ?_;rintro e w4 ⟨rfl,wS,jJ⟩;have nX:=aa (show aI S w w4 from(HT.o.ak dV.o).trans (jJ.mono fun k _ hk=>by subst hk;exact HB.o.bf.bA.2.2.2.1));obtain⟨w5,iX⟩:=ae (w4.alloc (.cells #[.int .u32 x.id,.int .i64 (x.aw:Int),.int .i64 x.aS] 171));obtain⟨xb,zm⟩:=ae w4.heap.size;have dX:=aL iX;have CU:=aK iX zm;have z0:=CU.cl 0;have z1:=CU.cl 1;have z2:=CU.cl 2;have eA:=aa (wS.ak dX);have px:=aa (nX.o.ak dX);clear wS jJ dX CU y0 y1;go_wp2_with fail;refine(O8 S b n ar aA next uk M x p w5 eA.o HMS.o.1 HMS.o.2 HKX.o HX.o.1).mono ?_;rintro e w6 ⟨⟨v6,rfl⟩,⟨p6,WC,zR⟩,pV⟩;have ij:=aa WC;have vy:=aa (px.o.trans pV);have Nb:=aa zR;clear WC pV zR z0 z1 z2;go_wp2_with fail;go_roundw
  case rel=>exact⟨without M x.id,p6,Nb.o.trans HPP.o,ij.o,(yF M x.id).trans Ya.o,by rw[C8 (fun y hy e=>by rw[nJ HMS.o.1 hy HX.o.1 e];exact alq.o),afV.o],vy.o⟩
  case measure=>
   have e1:=BJ ij.o.bf.due;have e2:=HIT.o;rw[Nb.o,HPP.o] at e1;rw[HPP.o] at e2;have e3:=ij.o.qy.len;have e4:=HB.o.qy.len;have e5:=(lU HMS.o.1 HX.o.1).2;rw[if_pos HX.o.2.1] at e5;omega
end Bk
end
section
namespace Bk
open Hp (bR)
def recC(k id s t c:Int): Array Value:=#[.int .i64 k,.int .u32 id,.int .i64 s,.int .i64 t,.int .i64 c]
def Qz(L:List bS)(s:Nat): Bool:=L.any fun x=>decide (x.aw=s)
variable{s:Nat}
theorem vR{L:List bS}: Qz L s=true↔∃ x∈L,x.aw=s:=by unfold Qz;simp[List.any_eq_true]
theorem bm.on{S:Nat→Prop}{w:World}{b n ar:Nat}{aA next aq:Int}{L:List bS}{q:bH}(h:bm S w b n ar aA next aq L q)(hs:s<n): hasB q.ws s=Qz L s:=by rw[Bool.eq_iff_iff,h.bits s hs,vR]
def lY(n ar:Nat)(next aq:Int)(L:List bS)(id:Int)(s:Nat)(t:Int): Int:=
 if id≠next then 2 else if n≤s then 140 else if t≤aq then 173 else if Qz L s=true then 170 else if ar≤L.length then 6 else if next=4294967295 then 6 else 0
def nd(S:Nat→Prop)(w:World)(b n ar:Nat)(aA next aq:Int)(L:List bS)(q:bH)(id:Int)(s:Nat)(t:Int)(e:Ending)(w':World): Prop:=
 e= .returned (.int .i64 (lY n ar next aq L id s t))∧aI S w w'∧
 if lY n ar next aq L id s t=0 then ∃ q',bm (fun k=>(S k∨w.heap.size≤k)∧k<w'.heap.size) w' b n ar aA (next+1) aq (L++ [⟨id,s,t⟩]) q'
 else bm S w' b n ar aA next aq L q
theorem nd.no{S:Nat→Prop}{w w':World}{b n ar:Nat}{aA next aq:Int}{L:List bS}{q:bH}{id:Int}{t r:Int}(hr:lY n ar next aq L id s t=r)(hz:r≠0)(h:bm S w b n ar aA next aq L q)(hb:Below w.heap.size w w'): nd S w b n ar aA next aq L q id s t (.returned (.int .i64 r)) w':=
 ⟨by rw[hr],aI.aU hb,by rw[hr,if_neg hz];exact h.ak hb⟩
theorem aah(S:Nat→Prop)(b n ar:Nat)(aA next aq:Int)(L:List bS)(q:bH)(w:World)(k id:Int)(s:Nat)(t c:Int)(h:bm S w b n ar aA next aq L q)(hk: ∀ x∈L,x.id<next)(D5:1≤next∧next<4294967296)(hck:0≤aq)(hid:0≤id∧id<4294967296)(hs:s≤1023)(ht:t≤1099511627776):
  Calls af 69 #[.pointer (some ⟨b,0,none⟩),.agg (recC k id s t c)] w (nd S w b n ar aA next aq L q id s t):=by
 have hn4:=h.small.2.2.2;have hroom:=h.bf.ids.bg;have HK:=aa hk;have HH:=aa h;obtain⟨w1,aZ⟩:=ae (w.alloc (.cells (recC k id s t c) 58));obtain⟨rb,jI⟩:=ae w.heap.size;have bt:=aK aZ jI;have hb1:=aL aZ;have hlt:=h.bf.lt;have iY:=aa hlt;dsimp only[recC] at aZ bt ⊢;clear h hk hlt;have hA:=bt;have hb:=hb1;have cL:=HH.o.ak hb1;clear bt hb1;have x5:w1.cell? ⟨b,5,none⟩=some (.int .u32 next):=cL.bf.own.cell 5;have y1:w1.cell? ⟨rb,1,none⟩=some (.int .u32 id):=hA.cell 1;have HA:=aa hA;have HB:=aa hb;have fC:=aa cL;clear hA hb cL;go_enter Tryz.func69,Tryz.ntmps69;go_wp2_with fail;by_cases c1:id≠next
 ·skip;have Nc1:=aa c1;have hq:(id != next)=true:=by simpa using c1
  refine wp_region_quiet_lit br br ?_;repeat(first|go_big_quiet_step ((fail))|quiet_step ((fail)))
  refine wpQuiet_nil ?_;intro _ hw';obtain⟨nq,hw''⟩:=hw';subst hw'';have hb:=bJ HB.o nq;have hA:=HA.o.drewN nq;have cL:=fC.o.ak (bJ (au _ w1) nq);obtain⟨w2,hw2⟩:=ae (w1.drewN nq);rw[hw2] at hb hA cL ⊢;clear hw2 HA HB fC x5 y1 hq;have HB:=aa hb;clear hA cL hb;go_wp2_with fail;go_ret;exact nd.no (by unfold lY;rw[if_pos Nc1.o]) aN HH.o HB.o
 ·skip;have Nc1:=aa c1;have hq:(id != next)=false:=by simpa using c1
  refine wp_region_quiet_lit br br ?_;repeat(first|go_big_quiet_step ((fail))|quiet_step ((fail)))
  refine wpQuiet_nil ?_;intro _ hw';obtain⟨nq,hw''⟩:=hw';subst hw'';have hb:=bJ HB.o nq;have hA:=HA.o.drewN nq;have cL:=fC.o.ak (bJ (au _ w1) nq);obtain⟨w2,hw2⟩:=ae (w1.drewN nq);rw[hw2] at hb hA cL ⊢;clear hw2 HA HB fC x5 y1 hq;have x0:w2.cell? ⟨b,0,none⟩=some (.int .i64 n):=cL.bf.own.cell 0;have y2:w2.cell? ⟨rb,2,none⟩=some (.int .i64 (s:Int)):=hA.cell 2;have HA:=aa hA;have HB:=aa hb;have fC:=aa cL;clear hA hb cL;go_wp2_with fail;by_cases c2:n≤s
  ·skip;have Nc2:=aa c2;have hq:(n:Int)≤(s:Int):=aj;refine wp_region_quiet_lit br br ?_;repeat(first|go_big_quiet_step ((fail))|quiet_step ((fail)))
   refine wpQuiet_nil ?_;intro _ hw';obtain⟨nq,hw''⟩:=hw';subst hw'';have hb:=bJ HB.o nq;have hA:=HA.o.drewN nq;have cL:=fC.o.ak (bJ (au _ w2) nq);obtain⟨w3,hw3⟩:=ae (w2.drewN nq);rw[hw3] at hb hA cL ⊢;clear hw3 HA HB fC x0 y2 hq;have HB:=aa hb;clear hA cL hb;go_wp2_with fail;go_ret;exact nd.no (by unfold lY;rw[if_neg Nc1.o,if_pos Nc2.o]) aN HH.o HB.o
  skip;have Nc2:=aa c2;have hq: ¬(n:Int)≤(s:Int):=aj;refine wp_region_quiet_lit br br ?_;repeat(first|go_big_quiet_step ((fail))|quiet_step ((fail)))
  refine wpQuiet_nil ?_;intro _ hw';obtain⟨nq,hw''⟩:=hw';subst hw'';have hb:=bJ HB.o nq;have hA:=HA.o.drewN nq;have cL:=fC.o.ak (bJ (au _ w2) nq);obtain⟨w3,hw3⟩:=ae (w2.drewN nq);rw[hw3] at hb hA cL ⊢;clear hw3 HA HB fC x0 y2 hq;have x4:w3.cell? ⟨b,4,none⟩=some (.int .i64 aq):=cL.bf.own.cell 4;have y3:w3.cell? ⟨rb,3,none⟩=some (.int .i64 t):=hA.cell 3;have HA:=aa hA;have HB:=aa hb;have fC:=aa cL;clear hA hb cL;go_wp2_with fail;by_cases c3:t≤aq
  ·skip;have Nc3:=aa c3;refine wp_region_quiet_lit br br ?_;repeat(first|go_big_quiet_step ((fail))|quiet_step ((fail)))
   refine wpQuiet_nil ?_;intro _ hw';obtain⟨nq,hw''⟩:=hw';subst hw'';have hb:=bJ HB.o nq;have hA:=HA.o.drewN nq;have cL:=fC.o.ak (bJ (au _ w3) nq);obtain⟨w4,hw4⟩:=ae (w3.drewN nq);rw[hw4] at hb hA cL ⊢;clear hw4 HA HB fC x4 y3;have HB:=aa hb;clear hA cL hb;go_wp2_with fail;go_ret;exact nd.no (by unfold lY;rw[if_neg Nc1.o,if_neg Nc2.o,if_pos Nc3.o]) aN HH.o HB.o
  skip;have Nc3:=aa c3;refine wp_region_quiet_lit br br ?_;repeat(first|go_big_quiet_step ((fail))|quiet_step ((fail)))
  refine wpQuiet_nil ?_;intro _ hw';obtain⟨nq,hw''⟩:=hw';subst hw'';have hb:=bJ HB.o nq;have hA:=HA.o.drewN nq;have cL:=fC.o.ak (bJ (au _ w3) nq);obtain⟨w4,hw4⟩:=ae (w3.drewN nq);rw[hw4] at hb hA cL ⊢;clear hw4 HA HB fC x4 y3;have x6:w4.cell? ⟨b,6,none⟩=some (.pointer (some ⟨q.tp,0,none⟩)):=cL.bf.own.cell 6;have y2:w4.cell? ⟨rb,2,none⟩=some (.int .i64 (s:Int)):=hA.cell 2;have HA:=aa hA;have HB:=aa hb;have fC:=aa cL;clear hA hb cL;go_wp2_with fail;have RL:=aa (fun W (hW:fS W q.tp q.tg q.tc n q.ws)=>yy.pd q.tp q.tg q.tc n s q.ws W hW aj aj);have Zh:=aa (show ∀ m,fS (w4.drewN m) q.tp q.tg q.tc n q.ws from fun m=>(fC.o.ak (bJ (au _ _) m)).bf.taken);have rB:s<n:=aj;by_cases c4:Qz L s=true
  ·skip;have Nc4:=aa c4;have HQ:=aa (show hasB q.ws s=true from by rw[HH.o.on rB];exact c4);go_still_tail 6,br;change wpList _ _ _ _ _ w4.drew;have cL:=fC.o.ak (az (au _ _));have hA:aG w4.drew rb 58 _:=HA.o;have hb:=az HB.o;obtain⟨w5,iX⟩:=ae w4.drew;rw[iX] at hb hA cL ⊢;clear iX HA HB fC x6 y2 Zh;have HC:=aa (RL.o w5 cL.bf.taken);have HA:=aa hA;have HB:=aa hb;have fC:=aa cL;clear hA hb cL;go_wp2_with fail;refine HC.o.mono ?_;rw[HQ.o];rintro e w9 ⟨rfl,jH⟩;rw[jH];clear jH w9 HC c4;go_wp2_with fail;go_ret;exact nd.no (by unfold lY;rw[if_neg Nc1.o,if_neg Nc2.o,if_neg (Ah.2 Nc3.o),if_pos Nc4.o]) aN HH.o HB.o
  skip;have Nc4:=aa c4;have HQ:=aa (show hasB q.ws s=false from by rw[HH.o.on rB];simpa using c4);go_still_tail 6,br;change wpList _ _ _ _ _ w4.drew;have cL:=fC.o.ak (az (au _ _));have hA:aG w4.drew rb 58 _:=HA.o;have hb:=az HB.o;obtain⟨w5,iX⟩:=ae w4.drew;rw[iX] at hb hA cL ⊢;clear iX HA HB fC x6 y2 Zh;have HC:=aa (RL.o w5 cL.bf.taken);have HA:=aa hA;have HB:=aa hb;have fC:=aa cL;clear hA hb cL;go_wp2_with fail;refine HC.o.mono ?_;rw[HQ.o];rintro e w9 ⟨rfl,jH⟩;rw[jH];clear jH w9 HC c4;have hA:=HA.o;have hb:=HB.o;have cL:=fC.o;clear HA HB fC;have x7:w5.cell? ⟨b,7,none⟩=some (.pointer (some ⟨q.ip,0,none⟩)):=cL.bf.own.cell 7;have x1:w5.cell? ⟨b,1,none⟩=some (.int .i64 ar):=cL.bf.own.cell 1;have HA:=aa hA;have HB:=aa hb;have fC:=aa cL;clear hA hb cL;have vd:=aa (fun m=>XV q.ip q.ig q.m ar L.length q.gr q.f (w5.drewN m) (fC.o.ak (bJ (au _ _) m)).bf.ids);go_wp2_with fail;by_cases c5:ar≤L.length
  ·skip;have Nc5:=aa c5;have hq:(ar:Int)≤(L.length:Int):=aj;refine wp_region_quiet_lit br br ?_;repeat(first|go_big_quiet_step ((go_at_call 108;exact nj (vd.o _)))|quiet_step ((go_at_call 108;exact nj (vd.o _))))
   refine wpQuiet_nil ?_;intro _ hw';obtain⟨nq,hw''⟩:=hw';subst hw'';have hb:=bJ HB.o nq;have hA:=HA.o.drewN nq;have cL:=fC.o.ak (bJ (au _ w5) nq);obtain⟨w6,og⟩:=ae (w5.drewN nq);rw[og] at hb hA cL ⊢;clear og HA HB fC vd x7 x1 hq;have HB:=aa hb;clear hA cL hb;go_wp2_with fail;go_ret;exact nd.no (by unfold lY;rw[if_neg Nc1.o,if_neg Nc2.o,if_neg (Ah.2 Nc3.o),if_neg Lt,if_pos Nc5.o]) aN HH.o HB.o
  skip;have Nc5:=aa c5;have hq: ¬(ar:Int)≤(L.length:Int):=aj;refine wp_region_quiet_lit br br ?_;repeat(first|go_big_quiet_step ((go_at_call 108;exact nj (vd.o _)))|quiet_step ((go_at_call 108;exact nj (vd.o _))))
  refine wpQuiet_nil ?_;intro _ hw';obtain⟨nq,hw''⟩:=hw';subst hw'';have hb:=bJ HB.o nq;have hA:=HA.o.drewN nq;have cL:=fC.o.ak (bJ (au _ w5) nq);obtain⟨w6,og⟩:=ae (w5.drewN nq);rw[og] at hb hA cL ⊢;clear og HA HB fC vd x7 x1 hq;have x5:w6.cell? ⟨b,5,none⟩=some (.int .u32 next):=cL.bf.own.cell 5;have y1:w6.cell? ⟨rb,1,none⟩=some (.int .u32 id):=hA.cell 1;have y2:w6.cell? ⟨rb,2,none⟩=some (.int .i64 (s:Int)):=hA.cell 2;have y3:w6.cell? ⟨rb,3,none⟩=some (.int .i64 t):=hA.cell 3;have HA:=aa hA;have HB:=aa hb;have fC:=aa cL;clear hA hb cL;by_cases c6:next=4294967295
  ·skip;have hq:(next==4294967295)=true:=by simpa using c6
   have Nc6:=aa c6;clear c6;go_wp2_with fail;go_ret;exact nd.no (by unfold lY;rw[if_neg Nc1.o,if_neg Nc2.o,if_neg (Ah.2 Nc3.o),if_neg Lt,if_neg Nc5.o,if_pos Nc6.o]) aN HH.o HB.o
  skip;have hq:(next==4294967295)=false:=by simpa using c6
  have Nc6:=aa c6;have ahy:id=next:=by have:=Nc1.o;omega
  have KN: ∀ y∈L,y.id≠id:=fun y hy e=>by have:=HK.o y hy;omega
  have kA: ∀ y∈L,y.aw≠s:=fun y hy e=>Nc4.o (vR.2 ⟨y,hy,e⟩)
  have Wi:=HH.o.free HK.o;have RH:=aa (UB S b n ar aA next aq L ⟨id,s,t⟩ q w6 fC.o hid KN kA rB (by have:=Nc5.o;omega) (by have:=Nc3.o;exact⟨by show 0≤t;omega,ht⟩) ⟨by show q.hn<id;omega,by show id≤next;omega⟩);have hwx:iE.wrap (next+1)=next+1:=by rw[IntKind.wrap_u32];have:=Nc6.o;omega
  have HN:=aa ahy;clear ahy KN kA Wi c6;go_wp2_with fail;refine RH.o.mono ?_;rintro e w9 ⟨⟨v9,rfl⟩,⟨q9,hq9,hn9⟩,hT9⟩;have x5:w9.cell? ⟨b,5,none⟩=some (.int .u32 next):=hq9.bf.own.cell 5;have m5:=hq9.bf.own.mark 5;have hbl:=hq9.bf.own.lt;have T10:=(aI.refl (fun j=>j=b) w9).put (p:=⟨b,5,none⟩) (.inl rfl) (.int .u32 (next+1));have Mq:=hq9.bf.own.put 5 (.int .u32 (next+1));obtain⟨vq,aab⟩:=ae (w9.setCell ⟨b,5,none⟩ (.int .u32 (next+1)));rw[aab] at T10 Mq;have h10:=hq9.lV (hq9.bf.lV T10 Mq);have ahY:aI S w w9:=(aI.aU HB.o).trans hT9;have ah1:aI S w vq:=ahY.trans (show aI S w9 vq from T10.mono fun k _ e=>by subst e;exact HH.o.bf.bA.1);have HZ:=aa (show w.heap.size≤w6.heap.size∧w9.heap.size≤vq.heap.size from⟨HB.o.size,T10.size⟩);have H10:=aa h10;have alc:=aa ah1;clear hq9 hT9 ahY T10 Mq h10 ah1 hn9 y1 y2 y3;go_wp2_with fail;go_ret;have hr:lY n ar next aq L id s t=0:=by unfold lY;rw[if_neg Nc1.o,if_neg Nc2.o,if_neg (Ah.2 Nc3.o),if_neg Lt,if_neg Nc5.o,if_neg Nc6.o]
  refine⟨by rw[hr];rfl,alc.o,?_⟩;rw[if_pos hr];refine⟨q9,⟨H10.o.bf.mono (fun k hk=>⟨?_,aW hk.2 HZ.o.2⟩) (fun k hk=>hk.2),H10.o.bits,H10.o.cQ,H10.o.under,H10.o.listed,H10.o.small,H10.o.qy⟩⟩;rcases hk.1 with h|h
  ·exact .inl h
  exact .inr (Nat.le_trans HZ.o.1 h)
end Bk
end
section
namespace Bk
open Hp (bR)
def rj(L:List bS)(id:Int)(s:Nat): List bS:=L.map fun y=>if y.id=id then {y with aw:=s}else y
theorem QD(L:List bS)(id:Int)(s:Nat): (rj L id s).length=L.length:=by unfold rj;rw[List.length_map]
theorem lB{L:List bS}{id:Int}{s:Nat}{z:bS}: z∈rj L id s↔∃ y∈L,(if y.id=id then {y with aw:=s}else y)=z:=by unfold rj;rw[nk]
theorem Bz{L:List bS}(hd:L.Pairwise fun x y=>x.id≠y.id){x:bS}(hx:x∈L): rj L x.id x.aw=L:=by
 unfold rj
 conv=>rhs;rw[←List.map_id L]
 refine List.map_congr_left fun y hy=>?_
 by_cases e:y.id=x.id
 ·rw[if_pos e,nJ hd hy hx e];rfl
 rw[if_neg e];rfl
theorem mE.map{L:List bS}{q q':bH}(h:mE L q)(g:bS→bS)(hg: ∀ y,(g y).aS=y.aS∧(g y).id=y.id)(e1:q'.hl=q.hl)(e2:q'.hm=q.hm)(e3:q'.hf=q.hf)(e4:q'.φ=q.φ): mE (L.map g) q':=by
 have hn:ke (L.map g)=ke L:=by
  unfold ke;rw[List.filter_map,List.length_map];congr 2;funext y;show decide (0<(g y).aS)=_
  rw[(hg y).1]
 refine⟨by rw[e1,hn,h.len],by rw[e2,hn,h.cnt],fun z hz hp=>?_,fun y hy=>?_,fun i hi=>?_,by rw[e1,e3];exact h.ord,fun z hz=>?_⟩
 ·obtain⟨y,hy,rfl⟩:=nk.1 hz;rw[(hg y).1] at hp ⊢;rw[(hg y).2,e1,e3,e4];exact h.held y hy hp
 ·rw[e1,e3] at hy;obtain⟨z,hz,r1,r2,r3⟩:=h.items y hy;exact⟨g z,nk.2 ⟨z,hz,rfl⟩,by rw[(hg z).1];exact r1,by rw[(hg z).1,(hg z).2];exact r2,by rw[e4,(hg z).2];exact r3⟩
 ·rw[e4];exact h.free i fun y hy hp=>by
   have:=hi (g y) (nk.2 ⟨y,hy,rfl⟩) (by rw[(hg y).1];exact hp)
   rwa [(hg y).2] at this
 obtain⟨y,hy,rfl⟩:=nk.1 hz;rw[(hg y).2];exact h.ids y hy
def e9(n:Nat)(L:List bS)(x:bS)(s:Nat): Int:=if n≤s then 140 else if s=x.aw then 0 else if Qz L s=true then 170 else 0
def pW(S:Nat→Prop)(w:World)(b n ar:Nat)(aA next aq:Int)(L:List bS)(x:bS)(s:Nat)(e:Ending)(w':World): Prop:=
 e= .returned (.int .i64 (e9 n L x s))∧aI S w w'∧∃ q',bm S w' b n ar aA next aq (if e9 n L x s=0 then rj L x.id s else L) q'
theorem pW.no{S:Nat→Prop}{w w':World}{b n ar:Nat}{aA next aq:Int}{L:List bS}{q:bH}{x:bS}{s:Nat}{r:Int}(hr:e9 n L x s=r)(hz:r≠0)(h:bm S w b n ar aA next aq L q)(hb:Below w.heap.size w w'): pW S w b n ar aA next aq L x s (.returned (.int .i64 r)) w':=
 ⟨by rw[hr],aI.aU hb,q,by rw[hr,if_neg hz];exact h.ak hb⟩
theorem Qu(S:Nat→Prop)(b n ar:Nat)(aA next aq:Int)(L:List bS)(x:bS)(q:bH)(w:World)(s:Nat)(h:bm S w b n ar aA next aq L q)(hd:L.Pairwise fun x y=>x.id≠y.id)(hss:L.Pairwise fun x y=>x.aw≠y.aw)(hk: ∀ x∈L,x.id<next)(hx:x∈L)(hs:s≤1023):
  Calls af 74 #[.pointer (some ⟨b,0,none⟩),.agg #[.int .u32 x.id,.int .i64 x.aw,.int .i64 x.aS],.int .i64 s] w (pW S w b n ar aA next aq L x s):=by
 have hn4:=h.small.2.2.2;have Wi:=h.free hk;obtain⟨i,R9,his,hie,hiv⟩:=h.listed x hx;have Z8:=(h.cQ x hx).1;have pT:=h.qy.ids x hx;have HH:=aa h;have HD:=aa hd;have RD:=aa hss;have HX:=aa hx;have HI:=aa (dy R9 (dy his hie));have HHN:=aa Wi;have iY:=aa (show ∀ k,S k→k<w.heap.size from h.bf.lt);obtain⟨w1,aZ⟩:=ae (w.alloc (.cells #[.int .u32 x.id,.int .i64 x.aw,.int .i64 x.aS] 171));obtain⟨vb,oh⟩:=ae w.heap.size;have hA:=aK aZ oh;have hb1:=aL aZ;have cL:=h.ak hb1;have x0:w1.cell? ⟨b,0,none⟩=some (.int .i64 n):=cL.bf.own.cell 0;have x6:w1.cell? ⟨b,6,none⟩=some (.pointer (some ⟨q.tp,0,none⟩)):=cL.bf.own.cell 6;have y1:=hA.cl 1;have HA:=aa hA;have HB:=aa hb1;have fC:=aa cL;have zb:=aa oh;clear h hd hss hk hx R9 his hie hiv Wi hA hb1 cL;by_cases c1:n≤s
 ·have hq:(n:Int)≤(s:Int):=by omega
  have N1:=aa c1;clear c1;go_enter Tryz.func74,Tryz.ntmps74;go_wp2_with fail;go_ret;exact pW.no (by unfold e9;rw[if_pos N1.o]) aN HH.o HB.o
 have hq1: ¬(n:Int)≤(s:Int):=aj;have N1:=aa c1;by_cases c2:s=x.aw
 ·have hq:((s:Int)==(x.aw:Int))=true:=by simp[c2]
  have hr:e9 n L x s=0:=by unfold e9;rw[if_neg c1,if_pos c2]
  have HR:=aa hr;have N2:=aa c2;clear c1 c2 hr;go_enter Tryz.func74,Tryz.ntmps74;go_wp2_with fail;go_ret;refine⟨by rw[HR.o];rfl,aI.aU HB.o,q,?_⟩;rw[if_pos HR.o,N2.o,Bz HD.o HX.o];exact fC.o
 have CQ:((s:Int)==(x.aw:Int))=false:=by rw[beq_eq_false_iff_ne];omega
 have N2:=aa c2;have rB:s<n:=aj;have RL:=aa (yy.pd q.tp q.tg q.tc n s q.ws w1 fC.o.bf.taken rB aj);by_cases c4:Qz L s=true
 ·have HQ:=aa (show hasB q.ws s=true from by rw[HH.o.on rB];exact c4);have N4:=aa c4;clear c1 c2 c4;go_enter Tryz.func74,Tryz.ntmps74;go_wp2_with fail;refine RL.o.mono ?_;rw[HQ.o];rintro e w9 ⟨rfl,jH⟩;rw[jH];clear jH w9;go_wp2_with fail;go_ret;exact pW.no (by unfold e9;rw[if_neg N1.o,if_neg N2.o,if_pos N4.o]) aN HH.o HB.o
 have HQ:=aa (show hasB q.ws s=false from by rw[HH.o.on rB];simpa using c4);have N4:=aa c4;have hr:e9 n L x s=0:=by unfold e9;rw[if_neg c1,if_neg c2,if_neg c4]
 have HR:=aa hr;have hf0:=HH.o.bf.bA;clear c1 c2 c4 hr;go_enter Tryz.func74,Tryz.ntmps74;go_wp2_with fail;refine RL.o.mono ?_;rw[HQ.o];rintro e w9 ⟨rfl,jH⟩;rw[jH];clear jH w9 RL;go_wp2_with fail;have HC:=aa fC.o.bf;have HT:=aa (show aI S w w1 from aI.aU HB.o);clear fC HB aZ;go_still_tail 6,br;change wpList _ _ _ _ _ w1.drew;have wR:=HC.o.ak (az (au _ _));have HL:=aa (yy.Cf q.tp q.tg q.tc n x.aw q.ws w1.drew wR.taken Z8 aj);clear wR;go_wp2_with fail;refine HL.o.mono ?_;rintro e w2 ⟨rfl,sr,hg4⟩;have KP:aI (· =q.tg) w1.drew w2:=(aI.refl _ _).grown hg4 (fun k e=>.inl (cM e).symm);have hc:=(HC.o.ak (az (au _ _))).qj KP sr;have Ia:aI S w1.drew w2:=KP.mono fun k _ hk=>Lc
 have hA:=vbk iY.o zb.o (show aG w1.drew vb _ _ from HA.o) Ia;have hT:=(HT.o.ak (az (au _ _))).trans Ia;clear HC HT HA HL KP Ia sr hg4 x6 y1 x0;have x8:w2.cell? ⟨b,8,none⟩=some (.slice (some ⟨q.sg,0,none⟩) n q.sc):=hc.own.cell 8;have y1:=hA.cl 1;have HC:=aa hc;have HA:=aa hA;have HT:=aa hT;have HRW:=aa (hc.ak (az (au _ _))).fW;have QQ:(x.aw:Int)<(n:Int):=aj;have hx0:(0:Int)≤(x.aw:Int):=aj;have tu:(n:Int)≤1024:=aj;clear hc hA hT;go_wp2_with fail;go_still_tail 8,br;change wpList _ _ _ _ _ w2.drew;refine cU rfl 171 _ _ rfl HRW.o (fun _=>rfl) x.aw Z8 rfl (je ⟨0,0,0⟩) rfl rfl (sH _) eT ?_;intro w3 hr3 hg3 hs3;have JL:aI (· =q.sg) w2.drew w3:=(aI.refl _ _).grown hg3 (fun k e=>.inl (cM e).symm);rw[rV] at hr3;have hc:=(HC.o.ak (az (au _ _))).nE JL hr3;have Ia:aI S w2.drew w3:=JL.mono fun k _ hk=>Fs
 have hA:=vbk iY.o zb.o (show aG w2.drew vb _ _ from HA.o) Ia;have hT:=(HT.o.ak (az (au _ _))).trans Ia;clear HC HT HA JL Ia hr3 hg3 hs3 x8 y1 HRW;have y1:=hA.cl 1;have m1:=hA.mark 1;have Jq:=hA.lt;have F7:=(aI.refl (fun k=>k=vb) w3).put (p:=⟨vb,1,none⟩) (.inl rfl) (.int .i64 (s:Int));have mZ:=hA.put 1 (.int .i64 (s:Int));obtain⟨w4,hw4⟩:=ae (w3.setCell ⟨vb,1,none⟩ (.int .i64 (s:Int)));rw[hw4] at F7 mZ;have hne: ∀ k,S k→k≠vb:=fun k hk e=>by have:=iY.o k hk;have:=zb.o;omega
 have KO:=hc.same F7.size (fun k hk hl=>F7.block k hl (hne k hk));have jJ:aI S w w4:=⟨F7.os.trans hT.os,F7.tape.trans hT.tape,F7.output.trans hT.output,Nat.le_trans hT.size F7.size,fun k hk hS=>(F7.block k (aW hk hT.size) (fun e=>by have:=zb.o;have e2:k=vb:=e;omega)).trans (hT.block k hk hS)⟩;have x6:w4.cell? ⟨b,6,none⟩=some (.pointer (some ⟨q.tp,0,none⟩)):=KO.own.cell 6;have HC:=aa KO;have HA:=aa mZ;have HT:=aa jJ;have HL:=aa (Ev q.tp q.tg q.tc n s _ w4 KO.taken rB aj);clear hc hA hT F7 mZ KO jJ hne;go_wp2_with fail;refine HL.o.mono ?_;rintro e w5 ⟨rfl,hs5,ft⟩;have KP:aI (· =q.tg) w4 w5:=(aI.refl _ _).grown ft (fun k e=>.inl (cM e).symm);have hc:=HC.o.qj KP hs5;have Ia:aI S w4 w5:=KP.mono fun k _ hk=>Lc
 have hA:=vbk iY.o zb.o HA.o Ia;have hT:=HT.o.trans Ia;clear HC HT HA HL KP Ia hs5 ft x6 y1 m1 Jq hw4;have x8:w5.cell? ⟨b,8,none⟩=some (.slice (some ⟨q.sg,0,none⟩) n q.sc):=hc.own.cell 8;have y0:w5.cell? ⟨vb,0,none⟩=some (.int .u32 x.id):=hA.cell 0;have y1:w5.cell? ⟨vb,1,none⟩=some (.int .i64 (s:Int)):=hA.cell 1;have y2:w5.cell? ⟨vb,2,none⟩=some (.int .i64 x.aS):=hA.cell 2;have HC:=aa hc;have HA:=aa hA;have HT:=aa hT;have HRW:=aa (hc.ak (az (au _ _))).fW;have hsi:(s:Int)<(n:Int):=aj;have hs0:(0:Int)≤(s:Int):=aj;clear hc hA hT;go_wp2_with fail;go_still_tail 7,br;change wpList _ _ _ _ _ w5.drew;refine cU rfl 171 _ _ rfl HRW.o (fun _=>rfl) s rB rfl (je ⟨x.id,s,x.aS⟩) rfl rfl (sH _) eT ?_;intro w6 CP kq VW;have JL:aI (· =q.sg) w5.drew w6:=(aI.refl _ _).grown kq (fun k e=>.inl (cM e).symm);rw[rV] at CP;have hc:=(HC.o.ak (az (au _ _))).nE JL CP;have Ia:aI S w5.drew w6:=JL.mono fun k _ hk=>Fs
 have hA:=vbk iY.o zb.o (show aG w5.drew vb _ _ from HA.o) Ia;have hT:=(HT.o.ak (az (au _ _))).trans Ia;clear HC HT HA JL Ia CP kq VW x8 y0 y1 y2 HRW;have x7:w6.cell? ⟨b,7,none⟩=some (.pointer (some ⟨q.ip,0,none⟩)):=hc.own.cell 7;have y0:w6.cell? ⟨vb,0,none⟩=some (.int .u32 x.id):=hA.cell 0;have HC:=aa hc;have HT:=aa hT;clear hc hA hT;go_wp2_with fail;go_still_tail 7,br;change wpList _ _ _ _ _ w6.drew;have wR:=HC.o.ak (az (au _ _));have HL:=aa (ki.afC q.ip q.ig q.m ar L.length q.gr x.id s q.f w6.drew wR.ids pT HI.o.1 HI.o.2.1 HI.o.2.2);clear wR;go_wp2_with fail;refine HL.o.mono ?_;rintro e w7 ⟨rfl,hi7,hTi⟩;have hc:=(HC.o.ak (az (au _ _))).vX hTi hi7;have Ia:aI S w6.drew w7:=hTi.mono fun k _ hk=>TI
 have hT:=(HT.o.ak (az (au _ _))).trans Ia;clear HC HT HL hTi Ia hi7 x7 y0;have HC:=aa hc;have HT:=aa hT;clear hc hT;go_wp2_with fail;go_ret;have hc:=HC.o;rw[←QD L x.id s] at hc;have hto: ∀ y∈L,y.id=x.id→y=x:=fun y hy e=>nJ HD.o hy HX.o e
 obtain⟨q9,h9⟩: ∃ q9,bm S w7 b n ar aA next aq (rj L x.id s) q9:=by
  refine⟨_,bm.make hc ?_ ?_ ?_ ?_ hn4 (HH.o.qy.map _ (fun y=>by split <;>exact⟨rfl,rfl⟩) rfl rfl rfl rfl)⟩
  ·intro j hj;show hasB (fun k=>if k=s / 64 then(fun k=>if k=x.aw / 64 then q.ws k &&& (18446744073709551615 - 2 ^ (x.aw % 64))else q.ws k) k|||2 ^ (s % 64)else(fun k=>if k=x.aw / 64 then q.ws k &&& (18446744073709551615 - 2 ^ (x.aw % 64))else q.ws k) k) j=true↔_
   rw[JJ,yy.Ei,Bool.or_eq_true,Bool.and_eq_true,HH.o.bits j hj,Bool.not_eq_true',decide_eq_false_iff_not,decide_eq_true_eq];constructor
   ·rintro(⟨⟨y,hy,rfl⟩,hne⟩|rfl)
    ·refine⟨y,lB.2 ⟨y,hy,if_neg fun e=>hne (by rw[hto y hy e])⟩,rfl⟩
    exact⟨{x with aw:=j},lB.2 ⟨x,HX.o,if_pos rfl⟩,rfl⟩
   rintro⟨z,hz,rfl⟩;obtain⟨y,hy,rfl⟩:=lB.1 hz;by_cases e:y.id=x.id
   ·rw[if_pos e];exact .inr rfl
   rw[if_neg e];exact .inl ⟨⟨y,hy,rfl⟩,fun e2=>e (by rw[pP RD.o hy HX.o e2])⟩
  ·intro z hz;show z.aw<n∧cH (cH q.sb x.aw ⟨0,0,0⟩) s ⟨x.id,s,x.aS⟩ z.aw=z
   obtain⟨y,hy,rfl⟩:=lB.1 hz;by_cases e:y.id=x.id
   ·rw[if_pos e,hto y hy e];exact⟨rB,bM _ _ _⟩
   rw[if_neg e];have h1:y.aw≠x.aw:=fun e2=>e (by rw[pP RD.o hy HX.o e2])
   have h2:y.aw≠s:=fun e2=>N4.o (vR.2 ⟨y,hy,e2⟩)
   rw[bl _ _ h2,bl _ _ h1];exact HH.o.cQ y hy
  ·intro a v;show ki.jE (ki.upd q.f i ⟨1,x.id,s⟩) q.m a v↔_
   have hu:=ki.Qc HH.o.bf.ids.tab HI.o.1 HI.o.2.1 (s:Int) a v;rw[HI.o.2.2] at hu;rw[hu,HH.o.tbl];constructor
   ·rintro(⟨⟨y,hy,rfl,r⟩,hne⟩|⟨rfl,rfl⟩)
    ·exact⟨y,lB.2 ⟨y,hy,if_neg hne⟩,rfl,r⟩
    exact⟨{x with aw:=s},lB.2 ⟨x,HX.o,if_pos rfl⟩,rfl,rfl⟩
   rintro⟨z,hz,rfl,r⟩;obtain⟨y,hy,rfl⟩:=lB.1 hz;by_cases e:y.id=x.id
   ·rw[if_pos e] at r ⊢;exact .inr ⟨e,r.symm⟩
   rw[if_neg e] at r ⊢;exact .inl ⟨⟨y,hy,rfl,r⟩,e⟩
  have:=HHN.o;exact⟨by show q.hn≤next;omega,fun e=>absurd (show q.hn=next from e) aj⟩
 exact⟨by rw[HR.o];rfl,HT.o,q9,by rw[if_pos HR.o];exact h9⟩
