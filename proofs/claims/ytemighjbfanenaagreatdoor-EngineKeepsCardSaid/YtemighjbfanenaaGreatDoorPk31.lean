import Derived.Laws.BitsAllLaws
import Derived.Test.YtemighjbfanenaaGreatDoorPk17
set_option linter.all false
set_option maxRecDepth 100000
set_option maxHeartbeats 16000000
namespace Go.Proofs.YtemighjbfanenaaGreatDoor
open RowKit
open yj (fU hasB)
open ky (fc Slot)
open Hp (eO)
open And renaming intro→dy
open Bool renaming not_eq_true→acj
open Go.Calls renaming quiet_of_same→nd
open Go.IntKind renaming u64→cL,u32→iB,i64→aT
open Go.Value renaming int→gJ,oneCell'→eA
open Go.WalkArith renaming wf_i64→lJ
open Int renaming not_le→zN
open List renaming filter_eq_self→Hf,filter_cons_of_neg→jn,mem_map→nc,length_cons→vo,getElem?_take→iY,mem_cons→lT,filter_cons_of_pos→kS,pairwise_cons→He
open Nat renaming pow_lt_pow_right→CB,lt_of_lt_of_le→aP
open Option.some renaming inj→cN
open RowKit.Below renaming refl→aq,heap_setCell→cH
open Tryz renaming underlying3→fC,underlying211→Hb,underlying316→Ha,underlying100→G',prog→af,underlying39→Hc,underlying355→zO
theorem OD{p:Prop}(h:p:=by have:=jd.o _ HS.o.1;have:=HGE.o;simp at e;omega):p:=h
theorem FD{p:Prop}(h:p:=by have:=jd.o _ HS.o.2.2;have:=HGE.o;omega):p:=h
theorem FC{p:Prop}(h:p:=by have:=jd.o _ HS.o.2.1;have:=HGE.o;omega):p:=h
theorem Fw{p:Prop}(h:p:=by have:=jd.o _ e;have:=HGE.o;omega):p:=h
theorem UG{p:Prop}(h:p:=by rcases hk with rfl|rfl;exact hf0.2.2.2.1;exact hf0.2.2.2.2.1):p:=h
theorem p3{p:Prop}(h:p:=by simpa using h):p:=h
theorem LQ{p:Prop}(h:p:=by rw[acj];simpa using Nc4.o):p:=h
theorem LA{p:Prop}(h:p:=by subst hk;exact hf0.2.2.1):p:=h
theorem Lr{p:Prop}(h:p:=by rw[hφ];exact⟨rfl,rfl⟩):p:=h
section
namespace Hp
theorem sy: (af.info? 211).map (·.size)=some 2:=aW
theorem cell_of_heap{w w':World}{p:Nat}(h:w'.heap[p]? =w.heap[p]?)(j:Nat): w'.cell? ⟨p,j,none⟩=w.cell? ⟨p,j,none⟩:=by simp[World.cell?,h]
theorem NJ(S:Nat→Prop)(p:Nat)(next:Int)(f:Nat→eO)(w:World)(h:bP S w p 0 next f):
  Calls af 159 #[.pointer (some ⟨p,0,none⟩)] w fun e w'=>e= .returned (.tuple #[.agg #[.int .i64 0,.int .u32 0],.int .i64 0,.bool false])∧Below w.heap.size w w':=by
 obtain⟨w1,aX⟩:=ae (w.alloc (.cells #[.int .i64 0,.int .u32 0] 211));obtain⟨xr,oc⟩:=ae w.heap.size;have bh:=aH aX oc;have hb1:=aJ aX;obtain⟨iv,mb,φ,hp,hr,hm,hpl,sp,sm⟩:=(eM hb1 h).dQ;obtain⟨A,cap,rfl⟩:=hr.any;have x1:w1.cell? ⟨p,1,none⟩=some (.slice A 0 cap):=hp.cell 1;have HN:=aa (zu p w1 (hp.cell 0));have bu:=aa hb1;have dH:=aa bh;have pS:=aa oc;clear h hp hr hm hpl hb1 bh;go_enter Tryz.func159,Tryz.ntmps159;go_wp2_with fail;refine ah HN.o ?_;obtain⟨w3,hw3⟩:=ae (w1.alloc (.cells #[.int .i64 0,.int .u32 0] 211));obtain⟨xv,hxv⟩:=ae w1.heap.size;have pq:=aa (aH hw3 hxv);have ek:=aa (aJ hw3);have iO:=dH.jS ek.o;go_wp2_with (first|(refine aB rfl 211 _ rfl xv 211 _ pq.o rfl _ Hb rfl sy ?_)|(refine aj rfl 211 _ _ rfl xr 211 _ #[.int .i64 0,.int .u32 0] iO.o rfl rfl rfl sy qO ?_;intro w4 mh hg4 tL;have po:=aa mh;have gI:=aa (show Below w.heap.size w w4 from br (ar bu.o ek.o) hg4 (Nat.le_of_eq pS.o));clear mh hg4 tL));exact bodyPost_ret (kq Tryz.results159 _ iN (aI 211 po.o _ Hb rfl sy)) rfl ⟨rfl,gI.o⟩
theorem NI(S:Nat→Prop)(p l:Nat)(next:Int)(f:Nat→eO)(w:World)(h:bP S w p l next f)(hl:0<l):
  Calls af 159 #[.pointer (some ⟨p,0,none⟩)] w fun e w'=>e= .returned (.tuple #[.agg #[.int .i64 (f 0).aR,.int .u32 (f 0).id],.int .i64 (f 0).aZ,.bool true])∧Below w.heap.size w w':=by
 obtain⟨w1,aX⟩:=ae (w.alloc (.cells #[.int .i64 0,.int .u32 0] 211));obtain⟨xr,oc⟩:=ae w.heap.size;have bh:=aH aX oc;have hb1:=aJ aX;obtain⟨iv,mb,φ,hp,hr,hm,hpl,sp,sm⟩:=(eM hb1 h).dQ;obtain⟨g,cap,rfl,sg,sk,uj,oT⟩:=hr.form hl;have x1:w1.cell? ⟨p,1,none⟩=some (.slice (some ⟨g,0,none⟩) l cap):=hp.cell 1;have ri:=hr.range (fP f) hl;have y0:w1.cell? ⟨g,0,none⟩=some (.int .i64 (f 0).aR):=ri 0 _ rfl;have y1:w1.cell? ⟨g,1,none⟩=some (.int .u32 (f 0).id):=ri 1 _ rfl;have y2:w1.cell? ⟨g,2,none⟩=some (.int .i64 (f 0).aZ):=ri 2 _ rfl;have hl0:((l:Int)==0)=false:=cf;have tr:(0:Int)<(l:Int):=ag;have HN:=aa (zu p w1 (hp.cell 0));have hpx: ¬p=xr:=iz hp bh aM;have hgx: ¬g=xr:=fun e=>FT hr bh aM e.symm
 have HL:=aa (show ¬p=xr∧¬g=xr∧p<w1.heap.size∧g<w1.heap.size from⟨hpx,hgx,hp.lt,oT⟩);have bu:=aa hb1;have dH:=aa bh;have pS:=aa oc;clear h hp hr hm hpl hb1 bh ri hpx hgx;go_enter Tryz.func159,Tryz.ntmps159;go_wp2_with fail;refine ah HN.o ?_;go_wp2_with fail;refine wp_region_held_drew (S:=(fun w'=>w'.cell? ⟨p,1,none⟩=some (.slice (some ⟨g,0,none⟩) l cap)∧w'.cell? ⟨g,0,none⟩=some (.int .i64 (f 0).aR)∧w'.cell? ⟨g,1,none⟩=some (.int .u32 (f 0).id)∧w'.cell? ⟨g,2,none⟩=some (.int .i64 (f 0).aZ))) aW (by exact⟨x1,y0,y1,y2⟩) (fun hHeld=>?_);refine nZ 0 1 2 3 4 5 6 7 ?_;refine OC 8 9 10 11 12 13 ?_;refine cD 14 fun K hK=>?_
 rw[if_pos iN];refine cT 211 _ _ rfl xr 211 _ #[.int .i64 (f 0).aR,.int .u32 (f 0).id] dH.o rfl rfl rfl sy qO ?_;intro w4 mh hg4 tL;have gI:=aa (show Below w.heap.size w w4 from br (ar bu.o (ay (aq _ _))) hg4 (Nat.le_of_eq pS.o));have po:=aa mh;have kp: ∀ j,w4.cell? ⟨p,j,none⟩=w1.cell? ⟨p,j,none⟩:=fun j=>cell_of_heap (hg4.block p HL.o.2.2.1 (fun e=>HL.o.1 (cN e))) j
 have kg: ∀ j,w4.cell? ⟨g,j,none⟩=w1.cell? ⟨g,j,none⟩:=fun j=>cell_of_heap (hg4.block g HL.o.2.2.2 (fun e=>HL.o.2.1 (cN e))) j
 refine hK.out _ _ ⟨(kp 1).trans x1,(kg 0).trans y0,(kg 1).trans y1,(kg 2).trans y2⟩ (fun oX=>?_);clear kp kg mh hg4 tL;clear hK K;try simp only[aQ]
 refine uw 15 16 ?_;refine bF ?_;go_wp2_with fail;exact bodyPost_ret (kq Tryz.results159 _ iN (aI 211 po.o _ Hb rfl sy)) rfl ⟨rfl,by first|exact gI.o|(rw[←pS.o];exact gI.o)⟩
end Hp
end
section
namespace Hp
variable{S:Nat→Prop}{w:World}{l:Nat}
theorem _root_.Go.Proofs.YtemighjbfanenaaGreatDoor.aO.shrink{e:TypeId}{sz n g cap k:Nat}{c:Nat→List Value}(h:aO S w e sz (.slice (some ⟨g,0,none⟩) n cap) n c)(hc: ∀ i,(c i).length=sz)(hk:k≤n): aO S w e sz (.slice (some ⟨g,0,none⟩) k cap) k c:=by
 refine⟨?_,h.block⟩;rcases h.own.2 with⟨hv',_⟩|⟨g',cap',cur,hv',h0,hh,h1,h2,h3,h4⟩
 ·cases hv'
 injection hv' with e1 _ e2
 injection e1 with e1
 injection e1 with e1
 subst e1 e2;refine⟨bZ hc k,.inr ⟨g,cap,cur,rfl,h0,hh,ag,h2,h3,?_⟩⟩;apply List.ext_getElem?;intro j;have hm:k*sz≤n*sz:=Nat.mul_le_mul_right sz hk;rcases Nat.lt_or_ge j (k*sz)with hj|hj
 ·have hsz:0<sz:=by rcases Nat.eq_zero_or_pos sz with h0|h0;· subst h0;omega
                    exact h0
  have Ic:j / sz<k:=(Nat.div_lt_iff_lt_mul hsz).2 hj;have M1:j % sz<sz:=Nat.mod_lt _ hsz;have hke:j / sz*sz+j % sz=j:=by rw[Nat.mul_comm];exact Nat.div_add_mod j sz
  have q1:(flat c n)[j]? =(flat c k)[j]?:=by
   conv=>lhs;rw[←hke]
   conv=>rhs;rw[←hke]
   rw[gD hc ag M1,gD hc Ic M1]
  rw[←q1,←h4,iY,if_pos hj,iY,if_pos ag]
 rw[iY,if_neg ag,List.getElem?_eq_none (by rw[bZ hc k];exact hj)]
theorem _root_.Go.Proofs.YtemighjbfanenaaGreatDoor.aO.congr{e:TypeId}{sz n:Nat}{v:Value}{c d:Nat→List Value}(h:aO S w e sz v n c)(hc: ∀ i,i<n→c i=d i): aO S w e sz v n d:=⟨iT hc▸h.own,h.block⟩
theorem lx{P:Program}{ops:Array Oper}{rest:List Oper}{o:Oper}{a:Act}{Q:Exit→Act→World→Prop}
  (hg:o.guard=none) (m x:Operand) (t k:TypeId) (hop:o.op= .call {callee:=.builtin .delete,args:=#[m,x],argTypes:=#[t,k]}) (e:TypeId) (q:IntKind) (hk:P.underlying k=some (.int q)) (ht:P.underlying t=some (.map k e))
  (b n:Nat) (φ:Int→Option Int) (hm:a.eval m= .map (some b)) (h:dt P k e q w b n φ) (i:Int) (hx:a.eval x= .int q i) (hi:(Lit.int q i).wf=true)
  (hK: ∀ w',dt P k e q w' b (if(φ i).isSome then n - 1 else n) (tK φ i none)→w.grownBy w' (some b)→wpList P ops Q rest (a.put o.dst (.tuple #[])) w') :
  wpList P ops Q (o::rest) a w:=by
 refine wpList_plain hg fun K' hK'=>?_
 obtain⟨w',hrun,r1,r2⟩:=h.drop hk ht hi o.type;unfold Oper.wp;simp[execOp,hop,resolve,invoke,builtin,hm,hx,hrun,Result.andThen];exact hK' _ _ (hK w' r1 r2)
theorem kj.take{f:Nat→eO}{φ:Int→Option Int}(h:kj f (l+1) φ): kj f l (tK φ (f l).aZ Option.none):=by
 refine⟨fun i hi=>?_,fun x i hx=>?_⟩
 ·have hne:(f i).aZ≠(f l).aZ:=fun e=>by have:=h.inj ag ag e;omega
  rw[cQ _ _ hne];exact h.1 i ag
 by_cases e:x=(f l).aZ
 ·subst e;rw[fy] at hx;cases hx
 rw[cQ _ _ e] at hx;obtain⟨j,hj,e1,e2⟩:=h.2 x i hx;exact⟨j,by have:j≠l:=fun e3=>e (by rw[←e2,e3]);omega,e1,e2⟩
theorem Mg(f:Nat→eO)(l:Nat): rP f l l=f:=if_pos rfl
theorem IY(f:Nat→eO){a:Nat} (h:a≠l): rP f l a=gm (cP f a l) l a:=if_neg h
theorem bP.cut{p g cap mb nm:Nat} {next:Int}{f:Nat→eO}{φ:Int→Option Int}(hp:aD w p 319 #[qT,.slice (some ⟨g,0,none⟩) l cap,.map (some mb),.int .i64 next])(hr:aO S w 355 3 (.slice (some ⟨g,0,none⟩) l cap) l (gA f))(hm:dt af 3 3 .i64 w mb nm (tK φ (f l).aZ Option.none))(hnm:nm=l)(hpl:kj f (l+1) φ)(sp:S p)(sm:S mb)
  (hb:l+1≤65536∧0≤next∧next≤1099511627776∧∀ i,i<l+1→0≤(f i).aZ∧(f i).aZ<next):bP S w p l next f:=
 ⟨⟨_,mb,_,hp,hr,hnm▸hm,hpl.take,sp,sm⟩,ag,hb.2.1,hb.2.2.1,fun i hi=>hb.2.2.2 i ag⟩
theorem zn(S:Nat→Prop)(p l a:Nat)(next:Int)(f:Nat→eO)(w:World)(h:bP S w p (l+1) next f)(hS: ∀ k,S k→k<w.heap.size)(ha:a≤l):
  Calls af 246 #[.pointer (some ⟨p,0,none⟩),.int .i64 a] w fun e w'=>(∃ v,e= .returned v)∧bP S w' p l next (rP f l a)∧aG S w w':=by
 obtain⟨w1,aX⟩:=ae (w.alloc (.cells #[.int .i64 0,.int .u32 0,.int .i64 0] 355));obtain⟨xr,oc⟩:=ae w.heap.size;have bh:=aH aX oc;have hb1:=aJ aX;have lf:=eM hb1 h;have su:aG S w w1:=(aG.refl S w).ai hb1;obtain⟨w2,hw2⟩:=ae (w1.alloc (.cells #[.int .i64 (f a).aR,.int .u32 (f a).id,.int .i64 (f a).aZ] 355));obtain⟨vb,mN⟩:=ae w1.heap.size;have hV2:=aH hw2 mN;have hb2:=aJ hw2;have qY:=eM hb2 lf;have hX2:=bh.keep hb2;have jL:=su.ai hb2;obtain⟨iv,mb,φ,hp,hr,hm,hpl,sp,sm⟩:=lf.dQ;obtain⟨g,cap,rfl,sg,sk,uj,oT⟩:=hr.form ag;have x1:w1.cell? ⟨p,1,none⟩=some (.slice (some ⟨g,0,none⟩) (l+1:Nat) cap):=hp.cell 1;have u1:w2.cell? ⟨p,1,none⟩=some (.slice (some ⟨g,0,none⟩) (l+1:Nat) cap):=(hp.keep hb2).cell 1;have ri:=hr.range (fP f) (show a<l+1 from ag);have y0:w1.cell? ⟨g,a*3,none⟩=some (.int .i64 (f a).aR):=ri 0 _ rfl;have y1:w1.cell? ⟨g,a*3+1,none⟩=some (.int .u32 (f a).id):=ri 1 _ rfl;have y2:w1.cell? ⟨g,a*3+2,none⟩=some (.int .i64 (f a).aZ):=ri 2 _ rfl;have gQ:=h.bound;have MZ:l+1≤65536:=gQ.1;have jd:=aa hS;have Tx:=aa (show -9223372036854775808≤(f a).aZ∧(f a).aZ≤9223372036854775807 by have:=gQ.2.2.2 a ag;omega);have HGE:=aa (show w.heap.size≤xr∧w.heap.size≤vb by rw[←oc,←mN,←aX];simp);have ha1:(a:Int)<(l:Int)+1:=ag;have ha0:(0:Int)≤(a:Int):=ag;have hw0:aT.wrap ((l:Int)+1 - 1)=(l:Int):=by rw[IntKind.wrap_i64];omega
 have ze:=aa qY;have HV2:=aa hV2;have Ip:=aa hX2;have gV:=aa jL;have HW:=aa (dy oc mN);have CQ:=aa hr;clear lf qY hV2 hX2 jL su bh hb1 hb2 hp hr hm hpl sp sm sg ri gQ h hS;rcases Nat.eq_or_lt_of_le ha with RT|RT
 ·have hne:((a:Int) != (l:Int))=false:=by simp[RT]
  have hlt:decide ((a:Int)<(l:Int))=false:=by simp[RT]
  have Gg: ¬(a:Int)<(l:Int):=ag;have Ty:=aa RT;clear RT ha;obtain⟨w3,hw3⟩:=ae (w2.alloc (.cells #[.int .i64 0,.int .u32 0,.int .i64 0] 355));obtain⟨xz,hxz⟩:=ae w2.heap.size;have dB:=aH hw3 hxz;have hb3:=aJ hw3;have fw:=eM hb3 ze.o;have hV3:=HV2.o.keep hb3;have hX3:=Ip.o.keep hb3;have kv:=gV.o.ai hb3;obtain⟨iv,mb,φ,hp,hr,hm,hpl,sp,sm⟩:=fw.dQ;obtain⟨g,cap,rfl,sg,sk,uj,oT⟩:=hr.form ag;have gQ:=fw.bound;have q1:w3.cell? ⟨p,1,none⟩=some (.slice (some ⟨g,0,none⟩) (l+1:Nat) cap):=hp.cell 1;have z0:=dB.cl 0;have z1:=dB.cl 1;have z2:=dB.cl 2;have tr:(l:Int)<(l:Int)+1:=ag;have hl0:(0:Int)≤(l:Int):=ag;have HP:=aa hp;have HR:=aa (show aO S w3.drew 355 3 (.slice (some ⟨g,0,none⟩) (l+1:Nat) cap) (l+1) (gA f)from hr.same fun _ _ _=>rfl);have HM:=aa hm;have NR:=aa hpl;have Tw:=aa gQ;have HS:=aa (dy sp (dy sm sg));have HV3:=aa hV3;have NL:=aa hX3;have jR:=aa kv;have HXZ:=aa hxz;clear fw hV3 hX3 kv hp hr hm hpl hb3 dB gQ sp sm sg;go_enter Tryz.func246,Tryz.ntmps246;go_wp2_with fail;go_still_tail 7,aW;change wpList _ _ _ _ _ w3.drew;refine cU rfl 355 _ _ rfl HR.o (fP _) l ag rfl [.int .i64 0,.int .u32 0,.int .i64 0] rfl rfl Ma ir ?_;intro w4 hr4 hg4 tL;have xN:p≠g:=HR.o.mr rfl (show aD w3.drew p _ _ from HP.o) aM;have Td:mb≠g:=HR.o.My rfl (HM.o.same (w':=w3.drew) rfl);have KY:p≠mb:=dn HM.o HP.o;have Sa:aG (· =g) w3 w4:=((aG.refl _ _).ai (ay (aq _ _))).grown hg4 (fun k e=>.inl (cN e).symm);have uh:=Sa.arr HP.o xN;have xM:=HM.o.same (Sa.block mb HM.o.lt Td);have hV4:=Sa.arr HV3.o (fun e=>FD);have hX4:=Sa.arr NL.o (fun e=>FD);have jU:aG S w w4:=jR.o.trans (Sa.mono fun k _ hk=>by subst hk;exact HS.o.2.2);have yX:aO S w4 355 3 (.slice (some ⟨g,0,none⟩) l cap) l (gA f):=(hr4.shrink (fun i=>by unfold cO;split;rfl;rfl) ag).congr fun i hi=>bj _ _ ag
  have q1:w4.cell? ⟨p,1,none⟩=some (.slice (some ⟨g,0,none⟩) (l+1:Nat) cap):=uh.cell 1;have m1:=uh.mark 1;have afG:=uh.lt;have hlc:(l:Int)≤(cap:Int):=ag;have Ia:=uh.put 1 (.slice (some ⟨g,0,none⟩) l cap);have sf:=yX.put (q:=⟨p,1,none⟩) (fun k hk=>by injection hk with hk;exact hk▸xN) (.slice (some ⟨g,0,none⟩) l cap);have rD:dt af 3 3 .i64 (w4.setCell ⟨p,1,none⟩ (.slice (some ⟨g,0,none⟩) l cap)) mb (l+1) φ:=xM.same (cH w4 ⟨p,1,none⟩ _ mb (fun e=>KY e.symm));have hV5:=hV4.other (p:=⟨p,1,none⟩) (fun e=>OD) (.slice (some ⟨g,0,none⟩) l cap);have hX5:=hX4.other (p:=⟨p,1,none⟩) (fun e=>OD) (.slice (some ⟨g,0,none⟩) l cap);have oz:=jU.put (p:=⟨p,1,none⟩) (.inl HS.o.1) (.slice (some ⟨g,0,none⟩) l cap);obtain⟨w5,jK⟩:=ae (w4.setCell ⟨p,1,none⟩ (.slice (some ⟨g,0,none⟩) l cap));rw[jK] at Ia sf rD hV5 hX5 oz;have q2:w5.cell? ⟨p,2,none⟩=some (.map (some mb)):=Ia.cell 2;have v2:=hV5.cl 2;have Dx:=aa Ia;have rF:=aa sf;have CS:=aa (show dt af 3 3 .i64 w5.drew mb (l+1) φ from rD);have HV5:=aa hV5;have Sm:=aa hX5;have pg:=aa oz;have HN:=aa (dy xN (dy Td KY));clear hr4 hg4 tL xN Td KY Sa uh xM hV4 hX4 jU yX Ia sf rD hV5 hX5 oz z0 z1 z2 HP HR HM HV3 NL jR;go_wp2_with fail;go_still_tail 6,aW;change wpList _ _ _ _ _ w5.drew;refine lx rfl _ _ 316 3 rfl 3 .i64 fC Ha mb (l+1) φ rfl CS.o (f a).aZ rfl (lJ Tx.o) ?_;intro w6 CM jG;have lM:(f a).aZ=(f l).aZ:=by rw[Ty.o]
  have hsome:(φ (f a).aZ).isSome=true:=by rw[lM,NR.o.1 l ag];rfl
  rw[if_pos hsome,lM] at CM;have Yr:aG (· =mb) w5 w6:=((aG.refl _ _).ai (ay (aq _ _))).grown jG (fun k e=>.inl (cN e).symm);have zz:=Yr.arr Dx.o HN.o.2.2;have CK:=rF.o.pH (w':=w6) ⟨jG.os,jG.tape,jG.output,jG.size,jG.block⟩ (fun e=>HN.o.2.1 e.symm);have JX:bP S w6 p l next f:=bP.cut zz CK CM ag NR.o HS.o.1 HS.o.2.1 Tw.o;have hV6:=Yr.arr HV5.o (fun e=>FC);have hX6:=Yr.arr Sm.o (fun e=>FC);have pQ:aG S w w6:=pg.o.trans (Yr.mono fun k _ hk=>by subst hk;exact HS.o.2.1);have lp:=aa JX;have HV6:=aa hV6;have KC:=aa hX6;have vu:=aa pQ;clear CM jG lM hsome Yr zz CK JX hV6 hX6 pQ Dx rF CS HV5 Sm pg HN q1 q2 v2 m1 afG oT;go_wp2_with (first|(refine aB rfl 355 _ rfl vb 355 _ HV6.o rfl _ zO rfl ir ?_)|(refine aj rfl 355 _ _ rfl xr 355 _ #[.int .i64 (f a).aR,.int .u32 (f a).id,.int .i64 (f a).aZ] KC.o rfl rfl rfl ir qO ?_;intro w8 Nh Xr hs8;have zg:=aa Nh;have Zq:=aa Xr;clear Nh Xr hs8));have TT:aG (· =xr) w6 w8:=(aG.refl _ _).grown Zq.o (fun k e=>.inl (cN e).symm);refine bodyPost_ret (dx Tryz.results246 _ iN (aI 355 zg.o _ zO rfl ir)) rfl ⟨⟨_,rfl⟩,?_,(vu.o.grown Zq.o (fun k e=>.inr (by have:=HGE.o;have:=cN e;omega)))⟩;rw[Ty.o,Mg];exact lp.o.same fun k hk hl=>TT.block k hl (fun e=>by have:=jd.o _ hk;have:=HGE.o;omega)
 ·have hne:((a:Int) != (l:Int))=true:=by simp;omega
  have hlt:decide ((a:Int)<(l:Int))=true:=fH;have Gg:(a:Int)<(l:Int):=ag;have Ty:=aa RT;clear RT ha;go_enter Tryz.func246,Tryz.ntmps246;go_wp2_with fail;refine(zo S p (l+1) a l next f w2 ze.o (by have:=Ty.o;omega) ag).mono ?_;rintro e TJ ⟨⟨v3,rfl⟩,Gj,BL⟩;have af6:=BL.arr HV2.o (fun e=>Fw);have af5:=BL.arr Ip.o (fun e=>Fw);have BL:=gV.o.trans BL;clear u1 y0 y1 y2 x1 hw2;obtain⟨w2,hw2⟩: ∃ w2,w2=TJ:=⟨_,rfl⟩;rw[←hw2] at Gj af6 af5 BL ⊢;clear ze HV2 Ip gV hw2;have ze:=aa Gj;have HV2:=aa af6;have Ip:=aa af5;have gV:=aa BL;clear Gj af6 af5 BL;obtain⟨w3,hw3⟩:=ae (w2.alloc (.cells #[.int .i64 0,.int .u32 0,.int .i64 0] 355));obtain⟨xz,hxz⟩:=ae w2.heap.size;have dB:=aH hw3 hxz;have hb3:=aJ hw3;have fw:=eM hb3 ze.o;have hV3:=HV2.o.keep hb3;have hX3:=Ip.o.keep hb3;have kv:=gV.o.ai hb3;obtain⟨iv,mb,φ,hp,hr,hm,hpl,sp,sm⟩:=fw.dQ;obtain⟨g,cap,rfl,sg,sk,uj,oT⟩:=hr.form ag;have gQ:=fw.bound;have q1:w3.cell? ⟨p,1,none⟩=some (.slice (some ⟨g,0,none⟩) (l+1:Nat) cap):=hp.cell 1;have z0:=dB.cl 0;have z1:=dB.cl 1;have z2:=dB.cl 2;have tr:(l:Int)<(l:Int)+1:=ag;have hl0:(0:Int)≤(l:Int):=ag;have HP:=aa hp;have HR:=aa (show aO S w3.drew 355 3 (.slice (some ⟨g,0,none⟩) (l+1:Nat) cap) (l+1) (gA (cP f a l))from hr.same fun _ _ _=>rfl);have HM:=aa hm;have NR:=aa hpl;have Tw:=aa gQ;have HS:=aa (dy sp (dy sm sg));have HV3:=aa hV3;have NL:=aa hX3;have jR:=aa kv;have HXZ:=aa hxz;clear fw hV3 hX3 kv hp hr hm hpl hb3 dB gQ sp sm sg;go_wp2_with fail;go_still_tail 7,aW;change wpList _ _ _ _ _ w3.drew;refine cU rfl 355 _ _ rfl HR.o (fP _) l ag rfl [.int .i64 0,.int .u32 0,.int .i64 0] rfl rfl Ma ir ?_;intro w4 hr4 hg4 tL;have xN:p≠g:=HR.o.mr rfl (show aD w3.drew p _ _ from HP.o) aM;have Td:mb≠g:=HR.o.My rfl (HM.o.same (w':=w3.drew) rfl);have KY:p≠mb:=dn HM.o HP.o;have Sa:aG (· =g) w3 w4:=((aG.refl _ _).ai (ay (aq _ _))).grown hg4 (fun k e=>.inl (cN e).symm);have uh:=Sa.arr HP.o xN;have xM:=HM.o.same (Sa.block mb HM.o.lt Td);have hV4:=Sa.arr HV3.o (fun e=>FD);have hX4:=Sa.arr NL.o (fun e=>FD);have jU:aG S w w4:=jR.o.trans (Sa.mono fun k _ hk=>by subst hk;exact HS.o.2.2);have yX:aO S w4 355 3 (.slice (some ⟨g,0,none⟩) l cap) l (gA (cP f a l)):=(hr4.shrink (fun i=>by unfold cO;split;rfl;rfl) ag).congr fun i hi=>bj _ _ ag
  have q1:w4.cell? ⟨p,1,none⟩=some (.slice (some ⟨g,0,none⟩) (l+1:Nat) cap):=uh.cell 1;have m1:=uh.mark 1;have afG:=uh.lt;have hlc:(l:Int)≤(cap:Int):=ag;have Ia:=uh.put 1 (.slice (some ⟨g,0,none⟩) l cap);have sf:=yX.put (q:=⟨p,1,none⟩) (fun k hk=>by injection hk with hk;exact hk▸xN) (.slice (some ⟨g,0,none⟩) l cap);have rD:dt af 3 3 .i64 (w4.setCell ⟨p,1,none⟩ (.slice (some ⟨g,0,none⟩) l cap)) mb (l+1) φ:=xM.same (cH w4 ⟨p,1,none⟩ _ mb (fun e=>KY e.symm));have hV5:=hV4.other (p:=⟨p,1,none⟩) (fun e=>OD) (.slice (some ⟨g,0,none⟩) l cap);have hX5:=hX4.other (p:=⟨p,1,none⟩) (fun e=>OD) (.slice (some ⟨g,0,none⟩) l cap);have oz:=jU.put (p:=⟨p,1,none⟩) (.inl HS.o.1) (.slice (some ⟨g,0,none⟩) l cap);obtain⟨w5,jK⟩:=ae (w4.setCell ⟨p,1,none⟩ (.slice (some ⟨g,0,none⟩) l cap));rw[jK] at Ia sf rD hV5 hX5 oz;have q2:w5.cell? ⟨p,2,none⟩=some (.map (some mb)):=Ia.cell 2;have v2:=hV5.cl 2;have Dx:=aa Ia;have rF:=aa sf;have CS:=aa (show dt af 3 3 .i64 w5.drew mb (l+1) φ from rD);have HV5:=aa hV5;have Sm:=aa hX5;have pg:=aa oz;have HN:=aa (dy xN (dy Td KY));clear hr4 hg4 tL xN Td KY Sa uh xM hV4 hX4 jU yX Ia sf rD hV5 hX5 oz z0 z1 z2 HP HR HM HV3 NL jR;go_wp2_with fail;go_still_tail 6,aW;change wpList _ _ _ _ _ w5.drew;refine lx rfl _ _ 316 3 rfl 3 .i64 fC Ha mb (l+1) φ rfl CS.o (f a).aZ rfl (lJ Tx.o) ?_;intro w6 CM jG;have lM:(f a).aZ=((cP f a l) l).aZ:=by rw[OS]
  have hsome:(φ (f a).aZ).isSome=true:=by rw[lM,NR.o.1 l ag];rfl
  rw[if_pos hsome,lM] at CM;have Yr:aG (· =mb) w5 w6:=((aG.refl _ _).ai (ay (aq _ _))).grown jG (fun k e=>.inl (cN e).symm);have zz:=Yr.arr Dx.o HN.o.2.2;have CK:=rF.o.pH (w':=w6) ⟨jG.os,jG.tape,jG.output,jG.size,jG.block⟩ (fun e=>HN.o.2.1 e.symm);have JX:bP S w6 p l next (cP f a l):=bP.cut zz CK CM ag NR.o HS.o.1 HS.o.2.1 Tw.o;have hV6:=Yr.arr HV5.o (fun e=>FC);have hX6:=Yr.arr Sm.o (fun e=>FC);have pQ:aG S w w6:=pg.o.trans (Yr.mono fun k _ hk=>by subst hk;exact HS.o.2.1);have lp:=aa JX;have HV6:=aa hV6;have KC:=aa hX6;have vu:=aa pQ;clear CM jG lM hsome Yr zz CK JX hV6 hX6 pQ Dx rF CS HV5 Sm pg HN q1 q2 v2 m1 afG oT;go_wp2_with fail;refine(DZ S p l a next _ w6 lp.o (by have:=Ty.o;omega)).mono ?_;rintro e w7 ⟨⟨v7,rfl⟩,hI7,hT7⟩;have hV7:=hT7.arr HV6.o (fun e=>Fw);have hX7:=hT7.arr KC.o (fun e=>Fw);have hT7:=vu.o.trans hT7;clear lp HV6 KC vu;have lp:=aa hI7;have HV6:=aa hV7;have KC:=aa hX7;have vu:=aa hT7;clear hI7 hV7 hX7 hT7;go_wp2_with (first|(refine aB rfl 355 _ rfl vb 355 _ HV6.o rfl _ zO rfl ir ?_)|(refine aj rfl 355 _ _ rfl xr 355 _ #[.int .i64 (f a).aR,.int .u32 (f a).id,.int .i64 (f a).aZ] KC.o rfl rfl rfl ir qO ?_;intro w8 Nh Xr hs8;have zg:=aa Nh;have Zq:=aa Xr;clear Nh Xr hs8));have TT:aG (· =xr) w7 w8:=(aG.refl _ _).grown Zq.o (fun k e=>.inl (cN e).symm);refine bodyPost_ret (dx Tryz.results246 _ iN (aI 355 zg.o _ zO rfl ir)) rfl ⟨⟨_,rfl⟩,?_,(vu.o.grown Zq.o (fun k e=>.inr (by have:=HGE.o;have:=cN e;omega)))⟩;rw[IY f (by have:=Ty.o;omega)];exact lp.o.same fun k hk hl=>TT.block k hl (fun e=>by have:=jd.o _ hk;have:=HGE.o;omega)
end Hp
end
section
namespace Hp
theorem GQ(S:Nat→Prop)(p l i:Nat)(next:Int)(f:Nat→eO)(w:World)(h:bP S w p (l+1) next f)(hS: ∀ k,S k→k<w.heap.size)(hi:i≤l):
  Calls af 161 #[.pointer (some ⟨p,0,none⟩),.int .i64 (f i).aZ] w fun e w'=>e= .returned (.bool true)∧bP S w' p l next (rP f l i)∧aG S w w':=by
 obtain⟨iv,mb,φ,hp,hr,hm,hpl,sp,sm⟩:=h.dQ;have x2:w.cell? ⟨p,2,none⟩=some (.map (some mb)):=hp.cell 2;have hφ:φ (f i).aZ=some (i:Int):=hpl.1 i ag;have gQ:=h.bound.2.2.2 i ag;have HW:=aa (show -9223372036854775808≤(f i).aZ∧(f i).aZ≤9223372036854775807 by have:=h.bound.2.2.1;omega);have HN:=aa (zu p w (hp.cell 0));have HM:=aa hm;have HT:=aa (zn S p l i next f w h hS hi);clear h hp hr hm hpl sp sm hS gQ;have HE:=aa (show(φ (f i).aZ).getD 0=(i:Int)∧(φ (f i).aZ).isSome=true from Lr);go_enter Tryz.func161,Tryz.ntmps161;go_wp2_with fail;refine ah HN.o ?_;go_wp2_with (refine lu rfl _ _ 316 rfl 3 3 .i64 fC fC Ha (Jl _) mb (l+1) φ rfl HM.o (f i).aZ rfl (lJ HW.o) ?_;rw[HE.o.1,HE.o.2]);refine HT.o.mono ?_;rintro e w3 ⟨⟨v3,rfl⟩,fw,kv⟩;have gH:=aa fw;have jR:=aa kv;clear fw kv;go_wp2_with fail;go_ret;exact⟨rfl,gH.o,jR.o⟩
end Hp
end
section
namespace yj
theorem Nz(x k:Nat)(hx:x<18446744073709551616)(hk:k<64): Go.bits BinOp.andNot cL (x:Int) (cL.wrap (2 ^ k))=((x &&& (18446744073709551615 - 2 ^ k):Nat):Int):=by
 have h1:(2:Nat) ^ k<18446744073709551616:=CB (n:=64) aM hk;have e:cL.wrap ((2:Int) ^ k)=((2 ^ k:Nat):Int):=by
  rw[show((2:Int) ^ k)=((2 ^ k:Nat):Int)from dA,IntKind.wrap_u64];generalize(2:Nat) ^ k=y at h1;omega
 rw[e,u64_andNot_nat x (2 ^ k) hx h1]
theorem DM(p g c n i:Nat)(ws:Nat→Nat)(w:World)(h:fU w p g c n ws)(hi:i<n)(hn:n≤1000000): Calls af 247 #[.pointer (some ⟨p,0,none⟩),.int .i64 i,.bool false] w fun e w'=>e= .returned (.int .i64 0)∧fU w' p g c n (fun j=>if j=i / 64 then ws j &&& (18446744073709551615 - 2 ^ (i % 64))else ws j)∧w.grownBy w' (some g):=by
 have x0:=h.own.cl 0;have x1:=h.own.cl 1;have x2:=h.own.cl 2;obtain⟨q,hq⟩:=ae (i / 64);obtain⟨k,hk⟩:=ae (i % 64);have hqn:q<(n+63) / 64:=ag;obtain⟨y0,m0⟩:=h.word hqn;have e1:(i:Int) / 64=(q:Int):=ag;have e2:(i:Int) % 64=(k:Int):=ag;obtain⟨nw,Xd⟩:=ae ((n+63) / 64);rw[Xd] at x2 hqn;rw[hq,hk];have ait:(q:Int)<(nw:Int):=ag;have W6:(0:Int)≤(q:Int):=ag;have Xm:k<64:=ag;have kC:(i:Int)<(n:Int):=ag;have yZ:(0:Int)≤(i:Int):=ag;have zy:p≠g:=h.apart;have t1:(i:Int).tmod 64=(k:Int):=Ut;have Eh:(0:Int)≤(k:Int):=ag;have v1:aT.wrap (q:Int)=(q:Int):=IntWalk.i64_in _ ag;have v2:aT.wrap (k:Int)=(k:Int):=IntWalk.i64_in _ ag;have HS:=aa h;clear h hq hk Xd;go_enter Tryz.func247,Tryz.ntmps247;go_wp2_with fail;refine ah (Yq p _ x0) ?_;go_wp2_with fail;have hS:w.cell? ⟨p,2,none⟩=some (.slice (some ⟨g,0,none⟩) nw c)∧w.cell? ⟨g,q,none⟩=some (.int .u64 (ws q))∧w.frozen? ⟨g,q,none⟩=false:=⟨x2,y0,m0⟩;go_still_tail 13,aW;change wpList _ _ _ _ _ w.drew;have XJ:w.drew.cell? ⟨p,2,none⟩=some (.slice (some ⟨g,0,none⟩) nw c)∧w.drew.cell? ⟨g,q,none⟩=some (.int .u64 (ws q))∧w.drew.frozen? ⟨g,q,none⟩=false:=hS;obtain⟨z1,z2,z3⟩:=XJ;obtain⟨w2,hw2⟩:=ae w.drew;rw[hw2] at z1 z2 z3 ⊢;have Gz:=aa hw2;clear hw2 hS;go_wp2_with fail;go_ret;rw[Nz _ _ (HS.o.small q) Xm,←Gz.o];have h0:=HS.o;have kY:w.grownBy w.drew (some g):=⟨rfl,rfl,rfl,Nat.le_refl _,fun _ _ _=>rfl⟩;have hg2:w.drew.grownBy (w.drew.setCell ⟨g,q,none⟩ (.int .u64 ((ws q &&& (18446744073709551615 - 2 ^ k):Nat):Int))) (some g):=⟨rfl,rfl,rfl,dA,fun j _ hj=>cH _ _ _ j (fun e=>hj mj)⟩;obtain⟨cur,r1,r2⟩:=h0.row;refine⟨rfl,⟨aD.other (aD.drew h0.own) zy _,⟨cur.setIfInBounds q (.int .u64 ((ws q &&& (18446744073709551615 - 2 ^ k):Nat):Int)),?_,fun j hj=>?_⟩,fun j=>?_,zy⟩,kY.trans hg2⟩
 ·have r3:w.drew.heap[g]? =some (.cells cur 22 (0,0)):=r1;simp[World.setCell,Array.getElem?_modify,r3]
 ·rw[Array.getElem?_setIfInBounds];by_cases e:j=q
  ·subst e;have hc:j<cur.size:=(Array.getElem?_eq_some_iff.1 (r2 j hj)).1;rw[if_pos rfl,if_pos hc];simp
  rw[if_neg (fun h=>e h.symm),if_neg e];exact r2 j hj
 by_cases e:j=q
 ·rw[if_pos e];exact Nat.lt_of_le_of_lt Nat.and_le_left (h0.small j)
 rw[if_neg e];exact h0.small j
theorem B3(p g c n i:Nat)(ws:Nat→Nat)(w:World)(h:fU w p g c n ws)(hi:i<n)(hn:n≤1000000): Calls af 163 #[.pointer (some ⟨p,0,none⟩),.int .i64 i] w fun e w'=>e= .returned (.int .i64 0)∧fU w' p g c n (fun j=>if j=i / 64 then ws j &&& (18446744073709551615 - 2 ^ (i % 64))else ws j)∧w.grownBy w' (some g):=by
 have HC:=aa (DM p g c n i ws w h hi hn);clear h;go_enter Tryz.func163,Tryz.ntmps163;exact ac4
theorem Ew(ws:Nat→Nat)(i j:Nat): hasB (fun k=>if k=i / 64 then ws k &&& (18446744073709551615 - 2 ^ (i % 64))else ws k) j=(hasB ws j && !decide (j=i)):=by
 unfold hasB;show(if j / 64=i / 64 then ws (j / 64) &&& (18446744073709551615 - 2 ^ (i % 64))else ws (j / 64)).testBit (j % 64)=_
 by_cases h:j / 64=i / 64
 ·have hk:i % 64<64:=by omega
  have h2:(2:Nat) ^ (i % 64)<2 ^ 64:=CB aM hk;have h3:(18446744073709551615:Nat) - 2 ^ (i % 64)=2 ^ 64 - (2 ^ (i % 64)+1):=ag;rw[if_pos h,Nat.testBit_and,h3,Nat.testBit_two_pow_sub_succ h2,Nat.testBit_two_pow];have h4:decide (j % 64<64)=true:=zD;rw[h4,Bool.true_and];congr 2;rw[Bool.eq_iff_iff,decide_eq_true_eq,decide_eq_true_eq];omega
 rw[if_neg h];have:decide (j=i)=false:=decide_eq_false (fun e=>h mj);rw[this,Bool.not_false,Bool.and_true]
end yj
end
section
namespace Bk
open Hp (bP)
def without(L:List bU)(id:Int): List bU:=L.filter fun y=>!decide (y.id=id)
theorem cB{L:List bU}{id:Int}{y:bU}: y∈without L id↔y∈L∧y.id≠id:=by unfold without;rw[List.mem_filter];simp
theorem nD: ∀ {L:List bU},(L.Pairwise fun x y=>x.id≠y.id)→∀ {x y:bU},x∈L→y∈L→x.id=y.id→x=y
 | [],_,_,_,h,_,_=>mo
 | a::L,hp,x,y,hx,hy,e=>by
  rw[He] at hp;rcases lT.1 hx with h1|h1 <;>rcases lT.1 hy with h2|h2
  ·rw[h1,h2]
  ·rw[h1] at e;exact absurd e (hp.1 y h2)
  ·rw[h2] at e;exact absurd e.symm (hp.1 x h1)
  exact nD hp.2 h1 h2 e
theorem pJ: ∀ {L:List bU},(L.Pairwise fun x y=>x.av≠y.av)→∀ {x y:bU},x∈L→y∈L→x.av=y.av→x=y
 | [],_,_,_,h,_,_=>mo
 | a::L,hp,x,y,hx,hy,e=>by
  rw[He] at hp;rcases lT.1 hx with h1|h1 <;>rcases lT.1 hy with h2|h2
  ·rw[h1,h2]
  ·rw[h1] at e;exact absurd e (hp.1 y h2)
  ·rw[h2] at e;exact absurd e.symm (hp.1 x h1)
  exact pJ hp.2 h1 h2 e
theorem EZ{L:List bU}{id:Int}(h: ∀ y∈L,y.id≠id): without L id=L:=by unfold without;rw[Hf];intro y hy;simpa using h y hy
theorem lU: ∀ {L:List bU},(L.Pairwise fun x y=>x.id≠y.id)→∀ {x:bU},x∈L→(without L x.id).length+1=L.length∧ku (without L x.id)+(if 0<x.aR then 1 else 0)=ku L
 | [],_,_,h=>mo
 | a::L,hp,x,hx=>by
  rw[He] at hp;rcases lT.1 hx with rfl|hx
  ·have e:without (x::L) x.id=L:=by
    have:=EZ (L:=L) (id:=x.id) (fun y hy e=>hp.1 y hy e.symm);unfold without at this ⊢;rw[jn dA,this]
   rw[e];refine⟨rfl,?_⟩;unfold ku;by_cases h:0<x.aR
   ·rw[kS p3,if_pos h];rfl
   rw[jn p3,if_neg h];rfl
  have hne:a.id≠x.id:=hp.1 x hx;have e:without (a::L) x.id=a::without L x.id:=by unfold without;rw[kS (by simpa using hne)]
  obtain⟨h1,h2⟩:=lU hp.2 hx;rw[e];refine⟨by simp only[vo];omega,?_⟩;unfold ku at h2 ⊢;by_cases h:0<a.aR
  ·rw[kS p3,kS p3,vo,vo];omega
  rw[jn p3,jn p3];omega
theorem mE.VB{L:List bU}{q:bD}(h:mE L q)(hd:L.Pairwise fun x y=>x.id≠y.id){x:bU}(hx:x∈L)(ht: ¬0<x.aR): mE (without L x.id) q:=by
 have e:=(lU hd hx).2;rw[if_neg ht] at e;refine⟨by rw[h.len];omega,by rw[h.cnt];omega,fun y hy hp=>h.held y (cB.1 hy).1 hp,fun y hy=>?_,fun i hi=>h.free i fun y hy hp=>?_,h.ord,fun y hy=>h.ids y (cB.1 hy).1⟩
 ·obtain⟨z,hz,r1,r2⟩:=h.items y hy;refine⟨z,cB.2 ⟨hz,fun e=>?_⟩,r1,r2⟩;obtain rfl:=nD hd hz hx e;exact ht r1
 intro e2;by_cases e3:y.id=x.id
 ·obtain rfl:=nD hd hy hx e3;exact ht hp
 exact hi y (cB.2 ⟨hy,e3⟩) hp e2
theorem mE.Vz{L:List bU}{q q':bD}(h:mE L q)(hd:L.Pairwise fun x y=>x.id≠y.id){x:bU}(hx:x∈L)(ht:0<x.aR){l i:Nat}(hl:q.hl=l+1)(hi:i≤l){hh:Int}(hf:q.hf i=⟨x.aR,x.id,hh⟩)
  (Xn: ∀ i j,i<l+1→j<l+1→(q.hf i).aZ=(q.hf j).aZ→i=j) (e1:q'.hl=l) (e2:q'.hm+1=q.hm) (e3:q'.hf=Hp.rP q.hf l i) (e4:q'.φ=tK q.φ x.id none):mE (without L x.id) q':=by
 have e:=(lU hd hx).2;rw[if_pos ht] at e;have yY: ∀ y,Hp.In q'.hf q'.hl y↔Hp.In q.hf q.hl y∧y≠⟨x.aR,x.id,hh⟩:=fun y=>by rw[e1,e3,Hp.aaK hi Xn,hl,hf]
 refine⟨by have:=h.len;omega,by have:=h.cnt;omega,fun y hy hp=>?_,fun y hy=>?_,fun j hj=>?_,?_,fun y hy=>h.ids y (cB.1 hy).1⟩
 ·obtain⟨hy1,Z6⟩:=cB.1 hy;obtain⟨t,h1,h2⟩:=h.held y hy1 hp;refine⟨t,by rw[e4,cQ _ _ Z6];exact h1,(yY _).2 ⟨h2,fun e5=>?_⟩⟩;injection e5 with _ e5
  exact Z6 e5
 ·obtain⟨hy1,Z6⟩:=(yY y).1 hy;obtain⟨z,hz,r1,r2,r3⟩:=h.items y hy1;have hzx:z.id≠x.id:=fun e5=>by
   obtain rfl:=nD hd hz hx e5;obtain⟨t,h1,h2⟩:=h.held z hz r1;obtain⟨z2,hz2,s1,s2,s3⟩:=h.items ⟨z.aR,z.id,hh⟩ ⟨i,ag,hf⟩;injection s2 with _ s4
   rw[←s4] at s3;rw[s3] at r3;injection r3 with r3
   exact Z6 (by rw[r2,←r3])
  exact⟨z,cB.2 ⟨hz,hzx⟩,r1,r2,by rw[e4,cQ _ _ hzx];exact r3⟩
 ·rw[e4];by_cases e5:j=x.id
  ·rw[e5];exact fy _ _ _
  rw[cQ _ _ e5];refine h.free j fun y hy hp e6=>?_
  have hyx:y.id≠x.id:=fun e7=>e5 (e6.symm.trans e7)
  exact hj y (cB.2 ⟨hy,hyx⟩) hp e6
 ·rw[e1,e3];exact Hp.FM (hl▸h.ord) hi
theorem cA.X6{S:Nat→Prop}{w w':World}{b n au:Nat}{az next ak:Int}{len:Nat}{q:bD}(h:cA S w b n au az next ak len q)(ht:aG q.H w w'){hl:Nat}{hf:Nat→eO}(hi:bP q.H w' q.hp hl q.hn hf):
  cA S w' b n au az next ak len {q with hl:=hl,hf:=hf}:=by
 have hno: ∀ x,(∀ k,q.H k→k≠x)→¬q.H x:=fun x hx e=>hx x e rfl
 exact⟨h.qi ht (hno _ fun k hk=>(h.apart k hk).2.1),h.lC ht (hno _ fun k hk=>(h.apart k hk).2.2.1) (hno _ fun k hk=>(h.apart k hk).2.2.2.1),h.qj ht (hno _ fun k hk=>(h.apart k hk).2.2.2.2.1) (hno _ fun k hk=>(h.apart k hk).2.2.2.2.2.1),h.lD ht (hno _ fun k hk=>(h.apart k hk).2.2.2.2.2.2.1),hi,h.nG ht (hno _ fun k hk=>(h.apart k hk).2.2.2.2.2.2.2),h.bt,h.apart,fun k hk=>aP (h.lt k hk) ht.size⟩
def ZM(q:bD)(hl hm:Nat)(hf:Nat→eO)(φ:Int→Option Int): bD:={q with hl:=hl,hm:=hm,hf:=hf,φ:=φ}
def ab6(S:Nat→Prop)(w:World)(b n au:Nat)(az next ak:Int)(len:Nat)(L:List bU)(q:bD)(id:Int)(e:Ending)(w':World): Prop:=(∃ v,e= .returned v)∧(∃ hl hm hf φ,cA S w' b n au az next ak len (ZM q hl hm hf φ)∧mE (without L id) (ZM q hl hm hf φ))∧aG S w w'
theorem PI(S:Nat→Prop)(b n au:Nat)(az next ak:Int)(len:Nat)(L:List bU)(x:bU)(q:bD)(w:World)(h:cA S w b n au az next ak len q)(hh:mE L q)(hd:L.Pairwise fun x y=>x.id≠y.id)(hx:x∈L):
  Calls af 72 #[.pointer (some ⟨b,0,none⟩),.int .u32 x.id] w (ab6 S w b n au az next ak len L q x.id):=by
 have hz0:=Hp.Jl;have x10:=h.own.cl 10;have x9:=h.own.cl 9;have pO:=hh.ids x hx;have HH:=aa h;have HHA:=aa hh;have HD:=aa hd;have HX:=aa hx;have HIR:=aa pO;have yU:(Lit.int iB x.id).wf=true:=WalkArith.wf_u32 ag;by_cases ht:0<x.aR
 ·obtain⟨hd0,hφ,i,hi,hf⟩:=hh.held x hx ht;have HE:=aa (show(q.φ x.id).getD 0=hd0∧(q.φ x.id).isSome=true from Lr);obtain⟨l,hl⟩: ∃ l,q.hl=l+1:=⟨q.hl - 1,ag⟩;have afO:bP q.H w q.hp (l+1) q.hn q.hf:=hl▸h.due;have hlt: ∀ k,q.H k→k<w.heap.size:=fun k hk=>h.lt k (h.apart k hk).1
  have HDR:=aa (show Calls af 161 #[.pointer (some ⟨q.hp,0,none⟩),.int .i64 hd0] w fun e w'=>e= .returned (.bool true)∧bP q.H w' q.hp l q.hn (Hp.rP q.hf l i)∧aG q.H w w' by
   have:=Hp.GQ q.H q.hp l i q.hn q.hf w afO hlt ag;rw[hf] at this;exact this)
  have HIN:=aa (show ∀ i j,i<l+1→j<l+1→(q.hf i).aZ=(q.hf j).aZ→i=j from by
   obtain⟨iv,mb,φ,_,_,_,hpl,_⟩:=afO.dQ;exact fun i j h1 h2 e=>hpl.inj h1 h2 e)
  have HQ:=aa (dy hl (dy (show i≤l from ag) (dy hf ht)));have hc0:1≤q.hm:=by rw[hh.cnt,←hh.len];omega
  clear h hh hd hx pO hφ hf hl hi afO hlt ht;go_enter Tryz.func72,Tryz.ntmps72;go_wp2_with (refine lu rfl _ _ 100 rfl 39 3 .u32 Hc fC G' (hz0 _) q.mb q.hm q.φ rfl HH.o.held x.id rfl yU ?_;rw[HE.o.1,HE.o.2]);refine HDR.o.mono ?_;rintro e w1 ⟨rfl,lf,su⟩;have hc1:=HH.o.X6 su lf;have y10:=hc1.own.cl 10;have kZ:=aa hc1;have jx:=aa (show aG S w w1 from su.mono fun k _ hk=>(HH.o.apart k hk).1);clear hc1 lf su x9 x10;go_wp2_with (refine Hp.lx rfl _ _ 100 39 rfl 3 .u32 Hc G' q.mb q.hm q.φ rfl kZ.o.held x.id rfl yU ?_;intro w2 MX hg2;have HM2:=aa MX;have tR:=aa hg2;clear MX hg2);have hTm:aG (· =q.mb) w1 w2:=(aG.refl _ _).grown tR.o (fun k e=>.inl (cN e).symm);have MX:=HM2.o;rw[if_pos HE.o.2] at MX;have hc2:=kZ.o.Ej hTm MX;refine bodyPost_end (results_none Tryz.results72 _ _ _) rfl ⟨⟨_,rfl⟩,⟨l,q.hm - 1,Hp.rP q.hf l i,tK q.φ x.id none,hc2,?_⟩,jx.o.trans (hTm.mono fun k _ hk=>by subst hk;exact HH.o.bt.2.2.2.2.2)⟩;exact HHA.o.Vz HD.o HX.o HQ.o.2.2.2 HQ.o.1 HQ.o.2.1 HQ.o.2.2.1 HIN.o rfl (by show q.hm - 1+1=q.hm;omega) rfl rfl
 ·have hφ:q.φ x.id=none:=hh.free x.id fun y hy hp e=>by
   obtain rfl:=nD hd hy hx e;exact ht hp
  have HE:=aa (show(q.φ x.id).getD 0=0∧(q.φ x.id).isSome=false from Lr);have HF:=aa (hh.VB hd hx ht);clear h hh hd hx pO hφ ht;go_enter Tryz.func72,Tryz.ntmps72;go_wp2_with (refine lu rfl _ _ 100 rfl 39 3 .u32 Hc fC G' (hz0 _) q.mb q.hm q.φ rfl HH.o.held x.id rfl yU ?_;rw[HE.o.1,HE.o.2]);refine bodyPost_end (results_none Tryz.results72 _ _ _) rfl ⟨⟨_,rfl⟩,⟨q.hl,q.hm,q.hf,q.φ,HH.o,HF.o⟩,aG.refl _ _⟩
end Bk
end
section
namespace Bk
open Hp (bP)
variable{w:World}
theorem bl.make{S:Nat→Prop}{b n au:Nat}{az next ak:Int}{L:List bU}{q:bD}(hc:cA S w b n au az next ak L.length q)(hb: ∀ i,i<n→(hasB q.ws i=true↔∃ x∈L,x.av=i))(hl: ∀ x∈L,x.av<n∧q.sb x.av=x)
  (ht: ∀ a v,ky.jP q.f q.m a v↔∃ x∈L,x.id=a∧(x.av:Int)=v) (hn:q.hn≤next∧(q.hn=next→∃ x∈L,x.id=next)) (hz:1≤n∧n≤1024) (hg:mE L q):bl S w b n au az next ak L q:=
 ⟨hc,hb,hl,fun j hj hs=>by
  obtain⟨x,hx,e,_⟩:=(ht _ _).1 ⟨j,hj,hs,rfl,rfl⟩;exact⟨x,hx,e.symm⟩,fun x hx=>(ht _ _).2 ⟨x,hx,rfl,rfl⟩,⟨by rw[hg.len];exact JL L,hn,by rw[hg.cnt];exact JL L,hz⟩,hg⟩
theorem bl.free{S:Nat→Prop}{b n au:Nat}{az next ak:Int}{L:List bU}{q:bD}(h:bl S w b n au az next ak L q)(hk: ∀ x∈L,x.id<next): q.hn<next:=by
 obtain⟨h1,h2⟩:=h.small.2.1;rcases Int.lt_or_le q.hn next with h3|h3
 ·exact h3
 obtain⟨x,hx,e⟩:=h2 ag;have:=hk x hx;omega
def ab8(S:Nat→Prop)(w:World)(b n au:Nat)(az next ak:Int)(L:List bU)(q:bD)(x:bU)(e:Ending)(w':World): Prop:=(∃ v,e= .returned v)∧(∃ q',bl S w' b n au az next ak (without L x.id) q'∧q'.hp=q.hp)∧aG S w w'
theorem vbk{T:Nat→Prop}{w1 w2:World} {vb:Nat}{t:TypeId}{cs:Array Value}(hS: ∀ k,T k→k<w.heap.size)(hv:w.heap.size=vb)(ha:aD w1 vb t cs)(ht:aG T w1 w2): aD w2 vb t cs:=ht.arr ha (fun e=>by have:=hS _ e;omega)
theorem PJ(S:Nat→Prop)(b n au:Nat)(az next ak:Int)(L:List bU)(x:bU)(q:bD)(w:World)(h:bl S w b n au az next ak L q)(hd:L.Pairwise fun x y=>x.id≠y.id)(hs:L.Pairwise fun x y=>x.av≠y.av)(hk: ∀ x∈L,x.id<next)(hx:x∈L):
  Calls af 73 #[.pointer (some ⟨b,0,none⟩),.agg #[.int .u32 x.id,.int .i64 x.av,.int .i64 x.aR]] w (ab8 S w b n au az next ak L q x):=by
 have Xo:=h.free hk;obtain⟨i,Tc,his,hie,Tb⟩:=h.listed x hx;have hxn:=(h.dQ x hx).1;have hn4:=h.small.2.2.2;have pO:=h.qm.ids x hx;have HH:=aa h;have HD:=aa hd;have HS:=aa hs;have HX:=aa hx;have HI:=aa (dy Tc (dy his hie));have HHN:=aa Xo;have jd:=aa (show ∀ k,S k→k<w.heap.size from h.bg.lt);clear h hd hs hk hx Tc his hie Tb Xo;go_enter Tryz.func73,Tryz.ntmps73;obtain⟨w1,aX⟩:=ae (w.alloc (.cells #[.int .u32 x.id,.int .i64 x.av,.int .i64 x.aR] 171));obtain⟨vb,mN⟩:=ae w.heap.size;have bh:=aH aX mN;have hb1:=aJ aX;have hc1:=HH.o.bg.ai hb1;have y0:=bh.cl 0;have kZ:=aa hc1;have dH:=aa bh;have bu:=aa hb1;have yN:=aa mN;clear hc1 bh hb1;go_wp2_with fail;refine(PI S b n au az next ak L.length L x q w1 kZ.o HH.o.qm HD.o HX.o).mono ?_;rintro e w2 ⟨⟨v2,rfl⟩,⟨hl,hm,hf,φ,hc2,hg2⟩,jL⟩;have gK:=vbk jd.o yN.o dH.o jL;have ajg:aG S w w2:=(aG.aU bu.o).trans jL;have x7:=hc2.own.cl 7;have z0:=gK.cl 0;have EP:=aa hc2;have tR:=aa hg2;have jI:=aa gK;have gV:=aa ajg;clear hc2 hg2 gK jL ajg kZ dH bu y0 aX;go_wp2_with fail;go_still_tail 6,aW;change wpList _ _ _ _ _ w2.drew;have wG:=EP.o.ai (ay (aq _ _));have Zt:=aa (ky.GQ q.ip q.ig q.m au L.length q.gr x.id q.f w2.drew wG.ids pO HI.o.1 HI.o.2.1 HI.o.2.2);clear wG;go_wp2_with fail;refine Zt.o.mono ?_;rintro e w3 ⟨rfl,hi3,tr,kv⟩;have hc3:=(EP.o.ai (ay (aq _ _))).vR kv hi3;have hf0:=HH.o.bg.bt;have Dp:aG S w2.drew w3:=kv.mono fun k _ hk=>UG
 have dB:=vbk jd.o yN.o (show aD w2.drew vb _ _ from jI.o) Dp;have adV:aG S w w3:=(gV.o.ai (ay (aq _ _))).trans Dp;have x6:=hc3.own.cl 6;have z1:=dB.cl 1;have SM:=aa hc3;have pq:=aa dB;have jR:=aa adV;clear hc3 dB kv Dp adV hi3 EP jI gV Zt x7 z0;go_wp2_with fail;go_still_tail 6,aW;change wpList _ _ _ _ _ w3.drew;have wG:=SM.o.ai (ay (aq _ _));have Zt:=aa (yj.B3 q.tp q.tg q.tc n x.av q.ws w3.drew wG.taken hxn ag);clear wG;go_wp2_with fail;refine Zt.o.mono ?_;rintro e w4 ⟨rfl,tL,hg4⟩;have K6:aG (· =q.tg) w3.drew w4:=(aG.refl _ _).grown hg4 (fun k e=>.inl (cN e).symm);have K5:=(SM.o.ai (ay (aq _ _))).p7 K6 tL;have xP:aG S w3.drew w4:=K6.mono fun k _ hk=>LA
 have mh:=vbk jd.o yN.o (show aD w3.drew vb _ _ from pq.o) xP;have adU:aG S w w4:=(jR.o.ai (ay (aq _ _))).trans xP;have x8:=K5.own.cl 8;have z1':=mh.cl 1;have RD:(x.av:Int)<(n:Int):=ag;have hx0:(0:Int)≤(x.av:Int):=ag;have pN:(n:Int)≤1024:=ag;have SJ:=aa K5;have nU:=aa adU;have oI:=aa (K5.ai (ay (aq _ _))).fZ;clear K5 mh K6 xP adU tL hg4 SM pq jR Zt x6 z1;go_wp2_with fail;go_still_tail 8,aW;change wpList _ _ _ _ _ w4.drew;refine cU rfl 171 _ _ rfl oI.o (fun _=>rfl) x.av hxn rfl (jN ⟨0,0,0⟩) rfl rfl (sA _) e9 ?_;intro w5 sf cJ hs5;have rF:=aa sf;have jk:=aa cJ;clear sf cJ hs5 x8 z1';have JS:aG (· =q.sg) w4.drew w5:=(aG.refl _ _).grown jk.o (fun k e=>.inl (cN e).symm);have sf:=rF.o;rw[rR] at sf;have CN:=(SJ.o.ai (ay (aq _ _))).nA JS sf;have oz:aG S w w5:=(nU.o.ai (ay (aq _ _))).trans (JS.mono fun k _ hk=>FH);have hlen:=(lU HD.o HX.o).1;rw[show L.length - 1=(without L x.id).length from ag] at CN;refine bodyPost_end (results_none Tryz.results73 _ _ _) rfl ⟨⟨_,rfl⟩,⟨_,bl.make CN ?_ ?_ ?_ ?_ hn4 ⟨tR.o.len,tR.o.cnt,tR.o.held,tR.o.items,tR.o.free,tR.o.ord,tR.o.ids⟩,rfl⟩,oz⟩
 ·intro j hj;show hasB (fun k=>if k=x.av / 64 then q.ws k &&& (18446744073709551615 - 2 ^ (x.av % 64))else q.ws k) j=true↔_
  rw[yj.Ew,Bool.and_eq_true,HH.o.bits j hj,Bool.not_eq_true',decide_eq_false_iff_not];constructor
  ·rintro⟨⟨y,hy,rfl⟩,hne⟩;refine⟨y,cB.2 ⟨hy,fun e=>hne ?_⟩,rfl⟩;rw[nD HD.o hy HX.o e]
  rintro⟨y,hy,rfl⟩;obtain⟨h1,h2⟩:=cB.1 hy;exact⟨⟨y,h1,rfl⟩,fun e=>h2 (by rw[pJ HS.o h1 HX.o e])⟩
 ·intro y hy;obtain⟨h1,h2⟩:=cB.1 hy;refine⟨(HH.o.dQ y h1).1,?_⟩;show cO q.sb x.av ⟨0,0,0⟩ y.av=y
  rw[bj _ _ (fun e=>h2 (by rw[pJ HS.o h1 HX.o e]))];exact(HH.o.dQ y h1).2
 ·intro a v;show ky.jP (ky.upd q.f i ⟨2,0,0⟩) q.m a v↔_
  rw[ky.Lq HH.o.bg.ids.tab HI.o.1 HI.o.2.1,HH.o.tbl,HI.o.2.2];constructor
  ·rintro⟨⟨y,hy,rfl,r⟩,hne⟩;exact⟨y,cB.2 ⟨hy,hne⟩,rfl,r⟩
  rintro⟨y,hy,rfl,r⟩;obtain⟨h1,h2⟩:=cB.1 hy;exact⟨⟨y,h1,rfl,r⟩,h2⟩
 ·have:=HHN.o;exact⟨by show q.hn≤next;omega,fun e=>absurd (show q.hn=next from e) ag⟩
end Bk
end
section
namespace Bk
open Hp (bP)
def stays(uk:Int)(x:bU): Bool:=decide (x.aR=0)||decide (uk<x.aR)
theorem CY{L:List bU}{id:Int}{K:bU→Bool}(h: ∀ y∈L,y.id=id→K y=false): (without L id).filter K=L.filter K:=by
 induction L with
 | nil=>rfl
 | cons a L ih=>
  have ih':=ih fun y hy=>h y (List.mem_cons_of_mem _ hy)
  unfold without at ih' ⊢;by_cases e:a.id=id
  ·rw[jn (by simpa using e),ih',jn (by rw[h a (List.mem_cons_self ..) e];simp)]
  rw[kS (by simpa using e)];by_cases k:K a=true
  ·rw[kS k,kS k,ih']
  rw[jn k,jn k,ih']
theorem yq(L:List bU)(id:Int): (without L id).Sublist L:=List.filter_sublist
def F6(p:Nat)(w:World): Nat:=match w.cell? ⟨p,1,none⟩with
 | some (.slice _ n _)=>n
 | _=>0
theorem Br{S:Nat→Prop}{w:World}{p l:Nat}{next:Int}{f:Nat→eO}(h:bP S w p l next f): F6 p w=l:=by
 obtain⟨iv,mb,φ,hp,hr,_⟩:=h.dQ;obtain⟨A,cap,rfl⟩:=hr.any;have h1:w.cell? ⟨p,1,none⟩=some (.slice A l cap):=hp.cell 1;simp only[F6,h1]
theorem mE.first{L:List bU}{q:bD}(h:mE L q)(hl:0<q.hl): ∃ x∈L,0<x.aR∧(q.hf 0).aR=x.aR∧(q.hf 0).id=x.id∧∀ y∈L,0<y.aR→x.aR≤y.aR:=by
 obtain⟨x,hx,h1,h2,_⟩:=h.items (q.hf 0) ⟨0,hl,rfl⟩;have e1:(q.hf 0).aR=x.aR:=by rw[h2]
 have e2:(q.hf 0).id=x.id:=by rw[h2]
 refine⟨x,hx,h1,e1,e2,fun y hy hp=>?_⟩;obtain⟨t,_,i,hi,hf⟩:=h.held y hy hp;have:=h.ord.least i hi;rw[Hp.vO,hf,e1] at this;simp only at this;omega
def abC(S:Nat→Prop)(w:World)(b n au:Nat)(az next uk:Int)(L:List bU)(e:Ending)(w':World): Prop:=e= .returned (.int .i64 0)∧(∃ q',bl S w' b n au az next uk (L.filter (stays uk)) q')∧aG S w w'
theorem aag(S:Nat→Prop)(b n au:Nat)(az next ak uk:Int)(L:List bU)(q:bD)(w:World)(h:bl S w b n au az next ak L q)(hd:L.Pairwise fun x y=>x.id≠y.id)(hs:L.Pairwise fun x y=>x.av≠y.av)(hk: ∀ x∈L,x.id<next)(h0: ∀ x∈L,0≤x.aR)(hc:ak<uk):
  Calls af 70 #[.pointer (some ⟨b,0,none⟩),.int .i64 uk] w (abC S w b n au az next uk L):=by
 have x4:=h.bg.own.cl 4;have m4:=h.bg.own.mark 4;have hbl:=h.bg.own.lt;have T1:=(aG.refl (fun j=>j=b) w).put (p:=⟨b,4,none⟩) (.inl rfl) (.int .i64 uk);have ui:=h.bg.own.put 4 (.int .i64 uk);obtain⟨w1,aX⟩:=ae (w.setCell ⟨b,4,none⟩ (.int .i64 uk));rw[aX] at T1 ui;have h1:bl S w1 b n au az next uk L q:=h.mQ (h.bg.mQ T1 ui);have jx:=aa (show aG S w w1 from T1.mono fun k _ hk=>by subst hk;exact h.bg.bt.1);have H1:=aa h1;have HD:=aa hd;have HS:=aa hs;have HK:=aa hk;have H0:=aa h0;have hle: ¬uk≤ak:=ag;clear h hd hs hk h0 T1 ui h1;go_enter Tryz.func70,Tryz.ntmps70;go_wp2_with fail;go_loopw [] (fun wr=>∃ (M:List bU) (p:bD),p.hp=q.hp∧bl S wr b n au az next uk M p∧M.Sublist L∧M.filter (stays uk)=L.filter (stays uk)∧aG S w wr) (fun wr=>F6 q.hp wr)
 case atStart=>exact⟨L,q,rfl,H1.o,List.Sublist.refl _,rfl,jx.o⟩
 case round=>
  clear H1 jx;obtain⟨M,p,hpp,hB,aaO,aiX,hT⟩:=hrel;have x7:=hB.bg.own.cl 9;have hdM:M.Pairwise fun x y=>x.id≠y.id:=HD.o.sublist aaO
  have hsM:M.Pairwise fun x y=>x.av≠y.av:=HS.o.sublist aaO
  have HPP:=aa hpp;have HB:=aa hB;have Zc:=aa aaO;have ag2:=aa aiX;have HT:=aa hT;have Zl:=aa (dy hdM hsM);have HIT:=aa (Br hB.bg.due);clear hpp aaO aiX hT hdM hsM;rcases Nat.eq_zero_or_pos p.hl with hl|hl
  ·have HL:=aa (Hp.NJ p.H p.hp p.hn p.hf wr (hl▸hB.bg.due));have ZH:=aa (show M.filter (stays uk)=M from by
    rw[Hf];intro x hx;have h1:ku M=0:=by rw[←hB.qm.len];exact hl
    have h2: ¬0<x.aR:=fun h=>by
     have:x∈M.filter fun x=>decide (0<x.aR):=List.mem_filter.2 ⟨hx,p3⟩
     rw[List.length_eq_zero_iff.1 h1] at this;cases this
    have h3:=H0.o x (Zc.o.subset hx);have:x.aR=0:=ag;unfold stays;simp[this])
   clear hB hl;go_wp2_with fail;refine HL.o.mono ?_;rintro e w2 ⟨rfl,hb2⟩;have cx:=aa hb2;clear hb2;go_wp2_with fail;go_ret;have hb3:Below wr.heap.size wr (w2.alloc (Obj.cells #[gJ aT 0,gJ iB 0] 211)):=aw cx.o _;refine⟨rfl,⟨p,?_⟩,HT.o.ai hb3⟩;rw[←ag2.o,ZH.o];exact HB.o.ai hb3
  obtain⟨x,hx,WO,e1,e2,aiD⟩:=hB.qm.first hl
  have hxL:=Zc.o.subset hx;have HXI:=aa (hB.qm.ids x hx);have HL:=aa (show Calls af 159 #[.pointer (some ⟨p.hp,0,none⟩)] wr fun e w'=>e= .returned (.tuple #[.agg #[.int .i64 x.aR,.int .u32 x.id],.int .i64 (p.hf 0).aZ,.bool true])∧Below wr.heap.size wr w' by
   have:=Hp.NI p.H p.hp p.hl p.hn p.hf wr hB.bg.due hl;rw[e1,e2] at this;exact this)
  have HX:=aa (dy hx (dy WO aiD));have HKX:=aa (fun y hy=>HK.o y (Zc.o.subset hy));clear hB hx aiD e1 e2 hxL;by_cases hlt:uk<x.aR
  ·have Gg:decide (uk<x.aR)=true:=decide_eq_true hlt;have ZH:=aa (show M.filter (stays uk)=M from by
    rw[Hf];intro y hy;have h3:=H0.o y (Zc.o.subset hy);unfold stays;by_cases h4:0<y.aR
    ·have:=HX.o.2.2 y hy h4;have h5:decide (uk<y.aR)=true:=zD;rw[h5,Bool.or_true]
    have:y.aR=0:=ag;simp[this])
   clear hl;go_wp2_with fail;refine HL.o.mono ?_;rintro e w2 ⟨rfl,hb2⟩;have cx:=aa hb2;clear hb2;go_wp2_with fail;go_ret;have hb3:Below wr.heap.size wr (w2.alloc (Obj.cells #[gJ aT x.aR,gJ iB x.id] 211)):=aw cx.o _;refine⟨rfl,⟨p,?_⟩,HT.o.ai hb3⟩;rw[←ag2.o,ZH.o];exact HB.o.ai hb3
  have Gg:decide (uk<x.aR)=false:=decide_eq_false hlt;have am7:=aa (show stays uk x=false from by
   unfold stays;rw[Gg,Bool.or_false];exact decide_eq_false ag)
  have HLP:=aa hl;clear hl;go_wp2_with fail;refine HL.o.mono ?_;rintro e w2 ⟨rfl,hb2⟩;obtain⟨w3,hw3⟩:=ae (w2.alloc (.cells #[.int .i64 x.aR,.int .u32 x.id] 211));obtain⟨db,hdb⟩:=ae w2.heap.size;have XF:=aH hw3 hdb;have hb3:=eH hb2 hw3;have y1:=XF.cl 1;have y0:=XF.cl 0;have ek:=aa hb3;clear hb2 hb3 XF;go_wp2_with fail;refine(Ct (HB.o.ai ek.o) x HX.o.1 HXI.o).mono ?_;rintro e w4 ⟨rfl,wI,jU⟩;have nU:=aa (show aG S w w4 from(HT.o.ai ek.o).trans (jU.mono fun k _ hk=>by subst hk;exact HB.o.bg.bt.2.2.2.1));obtain⟨w5,jK⟩:=ae (w4.alloc (.cells #[.int .u32 x.id,.int .i64 (x.av:Int),.int .i64 x.aR] 171));obtain⟨xb,Dg⟩:=ae w4.heap.size;have dR:=aJ jK;have CO:=aH jK Dg;have z0:=CO.cl 0;have z1:=CO.cl 1;have z2:=CO.cl 2;have eQ:=aa (wI.ai dR);have pg:=aa (nU.o.ai dR);clear wI jU dR CO y0 y1;go_wp2_with fail;refine(PJ S b n au az next uk M x p w5 eQ.o Zl.o.1 Zl.o.2 HKX.o HX.o.1).mono ?_;rintro e w6 ⟨⟨v6,rfl⟩,⟨p6,XM,zz⟩,pQ⟩;have jy:=aa XM;have vu:=aa (pg.o.trans pQ);have NS:=aa zz;clear XM pQ zz z0 z1 z2;go_wp2_with fail;go_roundw
  case rel=>exact⟨without M x.id,p6,NS.o.trans HPP.o,jy.o,(yq M x.id).trans Zc.o,by rw[CY (fun y hy e=>by rw[nD Zl.o.1 hy HX.o.1 e];exact am7.o),ag2.o],vu.o⟩
  case measure=>
   have e1:=Br jy.o.bg.due;have e2:=HIT.o;rw[NS.o,HPP.o] at e1;rw[HPP.o] at e2;have e3:=jy.o.qm.len;have e4:=HB.o.qm.len;have e5:=(lU Zl.o.1 HX.o.1).2;rw[if_pos HX.o.2.1] at e5;omega
end Bk
end
section
namespace Bk
open Hp (bP)
def recC(k id s t c:Int): Array Value:=#[.int .i64 k,.int .u32 id,.int .i64 s,.int .i64 t,.int .i64 c]
def Rh(L:List bU)(s:Nat): Bool:=L.any fun x=>decide (x.av=s)
variable{s:Nat}
theorem vL{L:List bU}: Rh L s=true↔∃ x∈L,x.av=s:=by unfold Rh;simp[List.any_eq_true]
theorem bl.on{S:Nat→Prop}{w:World}{b n au:Nat}{az next ak:Int}{L:List bU}{q:bD}(h:bl S w b n au az next ak L q)(hs:s<n): hasB q.ws s=Rh L s:=by rw[Bool.eq_iff_iff,h.bits s hs,vL]
def lX(n au:Nat)(next ak:Int)(L:List bU)(id:Int)(s:Nat)(t:Int): Int:=
 if id≠next then 2 else if n≤s then 140 else if t≤ak then 173 else if Rh L s=true then 170 else if au≤L.length then 6 else if next=4294967295 then 6 else 0
def mY(S:Nat→Prop)(w:World)(b n au:Nat)(az next ak:Int)(L:List bU)(q:bD)(id:Int)(s:Nat)(t:Int)(e:Ending)(w':World): Prop:=
 e= .returned (.int .i64 (lX n au next ak L id s t))∧aG S w w'∧
 if lX n au next ak L id s t=0 then ∃ q',bl (fun k=>(S k∨w.heap.size≤k)∧k<w'.heap.size) w' b n au az (next+1) ak (L++ [⟨id,s,t⟩]) q'
 else bl S w' b n au az next ak L q
theorem mY.no{S:Nat→Prop}{w w':World}{b n au:Nat}{az next ak:Int}{L:List bU}{q:bD}{id:Int}{t r:Int}(hr:lX n au next ak L id s t=r)(hz:r≠0)(h:bl S w b n au az next ak L q)(hb:Below w.heap.size w w'): mY S w b n au az next ak L q id s t (.returned (.int .i64 r)) w':=
 ⟨by rw[hr],aG.aU hb,by rw[hr,if_neg hz];exact h.ai hb⟩
theorem aaS(S:Nat→Prop)(b n au:Nat)(az next ak:Int)(L:List bU)(q:bD)(w:World)(k id:Int)(s:Nat)(t c:Int)(h:bl S w b n au az next ak L q)(hk: ∀ x∈L,x.id<next)(Ef:1≤next∧next<4294967296)(PD:0≤ak)(hid:0≤id∧id<4294967296)(hs:s≤1023)(ht:t≤1099511627776):
  Calls af 69 #[.pointer (some ⟨b,0,none⟩),.agg (recC k id s t c)] w (mY S w b n au az next ak L q id s t):=by
 have hn4:=h.small.2.2.2;have hroom:=h.bg.ids.a8;have HK:=aa hk;have HH:=aa h;obtain⟨w1,aX⟩:=ae (w.alloc (.cells (recC k id s t c) 58));obtain⟨rb,jc⟩:=ae w.heap.size;have bh:=aH aX jc;have hb1:=aJ aX;have hlt:=h.bg.lt;have jd:=aa hlt;dsimp only[recC] at aX bh ⊢;clear h hk hlt;have hA:=bh;have hb:=hb1;have cK:=HH.o.ai hb1;clear bh hb1;have x5:=cK.bg.own.cl 5;have y1:w1.cell? ⟨rb,1,none⟩=some (.int .u32 id):=hA.cell 1;have HA:=aa hA;have HB:=aa hb;have eX:=aa cK;clear hA hb cK;go_enter Tryz.func69,Tryz.ntmps69;go_wp2_with fail;by_cases c1:id≠next
 ·skip;have Nc1:=aa c1;have hq:(id != next)=true:=by simpa using c1
  refine wp_region_quiet_lit aW aW ?_;repeat(first|go_big_quiet_step ((fail))|quiet_step ((fail)))
  refine wpQuiet_nil ?_;intro _ hw';obtain⟨nq,hw''⟩:=hw';subst hw'';have hb:=bK HB.o nq;have hA:=HA.o.drewN nq;have cK:=eX.o.ai (bK (aq _ w1) nq);obtain⟨w2,hw2⟩:=ae (w1.drewN nq);rw[hw2] at hb hA cK ⊢;clear hw2 HA HB eX x5 y1 hq;have HB:=aa hb;clear hA cK hb;go_wp2_with fail;go_ret;exact mY.no (by unfold lX;rw[if_pos Nc1.o]) aM HH.o HB.o
 ·skip;have Nc1:=aa c1;have hq:(id != next)=false:=by simpa using c1
  refine wp_region_quiet_lit aW aW ?_;repeat(first|go_big_quiet_step ((fail))|quiet_step ((fail)))
  refine wpQuiet_nil ?_;intro _ hw';obtain⟨nq,hw''⟩:=hw';subst hw'';have hb:=bK HB.o nq;have hA:=HA.o.drewN nq;have cK:=eX.o.ai (bK (aq _ w1) nq);obtain⟨w2,hw2⟩:=ae (w1.drewN nq);rw[hw2] at hb hA cK ⊢;clear hw2 HA HB eX x5 y1 hq;have x0:=cK.bg.own.cl 0;have y2:w2.cell? ⟨rb,2,none⟩=some (.int .i64 (s:Int)):=hA.cell 2;have HA:=aa hA;have HB:=aa hb;have eX:=aa cK;clear hA hb cK;go_wp2_with fail;by_cases c2:n≤s
  ·skip;have Nc2:=aa c2;have hq:(n:Int)≤(s:Int):=ag;refine wp_region_quiet_lit aW aW ?_;repeat(first|go_big_quiet_step ((fail))|quiet_step ((fail)))
   refine wpQuiet_nil ?_;intro _ hw';obtain⟨nq,hw''⟩:=hw';subst hw'';have hb:=bK HB.o nq;have hA:=HA.o.drewN nq;have cK:=eX.o.ai (bK (aq _ w2) nq);obtain⟨w3,hw3⟩:=ae (w2.drewN nq);rw[hw3] at hb hA cK ⊢;clear hw3 HA HB eX x0 y2 hq;have HB:=aa hb;clear hA cK hb;go_wp2_with fail;go_ret;exact mY.no (by unfold lX;rw[if_neg Nc1.o,if_pos Nc2.o]) aM HH.o HB.o
  skip;have Nc2:=aa c2;have hq: ¬(n:Int)≤(s:Int):=ag;refine wp_region_quiet_lit aW aW ?_;repeat(first|go_big_quiet_step ((fail))|quiet_step ((fail)))
  refine wpQuiet_nil ?_;intro _ hw';obtain⟨nq,hw''⟩:=hw';subst hw'';have hb:=bK HB.o nq;have hA:=HA.o.drewN nq;have cK:=eX.o.ai (bK (aq _ w2) nq);obtain⟨w3,hw3⟩:=ae (w2.drewN nq);rw[hw3] at hb hA cK ⊢;clear hw3 HA HB eX x0 y2 hq;have x4:=cK.bg.own.cl 4;have y3:w3.cell? ⟨rb,3,none⟩=some (.int .i64 t):=hA.cell 3;have HA:=aa hA;have HB:=aa hb;have eX:=aa cK;clear hA hb cK;go_wp2_with fail;by_cases c3:t≤ak
  ·skip;have Nc3:=aa c3;refine wp_region_quiet_lit aW aW ?_;repeat(first|go_big_quiet_step ((fail))|quiet_step ((fail)))
   refine wpQuiet_nil ?_;intro _ hw';obtain⟨nq,hw''⟩:=hw';subst hw'';have hb:=bK HB.o nq;have hA:=HA.o.drewN nq;have cK:=eX.o.ai (bK (aq _ w3) nq);obtain⟨w4,hw4⟩:=ae (w3.drewN nq);rw[hw4] at hb hA cK ⊢;clear hw4 HA HB eX x4 y3;have HB:=aa hb;clear hA cK hb;go_wp2_with fail;go_ret;exact mY.no (by unfold lX;rw[if_neg Nc1.o,if_neg Nc2.o,if_pos Nc3.o]) aM HH.o HB.o
  skip;have Nc3:=aa c3;refine wp_region_quiet_lit aW aW ?_;repeat(first|go_big_quiet_step ((fail))|quiet_step ((fail)))
  refine wpQuiet_nil ?_;intro _ hw';obtain⟨nq,hw''⟩:=hw';subst hw'';have hb:=bK HB.o nq;have hA:=HA.o.drewN nq;have cK:=eX.o.ai (bK (aq _ w3) nq);obtain⟨w4,hw4⟩:=ae (w3.drewN nq);rw[hw4] at hb hA cK ⊢;clear hw4 HA HB eX x4 y3;have x6:=cK.bg.own.cl 6;have y2:w4.cell? ⟨rb,2,none⟩=some (.int .i64 (s:Int)):=hA.cell 2;have HA:=aa hA;have HB:=aa hb;have eX:=aa cK;clear hA hb cK;go_wp2_with fail;have SB:=aa (fun W (hW:fU W q.tp q.tg q.tc n q.ws)=>yj.oY q.tp q.tg q.tc n s q.ws W hW ag ag);have HTK:=aa (show ∀ m,fU (w4.drewN m) q.tp q.tg q.tc n q.ws from fun m=>(eX.o.ai (bK (aq _ _) m)).bg.taken);have qX:s<n:=ag;by_cases c4:Rh L s=true
  ·skip;have Nc4:=aa c4;have HQ:=aa (show hasB q.ws s=true from by rw[HH.o.on qX];exact c4);go_still_tail 6,aW;change wpList _ _ _ _ _ w4.drew;have cK:=eX.o.ai (ay (aq _ _));have hA:aD w4.drew rb 58 _:=HA.o;have hb:=ay HB.o;obtain⟨w5,jK⟩:=ae w4.drew;rw[jK] at hb hA cK ⊢;clear jK HA HB eX x6 y2 HTK;have HC:=aa (SB.o w5 cK.bg.taken);have HA:=aa hA;have HB:=aa hb;have eX:=aa cK;clear hA hb cK;go_wp2_with fail;refine HC.o.mono ?_;rw[HQ.o];rintro e w9 ⟨rfl,jT⟩;rw[jT];clear jT w9 HC c4;go_wp2_with fail;go_ret;exact mY.no (by unfold lX;rw[if_neg Nc1.o,if_neg Nc2.o,if_neg (zN.2 Nc3.o),if_pos Nc4.o]) aM HH.o HB.o
  skip;have Nc4:=aa c4;have HQ:=aa (show hasB q.ws s=false from by rw[HH.o.on qX];simpa using c4);go_still_tail 6,aW;change wpList _ _ _ _ _ w4.drew;have cK:=eX.o.ai (ay (aq _ _));have hA:aD w4.drew rb 58 _:=HA.o;have hb:=ay HB.o;obtain⟨w5,jK⟩:=ae w4.drew;rw[jK] at hb hA cK ⊢;clear jK HA HB eX x6 y2 HTK;have HC:=aa (SB.o w5 cK.bg.taken);have HA:=aa hA;have HB:=aa hb;have eX:=aa cK;clear hA hb cK;go_wp2_with fail;refine HC.o.mono ?_;rw[HQ.o];rintro e w9 ⟨rfl,jT⟩;rw[jT];clear jT w9 HC c4;have hA:=HA.o;have hb:=HB.o;have cK:=eX.o;clear HA HB eX;have x7:=cK.bg.own.cl 7;have x1:=cK.bg.own.cl 1;have HA:=aa hA;have HB:=aa hb;have eX:=aa cK;clear hA hb cK;have uY:=aa (fun m=>YX q.ip q.ig q.m au L.length q.gr q.f (w5.drewN m) (eX.o.ai (bK (aq _ _) m)).bg.ids);go_wp2_with fail;by_cases c5:au≤L.length
  ·skip;have Nc5:=aa c5;have hq:(au:Int)≤(L.length:Int):=ag;refine wp_region_quiet_lit aW aW ?_;repeat(first|go_big_quiet_step ((go_at_call 108;exact nd (uY.o _)))|quiet_step ((go_at_call 108;exact nd (uY.o _))))
   refine wpQuiet_nil ?_;intro _ hw';obtain⟨nq,hw''⟩:=hw';subst hw'';have hb:=bK HB.o nq;have hA:=HA.o.drewN nq;have cK:=eX.o.ai (bK (aq _ w5) nq);obtain⟨w6,mM⟩:=ae (w5.drewN nq);rw[mM] at hb hA cK ⊢;clear mM HA HB eX uY x7 x1 hq;have HB:=aa hb;clear hA cK hb;go_wp2_with fail;go_ret;exact mY.no (by unfold lX;rw[if_neg Nc1.o,if_neg Nc2.o,if_neg (zN.2 Nc3.o),if_neg LQ,if_pos Nc5.o]) aM HH.o HB.o
  skip;have Nc5:=aa c5;have hq: ¬(au:Int)≤(L.length:Int):=ag;refine wp_region_quiet_lit aW aW ?_;repeat(first|go_big_quiet_step ((go_at_call 108;exact nd (uY.o _)))|quiet_step ((go_at_call 108;exact nd (uY.o _))))
  refine wpQuiet_nil ?_;intro _ hw';obtain⟨nq,hw''⟩:=hw';subst hw'';have hb:=bK HB.o nq;have hA:=HA.o.drewN nq;have cK:=eX.o.ai (bK (aq _ w5) nq);obtain⟨w6,mM⟩:=ae (w5.drewN nq);rw[mM] at hb hA cK ⊢;clear mM HA HB eX uY x7 x1 hq;have x5:=cK.bg.own.cl 5;have y1:w6.cell? ⟨rb,1,none⟩=some (.int .u32 id):=hA.cell 1;have y2:w6.cell? ⟨rb,2,none⟩=some (.int .i64 (s:Int)):=hA.cell 2;have y3:w6.cell? ⟨rb,3,none⟩=some (.int .i64 t):=hA.cell 3;have HA:=aa hA;have HB:=aa hb;have eX:=aa cK;clear hA hb cK;by_cases c6:next=4294967295
  ·skip;have hq:(next==4294967295)=true:=by simpa using c6
   have Nc6:=aa c6;clear c6;go_wp2_with fail;go_ret;exact mY.no (by unfold lX;rw[if_neg Nc1.o,if_neg Nc2.o,if_neg (zN.2 Nc3.o),if_neg LQ,if_neg Nc5.o,if_pos Nc6.o]) aM HH.o HB.o
  skip;have hq:(next==4294967295)=false:=by simpa using c6
  have Nc6:=aa c6;have aiM:id=next:=by have:=Nc1.o;omega
  have K4: ∀ y∈L,y.id≠id:=fun y hy e=>by have:=HK.o y hy;omega
  have kH: ∀ y∈L,y.av≠s:=fun y hy e=>Nc4.o (vL.2 ⟨y,hy,e⟩)
  have Xo:=HH.o.free HK.o;have Su:=aa (Vs S b n au az next ak L ⟨id,s,t⟩ q w6 eX.o hid K4 kH qX (by have:=Nc5.o;omega) (by have:=Nc3.o;exact⟨by show 0≤t;omega,ht⟩) ⟨by show q.hn<id;omega,by show id≤next;omega⟩);have hwx:iB.wrap (next+1)=next+1:=by rw[IntKind.wrap_u32];have:=Nc6.o;omega
  have HN:=aa aiM;clear aiM K4 kH Xo c6;go_wp2_with fail;refine Su.o.mono ?_;rintro e w9 ⟨⟨v9,rfl⟩,⟨q9,hq9,hn9⟩,hT9⟩;have x5:=hq9.bg.own.cl 5;have m5:=hq9.bg.own.mark 5;have hbl:=hq9.bg.own.lt;have T10:=(aG.refl (fun j=>j=b) w9).put (p:=⟨b,5,none⟩) (.inl rfl) (.int .u32 (next+1));have MV:=hq9.bg.own.put 5 (.int .u32 (next+1));obtain⟨tX,aaM⟩:=ae (w9.setCell ⟨b,5,none⟩ (.int .u32 (next+1)));rw[aaM] at T10 MV;have h10:=hq9.mQ (hq9.bg.mQ T10 MV);have aje:aG S w w9:=(aG.aU HB.o).trans hT9;have ajh:aG S w tX:=aje.trans (show aG S w9 tX from T10.mono fun k _ e=>by subst e;exact HH.o.bg.bt.1);have HZ:=aa (show w.heap.size≤w6.heap.size∧w9.heap.size≤tX.heap.size from⟨HB.o.size,T10.size⟩);have N5:=aa h10;have amU:=aa ajh;clear hq9 hT9 aje T10 MV h10 ajh hn9 y1 y2 y3;go_wp2_with fail;go_ret;have hr:lX n au next ak L id s t=0:=by unfold lX;rw[if_neg Nc1.o,if_neg Nc2.o,if_neg (zN.2 Nc3.o),if_neg LQ,if_neg Nc5.o,if_neg Nc6.o]
  refine⟨by rw[hr];rfl,amU.o,?_⟩;rw[if_pos hr];refine⟨q9,⟨N5.o.bg.mono (fun k hk=>⟨?_,aP hk.2 HZ.o.2⟩) (fun k hk=>hk.2),N5.o.bits,N5.o.dQ,N5.o.under,N5.o.listed,N5.o.small,N5.o.qm⟩⟩;rcases hk.1 with h|h
  ·exact .inl h
  exact .inr (Nat.le_trans HZ.o.1 h)
end Bk
end
section
namespace Bk
open Hp (bP)
def qR(L:List bU)(id:Int)(s:Nat): List bU:=L.map fun y=>if y.id=id then {y with av:=s}else y
theorem Rl(L:List bU)(id:Int)(s:Nat): (qR L id s).length=L.length:=by unfold qR;rw[List.length_map]
theorem lB{L:List bU}{id:Int}{s:Nat}{z:bU}: z∈qR L id s↔∃ y∈L,(if y.id=id then {y with av:=s}else y)=z:=by unfold qR;rw[nc]
theorem Bh{L:List bU}(hd:L.Pairwise fun x y=>x.id≠y.id){x:bU}(hx:x∈L): qR L x.id x.av=L:=by
 unfold qR
 conv=>rhs;rw[←List.map_id L]
 refine List.map_congr_left fun y hy=>?_
 by_cases e:y.id=x.id
 ·rw[if_pos e,nD hd hy hx e];rfl
 rw[if_neg e];rfl
theorem mE.map{L:List bU}{q q':bD}(h:mE L q)(g:bU→bU)(hg: ∀ y,(g y).aR=y.aR∧(g y).id=y.id)(e1:q'.hl=q.hl)(e2:q'.hm=q.hm)(e3:q'.hf=q.hf)(e4:q'.φ=q.φ): mE (L.map g) q':=by
 have hn:ku (L.map g)=ku L:=by
  unfold ku;rw[List.filter_map,List.length_map];congr 2;funext y;show decide (0<(g y).aR)=_
  rw[(hg y).1]
 refine⟨by rw[e1,hn,h.len],by rw[e2,hn,h.cnt],fun z hz hp=>?_,fun y hy=>?_,fun i hi=>?_,by rw[e1,e3];exact h.ord,fun z hz=>?_⟩
 ·obtain⟨y,hy,rfl⟩:=nc.1 hz;rw[(hg y).1] at hp ⊢;rw[(hg y).2,e1,e3,e4];exact h.held y hy hp
 ·rw[e1,e3] at hy;obtain⟨z,hz,r1,r2,r3⟩:=h.items y hy;exact⟨g z,nc.2 ⟨z,hz,rfl⟩,by rw[(hg z).1];exact r1,by rw[(hg z).1,(hg z).2];exact r2,by rw[e4,(hg z).2];exact r3⟩
 ·rw[e4];exact h.free i fun y hy hp=>by
   have:=hi (g y) (nc.2 ⟨y,hy,rfl⟩) (by rw[(hg y).1];exact hp)
   rwa [(hg y).2] at this
 obtain⟨y,hy,rfl⟩:=nc.1 hz;rw[(hg y).2];exact h.ids y hy
def fo(n:Nat)(L:List bU)(x:bU)(s:Nat): Int:=if n≤s then 140 else if s=x.av then 0 else if Rh L s=true then 170 else 0
def pR(S:Nat→Prop)(w:World)(b n au:Nat)(az next ak:Int)(L:List bU)(x:bU)(s:Nat)(e:Ending)(w':World): Prop:=
 e= .returned (.int .i64 (fo n L x s))∧aG S w w'∧∃ q',bl S w' b n au az next ak (if fo n L x s=0 then qR L x.id s else L) q'
theorem pR.no{S:Nat→Prop}{w w':World}{b n au:Nat}{az next ak:Int}{L:List bU}{q:bD}{x:bU}{s:Nat}{r:Int}(hr:fo n L x s=r)(hz:r≠0)(h:bl S w b n au az next ak L q)(hb:Below w.heap.size w w'): pR S w b n au az next ak L x s (.returned (.int .i64 r)) w':=
 ⟨by rw[hr],aG.aU hb,q,by rw[hr,if_neg hz];exact h.ai hb⟩
theorem Q8(S:Nat→Prop)(b n au:Nat)(az next ak:Int)(L:List bU)(x:bU)(q:bD)(w:World)(s:Nat)(h:bl S w b n au az next ak L q)(hd:L.Pairwise fun x y=>x.id≠y.id)(hss:L.Pairwise fun x y=>x.av≠y.av)(hk: ∀ x∈L,x.id<next)(hx:x∈L)(hs:s≤1023):
  Calls af 74 #[.pointer (some ⟨b,0,none⟩),.agg #[.int .u32 x.id,.int .i64 x.av,.int .i64 x.aR],.int .i64 s] w (pR S w b n au az next ak L x s):=by
 have hn4:=h.small.2.2.2;have Xo:=h.free hk;obtain⟨i,Tc,his,hie,Tb⟩:=h.listed x hx;have hxn:=(h.dQ x hx).1;have pO:=h.qm.ids x hx;have HH:=aa h;have HD:=aa hd;have NN:=aa hss;have HX:=aa hx;have HI:=aa (dy Tc (dy his hie));have HHN:=aa Xo;have jd:=aa (show ∀ k,S k→k<w.heap.size from h.bg.lt);obtain⟨w1,aX⟩:=ae (w.alloc (.cells #[.int .u32 x.id,.int .i64 x.av,.int .i64 x.aR] 171));obtain⟨vb,mN⟩:=ae w.heap.size;have hA:=aH aX mN;have hb1:=aJ aX;have cK:=h.ai hb1;have x0:w1.cell? ⟨b,0,none⟩=some (.int .i64 n):=cK.bg.own.cell 0;have x6:w1.cell? ⟨b,6,none⟩=some (.pointer (some ⟨q.tp,0,none⟩)):=cK.bg.own.cell 6;have y1:w1.cell? ⟨vb,1,none⟩=some (.int .i64 x.av):=hA.cell 1;have HA:=aa hA;have HB:=aa hb1;have eX:=aa cK;have yN:=aa mN;clear h hd hss hk hx Tc his hie Tb Xo hA hb1 cK;by_cases c1:n≤s
 ·have hq:(n:Int)≤(s:Int):=by omega
  have N1:=aa c1;clear c1;go_enter Tryz.func74,Tryz.ntmps74;go_wp2_with fail;go_ret;exact pR.no (by unfold fo;rw[if_pos N1.o]) aM HH.o HB.o
 have hq1: ¬(n:Int)≤(s:Int):=ag;have N1:=aa c1;by_cases c2:s=x.av
 ·have hq:((s:Int)==(x.av:Int))=true:=by simp[c2]
  have hr:fo n L x s=0:=by unfold fo;rw[if_neg c1,if_pos c2]
  have HR:=aa hr;have N2:=aa c2;clear c1 c2 hr;go_enter Tryz.func74,Tryz.ntmps74;go_wp2_with fail;go_ret;refine⟨by rw[HR.o];rfl,aG.aU HB.o,q,?_⟩;rw[if_pos HR.o,N2.o,Bh HD.o HX.o];exact eX.o
 have CL:((s:Int)==(x.av:Int))=false:=DU;have N2:=aa c2;have qX:s<n:=ag;have SB:=aa (yj.oY q.tp q.tg q.tc n s q.ws w1 eX.o.bg.taken qX ag);by_cases c4:Rh L s=true
 ·have HQ:=aa (show hasB q.ws s=true from by rw[HH.o.on qX];exact c4);have N4:=aa c4;clear c1 c2 c4;go_enter Tryz.func74,Tryz.ntmps74;go_wp2_with fail;refine SB.o.mono ?_;rw[HQ.o];rintro e w9 ⟨rfl,jT⟩;rw[jT];clear jT w9;go_wp2_with fail;go_ret;exact pR.no (by unfold fo;rw[if_neg N1.o,if_neg N2.o,if_pos N4.o]) aM HH.o HB.o
 have HQ:=aa (show hasB q.ws s=false from by rw[HH.o.on qX];simpa using c4);have N4:=aa c4;have hr:fo n L x s=0:=by unfold fo;rw[if_neg c1,if_neg c2,if_neg c4]
 have HR:=aa hr;have hf0:=HH.o.bg.bt;clear c1 c2 c4 hr;go_enter Tryz.func74,Tryz.ntmps74;go_wp2_with fail;refine SB.o.mono ?_;rw[HQ.o];rintro e w9 ⟨rfl,jT⟩;rw[jT];clear jT w9 SB;go_wp2_with fail;have HC:=aa eX.o.bg;have HT:=aa (show aG S w w1 from aG.aU HB.o);clear eX HB aX;go_still_tail 6,aW;change wpList _ _ _ _ _ w1.drew;have wG:=HC.o.ai (ay (aq _ _));have HL:=aa (yj.B3 q.tp q.tg q.tc n x.av q.ws w1.drew wG.taken hxn ag);clear wG;go_wp2_with fail;refine HL.o.mono ?_;rintro e w2 ⟨rfl,tL,hg4⟩;have K6:aG (· =q.tg) w1.drew w2:=(aG.refl _ _).grown hg4 (fun k e=>.inl (cN e).symm);have hc:=(HC.o.ai (ay (aq _ _))).p7 K6 tL;have Ij:aG S w1.drew w2:=K6.mono fun k _ hk=>LA
 have hA:=vbk jd.o yN.o (show aD w1.drew vb _ _ from HA.o) Ij;have hT:=(HT.o.ai (ay (aq _ _))).trans Ij;clear HC HT HA HL K6 Ij tL hg4 x6 y1 x0;have x8:w2.cell? ⟨b,8,none⟩=some (.slice (some ⟨q.sg,0,none⟩) n q.sc):=hc.own.cell 8;have y1:w2.cell? ⟨vb,1,none⟩=some (.int .i64 x.av):=hA.cell 1;have HC:=aa hc;have HA:=aa hA;have HT:=aa hT;have Zf:=aa (hc.ai (ay (aq _ _))).fZ;have RD:(x.av:Int)<(n:Int):=ag;have hx0:(0:Int)≤(x.av:Int):=ag;have pN:(n:Int)≤1024:=ag;clear hc hA hT;go_wp2_with fail;go_still_tail 8,aW;change wpList _ _ _ _ _ w2.drew;refine cU rfl 171 _ _ rfl Zf.o (fun _=>rfl) x.av hxn rfl (jN ⟨0,0,0⟩) rfl rfl (sA _) e9 ?_;intro w3 hr3 hg3 hs3;have JS:aG (· =q.sg) w2.drew w3:=(aG.refl _ _).grown hg3 (fun k e=>.inl (cN e).symm);rw[rR] at hr3;have hc:=(HC.o.ai (ay (aq _ _))).nA JS hr3;have Ij:aG S w2.drew w3:=JS.mono fun k _ hk=>FH
 have hA:=vbk jd.o yN.o (show aD w2.drew vb _ _ from HA.o) Ij;have hT:=(HT.o.ai (ay (aq _ _))).trans Ij;clear HC HT HA JS Ij hr3 hg3 hs3 x8 y1 Zf;have y1:w3.cell? ⟨vb,1,none⟩=some (.int .i64 x.av):=hA.cell 1;have m1:=hA.mark 1;have Jw:=hA.lt;have Gi:=(aG.refl (fun k=>k=vb) w3).put (p:=⟨vb,1,none⟩) (.inl rfl) (.int .i64 (s:Int));have mh:=hA.put 1 (.int .i64 (s:Int));obtain⟨w4,hw4⟩:=ae (w3.setCell ⟨vb,1,none⟩ (.int .i64 (s:Int)));rw[hw4] at Gi mh;have hne: ∀ k,S k→k≠vb:=fun k hk e=>by have:=jd.o k hk;have:=yN.o;omega
 have K5:=hc.same Gi.size (fun k hk hl=>Gi.block k hl (hne k hk));have jU:aG S w w4:=⟨Gi.os.trans hT.os,Gi.tape.trans hT.tape,Gi.output.trans hT.output,Nat.le_trans hT.size Gi.size,fun k hk hS=>(Gi.block k (aP hk hT.size) (fun e=>by have:=yN.o;have e2:k=vb:=e;omega)).trans (hT.block k hk hS)⟩;have x6:w4.cell? ⟨b,6,none⟩=some (.pointer (some ⟨q.tp,0,none⟩)):=K5.own.cell 6;have HC:=aa K5;have HA:=aa mh;have HT:=aa jU;have HL:=aa (ED q.tp q.tg q.tc n s _ w4 K5.taken qX ag);clear hc hA hT Gi mh K5 jU hne;go_wp2_with fail;refine HL.o.mono ?_;rintro e w5 ⟨rfl,hs5,cJ⟩;have K6:aG (· =q.tg) w4 w5:=(aG.refl _ _).grown cJ (fun k e=>.inl (cN e).symm);have hc:=HC.o.p7 K6 hs5;have Ij:aG S w4 w5:=K6.mono fun k _ hk=>LA
 have hA:=vbk jd.o yN.o HA.o Ij;have hT:=HT.o.trans Ij;clear HC HT HA HL K6 Ij hs5 cJ x6 y1 m1 Jw hw4;have x8:w5.cell? ⟨b,8,none⟩=some (.slice (some ⟨q.sg,0,none⟩) n q.sc):=hc.own.cell 8;have y0:w5.cell? ⟨vb,0,none⟩=some (.int .u32 x.id):=hA.cell 0;have y1:w5.cell? ⟨vb,1,none⟩=some (.int .i64 (s:Int)):=hA.cell 1;have y2:w5.cell? ⟨vb,2,none⟩=some (.int .i64 x.aR):=hA.cell 2;have HC:=aa hc;have HA:=aa hA;have HT:=aa hT;have Zf:=aa (hc.ai (ay (aq _ _))).fZ;have hsi:(s:Int)<(n:Int):=ag;have hs0:(0:Int)≤(s:Int):=ag;clear hc hA hT;go_wp2_with fail;go_still_tail 7,aW;change wpList _ _ _ _ _ w5.drew;refine cU rfl 171 _ _ rfl Zf.o (fun _=>rfl) s qX rfl (jN ⟨x.id,s,x.aR⟩) rfl rfl (sA _) e9 ?_;intro w6 CK jG WZ;have JS:aG (· =q.sg) w5.drew w6:=(aG.refl _ _).grown jG (fun k e=>.inl (cN e).symm);rw[rR] at CK;have hc:=(HC.o.ai (ay (aq _ _))).nA JS CK;have Ij:aG S w5.drew w6:=JS.mono fun k _ hk=>FH
 have hA:=vbk jd.o yN.o (show aD w5.drew vb _ _ from HA.o) Ij;have hT:=(HT.o.ai (ay (aq _ _))).trans Ij;clear HC HT HA JS Ij CK jG WZ x8 y0 y1 y2 Zf;have x7:w6.cell? ⟨b,7,none⟩=some (.pointer (some ⟨q.ip,0,none⟩)):=hc.own.cell 7;have y0:w6.cell? ⟨vb,0,none⟩=some (.int .u32 x.id):=hA.cell 0;have HC:=aa hc;have HT:=aa hT;clear hc hA hT;go_wp2_with fail;go_still_tail 7,aW;change wpList _ _ _ _ _ w6.drew;have wG:=HC.o.ai (ay (aq _ _));have HL:=aa (ky.agI q.ip q.ig q.m au L.length q.gr x.id s q.f w6.drew wG.ids pO HI.o.1 HI.o.2.1 HI.o.2.2);clear wG;go_wp2_with fail;refine HL.o.mono ?_;rintro e w7 ⟨rfl,hi7,hTi⟩;have hc:=(HC.o.ai (ay (aq _ _))).vR hTi hi7;have Ij:aG S w6.drew w7:=hTi.mono fun k _ hk=>UG
 have hT:=(HT.o.ai (ay (aq _ _))).trans Ij;clear HC HT HL hTi Ij hi7 x7 y0;have HC:=aa hc;have HT:=aa hT;clear hc hT;go_wp2_with fail;go_ret;have hc:=HC.o;rw[←Rl L x.id s] at hc;have hto: ∀ y∈L,y.id=x.id→y=x:=fun y hy e=>nD HD.o hy HX.o e
 obtain⟨q9,h9⟩: ∃ q9,bl S w7 b n au az next ak (qR L x.id s) q9:=by
  refine⟨_,bl.make hc ?_ ?_ ?_ ?_ hn4 (HH.o.qm.map _ (fun y=>by split <;>exact⟨rfl,rfl⟩) rfl rfl rfl rfl)⟩
  ·intro j hj;show hasB (fun k=>if k=s / 64 then(fun k=>if k=x.av / 64 then q.ws k &&& (18446744073709551615 - 2 ^ (x.av % 64))else q.ws k) k|||2 ^ (s % 64)else(fun k=>if k=x.av / 64 then q.ws k &&& (18446744073709551615 - 2 ^ (x.av % 64))else q.ws k) k) j=true↔_
   rw[JQ,yj.Ew,Bool.or_eq_true,Bool.and_eq_true,HH.o.bits j hj,Bool.not_eq_true',decide_eq_false_iff_not,decide_eq_true_eq];constructor
   ·rintro(⟨⟨y,hy,rfl⟩,hne⟩|rfl)
    ·refine⟨y,lB.2 ⟨y,hy,if_neg fun e=>hne (by rw[hto y hy e])⟩,rfl⟩
    exact⟨{x with av:=j},lB.2 ⟨x,HX.o,if_pos rfl⟩,rfl⟩
   rintro⟨z,hz,rfl⟩;obtain⟨y,hy,rfl⟩:=lB.1 hz;by_cases e:y.id=x.id
   ·rw[if_pos e];exact .inr rfl
   rw[if_neg e];exact .inl ⟨⟨y,hy,rfl⟩,fun e2=>e (by rw[pJ NN.o hy HX.o e2])⟩
  ·intro z hz;show z.av<n∧cO (cO q.sb x.av ⟨0,0,0⟩) s ⟨x.id,s,x.aR⟩ z.av=z
   obtain⟨y,hy,rfl⟩:=lB.1 hz;by_cases e:y.id=x.id
   ·rw[if_pos e,hto y hy e];exact⟨qX,bJ _ _ _⟩
   rw[if_neg e];have h1:y.av≠x.av:=fun e2=>e (by rw[pJ NN.o hy HX.o e2])
   have h2:y.av≠s:=fun e2=>N4.o (vL.2 ⟨y,hy,e2⟩)
   rw[bj _ _ h2,bj _ _ h1];exact HH.o.dQ y hy
  ·intro a v;show ky.jP (ky.upd q.f i ⟨1,x.id,s⟩) q.m a v↔_
   have hu:=ky.QM HH.o.bg.ids.tab HI.o.1 HI.o.2.1 (s:Int) a v;rw[HI.o.2.2] at hu;rw[hu,HH.o.tbl];constructor
   ·rintro(⟨⟨y,hy,rfl,r⟩,hne⟩|⟨rfl,rfl⟩)
    ·exact⟨y,lB.2 ⟨y,hy,if_neg hne⟩,rfl,r⟩
    exact⟨{x with av:=s},lB.2 ⟨x,HX.o,if_pos rfl⟩,rfl,rfl⟩
   rintro⟨z,hz,rfl,r⟩;obtain⟨y,hy,rfl⟩:=lB.1 hz;by_cases e:y.id=x.id
   ·rw[if_pos e] at r ⊢;exact .inr ⟨e,r.symm⟩
   rw[if_neg e] at r ⊢;exact .inl ⟨⟨y,hy,rfl,r⟩,e⟩
  have:=HHN.o;exact⟨by show q.hn≤next;omega,fun e=>absurd (show q.hn=next from e) ag⟩
 exact⟨by rw[HR.o];rfl,HT.o,q9,by rw[if_pos HR.o];exact h9⟩
