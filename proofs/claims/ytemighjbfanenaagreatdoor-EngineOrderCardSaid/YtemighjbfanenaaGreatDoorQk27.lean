import Derived.Laws.BitsAllLaws
import Derived.Test.YtemighjbfanenaaGreatDoorQk17
set_option linter.all false
set_option maxRecDepth 100000
set_option maxHeartbeats 16000000
namespace Go.Proofs.YtemighjbfanenaaGreatDoor
open RowKit
open yj (fU hasB)
open km (eW Slot)
open Hp (eI)
open And renaming intro→dz
open Bool renaming not_eq_true→abq
open Go.Calls renaming quiet_of_same→dm
open Go.IntKind renaming u64→cU,i64→aN,u32→iw
open Go.Proofs.Tryz renaming underlying355→zL,underlying211→GH,underlying316→GJ,prog→af,underlying39→GG,underlying3→fx,underlying100→GI
open Go.Value renaming int→eK,oneCell'→fY
open Go.WalkArith renaming wf_i64→lM
open Int renaming not_le→zK
open List renaming pairwise_cons→GK,mem_cons→lZ,filter_cons_of_neg→jh,filter_eq_self→GL,length_cons→ve,getElem?_take→mP,filter_cons_of_pos→kO,mem_map→nd
open Nat renaming pow_lt_pow_right→Co,lt_of_lt_of_le→aU
open Option.some renaming inj→cP
open RowKit.Below renaming heap_setCell→dJ,refl→ar
theorem Fb{p:Prop}(h:p:=by have:=i'.o _ HS.o.1;have:=HGE.o;simp at e;omega):p:=h
theorem E6{p:Prop}(h:p:=by have:=i'.o _ HS.o.2.2;have:=HGE.o;omega):p:=h
theorem E5{p:Prop}(h:p:=by have:=i'.o _ HS.o.2.1;have:=HGE.o;omega):p:=h
theorem EV{p:Prop}(h:p:=by have:=i'.o _ e;have:=HGE.o;omega):p:=h
theorem Ty{p:Prop}(h:p:=by rcases hk with rfl|rfl;exact hf0.2.2.2.1;exact hf0.2.2.2.2.1):p:=h
theorem ur{p:Prop}(h:p:=by simpa using h):p:=h
theorem La{p:Prop}(h:p:=by rw[abq];simpa using Nc4.o):p:=h
theorem KV{p:Prop}(h:p:=by subst hk;exact hf0.2.2.1):p:=h
theorem KN{p:Prop}(h:p:=by rw[hφ];exact⟨rfl,rfl⟩):p:=h
section
namespace Hp
theorem sB: (af.info? 211).map (·.size)=some 2:=bh
theorem cell_of_heap{w w':World}{p:Nat}(h:w'.heap[p]? =w.heap[p]?)(j:Nat): w'.cell? ⟨p,j,none⟩=w.cell? ⟨p,j,none⟩:=by simp[World.cell?,h]
theorem ML(S:Nat→Prop)(p:Nat)(next:Int)(f:Nat→eI)(w:World)(h:bP S w p 0 next f):
  Calls af 159 #[.pointer (some ⟨p,0,none⟩)] w fun e w'=>e= .returned (.tuple #[.agg #[.int .i64 0,.int .u32 0],.int .i64 0,.bool false])∧Below w.heap.size w w':=by
 obtain⟨w1,a8⟩:=ae (w.alloc (.cells #[.int .i64 0,.int .u32 0] 211));obtain⟨xr,nZ⟩:=ae w.heap.size;have bp:=aJ a8 nZ;have hb1:=aK a8;obtain⟨iv,mb,φ,hp,hr,hm,hpl,sp,sm⟩:=(eG hb1 h).cw;obtain⟨A,cap,rfl⟩:=hr.any;have x1:w1.cell? ⟨p,1,none⟩=some (.slice A 0 cap):=hp.cell 1;have HN:=aa (zo p w1 (hp.cell 0));have bA:=aa hb1;have dF:=aa bp;have pd:=aa nZ;clear h hp hr hm hpl hb1 bp;go_enter Tryz.func159,Tryz.ntmps159;go_wp2_with fail;refine ag HN.o ?_;obtain⟨w3,hw3⟩:=ae (w1.alloc (.cells #[.int .i64 0,.int .u32 0] 211));obtain⟨xv,hxv⟩:=ae w1.heap.size;have pC:=aa (aJ hw3 hxv);have dV:=aa (aK hw3);have iu:=dF.jC dV.o;go_wp2_with (first|(refine aC rfl 211 _ rfl xv 211 _ pC.o rfl _ GH rfl sB ?_)|(refine aj rfl 211 _ _ rfl xr 211 _ #[.int .i64 0,.int .u32 0] iu.o rfl rfl rfl sB qR ?_;intro w4 oa hg4 tL;have pB:=aa oa;have gj:=aa (show Below w.heap.size w w4 from br (av bA.o dV.o) hg4 (Nat.le_of_eq pd.o));clear oa hg4 tL));exact bodyPost_ret (j8 Tryz.results159 _ iI (aL 211 pB.o _ GH rfl sB)) rfl ⟨rfl,gj.o⟩
theorem MK(S:Nat→Prop)(p l:Nat)(next:Int)(f:Nat→eI)(w:World)(h:bP S w p l next f)(hl:0<l):
  Calls af 159 #[.pointer (some ⟨p,0,none⟩)] w fun e w'=>e= .returned (.tuple #[.agg #[.int .i64 (f 0).aR,.int .u32 (f 0).id],.int .i64 (f 0).bf,.bool true])∧Below w.heap.size w w':=by
 obtain⟨w1,a8⟩:=ae (w.alloc (.cells #[.int .i64 0,.int .u32 0] 211));obtain⟨xr,nZ⟩:=ae w.heap.size;have bp:=aJ a8 nZ;have hb1:=aK a8;obtain⟨iv,mb,φ,hp,hr,hm,hpl,sp,sm⟩:=(eG hb1 h).cw;obtain⟨g,cap,rfl,sg,sr,uf,pU⟩:=hr.form hl;have x1:w1.cell? ⟨p,1,none⟩=some (.slice (some ⟨g,0,none⟩) l cap):=hp.cell 1;have ri:=hr.range (fO f) hl;have y0:w1.cell? ⟨g,0,none⟩=some (.int .i64 (f 0).aR):=ri 0 _ rfl;have y1:w1.cell? ⟨g,1,none⟩=some (.int .u32 (f 0).id):=ri 1 _ rfl;have y2:w1.cell? ⟨g,2,none⟩=some (.int .i64 (f 0).bf):=ri 2 _ rfl;have hl0:((l:Int)==0)=false:=bQ;have rD:(0:Int)<(l:Int):=ai;have HN:=aa (zo p w1 (hp.cell 0));have hpx: ¬p=xr:=iq hp bp aM;have hgx: ¬g=xr:=fun e=>Fo hr bp aM e.symm
 have HL:=aa (show ¬p=xr∧¬g=xr∧p<w1.heap.size∧g<w1.heap.size from⟨hpx,hgx,hp.lt,pU⟩);have bA:=aa hb1;have dF:=aa bp;have pd:=aa nZ;clear h hp hr hm hpl hb1 bp ri hpx hgx;go_enter Tryz.func159,Tryz.ntmps159;go_wp2_with fail;refine ag HN.o ?_;go_wp2_with fail;refine wp_region_held_drew (S:=(fun w'=>w'.cell? ⟨p,1,none⟩=some (.slice (some ⟨g,0,none⟩) l cap)∧w'.cell? ⟨g,0,none⟩=some (.int .i64 (f 0).aR)∧w'.cell? ⟨g,1,none⟩=some (.int .u32 (f 0).id)∧w'.cell? ⟨g,2,none⟩=some (.int .i64 (f 0).bf))) bh (by exact⟨x1,y0,y1,y2⟩) (fun hHeld=>?_);refine ov 0 1 2 3 4 5 6 7 ?_;refine P2 8 9 10 11 12 13 ?_;refine cJ 14 fun K hK=>?_
 rw[if_pos iI];refine cW 211 _ _ rfl xr 211 _ #[.int .i64 (f 0).aR,.int .u32 (f 0).id] dF.o rfl rfl rfl sB qR ?_;intro w4 oa hg4 tL;have gj:=aa (show Below w.heap.size w w4 from br (av bA.o (az (ar _ _))) hg4 (Nat.le_of_eq pd.o));have pB:=aa oa;have kp: ∀ j,w4.cell? ⟨p,j,none⟩=w1.cell? ⟨p,j,none⟩:=fun j=>cell_of_heap (hg4.block p HL.o.2.2.1 (fun e=>HL.o.1 (cP e))) j
 have kg: ∀ j,w4.cell? ⟨g,j,none⟩=w1.cell? ⟨g,j,none⟩:=fun j=>cell_of_heap (hg4.block g HL.o.2.2.2 (fun e=>HL.o.2.1 (cP e))) j
 refine hK.out _ _ ⟨(kp 1).trans x1,(kg 0).trans y0,(kg 1).trans y1,(kg 2).trans y2⟩ (fun lI=>?_);clear kp kg oa hg4 tL;clear hK K;try simp only[aZ]
 refine tJ 15 16 ?_;refine bM ?_;go_wp2_with fail;exact bodyPost_ret (j8 Tryz.results159 _ iI (aL 211 pB.o _ GH rfl sB)) rfl ⟨rfl,by first|exact gj.o|(rw[←pd.o];exact gj.o)⟩
end Hp
end
section
namespace Hp
variable{S:Nat→Prop}{w:World}{l:Nat}
theorem _root_.Go.Proofs.YtemighjbfanenaaGreatDoor.aP.shrink{e:TypeId}{sz n g cap k:Nat}{c:Nat→List Value}(h:aP S w e sz (.slice (some ⟨g,0,none⟩) n cap) n c)(hc: ∀ i,(c i).length=sz)(hk:k≤n): aP S w e sz (.slice (some ⟨g,0,none⟩) k cap) k c:=by
 refine⟨?_,h.block⟩;rcases h.own.2 with⟨hv',_⟩|⟨g',cap',cur,hv',h0,hh,h1,h2,h3,h4⟩
 ·cases hv'
 injection hv' with e1 _ e2
 injection e1 with e1
 injection e1 with e1
 subst e1 e2;refine⟨cy hc k,.inr ⟨g,cap,cur,rfl,h0,hh,ai,h2,h3,?_⟩⟩;apply List.ext_getElem?;intro j;have hm:k*sz≤n*sz:=Nat.mul_le_mul_right sz hk;rcases Nat.lt_or_ge j (k*sz)with hj|hj
 ·have hsz:0<sz:=by rcases Nat.eq_zero_or_pos sz with h0|h0;· subst h0;omega
                    exact h0
  have DM:j / sz<k:=(Nat.div_lt_iff_lt_mul hsz).2 hj;have Mb:j % sz<sz:=Nat.mod_lt _ hsz;have hke:j / sz*sz+j % sz=j:=by rw[Nat.mul_comm];exact Nat.div_add_mod j sz
  have q1:(flat c n)[j]? =(flat c k)[j]?:=by
   conv=>lhs;rw[←hke]
   conv=>rhs;rw[←hke]
   rw[gC hc ai Mb,gC hc DM Mb]
  rw[←q1,←h4,mP,if_pos hj,mP,if_pos ai]
 rw[mP,if_neg ai,List.getElem?_eq_none (by rw[cy hc k];exact hj)]
theorem _root_.Go.Proofs.YtemighjbfanenaaGreatDoor.aP.congr{e:TypeId}{sz n:Nat}{v:Value}{c d:Nat→List Value}(h:aP S w e sz v n c)(hc: ∀ i,i<n→c i=d i): aP S w e sz v n d:=⟨lJ hc▸h.own,h.block⟩
theorem ly{P:Program}{ops:Array Oper}{rest:List Oper}{o:Oper}{a:Act}{Q:Exit→Act→World→Prop}
  (hg:o.guard=none) (m x:Operand) (t k:TypeId) (hop:o.op= .call {callee:=.builtin .delete,args:=#[m,x],argTypes:=#[t,k]}) (e:TypeId) (q:IntKind) (hk:P.underlying k=some (.int q)) (ht:P.underlying t=some (.map k e))
  (b n:Nat) (φ:Int→Option Int) (hm:a.eval m= .map (some b)) (h:dt P k e q w b n φ) (i:Int) (hx:a.eval x= .int q i) (hi:(Lit.int q i).wf=true)
  (hK: ∀ w',dt P k e q w' b (if(φ i).isSome then n - 1 else n) (tK φ i none)→w.grownBy w' (some b)→wpList P ops Q rest (a.put o.dst (.tuple #[])) w') :
  wpList P ops Q (o::rest) a w:=by
 refine wpList_plain hg fun K' hK'=>?_
 obtain⟨w',hrun,r1,r2⟩:=h.drop hk ht hi o.type;unfold Oper.wp;simp[execOp,hop,resolve,invoke,builtin,hm,hx,hrun,Result.andThen];exact hK' _ _ (hK w' r1 r2)
theorem jW.take{f:Nat→eI}{φ:Int→Option Int}(h:jW f (l+1) φ): jW f l (tK φ (f l).bf Option.none):=by
 refine⟨fun i hi=>?_,fun x i hx=>?_⟩
 ·have hne:(f i).bf≠(f l).bf:=fun e=>by have:=h.inj ai ai e;omega
  rw[cT _ _ hne];exact h.1 i ai
 by_cases e:x=(f l).bf
 ·subst e;rw[ft] at hx;cases hx
 rw[cT _ _ e] at hx;obtain⟨j,hj,e1,e2⟩:=h.2 x i hx;exact⟨j,by have:j≠l:=fun e3=>e (by rw[←e2,e3]);omega,e1,e2⟩
theorem Lx(f:Nat→eI)(l:Nat): rS f l l=f:=if_pos rfl
theorem Il(f:Nat→eI){a:Nat} (h:a≠l): rS f l a=gp (cQ f a l) l a:=if_neg h
theorem bP.cut{p g cap mb nm:Nat} {next:Int}{f:Nat→eI}{φ:Int→Option Int}(hp:aG w p 319 #[qX,.slice (some ⟨g,0,none⟩) l cap,.map (some mb),.int .i64 next])(hr:aP S w 355 3 (.slice (some ⟨g,0,none⟩) l cap) l (gA f))(hm:dt af 3 3 .i64 w mb nm (tK φ (f l).bf Option.none))(hnm:nm=l)(hpl:jW f (l+1) φ)(sp:S p)(sm:S mb)
  (hb:l+1≤65536∧0≤next∧next≤1099511627776∧∀ i,i<l+1→0≤(f i).bf∧(f i).bf<next):bP S w p l next f:=
 ⟨⟨_,mb,_,hp,hr,hnm▸hm,hpl.take,sp,sm⟩,ai,hb.2.1,hb.2.2.1,fun i hi=>hb.2.2.2 i ai⟩
theorem zk(S:Nat→Prop)(p l a:Nat)(next:Int)(f:Nat→eI)(w:World)(h:bP S w p (l+1) next f)(hS: ∀ k,S k→k<w.heap.size)(ha:a≤l):
  Calls af 246 #[.pointer (some ⟨p,0,none⟩),.int .i64 a] w fun e w'=>(∃ v,e= .returned v)∧bP S w' p l next (rS f l a)∧aI S w w':=by
 obtain⟨w1,a8⟩:=ae (w.alloc (.cells #[.int .i64 0,.int .u32 0,.int .i64 0] 355));obtain⟨xr,nZ⟩:=ae w.heap.size;have bp:=aJ a8 nZ;have hb1:=aK a8;have kV:=eG hb1 h;have sx:aI S w w1:=(aI.refl S w).ak hb1;obtain⟨w2,hw2⟩:=ae (w1.alloc (.cells #[.int .i64 (f a).aR,.int .u32 (f a).id,.int .i64 (f a).bf] 355));obtain⟨vb,oh⟩:=ae w1.heap.size;have hV2:=aJ hw2 oh;have hb2:=aK hw2;have rj:=eG hb2 kV;have hX2:=bp.ah hb2;have jE:=sx.ak hb2;obtain⟨iv,mb,φ,hp,hr,hm,hpl,sp,sm⟩:=kV.cw;obtain⟨g,cap,rfl,sg,sr,uf,pU⟩:=hr.form ai;have x1:w1.cell? ⟨p,1,none⟩=some (.slice (some ⟨g,0,none⟩) (l+1:Nat) cap):=hp.cell 1;have u1:w2.cell? ⟨p,1,none⟩=some (.slice (some ⟨g,0,none⟩) (l+1:Nat) cap):=(hp.ah hb2).cell 1;have ri:=hr.range (fO f) (show a<l+1 from ai);have y0:w1.cell? ⟨g,a*3,none⟩=some (.int .i64 (f a).aR):=ri 0 _ rfl;have y1:w1.cell? ⟨g,a*3+1,none⟩=some (.int .u32 (f a).id):=ri 1 _ rfl;have y2:w1.cell? ⟨g,a*3+2,none⟩=some (.int .i64 (f a).bf):=ri 2 _ rfl;have gO:=h.bound;have RT:l+1≤65536:=gO.1;have i':=aa hS;have RE:=aa (show -9223372036854775808≤(f a).bf∧(f a).bf≤9223372036854775807 by have:=gO.2.2.2 a ai;omega);have HGE:=aa (show w.heap.size≤xr∧w.heap.size≤vb by rw[←nZ,←oh,←a8];simp);have ha1:(a:Int)<(l:Int)+1:=ai;have ha0:(0:Int)≤(a:Int):=ai;have hw0:aN.wrap ((l:Int)+1 - 1)=(l:Int):=by rw[IntKind.wrap_i64];omega
 have zg:=aa rj;have HV2:=aa hV2;have Dc:=aa hX2;have gI:=aa jE;have HW:=aa (dz nZ oh);have uj:=aa hr;clear kV rj hV2 hX2 jE sx bp hb1 hb2 hp hr hm hpl sp sm sg ri gO h hS;rcases Nat.eq_or_lt_of_le ha with QQ|QQ
 ·have hne:((a:Int) != (l:Int))=false:=by simp[QQ]
  have hlt:decide ((a:Int)<(l:Int))=false:=by simp[QQ]
  have FK: ¬(a:Int)<(l:Int):=ai;have Si:=aa QQ;clear QQ ha;obtain⟨w3,hw3⟩:=ae (w2.alloc (.cells #[.int .i64 0,.int .u32 0,.int .i64 0] 355));obtain⟨xz,hxz⟩:=ae w2.heap.size;have dE:=aJ hw3 hxz;have hb3:=aK hw3;have fo:=eG hb3 zg.o;have hV3:=HV2.o.ah hb3;have hX3:=Dc.o.ah hb3;have ki:=gI.o.ak hb3;obtain⟨iv,mb,φ,hp,hr,hm,hpl,sp,sm⟩:=fo.cw;obtain⟨g,cap,rfl,sg,sr,uf,pU⟩:=hr.form ai;have gO:=fo.bound;have q1:w3.cell? ⟨p,1,none⟩=some (.slice (some ⟨g,0,none⟩) (l+1:Nat) cap):=hp.cell 1;have z0:=dE.cl 0;have z1:=dE.cl 1;have z2:=dE.cl 2;have rD:(l:Int)<(l:Int)+1:=ai;have hl0:(0:Int)≤(l:Int):=ai;have HP:=aa hp;have HR:=aa (show aP S w3.drew 355 3 (.slice (some ⟨g,0,none⟩) (l+1:Nat) cap) (l+1) (gA f)from hr.same fun _ _ _=>rfl);have HM:=aa hm;have MT:=aa hpl;have Sh:=aa gO;have HS:=aa (dz sp (dz sm sg));have HV3:=aa hV3;have MN:=aa hX3;have iJ:=aa ki;have HXZ:=aa hxz;clear fo hV3 hX3 ki hp hr hm hpl hb3 dE gO sp sm sg;go_enter Tryz.func246,Tryz.ntmps246;go_wp2_with fail;go_still_tail 7,bh;change wpList _ _ _ _ _ w3.drew;refine cX rfl 355 _ _ rfl HR.o (fO _) l ai rfl [.int .i64 0,.int .u32 0,.int .i64 0] rfl rfl Lq ic ?_;intro w4 hr4 hg4 tL;have FL:p≠g:=HR.o.mE rfl (show aG w3.drew p _ _ from HP.o) aM;have OJ:mb≠g:=HR.o.LO rfl (HM.o.same (w':=w3.drew) rfl);have Kk:p≠mb:=dp HM.o HP.o;have Q6:aI (· =g) w3 w4:=((aI.refl _ _).ak (az (ar _ _))).grown hg4 (fun k e=>.inl (cP e).symm);have ue:=Q6.arr HP.o FL;have xO:=HM.o.same (Q6.block mb HM.o.lt OJ);have hV4:=Q6.arr HV3.o (fun e=>E6);have hX4:=Q6.arr MN.o (fun e=>E6);have jK:aI S w w4:=iJ.o.trans (Q6.mono fun k _ hk=>by subst hk;exact HS.o.2.2);have y6:aP S w4 355 3 (.slice (some ⟨g,0,none⟩) l cap) l (gA f):=(hr4.shrink (fun i=>by unfold cK;split;rfl;rfl) ai).congr fun i hi=>bn _ _ ai
  have q1:w4.cell? ⟨p,1,none⟩=some (.slice (some ⟨g,0,none⟩) (l+1:Nat) cap):=ue.cell 1;have m1:=ue.mark 1;have aeF:=ue.lt;have hlc:(l:Int)≤(cap:Int):=ai;have G':=ue.put 1 (.slice (some ⟨g,0,none⟩) l cap);have sk:=y6.put (q:=⟨p,1,none⟩) (fun k hk=>by injection hk with hk;exact hk▸FL) (.slice (some ⟨g,0,none⟩) l cap);have rJ:dt af 3 3 .i64 (w4.setCell ⟨p,1,none⟩ (.slice (some ⟨g,0,none⟩) l cap)) mb (l+1) φ:=xO.same (dJ w4 ⟨p,1,none⟩ _ mb (fun e=>Kk e.symm));have hV5:=hV4.other (p:=⟨p,1,none⟩) (fun e=>Fb) (.slice (some ⟨g,0,none⟩) l cap);have hX5:=hX4.other (p:=⟨p,1,none⟩) (fun e=>Fb) (.slice (some ⟨g,0,none⟩) l cap);have oH:=jK.put (p:=⟨p,1,none⟩) (.inl HS.o.1) (.slice (some ⟨g,0,none⟩) l cap);obtain⟨w5,jD⟩:=ae (w4.setCell ⟨p,1,none⟩ (.slice (some ⟨g,0,none⟩) l cap));rw[jD] at G' sk rJ hV5 hX5 oH;have q2:w5.cell? ⟨p,2,none⟩=some (.map (some mb)):=G'.cell 2;have v2:=hV5.cl 2;have De:=aa G';have qG:=aa sk;have F9:=aa (show dt af 3 3 .i64 w5.drew mb (l+1) φ from rJ);have HV5:=aa hV5;have XR:=aa hX5;have pz:=aa oH;have HN:=aa (dz FL (dz OJ Kk));clear hr4 hg4 tL FL OJ Kk Q6 ue xO hV4 hX4 jK y6 G' sk rJ hV5 hX5 oH z0 z1 z2 HP HR HM HV3 MN iJ;go_wp2_with fail;go_still_tail 6,bh;change wpList _ _ _ _ _ w5.drew;refine ly rfl _ _ 316 3 rfl 3 .i64 fx GJ mb (l+1) φ rfl F9.o (f a).bf rfl (lM RE.o) ?_;intro w6 CA kr;have lS:(f a).bf=(f l).bf:=by rw[Si.o]
  have hsome:(φ (f a).bf).isSome=true:=by rw[lS,MT.o.1 l ai];rfl
  rw[if_pos hsome,lS] at CA;have Xh:aI (· =mb) w5 w6:=((aI.refl _ _).ak (az (ar _ _))).grown kr (fun k e=>.inl (cP e).symm);have zw:=Xh.arr De.o HN.o.2.2;have Cy:=qG.o.pN (w':=w6) ⟨kr.os,kr.tape,kr.output,kr.size,kr.block⟩ (fun e=>HN.o.2.1 e.symm);have Jt:bP S w6 p l next f:=bP.cut zw Cy CA ai MT.o HS.o.1 HS.o.2.1 Sh.o;have hV6:=Xh.arr HV5.o (fun e=>E5);have hX6:=Xh.arr XR.o (fun e=>E5);have pW:aI S w w6:=pz.o.trans (Xh.mono fun k _ hk=>by subst hk;exact HS.o.2.1);have ll:=aa Jt;have HV6:=aa hV6;have J3:=aa hX6;have vn:=aa pW;clear CA kr lS hsome Xh zw Cy Jt hV6 hX6 pW De qG F9 HV5 XR pz HN q1 q2 v2 m1 aeF pU;go_wp2_with (first|(refine aC rfl 355 _ rfl vb 355 _ HV6.o rfl _ zL rfl ic ?_)|(refine aj rfl 355 _ _ rfl xr 355 _ #[.int .i64 (f a).aR,.int .u32 (f a).id,.int .i64 (f a).bf] J3.o rfl rfl rfl ic qR ?_;intro w8 OS V6 hs8;have wM:=aa OS;have HG8:=aa V6;clear OS V6 hs8));have TT:aI (· =xr) w6 w8:=(aI.refl _ _).grown HG8.o (fun k e=>.inl (cP e).symm);refine bodyPost_ret (dy Tryz.results246 _ iI (aL 355 wM.o _ zL rfl ic)) rfl ⟨⟨_,rfl⟩,?_,(vn.o.grown HG8.o (fun k e=>.inr (by have:=HGE.o;have:=cP e;omega)))⟩;rw[Si.o,Lx];exact ll.o.same fun k hk hl=>TT.block k hl (fun e=>by have:=i'.o _ hk;have:=HGE.o;omega)
 ·have hne:((a:Int) != (l:Int))=true:=by simp;omega
  have hlt:decide ((a:Int)<(l:Int))=true:=fZ;have FK:(a:Int)<(l:Int):=ai;have Si:=aa QQ;clear QQ ha;go_enter Tryz.func246,Tryz.ntmps246;go_wp2_with fail;refine(zl S p (l+1) a l next f w2 zg.o (by have:=Si.o;omega) ai).mono ?_;rintro e RP ⟨⟨v3,rfl⟩,FP,Bz⟩;have ae0:=Bz.arr HV2.o (fun e=>EV);have aeZ:=Bz.arr Dc.o (fun e=>EV);have Bz:=gI.o.trans Bz;clear u1 y0 y1 y2 x1 hw2;obtain⟨w2,hw2⟩: ∃ w2,w2=RP:=⟨_,rfl⟩;rw[←hw2] at FP ae0 aeZ Bz ⊢;clear zg HV2 Dc gI hw2;have zg:=aa FP;have HV2:=aa ae0;have Dc:=aa aeZ;have gI:=aa Bz;clear FP ae0 aeZ Bz;obtain⟨w3,hw3⟩:=ae (w2.alloc (.cells #[.int .i64 0,.int .u32 0,.int .i64 0] 355));obtain⟨xz,hxz⟩:=ae w2.heap.size;have dE:=aJ hw3 hxz;have hb3:=aK hw3;have fo:=eG hb3 zg.o;have hV3:=HV2.o.ah hb3;have hX3:=Dc.o.ah hb3;have ki:=gI.o.ak hb3;obtain⟨iv,mb,φ,hp,hr,hm,hpl,sp,sm⟩:=fo.cw;obtain⟨g,cap,rfl,sg,sr,uf,pU⟩:=hr.form ai;have gO:=fo.bound;have q1:w3.cell? ⟨p,1,none⟩=some (.slice (some ⟨g,0,none⟩) (l+1:Nat) cap):=hp.cell 1;have z0:=dE.cl 0;have z1:=dE.cl 1;have z2:=dE.cl 2;have rD:(l:Int)<(l:Int)+1:=ai;have hl0:(0:Int)≤(l:Int):=ai;have HP:=aa hp;have HR:=aa (show aP S w3.drew 355 3 (.slice (some ⟨g,0,none⟩) (l+1:Nat) cap) (l+1) (gA (cQ f a l))from hr.same fun _ _ _=>rfl);have HM:=aa hm;have MT:=aa hpl;have Sh:=aa gO;have HS:=aa (dz sp (dz sm sg));have HV3:=aa hV3;have MN:=aa hX3;have iJ:=aa ki;have HXZ:=aa hxz;clear fo hV3 hX3 ki hp hr hm hpl hb3 dE gO sp sm sg;go_wp2_with fail;go_still_tail 7,bh;change wpList _ _ _ _ _ w3.drew;refine cX rfl 355 _ _ rfl HR.o (fO _) l ai rfl [.int .i64 0,.int .u32 0,.int .i64 0] rfl rfl Lq ic ?_;intro w4 hr4 hg4 tL;have FL:p≠g:=HR.o.mE rfl (show aG w3.drew p _ _ from HP.o) aM;have OJ:mb≠g:=HR.o.LO rfl (HM.o.same (w':=w3.drew) rfl);have Kk:p≠mb:=dp HM.o HP.o;have Q6:aI (· =g) w3 w4:=((aI.refl _ _).ak (az (ar _ _))).grown hg4 (fun k e=>.inl (cP e).symm);have ue:=Q6.arr HP.o FL;have xO:=HM.o.same (Q6.block mb HM.o.lt OJ);have hV4:=Q6.arr HV3.o (fun e=>E6);have hX4:=Q6.arr MN.o (fun e=>E6);have jK:aI S w w4:=iJ.o.trans (Q6.mono fun k _ hk=>by subst hk;exact HS.o.2.2);have y6:aP S w4 355 3 (.slice (some ⟨g,0,none⟩) l cap) l (gA (cQ f a l)):=(hr4.shrink (fun i=>by unfold cK;split;rfl;rfl) ai).congr fun i hi=>bn _ _ ai
  have q1:w4.cell? ⟨p,1,none⟩=some (.slice (some ⟨g,0,none⟩) (l+1:Nat) cap):=ue.cell 1;have m1:=ue.mark 1;have aeF:=ue.lt;have hlc:(l:Int)≤(cap:Int):=ai;have G':=ue.put 1 (.slice (some ⟨g,0,none⟩) l cap);have sk:=y6.put (q:=⟨p,1,none⟩) (fun k hk=>by injection hk with hk;exact hk▸FL) (.slice (some ⟨g,0,none⟩) l cap);have rJ:dt af 3 3 .i64 (w4.setCell ⟨p,1,none⟩ (.slice (some ⟨g,0,none⟩) l cap)) mb (l+1) φ:=xO.same (dJ w4 ⟨p,1,none⟩ _ mb (fun e=>Kk e.symm));have hV5:=hV4.other (p:=⟨p,1,none⟩) (fun e=>Fb) (.slice (some ⟨g,0,none⟩) l cap);have hX5:=hX4.other (p:=⟨p,1,none⟩) (fun e=>Fb) (.slice (some ⟨g,0,none⟩) l cap);have oH:=jK.put (p:=⟨p,1,none⟩) (.inl HS.o.1) (.slice (some ⟨g,0,none⟩) l cap);obtain⟨w5,jD⟩:=ae (w4.setCell ⟨p,1,none⟩ (.slice (some ⟨g,0,none⟩) l cap));rw[jD] at G' sk rJ hV5 hX5 oH;have q2:w5.cell? ⟨p,2,none⟩=some (.map (some mb)):=G'.cell 2;have v2:=hV5.cl 2;have De:=aa G';have qG:=aa sk;have F9:=aa (show dt af 3 3 .i64 w5.drew mb (l+1) φ from rJ);have HV5:=aa hV5;have XR:=aa hX5;have pz:=aa oH;have HN:=aa (dz FL (dz OJ Kk));clear hr4 hg4 tL FL OJ Kk Q6 ue xO hV4 hX4 jK y6 G' sk rJ hV5 hX5 oH z0 z1 z2 HP HR HM HV3 MN iJ;go_wp2_with fail;go_still_tail 6,bh;change wpList _ _ _ _ _ w5.drew;refine ly rfl _ _ 316 3 rfl 3 .i64 fx GJ mb (l+1) φ rfl F9.o (f a).bf rfl (lM RE.o) ?_;intro w6 CA kr;have lS:(f a).bf=((cQ f a l) l).bf:=by rw[NR]
  have hsome:(φ (f a).bf).isSome=true:=by rw[lS,MT.o.1 l ai];rfl
  rw[if_pos hsome,lS] at CA;have Xh:aI (· =mb) w5 w6:=((aI.refl _ _).ak (az (ar _ _))).grown kr (fun k e=>.inl (cP e).symm);have zw:=Xh.arr De.o HN.o.2.2;have Cy:=qG.o.pN (w':=w6) ⟨kr.os,kr.tape,kr.output,kr.size,kr.block⟩ (fun e=>HN.o.2.1 e.symm);have Jt:bP S w6 p l next (cQ f a l):=bP.cut zw Cy CA ai MT.o HS.o.1 HS.o.2.1 Sh.o;have hV6:=Xh.arr HV5.o (fun e=>E5);have hX6:=Xh.arr XR.o (fun e=>E5);have pW:aI S w w6:=pz.o.trans (Xh.mono fun k _ hk=>by subst hk;exact HS.o.2.1);have ll:=aa Jt;have HV6:=aa hV6;have J3:=aa hX6;have vn:=aa pW;clear CA kr lS hsome Xh zw Cy Jt hV6 hX6 pW De qG F9 HV5 XR pz HN q1 q2 v2 m1 aeF pU;go_wp2_with fail;refine(Dx S p l a next _ w6 ll.o (by have:=Si.o;omega)).mono ?_;rintro e w7 ⟨⟨v7,rfl⟩,hI7,hT7⟩;have hV7:=hT7.arr HV6.o (fun e=>EV);have hX7:=hT7.arr J3.o (fun e=>EV);have hT7:=vn.o.trans hT7;clear ll HV6 J3 vn;have ll:=aa hI7;have HV6:=aa hV7;have J3:=aa hX7;have vn:=aa hT7;clear hI7 hV7 hX7 hT7;go_wp2_with (first|(refine aC rfl 355 _ rfl vb 355 _ HV6.o rfl _ zL rfl ic ?_)|(refine aj rfl 355 _ _ rfl xr 355 _ #[.int .i64 (f a).aR,.int .u32 (f a).id,.int .i64 (f a).bf] J3.o rfl rfl rfl ic qR ?_;intro w8 OS V6 hs8;have wM:=aa OS;have HG8:=aa V6;clear OS V6 hs8));have TT:aI (· =xr) w7 w8:=(aI.refl _ _).grown HG8.o (fun k e=>.inl (cP e).symm);refine bodyPost_ret (dy Tryz.results246 _ iI (aL 355 wM.o _ zL rfl ic)) rfl ⟨⟨_,rfl⟩,?_,(vn.o.grown HG8.o (fun k e=>.inr (by have:=HGE.o;have:=cP e;omega)))⟩;rw[Il f (by have:=Si.o;omega)];exact ll.o.same fun k hk hl=>TT.block k hl (fun e=>by have:=i'.o _ hk;have:=HGE.o;omega)
end Hp
end
section
namespace Hp
theorem Gi(S:Nat→Prop)(p l i:Nat)(next:Int)(f:Nat→eI)(w:World)(h:bP S w p (l+1) next f)(hS: ∀ k,S k→k<w.heap.size)(hi:i≤l):
  Calls af 161 #[.pointer (some ⟨p,0,none⟩),.int .i64 (f i).bf] w fun e w'=>e= .returned (.bool true)∧bP S w' p l next (rS f l i)∧aI S w w':=by
 obtain⟨iv,mb,φ,hp,hr,hm,hpl,sp,sm⟩:=h.cw;have x2:w.cell? ⟨p,2,none⟩=some (.map (some mb)):=hp.cell 2;have hφ:φ (f i).bf=some (i:Int):=hpl.1 i ai;have gO:=h.bound.2.2.2 i ai;have HW:=aa (show -9223372036854775808≤(f i).bf∧(f i).bf≤9223372036854775807 by have:=h.bound.2.2.1;omega);have HN:=aa (zo p w (hp.cell 0));have HM:=aa hm;have HT:=aa (zk S p l i next f w h hS hi);clear h hp hr hm hpl sp sm hS gO;have HE:=aa (show(φ (f i).bf).getD 0=(i:Int)∧(φ (f i).bf).isSome=true from KN);go_enter Tryz.func161,Tryz.ntmps161;go_wp2_with fail;refine ag HN.o ?_;go_wp2_with (refine lu rfl _ _ 316 rfl 3 3 .i64 fx fx GJ (IV _) mb (l+1) φ rfl HM.o (f i).bf rfl (lM HW.o) ?_;rw[HE.o.1,HE.o.2]);refine HT.o.mono ?_;rintro e w3 ⟨⟨v3,rfl⟩,fo,ki⟩;have gH:=aa fo;have iJ:=aa ki;clear fo ki;go_wp2_with fail;go_ret;exact⟨rfl,gH.o,iJ.o⟩
end Hp
end
section
namespace yj
theorem MC(x k:Nat)(hx:x<18446744073709551616)(hk:k<64): Go.bits BinOp.andNot cU (x:Int) (cU.wrap (2 ^ k))=((x &&& (18446744073709551615 - 2 ^ k):Nat):Int):=by
 have h1:(2:Nat) ^ k<18446744073709551616:=Co (n:=64) aM hk;have e:cU.wrap ((2:Int) ^ k)=((2 ^ k:Nat):Int):=by
  rw[show((2:Int) ^ k)=((2 ^ k:Nat):Int)from dM,IntKind.wrap_u64];generalize(2:Nat) ^ k=y at h1;omega
 rw[e,u64_andNot_nat x (2 ^ k) hx h1]
theorem Dh(p g c n i:Nat)(ws:Nat→Nat)(w:World)(h:fU w p g c n ws)(hi:i<n)(hn:n≤1000000): Calls af 247 #[.pointer (some ⟨p,0,none⟩),.int .i64 i,.bool false] w fun e w'=>e= .returned (.int .i64 0)∧fU w' p g c n (fun j=>if j=i / 64 then ws j &&& (18446744073709551615 - 2 ^ (i % 64))else ws j)∧w.grownBy w' (some g):=by
 have x0:w.cell? ⟨p,0,none⟩=some (.bool true):=h.own.cell 0;have x1:w.cell? ⟨p,1,none⟩=some (.int .i64 n):=h.own.cell 1;have x2:w.cell? ⟨p,2,none⟩=some (.slice (some ⟨g,0,none⟩) ((n+63) / 64) c):=h.own.cell 2;obtain⟨q,hq⟩:=ae (i / 64);obtain⟨k,hk⟩:=ae (i % 64);have hqn:q<(n+63) / 64:=ai;obtain⟨y0,m0⟩:=h.word hqn;have e1:(i:Int) / 64=(q:Int):=ai;have e2:(i:Int) % 64=(k:Int):=ai;obtain⟨nw,OD⟩:=ae ((n+63) / 64);rw[OD] at x2 hqn;rw[hq,hk];have ag7:(q:Int)<(nw:Int):=ai;have VP:(0:Int)≤(q:Int):=ai;have V2:k<64:=ai;have Md:(i:Int)<(n:Int):=ai;have CB:(0:Int)≤(i:Int):=ai;have zv:p≠g:=h.apart;have t1:(i:Int).tmod 64=(k:Int):=Tl;have DN:(0:Int)≤(k:Int):=ai;have v1:aN.wrap (q:Int)=(q:Int):=IntWalk.i64_in _ ai;have v2:aN.wrap (k:Int)=(k:Int):=IntWalk.i64_in _ ai;have HS:=aa h;clear h hq hk OD;go_enter Tryz.func247,Tryz.ntmps247;go_wp2_with fail;refine ag (Xg p _ x0) ?_;go_wp2_with fail;have hS:w.cell? ⟨p,2,none⟩=some (.slice (some ⟨g,0,none⟩) nw c)∧w.cell? ⟨g,q,none⟩=some (.int .u64 (ws q))∧w.frozen? ⟨g,q,none⟩=false:=⟨x2,y0,m0⟩;go_still_tail 13,bh;change wpList _ _ _ _ _ w.drew;have Wq:w.drew.cell? ⟨p,2,none⟩=some (.slice (some ⟨g,0,none⟩) nw c)∧w.drew.cell? ⟨g,q,none⟩=some (.int .u64 (ws q))∧w.drew.frozen? ⟨g,q,none⟩=false:=hS;obtain⟨z1,z2,z3⟩:=Wq;obtain⟨w2,hw2⟩:=ae w.drew;rw[hw2] at z1 z2 z3 ⊢;have Kw:=aa hw2;clear hw2 hS;go_wp2_with fail;go_ret;rw[MC _ _ (HS.o.small q) V2,←Kw.o];have h0:=HS.o;have kB:w.grownBy w.drew (some g):=⟨rfl,rfl,rfl,Nat.le_refl _,fun _ _ _=>rfl⟩;have hg2:w.drew.grownBy (w.drew.setCell ⟨g,q,none⟩ (.int .u64 ((ws q &&& (18446744073709551615 - 2 ^ k):Nat):Int))) (some g):=⟨rfl,rfl,rfl,dM,fun j _ hj=>dJ _ _ _ j (fun e=>hj mA)⟩;obtain⟨cur,r1,r2⟩:=h0.row;refine⟨rfl,⟨aG.other (aG.drew h0.own) zv _,⟨cur.setIfInBounds q (.int .u64 ((ws q &&& (18446744073709551615 - 2 ^ k):Nat):Int)),?_,fun j hj=>?_⟩,fun j=>?_,zv⟩,kB.trans hg2⟩
 ·have r3:w.drew.heap[g]? =some (.cells cur 22 (0,0)):=r1;simp[World.setCell,Array.getElem?_modify,r3]
 ·rw[Array.getElem?_setIfInBounds];by_cases e:j=q
  ·subst e;have hc:j<cur.size:=(Array.getElem?_eq_some_iff.1 (r2 j hj)).1;rw[if_pos rfl,if_pos hc];simp
  rw[if_neg (fun h=>e h.symm),if_neg e];exact r2 j hj
 by_cases e:j=q
 ·rw[if_pos e];exact Nat.lt_of_le_of_lt Nat.and_le_left (h0.small j)
 rw[if_neg e];exact h0.small j
theorem BS(p g c n i:Nat)(ws:Nat→Nat)(w:World)(h:fU w p g c n ws)(hi:i<n)(hn:n≤1000000): Calls af 163 #[.pointer (some ⟨p,0,none⟩),.int .i64 i] w fun e w'=>e= .returned (.int .i64 0)∧fU w' p g c n (fun j=>if j=i / 64 then ws j &&& (18446744073709551615 - 2 ^ (i % 64))else ws j)∧w.grownBy w' (some g):=by
 have HC:=aa (Dh p g c n i ws w h hi hn);clear h;go_enter Tryz.func163,Tryz.ntmps163;exact ab8
theorem DZ(ws:Nat→Nat)(i j:Nat): hasB (fun k=>if k=i / 64 then ws k &&& (18446744073709551615 - 2 ^ (i % 64))else ws k) j=(hasB ws j && !decide (j=i)):=by
 unfold hasB;show(if j / 64=i / 64 then ws (j / 64) &&& (18446744073709551615 - 2 ^ (i % 64))else ws (j / 64)).testBit (j % 64)=_
 by_cases h:j / 64=i / 64
 ·have hk:i % 64<64:=by omega
  have h2:(2:Nat) ^ (i % 64)<2 ^ 64:=Co aM hk;have h3:(18446744073709551615:Nat) - 2 ^ (i % 64)=2 ^ 64 - (2 ^ (i % 64)+1):=ai;rw[if_pos h,Nat.testBit_and,h3,Nat.testBit_two_pow_sub_succ h2,Nat.testBit_two_pow];have h4:decide (j % 64<64)=true:=zA;rw[h4,Bool.true_and];congr 2;rw[Bool.eq_iff_iff,decide_eq_true_eq,decide_eq_true_eq];omega
 rw[if_neg h];have:decide (j=i)=false:=decide_eq_false (fun e=>h mA);rw[this,Bool.not_false,Bool.and_true]
end yj
end
section
namespace Bk
open Hp (bP)
def without(L:List bS)(id:Int): List bS:=L.filter fun y=>!decide (y.id=id)
theorem cH{L:List bS}{id:Int}{y:bS}: y∈without L id↔y∈L∧y.id≠id:=by unfold without;rw[List.mem_filter];simp
theorem nG: ∀ {L:List bS},(L.Pairwise fun x y=>x.id≠y.id)→∀ {x y:bS},x∈L→y∈L→x.id=y.id→x=y
 | [],_,_,_,h,_,_=>mC
 | a::L,hp,x,y,hx,hy,e=>by
  rw[GK] at hp;rcases lZ.1 hx with h1|h1 <;>rcases lZ.1 hy with h2|h2
  ·rw[h1,h2]
  ·rw[h1] at e;exact absurd e (hp.1 y h2)
  ·rw[h2] at e;exact absurd e.symm (hp.1 x h1)
  exact nG hp.2 h1 h2 e
theorem pP: ∀ {L:List bS},(L.Pairwise fun x y=>x.aw≠y.aw)→∀ {x y:bS},x∈L→y∈L→x.aw=y.aw→x=y
 | [],_,_,_,h,_,_=>mC
 | a::L,hp,x,y,hx,hy,e=>by
  rw[GK] at hp;rcases lZ.1 hx with h1|h1 <;>rcases lZ.1 hy with h2|h2
  ·rw[h1,h2]
  ·rw[h1] at e;exact absurd e (hp.1 y h2)
  ·rw[h2] at e;exact absurd e.symm (hp.1 x h1)
  exact pP hp.2 h1 h2 e
theorem Ev{L:List bS}{id:Int}(h: ∀ y∈L,y.id≠id): without L id=L:=by unfold without;rw[GL];intro y hy;simpa using h y hy
theorem l8: ∀ {L:List bS},(L.Pairwise fun x y=>x.id≠y.id)→∀ {x:bS},x∈L→(without L x.id).length+1=L.length∧kh (without L x.id)+(if 0<x.aR then 1 else 0)=kh L
 | [],_,_,h=>mC
 | a::L,hp,x,hx=>by
  rw[GK] at hp;rcases lZ.1 hx with rfl|hx
  ·have e:without (x::L) x.id=L:=by
    have:=Ev (L:=L) (id:=x.id) (fun y hy e=>hp.1 y hy e.symm);unfold without at this ⊢;rw[jh dM,this]
   rw[e];refine⟨rfl,?_⟩;unfold kh;by_cases h:0<x.aR
   ·rw[kO ur,if_pos h];rfl
   rw[jh ur,if_neg h];rfl
  have hne:a.id≠x.id:=hp.1 x hx;have e:without (a::L) x.id=a::without L x.id:=by unfold without;rw[kO (by simpa using hne)]
  obtain⟨h1,h2⟩:=l8 hp.2 hx;rw[e];refine⟨by simp only[ve];omega,?_⟩;unfold kh at h2 ⊢;by_cases h:0<a.aR
  ·rw[kO ur,kO ur,ve,ve];omega
  rw[jh ur,jh ur];omega
theorem mJ.Ux{L:List bS}{q:bI}(h:mJ L q)(hd:L.Pairwise fun x y=>x.id≠y.id){x:bS}(hx:x∈L)(ht: ¬0<x.aR): mJ (without L x.id) q:=by
 have e:=(l8 hd hx).2;rw[if_neg ht] at e;refine⟨by rw[h.len];omega,by rw[h.cnt];omega,fun y hy hp=>h.held y (cH.1 hy).1 hp,fun y hy=>?_,fun i hi=>h.free i fun y hy hp=>?_,h.ord,fun y hy=>h.ids y (cH.1 hy).1⟩
 ·obtain⟨z,hz,r1,r2⟩:=h.items y hy;refine⟨z,cH.2 ⟨hz,fun e=>?_⟩,r1,r2⟩;obtain rfl:=nG hd hz hx e;exact ht r1
 intro e2;by_cases e3:y.id=x.id
 ·obtain rfl:=nG hd hy hx e3;exact ht hp
 exact hi y (cH.2 ⟨hy,e3⟩) hp e2
theorem mJ.Uw{L:List bS}{q q':bI}(h:mJ L q)(hd:L.Pairwise fun x y=>x.id≠y.id){x:bS}(hx:x∈L)(ht:0<x.aR){l i:Nat}(hl:q.hl=l+1)(hi:i≤l){hh:Int}(hf:q.hf i=⟨x.aR,x.id,hh⟩)
  (V4: ∀ i j,i<l+1→j<l+1→(q.hf i).bf=(q.hf j).bf→i=j) (e1:q'.hl=l) (e2:q'.hm+1=q.hm) (e3:q'.hf=Hp.rS q.hf l i) (e4:q'.φ=tK q.φ x.id none):mJ (without L x.id) q':=by
 have e:=(l8 hd hx).2;rw[if_pos ht] at e;have zy: ∀ y,Hp.In q'.hf q'.hl y↔Hp.In q.hf q.hl y∧y≠⟨x.aR,x.id,hh⟩:=fun y=>by rw[e1,e3,Hp.ZX hi V4,hl,hf]
 refine⟨by have:=h.len;omega,by have:=h.cnt;omega,fun y hy hp=>?_,fun y hy=>?_,fun j hj=>?_,?_,fun y hy=>h.ids y (cH.1 hy).1⟩
 ·obtain⟨hy1,YU⟩:=cH.1 hy;obtain⟨t,h1,h2⟩:=h.held y hy1 hp;refine⟨t,by rw[e4,cT _ _ YU];exact h1,(zy _).2 ⟨h2,fun e5=>?_⟩⟩;injection e5 with _ e5
  exact YU e5
 ·obtain⟨hy1,YU⟩:=(zy y).1 hy;obtain⟨z,hz,r1,r2,r3⟩:=h.items y hy1;have hzx:z.id≠x.id:=fun e5=>by
   obtain rfl:=nG hd hz hx e5;obtain⟨t,h1,h2⟩:=h.held z hz r1;obtain⟨z2,hz2,s1,s2,s3⟩:=h.items ⟨z.aR,z.id,hh⟩ ⟨i,ai,hf⟩;injection s2 with _ s4
   rw[←s4] at s3;rw[s3] at r3;injection r3 with r3
   exact YU (by rw[r2,←r3])
  exact⟨z,cH.2 ⟨hz,hzx⟩,r1,r2,by rw[e4,cT _ _ hzx];exact r3⟩
 ·rw[e4];by_cases e5:j=x.id
  ·rw[e5];exact ft _ _ _
  rw[cT _ _ e5];refine h.free j fun y hy hp e6=>?_
  have hyx:y.id≠x.id:=fun e7=>e5 (e6.symm.trans e7)
  exact hj y (cH.2 ⟨hy,hyx⟩) hp e6
 ·rw[e1,e3];exact Hp.Fe (hl▸h.ord) hi
theorem cG.WO{S:Nat→Prop}{w w':World}{b n au:Nat}{aA next aq:Int}{len:Nat}{q:bI}(h:cG S w b n au aA next aq len q)(ht:aI q.H w w'){hl:Nat}{hf:Nat→eI}(hi:bP q.H w' q.hp hl q.hn hf):
  cG S w' b n au aA next aq len {q with hl:=hl,hf:=hf}:=by
 have hno: ∀ x,(∀ k,q.H k→k≠x)→¬q.H x:=fun x hx e=>hx x e rfl
 exact⟨h.qj ht (hno _ fun k hk=>(h.apart k hk).2.1),h.lF ht (hno _ fun k hk=>(h.apart k hk).2.2.1) (hno _ fun k hk=>(h.apart k hk).2.2.2.1),h.qm ht (hno _ fun k hk=>(h.apart k hk).2.2.2.2.1) (hno _ fun k hk=>(h.apart k hk).2.2.2.2.2.1),h.lG ht (hno _ fun k hk=>(h.apart k hk).2.2.2.2.2.2.1),hi,h.nI ht (hno _ fun k hk=>(h.apart k hk).2.2.2.2.2.2.2),h.bB,h.apart,fun k hk=>aU (h.lt k hk) ht.size⟩
def Yx(q:bI)(hl hm:Nat)(hf:Nat→eI)(φ:Int→Option Int): bI:={q with hl:=hl,hm:=hm,hf:=hf,φ:=φ}
def abg(S:Nat→Prop)(w:World)(b n au:Nat)(aA next aq:Int)(len:Nat)(L:List bS)(q:bI)(id:Int)(e:Ending)(w':World): Prop:=(∃ v,e= .returned v)∧(∃ hl hm hf φ,cG S w' b n au aA next aq len (Yx q hl hm hf φ)∧mJ (without L id) (Yx q hl hm hf φ))∧aI S w w'
theorem OT(S:Nat→Prop)(b n au:Nat)(aA next aq:Int)(len:Nat)(L:List bS)(x:bS)(q:bI)(w:World)(h:cG S w b n au aA next aq len q)(hh:mJ L q)(hd:L.Pairwise fun x y=>x.id≠y.id)(hx:x∈L):
  Calls af 72 #[.pointer (some ⟨b,0,none⟩),.int .u32 x.id] w (abg S w b n au aA next aq len L q x.id):=by
 have hz0:=Hp.IV;have x10:w.cell? ⟨b,10,none⟩=some (.map (some q.mb)):=h.own.cell 10;have x9:w.cell? ⟨b,9,none⟩=some (.pointer (some ⟨q.hp,0,none⟩)):=h.own.cell 9;have pT:=hh.ids x hx;have HH:=aa h;have HHA:=aa hh;have HD:=aa hd;have HX:=aa hx;have HIR:=aa pT;have yY:(Lit.int iw x.id).wf=true:=WalkArith.wf_u32 ai;by_cases ht:0<x.aR
 ·obtain⟨hd0,hφ,i,hi,hf⟩:=hh.held x hx ht;have HE:=aa (show(q.φ x.id).getD 0=hd0∧(q.φ x.id).isSome=true from KN);obtain⟨l,hl⟩: ∃ l,q.hl=l+1:=⟨q.hl - 1,ai⟩;have aeN:bP q.H w q.hp (l+1) q.hn q.hf:=hl▸h.due;have hlt: ∀ k,q.H k→k<w.heap.size:=fun k hk=>h.lt k (h.apart k hk).1
  have Rx:=aa (show Calls af 161 #[.pointer (some ⟨q.hp,0,none⟩),.int .i64 hd0] w fun e w'=>e= .returned (.bool true)∧bP q.H w' q.hp l q.hn (Hp.rS q.hf l i)∧aI q.H w w' by
   have:=Hp.Gi q.H q.hp l i q.hn q.hf w aeN hlt ai;rw[hf] at this;exact this)
  have HIN:=aa (show ∀ i j,i<l+1→j<l+1→(q.hf i).bf=(q.hf j).bf→i=j from by
   obtain⟨iv,mb,φ,_,_,_,hpl,_⟩:=aeN.cw;exact fun i j h1 h2 e=>hpl.inj h1 h2 e)
  have HQ:=aa (dz hl (dz (show i≤l from ai) (dz hf ht)));have hc0:1≤q.hm:=by rw[hh.cnt,←hh.len];omega
  clear h hh hd hx pT hφ hf hl hi aeN hlt ht;go_enter Tryz.func72,Tryz.ntmps72;go_wp2_with (refine lu rfl _ _ 100 rfl 39 3 .u32 GG fx GI (hz0 _) q.mb q.hm q.φ rfl HH.o.held x.id rfl yY ?_;rw[HE.o.1,HE.o.2]);refine Rx.o.mono ?_;rintro e w1 ⟨rfl,kV,sx⟩;have hc1:=HH.o.WO sx kV;have y10:w1.cell? ⟨b,10,none⟩=some (.map (some q.mb)):=hc1.own.cell 10;have ku:=aa hc1;have iN:=aa (show aI S w w1 from sx.mono fun k _ hk=>(HH.o.apart k hk).1);clear hc1 kV sx x9 x10;go_wp2_with (refine Hp.ly rfl _ _ 100 39 rfl 3 .u32 GG GI q.mb q.hm q.φ rfl ku.o.held x.id rfl yY ?_;intro w2 Jb hg2;have HM2:=aa Jb;have yc:=aa hg2;clear Jb hg2);have hTm:aI (· =q.mb) w1 w2:=(aI.refl _ _).grown yc.o (fun k e=>.inl (cP e).symm);have Jb:=HM2.o;rw[if_pos HE.o.2] at Jb;have hc2:=ku.o.DR hTm Jb;refine bodyPost_end (results_none Tryz.results72 _ _ _) rfl ⟨⟨_,rfl⟩,⟨l,q.hm - 1,Hp.rS q.hf l i,tK q.φ x.id none,hc2,?_⟩,iN.o.trans (hTm.mono fun k _ hk=>by subst hk;exact HH.o.bB.2.2.2.2.2)⟩;exact HHA.o.Uw HD.o HX.o HQ.o.2.2.2 HQ.o.1 HQ.o.2.1 HQ.o.2.2.1 HIN.o rfl (by show q.hm - 1+1=q.hm;omega) rfl rfl
 ·have hφ:q.φ x.id=none:=hh.free x.id fun y hy hp e=>by
   obtain rfl:=nG hd hy hx e;exact ht hp
  have HE:=aa (show(q.φ x.id).getD 0=0∧(q.φ x.id).isSome=false from KN);have HF:=aa (hh.Ux hd hx ht);clear h hh hd hx pT hφ ht;go_enter Tryz.func72,Tryz.ntmps72;go_wp2_with (refine lu rfl _ _ 100 rfl 39 3 .u32 GG fx GI (hz0 _) q.mb q.hm q.φ rfl HH.o.held x.id rfl yY ?_;rw[HE.o.1,HE.o.2]);refine bodyPost_end (results_none Tryz.results72 _ _ _) rfl ⟨⟨_,rfl⟩,⟨q.hl,q.hm,q.hf,q.φ,HH.o,HF.o⟩,aI.refl _ _⟩
end Bk
end
section
namespace Bk
open Hp (bP)
variable{w:World}
theorem bo.make{S:Nat→Prop}{b n au:Nat}{aA next aq:Int}{L:List bS}{q:bI}(hc:cG S w b n au aA next aq L.length q)(hb: ∀ i,i<n→(hasB q.ws i=true↔∃ x∈L,x.aw=i))(hl: ∀ x∈L,x.aw<n∧q.sb x.aw=x)
  (ht: ∀ a v,km.jH q.f q.m a v↔∃ x∈L,x.id=a∧(x.aw:Int)=v) (hn:q.hn≤next∧(q.hn=next→∃ x∈L,x.id=next)) (hz:1≤n∧n≤1024) (hg:mJ L q):bo S w b n au aA next aq L q:=
 ⟨hc,hb,hl,fun j hj hs=>by
  obtain⟨x,hx,e,_⟩:=(ht _ _).1 ⟨j,hj,hs,rfl,rfl⟩;exact⟨x,hx,e.symm⟩,fun x hx=>(ht _ _).2 ⟨x,hx,rfl,rfl⟩,⟨by rw[hg.len];exact Jh L,hn,by rw[hg.cnt];exact Jh L,hz⟩,hg⟩
theorem bo.free{S:Nat→Prop}{b n au:Nat}{aA next aq:Int}{L:List bS}{q:bI}(h:bo S w b n au aA next aq L q)(hk: ∀ x∈L,x.id<next): q.hn<next:=by
 obtain⟨h1,h2⟩:=h.small.2.1;rcases Int.lt_or_le q.hn next with h3|h3
 ·exact h3
 obtain⟨x,hx,e⟩:=h2 ai;have:=hk x hx;omega
def abi(S:Nat→Prop)(w:World)(b n au:Nat)(aA next aq:Int)(L:List bS)(q:bI)(x:bS)(e:Ending)(w':World): Prop:=(∃ v,e= .returned v)∧(∃ q',bo S w' b n au aA next aq (without L x.id) q'∧q'.hp=q.hp)∧aI S w w'
theorem vbk{T:Nat→Prop}{w1 w2:World} {vb:Nat}{t:TypeId}{cs:Array Value}(hS: ∀ k,T k→k<w.heap.size)(hv:w.heap.size=vb)(ha:aG w1 vb t cs)(ht:aI T w1 w2): aG w2 vb t cs:=ht.arr ha (fun e=>by have:=hS _ e;omega)
theorem OU(S:Nat→Prop)(b n au:Nat)(aA next aq:Int)(L:List bS)(x:bS)(q:bI)(w:World)(h:bo S w b n au aA next aq L q)(hd:L.Pairwise fun x y=>x.id≠y.id)(hs:L.Pairwise fun x y=>x.aw≠y.aw)(hk: ∀ x∈L,x.id<next)(hx:x∈L):
  Calls af 73 #[.pointer (some ⟨b,0,none⟩),.agg #[.int .u32 x.id,.int .i64 x.aw,.int .i64 x.aR]] w (abi S w b n au aA next aq L q x):=by
 have V5:=h.free hk;obtain⟨i,RV,his,hie,hiv⟩:=h.listed x hx;have ZY:=(h.cw x hx).1;have hn4:=h.small.2.2.2;have pT:=h.qo.ids x hx;have HH:=aa h;have HD:=aa hd;have HS:=aa hs;have HX:=aa hx;have HI:=aa (dz RV (dz his hie));have HHN:=aa V5;have i':=aa (show ∀ k,S k→k<w.heap.size from h.bg.lt);clear h hd hs hk hx RV his hie hiv V5;go_enter Tryz.func73,Tryz.ntmps73;obtain⟨w1,a8⟩:=ae (w.alloc (.cells #[.int .u32 x.id,.int .i64 x.aw,.int .i64 x.aR] 171));obtain⟨vb,oh⟩:=ae w.heap.size;have bp:=aJ a8 oh;have hb1:=aK a8;have hc1:=HH.o.bg.ak hb1;have y0:=bp.cl 0;have ku:=aa hc1;have dF:=aa bp;have bA:=aa hb1;have yN:=aa oh;clear hc1 bp hb1;go_wp2_with fail;refine(OT S b n au aA next aq L.length L x q w1 ku.o HH.o.qo HD.o HX.o).mono ?_;rintro e w2 ⟨⟨v2,rfl⟩,⟨hl,hm,hf,φ,hc2,hg2⟩,jE⟩;have gZ:=vbk i'.o yN.o dF.o jE;have ahV:aI S w w2:=(aI.aW bA.o).trans jE;have x7:w2.cell? ⟨b,7,none⟩=some (.pointer (some ⟨q.ip,0,none⟩)):=hc2.own.cell 7;have z0:=gZ.cl 0;have Ek:=aa hc2;have yc:=aa hg2;have jB:=aa gZ;have gI:=aa ahV;clear hc2 hg2 gZ jE ahV ku dF bA y0 a8;go_wp2_with fail;go_still_tail 6,bh;change wpList _ _ _ _ _ w2.drew;have wF:=Ek.o.ak (az (ar _ _));have Yf:=aa (km.Gi q.ip q.ig q.m au L.length q.gr x.id q.f w2.drew wF.ids pT HI.o.1 HI.o.2.1 HI.o.2.2);clear wF;go_wp2_with fail;refine Yf.o.mono ?_;rintro e w3 ⟨rfl,hi3,rD,ki⟩;have hc3:=(Ek.o.ak (az (ar _ _))).vN ki hi3;have hf0:=HH.o.bg.bB;have Da:aI S w2.drew w3:=ki.mono fun k _ hk=>Ty
 have dE:=vbk i'.o yN.o (show aG w2.drew vb _ _ from jB.o) Da;have acX:aI S w w3:=(gI.o.ak (az (ar _ _))).trans Da;have x6:w3.cell? ⟨b,6,none⟩=some (.pointer (some ⟨q.tp,0,none⟩)):=hc3.own.cell 6;have z1:=dE.cl 1;have RD:=aa hc3;have pC:=aa dE;have iJ:=aa acX;clear hc3 dE ki Da acX hi3 Ek jB gI Yf x7 z0;go_wp2_with fail;go_still_tail 6,bh;change wpList _ _ _ _ _ w3.drew;have wF:=RD.o.ak (az (ar _ _));have Yf:=aa (yj.BS q.tp q.tg q.tc n x.aw q.ws w3.drew wF.taken ZY ai);clear wF;go_wp2_with fail;refine Yf.o.mono ?_;rintro e w4 ⟨rfl,tL,hg4⟩;have Kt:aI (· =q.tg) w3.drew w4:=(aI.refl _ _).grown hg4 (fun k e=>.inl (cP e).symm);have Ks:=(RD.o.ak (az (ar _ _))).qd Kt tL;have xQ:aI S w3.drew w4:=Kt.mono fun k _ hk=>KV
 have oa:=vbk i'.o yN.o (show aG w3.drew vb _ _ from pC.o) xQ;have acW:aI S w w4:=(iJ.o.ak (az (ar _ _))).trans xQ;have x8:w4.cell? ⟨b,8,none⟩=some (.slice (some ⟨q.sg,0,none⟩) n q.sc):=Ks.own.cell 8;have z1':=oa.cl 1;have QE:(x.aw:Int)<(n:Int):=ai;have hx0:(0:Int)≤(x.aw:Int):=ai;have sZ:(n:Int)≤1024:=ai;have RB:=aa Ks;have nU:=aa acW;have nV:=aa (Ks.ak (az (ar _ _))).gh;clear Ks oa Kt xQ acW tL hg4 RD pC iJ Yf x6 z1;go_wp2_with fail;go_still_tail 8,bh;change wpList _ _ _ _ _ w4.drew;refine cX rfl 171 _ _ rfl nV.o (fun _=>rfl) x.aw ZY rfl (jf ⟨0,0,0⟩) rfl rfl (sD _) eV ?_;intro w5 sk fF hs5;have qG:=aa sk;have p3:=aa fF;clear sk fF hs5 x8 z1';have Jo:aI (· =q.sg) w4.drew w5:=(aI.refl _ _).grown p3.o (fun k e=>.inl (cP e).symm);have sk:=qG.o;rw[rU] at sk;have FM:=(RB.o.ak (az (ar _ _))).nB Jo sk;have oH:aI S w w5:=(nU.o.ak (az (ar _ _))).trans (Jo.mono fun k _ hk=>E9);have hlen:=(l8 HD.o HX.o).1;rw[show L.length - 1=(without L x.id).length from ai] at FM;refine bodyPost_end (results_none Tryz.results73 _ _ _) rfl ⟨⟨_,rfl⟩,⟨_,bo.make FM ?_ ?_ ?_ ?_ hn4 ⟨yc.o.len,yc.o.cnt,yc.o.held,yc.o.items,yc.o.free,yc.o.ord,yc.o.ids⟩,rfl⟩,oH⟩
 ·intro j hj;show hasB (fun k=>if k=x.aw / 64 then q.ws k &&& (18446744073709551615 - 2 ^ (x.aw % 64))else q.ws k) j=true↔_
  rw[yj.DZ,Bool.and_eq_true,HH.o.bits j hj,Bool.not_eq_true',decide_eq_false_iff_not];constructor
  ·rintro⟨⟨y,hy,rfl⟩,hne⟩;refine⟨y,cH.2 ⟨hy,fun e=>hne ?_⟩,rfl⟩;rw[nG HD.o hy HX.o e]
  rintro⟨y,hy,rfl⟩;obtain⟨h1,h2⟩:=cH.1 hy;exact⟨⟨y,h1,rfl⟩,fun e=>h2 (by rw[pP HS.o h1 HX.o e])⟩
 ·intro y hy;obtain⟨h1,h2⟩:=cH.1 hy;refine⟨(HH.o.cw y h1).1,?_⟩;show cK q.sb x.aw ⟨0,0,0⟩ y.aw=y
  rw[bn _ _ (fun e=>h2 (by rw[pP HS.o h1 HX.o e]))];exact(HH.o.cw y h1).2
 ·intro a v;show km.jH (km.upd q.f i ⟨2,0,0⟩) q.m a v↔_
  rw[km.KM HH.o.bg.ids.tab HI.o.1 HI.o.2.1,HH.o.tbl,HI.o.2.2];constructor
  ·rintro⟨⟨y,hy,rfl,r⟩,hne⟩;exact⟨y,cH.2 ⟨hy,hne⟩,rfl,r⟩
  rintro⟨y,hy,rfl,r⟩;obtain⟨h1,h2⟩:=cH.1 hy;exact⟨⟨y,h1,rfl,r⟩,h2⟩
 ·have:=HHN.o;exact⟨by show q.hn≤next;omega,fun e=>absurd (show q.hn=next from e) ai⟩
end Bk
end
section
namespace Bk
open Hp (bP)
def stays(ug:Int)(x:bS): Bool:=decide (x.aR=0)||decide (ug<x.aR)
theorem CL{L:List bS}{id:Int}{K:bS→Bool}(h: ∀ y∈L,y.id=id→K y=false): (without L id).filter K=L.filter K:=by
 induction L with
 | nil=>rfl
 | cons a L ih=>
  have ih':=ih fun y hy=>h y (List.mem_cons_of_mem _ hy)
  unfold without at ih' ⊢;by_cases e:a.id=id
  ·rw[jh (by simpa using e),ih',jh (by rw[h a (List.mem_cons_self ..) e];simp)]
  rw[kO (by simpa using e)];by_cases k:K a=true
  ·rw[kO k,kO k,ih']
  rw[jh k,jh k,ih']
theorem yo(L:List bS)(id:Int): (without L id).Sublist L:=List.filter_sublist
def FC(p:Nat)(w:World): Nat:=match w.cell? ⟨p,1,none⟩with
 | some (.slice _ n _)=>n
 | _=>0
theorem Bh{S:Nat→Prop}{w:World}{p l:Nat}{next:Int}{f:Nat→eI}(h:bP S w p l next f): FC p w=l:=by
 obtain⟨iv,mb,φ,hp,hr,_⟩:=h.cw;obtain⟨A,cap,rfl⟩:=hr.any;have h1:w.cell? ⟨p,1,none⟩=some (.slice A l cap):=hp.cell 1;simp only[FC,h1]
theorem mJ.first{L:List bS}{q:bI}(h:mJ L q)(hl:0<q.hl): ∃ x∈L,0<x.aR∧(q.hf 0).aR=x.aR∧(q.hf 0).id=x.id∧∀ y∈L,0<y.aR→x.aR≤y.aR:=by
 obtain⟨x,hx,h1,h2,_⟩:=h.items (q.hf 0) ⟨0,hl,rfl⟩;have e1:(q.hf 0).aR=x.aR:=by rw[h2]
 have e2:(q.hf 0).id=x.id:=by rw[h2]
 refine⟨x,hx,h1,e1,e2,fun y hy hp=>?_⟩;obtain⟨t,_,i,hi,hf⟩:=h.held y hy hp;have:=h.ord.least i hi;rw[Hp.vK,hf,e1] at this;simp only at this;omega
def aaN(S:Nat→Prop)(w:World)(b n au:Nat)(aA next ug:Int)(L:List bS)(e:Ending)(w':World): Prop:=e= .returned (.int .i64 0)∧(∃ q',bo S w' b n au aA next ug (L.filter (stays ug)) q')∧aI S w w'
theorem Zw(S:Nat→Prop)(b n au:Nat)(aA next aq ug:Int)(L:List bS)(q:bI)(w:World)(h:bo S w b n au aA next aq L q)(hd:L.Pairwise fun x y=>x.id≠y.id)(hs:L.Pairwise fun x y=>x.aw≠y.aw)(hk: ∀ x∈L,x.id<next)(h0: ∀ x∈L,0≤x.aR)(hc:aq<ug):
  Calls af 70 #[.pointer (some ⟨b,0,none⟩),.int .i64 ug] w (aaN S w b n au aA next ug L):=by
 have x4:w.cell? ⟨b,4,none⟩=some (.int .i64 aq):=h.bg.own.cell 4;have m4:=h.bg.own.mark 4;have hbl:=h.bg.own.lt;have T1:=(aI.refl (fun j=>j=b) w).put (p:=⟨b,4,none⟩) (.inl rfl) (.int .i64 ug);have DK:=h.bg.own.put 4 (.int .i64 ug);obtain⟨w1,a8⟩:=ae (w.setCell ⟨b,4,none⟩ (.int .i64 ug));rw[a8] at T1 DK;have h1:bo S w1 b n au aA next ug L q:=h.kT (h.bg.kT T1 DK);have iN:=aa (show aI S w w1 from T1.mono fun k _ hk=>by subst hk;exact h.bg.bB.1);have H1:=aa h1;have HD:=aa hd;have HS:=aa hs;have HK:=aa hk;have H0:=aa h0;have hle: ¬ug≤aq:=ai;clear h hd hs hk h0 T1 DK h1;go_enter Tryz.func70,Tryz.ntmps70;go_wp2_with fail;go_loopw [] (fun wr=>∃ (M:List bS) (p:bI),p.hp=q.hp∧bo S wr b n au aA next ug M p∧M.Sublist L∧M.filter (stays ug)=L.filter (stays ug)∧aI S w wr) (fun wr=>FC q.hp wr)
 case atStart=>exact⟨L,q,rfl,H1.o,List.Sublist.refl _,rfl,iN.o⟩
 case round=>
  clear H1 iN;obtain⟨M,p,hpp,hB,Z6,ahB,hT⟩:=hrel;have x7:wr.cell? ⟨b,9,none⟩=some (.pointer (some ⟨p.hp,0,none⟩)):=hB.bg.own.cell 9;have hdM:M.Pairwise fun x y=>x.id≠y.id:=HD.o.sublist Z6
  have hsM:M.Pairwise fun x y=>x.aw≠y.aw:=HS.o.sublist Z6
  have HPP:=aa hpp;have HB:=aa hB;have X3:=aa Z6;have afL:=aa ahB;have HT:=aa hT;have HMS:=aa (dz hdM hsM);have HIT:=aa (Bh hB.bg.due);clear hpp Z6 ahB hT hdM hsM;rcases Nat.eq_zero_or_pos p.hl with hl|hl
  ·have HL:=aa (Hp.ML p.H p.hp p.hn p.hf wr (hl▸hB.bg.due));have M7:=aa (show M.filter (stays ug)=M from by
    rw[GL];intro x hx;have h1:kh M=0:=by rw[←hB.qo.len];exact hl
    have h2: ¬0<x.aR:=fun h=>by
     have:x∈M.filter fun x=>decide (0<x.aR):=List.mem_filter.2 ⟨hx,ur⟩
     rw[List.length_eq_zero_iff.1 h1] at this;cases this
    have h3:=H0.o x (X3.o.subset hx);have:x.aR=0:=ai;unfold stays;simp[this])
   clear hB hl;go_wp2_with fail;refine HL.o.mono ?_;rintro e w2 ⟨rfl,hb2⟩;have cu:=aa hb2;clear hb2;go_wp2_with fail;go_ret;have hb3:Below wr.heap.size wr (w2.alloc (Obj.cells #[eK aN 0,eK iw 0] 211)):=ay cu.o _;refine⟨rfl,⟨p,?_⟩,HT.o.ak hb3⟩;rw[←afL.o,M7.o];exact HB.o.ak hb3
  obtain⟨x,hx,VD,e1,e2,ahh⟩:=hB.qo.first hl
  have hxL:=X3.o.subset hx;have HXI:=aa (hB.qo.ids x hx);have HL:=aa (show Calls af 159 #[.pointer (some ⟨p.hp,0,none⟩)] wr fun e w'=>e= .returned (.tuple #[.agg #[.int .i64 x.aR,.int .u32 x.id],.int .i64 (p.hf 0).bf,.bool true])∧Below wr.heap.size wr w' by
   have:=Hp.MK p.H p.hp p.hl p.hn p.hf wr hB.bg.due hl;rw[e1,e2] at this;exact this)
  have HX:=aa (dz hx (dz VD ahh));have HKX:=aa (fun y hy=>HK.o y (X3.o.subset hy));clear hB hx ahh e1 e2 hxL;by_cases hlt:ug<x.aR
  ·have FK:decide (ug<x.aR)=true:=decide_eq_true hlt;have M7:=aa (show M.filter (stays ug)=M from by
    rw[GL];intro y hy;have h3:=H0.o y (X3.o.subset hy);unfold stays;by_cases h4:0<y.aR
    ·have:=HX.o.2.2 y hy h4;have h5:decide (ug<y.aR)=true:=zA;rw[h5,Bool.or_true]
    have:y.aR=0:=ai;simp[this])
   clear hl;go_wp2_with fail;refine HL.o.mono ?_;rintro e w2 ⟨rfl,hb2⟩;have cu:=aa hb2;clear hb2;go_wp2_with fail;go_ret;have hb3:Below wr.heap.size wr (w2.alloc (Obj.cells #[eK aN x.aR,eK iw x.id] 211)):=ay cu.o _;refine⟨rfl,⟨p,?_⟩,HT.o.ak hb3⟩;rw[←afL.o,M7.o];exact HB.o.ak hb3
  have FK:decide (ug<x.aR)=false:=decide_eq_false hlt;have alm:=aa (show stays ug x=false from by
   unfold stays;rw[FK,Bool.or_false];exact decide_eq_false ai)
  have HLP:=aa hl;clear hl;go_wp2_with fail;refine HL.o.mono ?_;rintro e w2 ⟨rfl,hb2⟩;obtain⟨w3,hw3⟩:=ae (w2.alloc (.cells #[.int .i64 x.aR,.int .u32 x.id] 211));obtain⟨db,hdb⟩:=ae w2.heap.size;have Wm:=aJ hw3 hdb;have hb3:=ek hb2 hw3;have y1:=Wm.cl 1;have y0:=Wm.cl 0;have dV:=aa hb3;clear hb2 hb3 Wm;go_wp2_with fail;refine(Cj (HB.o.ak dV.o) x HX.o.1 HXI.o).mono ?_;rintro e w4 ⟨rfl,wH,jK⟩;have nU:=aa (show aI S w w4 from(HT.o.ak dV.o).trans (jK.mono fun k _ hk=>by subst hk;exact HB.o.bg.bB.2.2.2.1));obtain⟨w5,jD⟩:=ae (w4.alloc (.cells #[.int .u32 x.id,.int .i64 (x.aw:Int),.int .i64 x.aR] 171));obtain⟨xb,yX⟩:=ae w4.heap.size;have dU:=aK jD;have CD:=aJ jD yX;have z0:=CD.cl 0;have z1:=CD.cl 1;have z2:=CD.cl 2;have eu:=aa (wH.ak dU);have pz:=aa (nU.o.ak dU);clear wH jK dU CD y0 y1;go_wp2_with fail;refine(OU S b n au aA next ug M x p w5 eu.o HMS.o.1 HMS.o.2 HKX.o HX.o.1).mono ?_;rintro e w6 ⟨⟨v6,rfl⟩,⟨p6,Wt,zw⟩,pW⟩;have iL:=aa Wt;have vn:=aa (pz.o.trans pW);have MU:=aa zw;clear Wt pW zw z0 z1 z2;go_wp2_with fail;go_roundw
  case rel=>exact⟨without M x.id,p6,MU.o.trans HPP.o,iL.o,(yo M x.id).trans X3.o,by rw[CL (fun y hy e=>by rw[nG HMS.o.1 hy HX.o.1 e];exact alm.o),afL.o],vn.o⟩
  case measure=>
   have e1:=Bh iL.o.bg.due;have e2:=HIT.o;rw[MU.o,HPP.o] at e1;rw[HPP.o] at e2;have e3:=iL.o.qo.len;have e4:=HB.o.qo.len;have e5:=(l8 HMS.o.1 HX.o.1).2;rw[if_pos HX.o.2.1] at e5;omega
end Bk
end
section
namespace Bk
open Hp (bP)
def recC(k id s t c:Int): Array Value:=#[.int .i64 k,.int .u32 id,.int .i64 s,.int .i64 t,.int .i64 c]
def Qn(L:List bS)(s:Nat): Bool:=L.any fun x=>decide (x.aw=s)
variable{s:Nat}
theorem vH{L:List bS}: Qn L s=true↔∃ x∈L,x.aw=s:=by unfold Qn;simp[List.any_eq_true]
theorem bo.on{S:Nat→Prop}{w:World}{b n au:Nat}{aA next aq:Int}{L:List bS}{q:bI}(h:bo S w b n au aA next aq L q)(hs:s<n): hasB q.ws s=Qn L s:=by rw[Bool.eq_iff_iff,h.bits s hs,vH]
def mf(n au:Nat)(next aq:Int)(L:List bS)(id:Int)(s:Nat)(t:Int): Int:=
 if id≠next then 2 else if n≤s then 140 else if t≤aq then 173 else if Qn L s=true then 170 else if au≤L.length then 6 else if next=4294967295 then 6 else 0
def na(S:Nat→Prop)(w:World)(b n au:Nat)(aA next aq:Int)(L:List bS)(q:bI)(id:Int)(s:Nat)(t:Int)(e:Ending)(w':World): Prop:=
 e= .returned (.int .i64 (mf n au next aq L id s t))∧aI S w w'∧
 if mf n au next aq L id s t=0 then ∃ q',bo (fun k=>(S k∨w.heap.size≤k)∧k<w'.heap.size) w' b n au aA (next+1) aq (L++ [⟨id,s,t⟩]) q'
 else bo S w' b n au aA next aq L q
theorem na.no{S:Nat→Prop}{w w':World}{b n au:Nat}{aA next aq:Int}{L:List bS}{q:bI}{id:Int}{t r:Int}(hr:mf n au next aq L id s t=r)(hz:r≠0)(h:bo S w b n au aA next aq L q)(hb:Below w.heap.size w w'): na S w b n au aA next aq L q id s t (.returned (.int .i64 r)) w':=
 ⟨by rw[hr],aI.aW hb,by rw[hr,if_neg hz];exact h.ak hb⟩
theorem aab(S:Nat→Prop)(b n au:Nat)(aA next aq:Int)(L:List bS)(q:bI)(w:World)(k id:Int)(s:Nat)(t c:Int)(h:bo S w b n au aA next aq L q)(hk: ∀ x∈L,x.id<next)(DL:1≤next∧next<4294967296)(hck:0≤aq)(hid:0≤id∧id<4294967296)(hs:s≤1023)(ht:t≤1099511627776):
  Calls af 69 #[.pointer (some ⟨b,0,none⟩),.agg (recC k id s t c)] w (na S w b n au aA next aq L q id s t):=by
 have hn4:=h.small.2.2.2;have hroom:=h.bg.ids.bj;have HK:=aa hk;have HH:=aa h;obtain⟨w1,a8⟩:=ae (w.alloc (.cells (recC k id s t c) 58));obtain⟨rb,jJ⟩:=ae w.heap.size;have bp:=aJ a8 jJ;have hb1:=aK a8;have hlt:=h.bg.lt;have i':=aa hlt;dsimp only[recC] at a8 bp ⊢;clear h hk hlt;have hA:=bp;have hb:=hb1;have cL:=HH.o.ak hb1;clear bp hb1;have x5:w1.cell? ⟨b,5,none⟩=some (.int .u32 next):=cL.bg.own.cell 5;have y1:w1.cell? ⟨rb,1,none⟩=some (.int .u32 id):=hA.cell 1;have HA:=aa hA;have HB:=aa hb;have fC:=aa cL;clear hA hb cL;go_enter Tryz.func69,Tryz.ntmps69;go_wp2_with fail;by_cases c1:id≠next
 ·skip;have Nc1:=aa c1;have hq:(id != next)=true:=by simpa using c1
  refine wp_region_quiet_lit bh bh ?_;repeat(first|go_big_quiet_step ((fail))|quiet_step ((fail)))
  refine wpQuiet_nil ?_;intro _ hw';obtain⟨nq,hw''⟩:=hw';subst hw'';have hb:=aQ HB.o nq;have hA:=HA.o.drewN nq;have cL:=fC.o.ak (aQ (ar _ w1) nq);obtain⟨w2,hw2⟩:=ae (w1.drewN nq);rw[hw2] at hb hA cL ⊢;clear hw2 HA HB fC x5 y1 hq;have HB:=aa hb;clear hA cL hb;go_wp2_with fail;go_ret;exact na.no (by unfold mf;rw[if_pos Nc1.o]) aM HH.o HB.o
 ·skip;have Nc1:=aa c1;have hq:(id != next)=false:=by simpa using c1
  refine wp_region_quiet_lit bh bh ?_;repeat(first|go_big_quiet_step ((fail))|quiet_step ((fail)))
  refine wpQuiet_nil ?_;intro _ hw';obtain⟨nq,hw''⟩:=hw';subst hw'';have hb:=aQ HB.o nq;have hA:=HA.o.drewN nq;have cL:=fC.o.ak (aQ (ar _ w1) nq);obtain⟨w2,hw2⟩:=ae (w1.drewN nq);rw[hw2] at hb hA cL ⊢;clear hw2 HA HB fC x5 y1 hq;have x0:w2.cell? ⟨b,0,none⟩=some (.int .i64 n):=cL.bg.own.cell 0;have y2:w2.cell? ⟨rb,2,none⟩=some (.int .i64 (s:Int)):=hA.cell 2;have HA:=aa hA;have HB:=aa hb;have fC:=aa cL;clear hA hb cL;go_wp2_with fail;by_cases c2:n≤s
  ·skip;have Nc2:=aa c2;have hq:(n:Int)≤(s:Int):=ai;refine wp_region_quiet_lit bh bh ?_;repeat(first|go_big_quiet_step ((fail))|quiet_step ((fail)))
   refine wpQuiet_nil ?_;intro _ hw';obtain⟨nq,hw''⟩:=hw';subst hw'';have hb:=aQ HB.o nq;have hA:=HA.o.drewN nq;have cL:=fC.o.ak (aQ (ar _ w2) nq);obtain⟨w3,hw3⟩:=ae (w2.drewN nq);rw[hw3] at hb hA cL ⊢;clear hw3 HA HB fC x0 y2 hq;have HB:=aa hb;clear hA cL hb;go_wp2_with fail;go_ret;exact na.no (by unfold mf;rw[if_neg Nc1.o,if_pos Nc2.o]) aM HH.o HB.o
  skip;have Nc2:=aa c2;have hq: ¬(n:Int)≤(s:Int):=ai;refine wp_region_quiet_lit bh bh ?_;repeat(first|go_big_quiet_step ((fail))|quiet_step ((fail)))
  refine wpQuiet_nil ?_;intro _ hw';obtain⟨nq,hw''⟩:=hw';subst hw'';have hb:=aQ HB.o nq;have hA:=HA.o.drewN nq;have cL:=fC.o.ak (aQ (ar _ w2) nq);obtain⟨w3,hw3⟩:=ae (w2.drewN nq);rw[hw3] at hb hA cL ⊢;clear hw3 HA HB fC x0 y2 hq;have x4:w3.cell? ⟨b,4,none⟩=some (.int .i64 aq):=cL.bg.own.cell 4;have y3:w3.cell? ⟨rb,3,none⟩=some (.int .i64 t):=hA.cell 3;have HA:=aa hA;have HB:=aa hb;have fC:=aa cL;clear hA hb cL;go_wp2_with fail;by_cases c3:t≤aq
  ·skip;have Nc3:=aa c3;refine wp_region_quiet_lit bh bh ?_;repeat(first|go_big_quiet_step ((fail))|quiet_step ((fail)))
   refine wpQuiet_nil ?_;intro _ hw';obtain⟨nq,hw''⟩:=hw';subst hw'';have hb:=aQ HB.o nq;have hA:=HA.o.drewN nq;have cL:=fC.o.ak (aQ (ar _ w3) nq);obtain⟨w4,hw4⟩:=ae (w3.drewN nq);rw[hw4] at hb hA cL ⊢;clear hw4 HA HB fC x4 y3;have HB:=aa hb;clear hA cL hb;go_wp2_with fail;go_ret;exact na.no (by unfold mf;rw[if_neg Nc1.o,if_neg Nc2.o,if_pos Nc3.o]) aM HH.o HB.o
  skip;have Nc3:=aa c3;refine wp_region_quiet_lit bh bh ?_;repeat(first|go_big_quiet_step ((fail))|quiet_step ((fail)))
  refine wpQuiet_nil ?_;intro _ hw';obtain⟨nq,hw''⟩:=hw';subst hw'';have hb:=aQ HB.o nq;have hA:=HA.o.drewN nq;have cL:=fC.o.ak (aQ (ar _ w3) nq);obtain⟨w4,hw4⟩:=ae (w3.drewN nq);rw[hw4] at hb hA cL ⊢;clear hw4 HA HB fC x4 y3;have x6:w4.cell? ⟨b,6,none⟩=some (.pointer (some ⟨q.tp,0,none⟩)):=cL.bg.own.cell 6;have y2:w4.cell? ⟨rb,2,none⟩=some (.int .i64 (s:Int)):=hA.cell 2;have HA:=aa hA;have HB:=aa hb;have fC:=aa cL;clear hA hb cL;go_wp2_with fail;have Rv:=aa (fun W (hW:fU W q.tp q.tg q.tc n q.ws)=>yj.pc q.tp q.tg q.tc n s q.ws W hW ai ai);have Zc:=aa (show ∀ m,fU (w4.drewN m) q.tp q.tg q.tc n q.ws from fun m=>(fC.o.ak (aQ (ar _ _) m)).bg.taken);have rh:s<n:=ai;by_cases c4:Qn L s=true
  ·skip;have Nc4:=aa c4;have HQ:=aa (show hasB q.ws s=true from by rw[HH.o.on rh];exact c4);go_still_tail 6,bh;change wpList _ _ _ _ _ w4.drew;have cL:=fC.o.ak (az (ar _ _));have hA:aG w4.drew rb 58 _:=HA.o;have hb:=az HB.o;obtain⟨w5,jD⟩:=ae w4.drew;rw[jD] at hb hA cL ⊢;clear jD HA HB fC x6 y2 Zc;have HC:=aa (Rv.o w5 cL.bg.taken);have HA:=aa hA;have HB:=aa hb;have fC:=aa cL;clear hA hb cL;go_wp2_with fail;refine HC.o.mono ?_;rw[HQ.o];rintro e w9 ⟨rfl,jI⟩;rw[jI];clear jI w9 HC c4;go_wp2_with fail;go_ret;exact na.no (by unfold mf;rw[if_neg Nc1.o,if_neg Nc2.o,if_neg (zK.2 Nc3.o),if_pos Nc4.o]) aM HH.o HB.o
  skip;have Nc4:=aa c4;have HQ:=aa (show hasB q.ws s=false from by rw[HH.o.on rh];simpa using c4);go_still_tail 6,bh;change wpList _ _ _ _ _ w4.drew;have cL:=fC.o.ak (az (ar _ _));have hA:aG w4.drew rb 58 _:=HA.o;have hb:=az HB.o;obtain⟨w5,jD⟩:=ae w4.drew;rw[jD] at hb hA cL ⊢;clear jD HA HB fC x6 y2 Zc;have HC:=aa (Rv.o w5 cL.bg.taken);have HA:=aa hA;have HB:=aa hb;have fC:=aa cL;clear hA hb cL;go_wp2_with fail;refine HC.o.mono ?_;rw[HQ.o];rintro e w9 ⟨rfl,jI⟩;rw[jI];clear jI w9 HC c4;have hA:=HA.o;have hb:=HB.o;have cL:=fC.o;clear HA HB fC;have x7:w5.cell? ⟨b,7,none⟩=some (.pointer (some ⟨q.ip,0,none⟩)):=cL.bg.own.cell 7;have x1:w5.cell? ⟨b,1,none⟩=some (.int .i64 au):=cL.bg.own.cell 1;have HA:=aa hA;have HB:=aa hb;have fC:=aa cL;clear hA hb cL;have uU:=aa (fun m=>XN q.ip q.ig q.m au L.length q.gr q.f (w5.drewN m) (fC.o.ak (aQ (ar _ _) m)).bg.ids);go_wp2_with fail;by_cases c5:au≤L.length
  ·skip;have Nc5:=aa c5;have hq:(au:Int)≤(L.length:Int):=ai;refine wp_region_quiet_lit bh bh ?_;repeat(first|go_big_quiet_step ((go_at_call 108;exact dm (uU.o _)))|quiet_step ((go_at_call 108;exact dm (uU.o _))))
   refine wpQuiet_nil ?_;intro _ hw';obtain⟨nq,hw''⟩:=hw';subst hw'';have hb:=aQ HB.o nq;have hA:=HA.o.drewN nq;have cL:=fC.o.ak (aQ (ar _ w5) nq);obtain⟨w6,og⟩:=ae (w5.drewN nq);rw[og] at hb hA cL ⊢;clear og HA HB fC uU x7 x1 hq;have HB:=aa hb;clear hA cL hb;go_wp2_with fail;go_ret;exact na.no (by unfold mf;rw[if_neg Nc1.o,if_neg Nc2.o,if_neg (zK.2 Nc3.o),if_neg La,if_pos Nc5.o]) aM HH.o HB.o
  skip;have Nc5:=aa c5;have hq: ¬(au:Int)≤(L.length:Int):=ai;refine wp_region_quiet_lit bh bh ?_;repeat(first|go_big_quiet_step ((go_at_call 108;exact dm (uU.o _)))|quiet_step ((go_at_call 108;exact dm (uU.o _))))
  refine wpQuiet_nil ?_;intro _ hw';obtain⟨nq,hw''⟩:=hw';subst hw'';have hb:=aQ HB.o nq;have hA:=HA.o.drewN nq;have cL:=fC.o.ak (aQ (ar _ w5) nq);obtain⟨w6,og⟩:=ae (w5.drewN nq);rw[og] at hb hA cL ⊢;clear og HA HB fC uU x7 x1 hq;have x5:w6.cell? ⟨b,5,none⟩=some (.int .u32 next):=cL.bg.own.cell 5;have y1:w6.cell? ⟨rb,1,none⟩=some (.int .u32 id):=hA.cell 1;have y2:w6.cell? ⟨rb,2,none⟩=some (.int .i64 (s:Int)):=hA.cell 2;have y3:w6.cell? ⟨rb,3,none⟩=some (.int .i64 t):=hA.cell 3;have HA:=aa hA;have HB:=aa hb;have fC:=aa cL;clear hA hb cL;by_cases c6:next=4294967295
  ·skip;have hq:(next==4294967295)=true:=by simpa using c6
   have Nc6:=aa c6;clear c6;go_wp2_with fail;go_ret;exact na.no (by unfold mf;rw[if_neg Nc1.o,if_neg Nc2.o,if_neg (zK.2 Nc3.o),if_neg La,if_neg Nc5.o,if_pos Nc6.o]) aM HH.o HB.o
  skip;have hq:(next==4294967295)=false:=by simpa using c6
  have Nc6:=aa c6;have ahr:id=next:=by have:=Nc1.o;omega
  have Kr: ∀ y∈L,y.id≠id:=fun y hy e=>by have:=HK.o y hy;omega
  have kC: ∀ y∈L,y.aw≠s:=fun y hy e=>Nc4.o (vH.2 ⟨y,hy,e⟩)
  have V5:=HH.o.free HK.o;have Rs:=aa (Uo S b n au aA next aq L ⟨id,s,t⟩ q w6 fC.o hid Kr kC rh (by have:=Nc5.o;omega) (by have:=Nc3.o;exact⟨by show 0≤t;omega,ht⟩) ⟨by show q.hn<id;omega,by show id≤next;omega⟩);have hwx:iw.wrap (next+1)=next+1:=by rw[IntKind.wrap_u32];have:=Nc6.o;omega
  have HN:=aa ahr;clear ahr Kr kC V5 c6;go_wp2_with fail;refine Rs.o.mono ?_;rintro e w9 ⟨⟨v9,rfl⟩,⟨q9,hq9,hn9⟩,hT9⟩;have x5:w9.cell? ⟨b,5,none⟩=some (.int .u32 next):=hq9.bg.own.cell 5;have m5:=hq9.bg.own.mark 5;have hbl:=hq9.bg.own.lt;have T10:=(aI.refl (fun j=>j=b) w9).put (p:=⟨b,5,none⟩) (.inl rfl) (.int .u32 (next+1));have L':=hq9.bg.own.put 5 (.int .u32 (next+1));obtain⟨vg,Z2⟩:=ae (w9.setCell ⟨b,5,none⟩ (.int .u32 (next+1)));rw[Z2] at T10 L';have h10:=hq9.kT (hq9.bg.kT T10 L');have ahT:aI S w w9:=(aI.aW HB.o).trans hT9;have ahW:aI S w vg:=ahT.trans (show aI S w9 vg from T10.mono fun k _ e=>by subst e;exact HH.o.bg.bB.1);have HZ:=aa (show w.heap.size≤w6.heap.size∧w9.heap.size≤vg.heap.size from⟨HB.o.size,T10.size⟩);have H10:=aa h10;have ak8:=aa ahW;clear hq9 hT9 ahT T10 L' h10 ahW hn9 y1 y2 y3;go_wp2_with fail;go_ret;have hr:mf n au next aq L id s t=0:=by unfold mf;rw[if_neg Nc1.o,if_neg Nc2.o,if_neg (zK.2 Nc3.o),if_neg La,if_neg Nc5.o,if_neg Nc6.o]
  refine⟨by rw[hr];rfl,ak8.o,?_⟩;rw[if_pos hr];refine⟨q9,⟨H10.o.bg.mono (fun k hk=>⟨?_,aU hk.2 HZ.o.2⟩) (fun k hk=>hk.2),H10.o.bits,H10.o.cw,H10.o.under,H10.o.listed,H10.o.small,H10.o.qo⟩⟩;rcases hk.1 with h|h
  ·exact .inl h
  exact .inr (Nat.le_trans HZ.o.1 h)
end Bk
end
section
namespace Bk
open Hp (bP)
def qW(L:List bS)(id:Int)(s:Nat): List bS:=L.map fun y=>if y.id=id then {y with aw:=s}else y
theorem Qr(L:List bS)(id:Int)(s:Nat): (qW L id s).length=L.length:=by unfold qW;rw[List.length_map]
theorem lD{L:List bS}{id:Int}{s:Nat}{z:bS}: z∈qW L id s↔∃ y∈L,(if y.id=id then {y with aw:=s}else y)=z:=by unfold qW;rw[nd]
theorem Ba{L:List bS}(hd:L.Pairwise fun x y=>x.id≠y.id){x:bS}(hx:x∈L): qW L x.id x.aw=L:=by
 unfold qW
 conv=>rhs;rw[←List.map_id L]
 refine List.map_congr_left fun y hy=>?_
 by_cases e:y.id=x.id
 ·rw[if_pos e,nG hd hy hx e];rfl
 rw[if_neg e];rfl
theorem mJ.map{L:List bS}{q q':bI}(h:mJ L q)(g:bS→bS)(hg: ∀ y,(g y).aR=y.aR∧(g y).id=y.id)(e1:q'.hl=q.hl)(e2:q'.hm=q.hm)(e3:q'.hf=q.hf)(e4:q'.φ=q.φ): mJ (L.map g) q':=by
 have hn:kh (L.map g)=kh L:=by
  unfold kh;rw[List.filter_map,List.length_map];congr 2;funext y;show decide (0<(g y).aR)=_
  rw[(hg y).1]
 refine⟨by rw[e1,hn,h.len],by rw[e2,hn,h.cnt],fun z hz hp=>?_,fun y hy=>?_,fun i hi=>?_,by rw[e1,e3];exact h.ord,fun z hz=>?_⟩
 ·obtain⟨y,hy,rfl⟩:=nd.1 hz;rw[(hg y).1] at hp ⊢;rw[(hg y).2,e1,e3,e4];exact h.held y hy hp
 ·rw[e1,e3] at hy;obtain⟨z,hz,r1,r2,r3⟩:=h.items y hy;exact⟨g z,nd.2 ⟨z,hz,rfl⟩,by rw[(hg z).1];exact r1,by rw[(hg z).1,(hg z).2];exact r2,by rw[e4,(hg z).2];exact r3⟩
 ·rw[e4];exact h.free i fun y hy hp=>by
   have:=hi (g y) (nd.2 ⟨y,hy,rfl⟩) (by rw[(hg y).1];exact hp)
   rwa [(hg y).2] at this
 obtain⟨y,hy,rfl⟩:=nd.1 hz;rw[(hg y).2];exact h.ids y hy
def fg(n:Nat)(L:List bS)(x:bS)(s:Nat): Int:=if n≤s then 140 else if s=x.aw then 0 else if Qn L s=true then 170 else 0
def pX(S:Nat→Prop)(w:World)(b n au:Nat)(aA next aq:Int)(L:List bS)(x:bS)(s:Nat)(e:Ending)(w':World): Prop:=
 e= .returned (.int .i64 (fg n L x s))∧aI S w w'∧∃ q',bo S w' b n au aA next aq (if fg n L x s=0 then qW L x.id s else L) q'
theorem pX.no{S:Nat→Prop}{w w':World}{b n au:Nat}{aA next aq:Int}{L:List bS}{q:bI}{x:bS}{s:Nat}{r:Int}(hr:fg n L x s=r)(hz:r≠0)(h:bo S w b n au aA next aq L q)(hb:Below w.heap.size w w'): pX S w b n au aA next aq L x s (.returned (.int .i64 r)) w':=
 ⟨by rw[hr],aI.aW hb,q,by rw[hr,if_neg hz];exact h.ak hb⟩
theorem Qi(S:Nat→Prop)(b n au:Nat)(aA next aq:Int)(L:List bS)(x:bS)(q:bI)(w:World)(s:Nat)(h:bo S w b n au aA next aq L q)(hd:L.Pairwise fun x y=>x.id≠y.id)(hss:L.Pairwise fun x y=>x.aw≠y.aw)(hk: ∀ x∈L,x.id<next)(hx:x∈L)(hs:s≤1023):
  Calls af 74 #[.pointer (some ⟨b,0,none⟩),.agg #[.int .u32 x.id,.int .i64 x.aw,.int .i64 x.aR],.int .i64 s] w (pX S w b n au aA next aq L x s):=by
 have hn4:=h.small.2.2.2;have V5:=h.free hk;obtain⟨i,RV,his,hie,hiv⟩:=h.listed x hx;have ZY:=(h.cw x hx).1;have pT:=h.qo.ids x hx;have HH:=aa h;have HD:=aa hd;have Rk:=aa hss;have HX:=aa hx;have HI:=aa (dz RV (dz his hie));have HHN:=aa V5;have i':=aa (show ∀ k,S k→k<w.heap.size from h.bg.lt);obtain⟨w1,a8⟩:=ae (w.alloc (.cells #[.int .u32 x.id,.int .i64 x.aw,.int .i64 x.aR] 171));obtain⟨vb,oh⟩:=ae w.heap.size;have hA:=aJ a8 oh;have hb1:=aK a8;have cL:=h.ak hb1;have x0:w1.cell? ⟨b,0,none⟩=some (.int .i64 n):=cL.bg.own.cell 0;have x6:w1.cell? ⟨b,6,none⟩=some (.pointer (some ⟨q.tp,0,none⟩)):=cL.bg.own.cell 6;have y1:=hA.cl 1;have HA:=aa hA;have HB:=aa hb1;have fC:=aa cL;have yN:=aa oh;clear h hd hss hk hx RV his hie hiv V5 hA hb1 cL;by_cases c1:n≤s
 ·have hq:(n:Int)≤(s:Int):=by omega
  have N1:=aa c1;clear c1;go_enter Tryz.func74,Tryz.ntmps74;go_wp2_with fail;go_ret;exact pX.no (by unfold fg;rw[if_pos N1.o]) aM HH.o HB.o
 have hq1: ¬(n:Int)≤(s:Int):=ai;have N1:=aa c1;by_cases c2:s=x.aw
 ·have hq:((s:Int)==(x.aw:Int))=true:=by simp[c2]
  have hr:fg n L x s=0:=by unfold fg;rw[if_neg c1,if_pos c2]
  have HR:=aa hr;have N2:=aa c2;clear c1 c2 hr;go_enter Tryz.func74,Tryz.ntmps74;go_wp2_with fail;go_ret;refine⟨by rw[HR.o];rfl,aI.aW HB.o,q,?_⟩;rw[if_pos HR.o,N2.o,Ba HD.o HX.o];exact fC.o
 have Cz:((s:Int)==(x.aw:Int))=false:=by rw[beq_eq_false_iff_ne];omega
 have N2:=aa c2;have rh:s<n:=ai;have Rv:=aa (yj.pc q.tp q.tg q.tc n s q.ws w1 fC.o.bg.taken rh ai);by_cases c4:Qn L s=true
 ·have HQ:=aa (show hasB q.ws s=true from by rw[HH.o.on rh];exact c4);have N4:=aa c4;clear c1 c2 c4;go_enter Tryz.func74,Tryz.ntmps74;go_wp2_with fail;refine Rv.o.mono ?_;rw[HQ.o];rintro e w9 ⟨rfl,jI⟩;rw[jI];clear jI w9;go_wp2_with fail;go_ret;exact pX.no (by unfold fg;rw[if_neg N1.o,if_neg N2.o,if_pos N4.o]) aM HH.o HB.o
 have HQ:=aa (show hasB q.ws s=false from by rw[HH.o.on rh];simpa using c4);have N4:=aa c4;have hr:fg n L x s=0:=by unfold fg;rw[if_neg c1,if_neg c2,if_neg c4]
 have HR:=aa hr;have hf0:=HH.o.bg.bB;clear c1 c2 c4 hr;go_enter Tryz.func74,Tryz.ntmps74;go_wp2_with fail;refine Rv.o.mono ?_;rw[HQ.o];rintro e w9 ⟨rfl,jI⟩;rw[jI];clear jI w9 Rv;go_wp2_with fail;have HC:=aa fC.o.bg;have HT:=aa (show aI S w w1 from aI.aW HB.o);clear fC HB a8;go_still_tail 6,bh;change wpList _ _ _ _ _ w1.drew;have wF:=HC.o.ak (az (ar _ _));have HL:=aa (yj.BS q.tp q.tg q.tc n x.aw q.ws w1.drew wF.taken ZY ai);clear wF;go_wp2_with fail;refine HL.o.mono ?_;rintro e w2 ⟨rfl,tL,hg4⟩;have Kt:aI (· =q.tg) w1.drew w2:=(aI.refl _ _).grown hg4 (fun k e=>.inl (cP e).symm);have hc:=(HC.o.ak (az (ar _ _))).qd Kt tL;have Hg:aI S w1.drew w2:=Kt.mono fun k _ hk=>KV
 have hA:=vbk i'.o yN.o (show aG w1.drew vb _ _ from HA.o) Hg;have hT:=(HT.o.ak (az (ar _ _))).trans Hg;clear HC HT HA HL Kt Hg tL hg4 x6 y1 x0;have x8:w2.cell? ⟨b,8,none⟩=some (.slice (some ⟨q.sg,0,none⟩) n q.sc):=hc.own.cell 8;have y1:=hA.cl 1;have HC:=aa hc;have HA:=aa hA;have HT:=aa hT;have HRW:=aa (hc.ak (az (ar _ _))).gh;have QE:(x.aw:Int)<(n:Int):=ai;have hx0:(0:Int)≤(x.aw:Int):=ai;have sZ:(n:Int)≤1024:=ai;clear hc hA hT;go_wp2_with fail;go_still_tail 8,bh;change wpList _ _ _ _ _ w2.drew;refine cX rfl 171 _ _ rfl HRW.o (fun _=>rfl) x.aw ZY rfl (jf ⟨0,0,0⟩) rfl rfl (sD _) eV ?_;intro w3 hr3 hg3 hs3;have Jo:aI (· =q.sg) w2.drew w3:=(aI.refl _ _).grown hg3 (fun k e=>.inl (cP e).symm);rw[rU] at hr3;have hc:=(HC.o.ak (az (ar _ _))).nB Jo hr3;have Hg:aI S w2.drew w3:=Jo.mono fun k _ hk=>E9
 have hA:=vbk i'.o yN.o (show aG w2.drew vb _ _ from HA.o) Hg;have hT:=(HT.o.ak (az (ar _ _))).trans Hg;clear HC HT HA Jo Hg hr3 hg3 hs3 x8 y1 HRW;have y1:=hA.cl 1;have m1:=hA.mark 1;have I4:=hA.lt;have FO:=(aI.refl (fun k=>k=vb) w3).put (p:=⟨vb,1,none⟩) (.inl rfl) (.int .i64 (s:Int));have oa:=hA.put 1 (.int .i64 (s:Int));obtain⟨w4,hw4⟩:=ae (w3.setCell ⟨vb,1,none⟩ (.int .i64 (s:Int)));rw[hw4] at FO oa;have hne: ∀ k,S k→k≠vb:=fun k hk e=>by have:=i'.o k hk;have:=yN.o;omega
 have Ks:=hc.same FO.size (fun k hk hl=>FO.block k hl (hne k hk));have jK:aI S w w4:=⟨FO.os.trans hT.os,FO.tape.trans hT.tape,FO.output.trans hT.output,Nat.le_trans hT.size FO.size,fun k hk hS=>(FO.block k (aU hk hT.size) (fun e=>by have:=yN.o;have e2:k=vb:=e;omega)).trans (hT.block k hk hS)⟩;have x6:w4.cell? ⟨b,6,none⟩=some (.pointer (some ⟨q.tp,0,none⟩)):=Ks.own.cell 6;have HC:=aa Ks;have HA:=aa oa;have HT:=aa jK;have HL:=aa (Ea q.tp q.tg q.tc n s _ w4 Ks.taken rh ai);clear hc hA hT FO oa Ks jK hne;go_wp2_with fail;refine HL.o.mono ?_;rintro e w5 ⟨rfl,hs5,fF⟩;have Kt:aI (· =q.tg) w4 w5:=(aI.refl _ _).grown fF (fun k e=>.inl (cP e).symm);have hc:=HC.o.qd Kt hs5;have Hg:aI S w4 w5:=Kt.mono fun k _ hk=>KV
 have hA:=vbk i'.o yN.o HA.o Hg;have hT:=HT.o.trans Hg;clear HC HT HA HL Kt Hg hs5 fF x6 y1 m1 I4 hw4;have x8:w5.cell? ⟨b,8,none⟩=some (.slice (some ⟨q.sg,0,none⟩) n q.sc):=hc.own.cell 8;have y0:w5.cell? ⟨vb,0,none⟩=some (.int .u32 x.id):=hA.cell 0;have y1:w5.cell? ⟨vb,1,none⟩=some (.int .i64 (s:Int)):=hA.cell 1;have y2:w5.cell? ⟨vb,2,none⟩=some (.int .i64 x.aR):=hA.cell 2;have HC:=aa hc;have HA:=aa hA;have HT:=aa hT;have HRW:=aa (hc.ak (az (ar _ _))).gh;have hsi:(s:Int)<(n:Int):=ai;have hs0:(0:Int)≤(s:Int):=ai;clear hc hA hT;go_wp2_with fail;go_still_tail 7,bh;change wpList _ _ _ _ _ w5.drew;refine cX rfl 171 _ _ rfl HRW.o (fun _=>rfl) s rh rfl (jf ⟨x.id,s,x.aR⟩) rfl rfl (sD _) eV ?_;intro w6 Cy kr VO;have Jo:aI (· =q.sg) w5.drew w6:=(aI.refl _ _).grown kr (fun k e=>.inl (cP e).symm);rw[rU] at Cy;have hc:=(HC.o.ak (az (ar _ _))).nB Jo Cy;have Hg:aI S w5.drew w6:=Jo.mono fun k _ hk=>E9
 have hA:=vbk i'.o yN.o (show aG w5.drew vb _ _ from HA.o) Hg;have hT:=(HT.o.ak (az (ar _ _))).trans Hg;clear HC HT HA Jo Hg Cy kr VO x8 y0 y1 y2 HRW;have x7:w6.cell? ⟨b,7,none⟩=some (.pointer (some ⟨q.ip,0,none⟩)):=hc.own.cell 7;have y0:w6.cell? ⟨vb,0,none⟩=some (.int .u32 x.id):=hA.cell 0;have HC:=aa hc;have HT:=aa hT;clear hc hA hT;go_wp2_with fail;go_still_tail 7,bh;change wpList _ _ _ _ _ w6.drew;have wF:=HC.o.ak (az (ar _ _));have HL:=aa (km.aft q.ip q.ig q.m au L.length q.gr x.id s q.f w6.drew wF.ids pT HI.o.1 HI.o.2.1 HI.o.2.2);clear wF;go_wp2_with fail;refine HL.o.mono ?_;rintro e w7 ⟨rfl,hi7,hTi⟩;have hc:=(HC.o.ak (az (ar _ _))).vN hTi hi7;have Hg:aI S w6.drew w7:=hTi.mono fun k _ hk=>Ty
 have hT:=(HT.o.ak (az (ar _ _))).trans Hg;clear HC HT HL hTi Hg hi7 x7 y0;have HC:=aa hc;have HT:=aa hT;clear hc hT;go_wp2_with fail;go_ret;have hc:=HC.o;rw[←Qr L x.id s] at hc;have hto: ∀ y∈L,y.id=x.id→y=x:=fun y hy e=>nG HD.o hy HX.o e
 obtain⟨q9,h9⟩: ∃ q9,bo S w7 b n au aA next aq (qW L x.id s) q9:=by
  refine⟨_,bo.make hc ?_ ?_ ?_ ?_ hn4 (HH.o.qo.map _ (fun y=>by split <;>exact⟨rfl,rfl⟩) rfl rfl rfl rfl)⟩
  ·intro j hj;show hasB (fun k=>if k=s / 64 then(fun k=>if k=x.aw / 64 then q.ws k &&& (18446744073709551615 - 2 ^ (x.aw % 64))else q.ws k) k|||2 ^ (s % 64)else(fun k=>if k=x.aw / 64 then q.ws k &&& (18446744073709551615 - 2 ^ (x.aw % 64))else q.ws k) k) j=true↔_
   rw[Jm,yj.DZ,Bool.or_eq_true,Bool.and_eq_true,HH.o.bits j hj,Bool.not_eq_true',decide_eq_false_iff_not,decide_eq_true_eq];constructor
   ·rintro(⟨⟨y,hy,rfl⟩,hne⟩|rfl)
    ·refine⟨y,lD.2 ⟨y,hy,if_neg fun e=>hne (by rw[hto y hy e])⟩,rfl⟩
    exact⟨{x with aw:=j},lD.2 ⟨x,HX.o,if_pos rfl⟩,rfl⟩
   rintro⟨z,hz,rfl⟩;obtain⟨y,hy,rfl⟩:=lD.1 hz;by_cases e:y.id=x.id
   ·rw[if_pos e];exact .inr rfl
   rw[if_neg e];exact .inl ⟨⟨y,hy,rfl⟩,fun e2=>e (by rw[pP Rk.o hy HX.o e2])⟩
  ·intro z hz;show z.aw<n∧cK (cK q.sb x.aw ⟨0,0,0⟩) s ⟨x.id,s,x.aR⟩ z.aw=z
   obtain⟨y,hy,rfl⟩:=lD.1 hz;by_cases e:y.id=x.id
   ·rw[if_pos e,hto y hy e];exact⟨rh,bL _ _ _⟩
   rw[if_neg e];have h1:y.aw≠x.aw:=fun e2=>e (by rw[pP Rk.o hy HX.o e2])
   have h2:y.aw≠s:=fun e2=>N4.o (vH.2 ⟨y,hy,e2⟩)
   rw[bn _ _ h2,bn _ _ h1];exact HH.o.cw y hy
  ·intro a v;show km.jH (km.upd q.f i ⟨1,x.id,s⟩) q.m a v↔_
   have hu:=km.P1 HH.o.bg.ids.tab HI.o.1 HI.o.2.1 (s:Int) a v;rw[HI.o.2.2] at hu;rw[hu,HH.o.tbl];constructor
   ·rintro(⟨⟨y,hy,rfl,r⟩,hne⟩|⟨rfl,rfl⟩)
    ·exact⟨y,lD.2 ⟨y,hy,if_neg hne⟩,rfl,r⟩
    exact⟨{x with aw:=s},lD.2 ⟨x,HX.o,if_pos rfl⟩,rfl,rfl⟩
   rintro⟨z,hz,rfl,r⟩;obtain⟨y,hy,rfl⟩:=lD.1 hz;by_cases e:y.id=x.id
   ·rw[if_pos e] at r ⊢;exact .inr ⟨e,r.symm⟩
   rw[if_neg e] at r ⊢;exact .inl ⟨⟨y,hy,rfl,r⟩,e⟩
  have:=HHN.o;exact⟨by show q.hn≤next;omega,fun e=>absurd (show q.hn=next from e) ai⟩
 exact⟨by rw[HR.o];rfl,HT.o,q9,by rw[if_pos HR.o];exact h9⟩
