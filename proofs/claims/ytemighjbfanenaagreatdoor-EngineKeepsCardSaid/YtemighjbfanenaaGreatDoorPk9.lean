import Derived.Test.YtemighjbfanenaaGreatDoorPk8
import Derived.Test.YtemighjbfanenaaGreatDoorPk1
import Derived.IntWalk
import Derived.Test.YtemighjbfanenaaGreatDoorProg
import Derived.Laws.Bits64b
import Derived.WalkSmall
import Derived.StillTailTactics
import Derived.Laws.OwnMore
import Derived.OwnWalk
import Derived.Scope
import Derived.Deep.MidRow
set_option linter.all false
set_option maxRecDepth 100000
set_option maxHeartbeats 16000000
namespace Go.Proofs.YtemighjbfanenaaGreatDoor
open RowKit
open Go renaming bits→bm
open Go.BinOp renaming xor→qG
open Go.IntKind renaming wrap_i64→nX,u64→cL,wrap_u64→mH,i64→aT
open Go.IntWalk renaming i64_in→vg
open Go.Value renaming int→gJ
open Go.WalkArith renaming wf_i64→lJ
open Go.World renaming cell?→Ol
open Nat renaming lt_or_ge→fO,zero_le→cu,mod_lt→vk,mod_eq_of_lt→Oj,pow_lt_pow_right→CB,le_refl→aL
open RowKit.Below renaming refl→aq,heap_setCell→cH
open Tryz renaming underlying358→ym,prog→af
open _root_.Array renaming getElem?_eq_some_iff→eP,getElem?_toList→eG,getElem?_setIfInBounds→mJ
theorem VV{p:Prop}(h:p:=by
 have q1:=aj4.o;have q2:=aj5.o;rw[AY (HI'.o.alloc _),AY HI.o];omega):p:=h
theorem VS{p:Prop}(h:p:=by
 have e1:ft f id n n (uJ id % (n:Int)).toNat (-1)=((i:Int),true):=hsk;rw[e1] at h1;exact h1):p:=h
theorem FI{p:Prop}(h:p:=by first|rfl|trivial):p:=h
theorem Ma{p:Prop}(h:p:=by intro u hu;simp at hu;rcases hu with rfl|rfl|rfl <;>rfl):p:=h
theorem US{p:Prop}(h:p:=by first|exact qC.o _ (aw (ay (aq _ _)) _)|exact⟨x1,y0,y1⟩):p:=h
theorem LW{p:Prop}(h:p:=by rw[←he];exact A9 h.tab hi hs):p:=h
theorem Az{p:Prop}(h:p:=by have:=HH.o.a8;omega):p:=h
theorem Ut{p:Prop}(h:p:=by rw[Int.tmod_eq_emod_of_nonneg (by omega)];exact e2):p:=h
theorem wX{p:Prop}(h:p:=by have:=HL.o;omega):p:=h
theorem LR{p:Prop}(h:p:=by rw[aj5.o];exact HI'.o.alloc _):p:=h
theorem LO{p:Prop}(h:p:=by rw[bV _ _ e];exact h1):p:=h
theorem LN{p:Prop}(h:p:=by rw[bV _ _ e];exact h2):p:=h
theorem LM{p:Prop}(h:p:=by rw[bV _ _ e];exact h3):p:=h
theorem mo{p:Prop}(h:p:=by cases h):p:=h
theorem wT{p:Prop}(h:p:=by rw[upd_same]):p:=h
section
section
namespace Hp
variable{l:Nat}
theorem bP.mono{S T:Nat→Prop}{w:World}{p:Nat} {next:Int}{f:Nat→eO}(h:bP S w p l next f)(pY: ∀ k,S k→k<w.heap.size→T k): bP T w p l next f:=by
 obtain⟨iv,mb,φ,hp,hr,hm,hpl,sp,sm⟩:=h.dQ;exact⟨⟨iv,mb,φ,hp,hr.mono pY,hm,hpl,pY p sp hp.lt,pY mb sm hm.lt⟩,h.bound⟩
theorem bP.same{S:Nat→Prop}{w w':World}{p:Nat} {next:Int}{f:Nat→eO}(h:bP S w p l next f)(hk: ∀ k,S k→k<w.heap.size→w'.heap[k]? =w.heap[k]?): bP S w' p l next f:=by
 obtain⟨iv,mb,φ,hp,hr,hm,hpl,sp,sm⟩:=h.dQ;exact⟨⟨iv,mb,φ,(hk p sp hp.lt).trans hp,hr.same hk,hm.same (hk mb sm hm.lt),hpl,sp,sm⟩,h.bound⟩
theorem JY(W:World): (binOp BinOp.eql 212 (.func (.func 94) #[] #[]) Value.nilFunc).run af W= .ok (.bool false) W:=aW
theorem zu(p:Nat)(w:World)(x0:w.cell? ⟨p,0,none⟩=some qT): Calls af 244 #[.pointer (some ⟨p,0,none⟩)] w fun e w'=>e= .returned (.bool false)∧w'=w:=by
 rw[show qT= .func (.func 94) #[] #[] from rfl] at x0;have hfn:=JY;go_enter Tryz.func244,Tryz.ntmps244;go_wp2_with fail;go_ret;exact⟨rfl,rfl⟩
def ajR(w:World)(e:Ending)(w':World): Prop:=∃ p,e= .returned (.pointer (some ⟨p,0,none⟩))∧bP (fun k=>w.heap.size≤k) w' p 0 0 (fun _=>⟨0,0,0⟩)∧Below w.heap.size w w'
theorem uU(w:World): Calls af 93 #[.func (.func 94) #[] #[]] w (ajR w):=by
 have hfn:=JY;have Xj:=@run_makeMap af;go_enter Tryz.func93,Tryz.ntmps93;go_wp2_with fail;go_ret;have hb:Below w.heap.size w ((w.alloc (.map #[] 0)).alloc (.cells #[.func (.func 94) #[] #[],.slice none 0 0,.map (some w.heap.size),.int .i64 0] 319)):=aw (aw (aq _ _) _) _;exact⟨w.heap.size+1,rfl,⟨⟨_,w.heap.size,fun _=>none,aD.new dA,aO.nil _ _ _ _ _,(dt.made _ _ _ _ w).alloc _,⟨fun i hi=>ag,fun h i hi=>by cases hi⟩,ag,aL _⟩,ag,ag,ag,fun i hi=>ag⟩,hb⟩
theorem ME(f:Nat→eO)(l:Nat)(x:eO): cO (gA f) l [.int .i64 x.aR,.int .u32 x.id,.int .i64 x.aZ]=gA (cO f l x):=by
 funext j;unfold cO gA;by_cases h:j=l
 ·subst h;simp
 simp[h]
theorem kj.snoc{f:Nat→eO}{φ:Int→Option Int}(h:kj f l φ)(x:eO)(hx: ∀ i,i<l→(f i).aZ≠x.aZ): kj (cO f l x) (l+1) (tK φ x.aZ (some (l:Int))):=by
 refine⟨fun i hi=>?_,fun y z hz=>?_⟩
 ·by_cases e:i=l
  ·subst e;rw[bJ,fy]
  rw[bj _ _ e,cQ _ _ (hx i ag)];exact h.1 i ag
 by_cases e:y=x.aZ
 ·subst e;rw[fy] at hz;injection hz with hz
  exact⟨l,ag,hz.symm,by rw[bJ]⟩
 rw[cQ _ _ e] at hz;obtain⟨j,hj,e1,e2⟩:=h.2 y z hz;exact⟨j,ag,e1,by rw[bj _ _ ag];exact e2⟩
theorem kj.none{f:Nat→eO}{φ:Int→Option Int}(h:kj f l φ){y:Int}(hy: ∀ i,i<l→(f i).aZ≠y): φ y=none:=by
 cases hφ:φ y with
 | none=>rfl
 | some z=>
  obtain⟨j,hj,_,e⟩:=h.2 y z hφ;exact absurd e (hy j hj)
def abM(S:Nat→Prop)(w:World)(p l:Nat)(next:Int)(f:Nat→eO)(aR id:Int)(e:Ending)(w':World): Prop:=
 e= .returned (.tuple #[.int .i64 next,.int .i64 0])∧bP (fun k=>S k∨w.heap.size≤k) w' p (l+1) (next+1) (gm (cO f l ⟨aR,id,next⟩) (l+1) l)∧aG S w w'
theorem abL(S:Nat→Prop)(p l:Nat)(next:Int)(f:Nat→eO)(aR id:Int)(w:World)(h:bP S w p l next f)(hl:l<65536)(hn:next<1099511627776):
  Calls af 243 #[.pointer (some ⟨p,0,none⟩),.agg #[.int .i64 aR,.int .u32 id]] w (abM S w p l next f aR id):=by
 obtain⟨i0,hi,hz0,hz1,hz2⟩:=info_parts Ry;have HH:=aa h;clear h;go_enter Tryz.func243,Tryz.ntmps243;go_wp2_with fail;have hb1:Below w.heap.size w (w.alloc (.cells #[.int .i64 aR,.int .u32 id] 211)):=aw (aq _ _) _;have bh:aD (w.alloc (.cells #[.int .i64 aR,.int .u32 id] 211)) w.heap.size 211 #[.int .i64 aR,.int .u32 id]:=aD.fresh w _ _;obtain⟨w1,aX⟩:=ae (w.alloc (.cells #[.int .i64 aR,.int .u32 id] 211));obtain⟨vb,mN⟩:=ae w.heap.size;have hs1:w1.heap.size=vb+1:=by rw[←aX,←mN];simp
 rw[aX] at hb1 bh ⊢;rw[mN] at bh ⊢;have lf:=eM hb1 HH.o;obtain⟨iv,mb,φ,hp,hr,hm,hpl,sp,sm⟩:=lf.dQ;obtain⟨A,cap,rfl⟩:=hr.any;have BJ:=HH.o.bound;have HL:=aa hl;clear hl;clear aX lf;refine ah (zu p w1 (hp.cell 0)) ?_;have x1:w1.cell? ⟨p,1,none⟩=some (.slice A l cap):=hp.cell 1;have x3:w1.cell? ⟨p,3,none⟩=some (.int .i64 next):=hp.cell 3;have m3:=hp.mark 3;have anZ:=hp.lt;have Xi:0≤next:=BJ.2.1;have hlg:decide ((65536:Int)≤(l:Int))=false:=decide_eq_false wX;have HP:=aa hp;have HR:=aa hr;have HM:=aa hm;have NR:=aa hpl;have bu:=aa hb1;have dH:=aa bh;have yN:=aa mN;have Iu:=aa hs1;have CT:=aa BJ;clear hp hr hm hpl hb1 bh mN hs1 BJ;go_wp2_with fail;have Bw:aD (w1.setCell ⟨p,3,none⟩ (.int .i64 (next+1))) p 319 #[qT,.slice A l cap,.map (some mb),.int .i64 (next+1)]:=HP.o.put 3 _;have hr2:aO S (w1.setCell ⟨p,3,none⟩ (.int .i64 (next+1))) 355 3 (.slice A l cap) l (gA f):=HR.o.put (q:=⟨p,3,none⟩) (fun g hg=>HR.o.mr hg HP.o aM) _;have KY:p≠mb:=dn HM.o HP.o;have MX:dt af 3 3 .i64 (w1.setCell ⟨p,3,none⟩ (.int .i64 (next+1))) mb l φ:=HM.o.same (cH w1 ⟨p,3,none⟩ _ mb (fun e=>KY e.symm));have gK:aD (w1.setCell ⟨p,3,none⟩ (.int .i64 (next+1))) vb 211 #[.int .i64 aR,.int .u32 id]:=dH.o.other (p:=⟨p,3,none⟩) (fun e=>by
  have h1:p<w.heap.size:=by obtain⟨_,_,_,h1,_⟩:=HH.o.dQ;exact h1.lt
  have h2:=yN.o;simp at e;omega) _
 have jL:aG S w (w1.setCell ⟨p,3,none⟩ (.int .i64 (next+1))):=((aG.refl S w).ai bu.o).put (p:=⟨p,3,none⟩) (.inl sp) _;have hs2:(w1.setCell ⟨p,3,none⟩ (.int .i64 (next+1))).heap.size=vb+1:=by simp[Iu.o]
 obtain⟨w2,hw2⟩:=ae (w1.setCell ⟨p,3,none⟩ (.int .i64 (next+1)));rw[hw2] at Bw hr2 MX gK jL hs2 ⊢;clear hw2 x1 x3 m3 HP HR HM dH;have x1:=Bw.cl 1;have y0:=gK.cl 0;have y1:=gK.cl 1;have aaQ:=Bw.lt;have Ih:Below w2.heap.size w2 (w2.drew.alloc (.cells #[.int .i64 aR,.int .u32 id,.int .i64 next] 355)):=aw (ay (aq _ _)) _;have Du:=aa (hr2.keep Ih);have HPX:=aa (Bw.keep Ih);have HMX:=aa (MX.same (Ih.block mb MX.lt));have HTX:=aa (jL.ai Ih);have HS2:=aa hs2;have qC: ∀ w',Below w2.heap.size w2 w'→(w'.cell? ⟨p,1,none⟩=some (.slice A l cap)∧w'.cell? ⟨vb,0,none⟩=some (.int .i64 aR)∧w'.cell? ⟨vb,1,none⟩=some (.int .u32 id)):=fun w' hb=>⟨(hb.cell (p:=⟨p,1,none⟩) Bw.lt).trans x1,(hb.cell (p:=⟨vb,0,none⟩) gK.lt).trans y0,(hb.cell (p:=⟨vb,1,none⟩) gK.lt).trans y1⟩
 have qC:=aa qC;have HAX:=aa (gK.keep Ih);clear Bw hr2 MX gK jL hs2 Ih x1 y0 y1;refine dN aW ?_;refine bc.any (S:=(fun w'=>w'.cell? ⟨p,1,none⟩=some (.slice A l cap)∧w'.cell? ⟨vb,0,none⟩=some (.int .i64 aR)∧w'.cell? ⟨vb,1,none⟩=some (.int .u32 id))) (t:=12) _ _ _ _ ?_;have hHeld:=(show(fun w'=>w'.cell? ⟨p,1,none⟩=some (.slice A l cap)∧w'.cell? ⟨vb,0,none⟩=some (.int .i64 aR)∧w'.cell? ⟨vb,1,none⟩=some (.int .u32 id)) w2.drew from qC.o _ (ay (aq _ _)));refine tt 0 ?_;refine tt 1 ?_;refine tt 2 ?_;refine tt 3 ?_;refine tt 4 ?_;refine tt 5 ?_;refine tt 6 ?_;refine tt 7 ?_;refine bc.step (i:=8) aW aW rfl (fun K hK=>?_);go_simp;go_wp2_with fail;refine hK.out _ _ US (fun nJ=>?_);clear hK K;try simp only[aQ]
 refine bc.step (i:=9) aW aW rfl (fun K hK=>?_);rw[if_pos iN];refine fA _ (.tmp 30) (.tmp 34) 317 rfl 355 i0 (.agg #[.int .i64 0,.int .u32 0,.int .i64 0]) 3 24 Tryz.underlying317 hi hz0 hz1 hz2 rfl aM (.slice A l cap) l (gA f) rfl Du.o ⟨w2.heap.size,0,none⟩ 1 [.int .i64 aR,.int .u32 id,.int .i64 next] rfl rfl (ik w2.drew _ _) Ma (by have:=HL.o;unfold maxLen;omega) wX ?_;intro g cp w3 hr3 hg3;have hp3:aD w3 p 319 #[qT,.slice A l cap,.map (some mb),.int .i64 (next+1)]:=(hg3.block p HPX.o.lt (fun e=>Du.o.mr e.symm HPX.o aM rfl)).trans HPX.o;have hm3:=HMX.o.same (hg3.block mb HMX.o.lt (fun e=>Du.o.My e.symm HMX.o rfl));have dB:aD w3 vb 211 #[.int .i64 aR,.int .u32 id]:=(hg3.block vb HAX.o.lt (fun e=>Du.o.mr e.symm HAX.o aM rfl)).trans HAX.o;have kv:=HTX.o.grown hg3 (fun k e=>.inl (Du.o.block k e));have x1:w3.cell? ⟨p,1,none⟩=some (.slice A l cap):=aD.cell hp3 1;have y0:w3.cell? ⟨vb,0,none⟩=some (.int .i64 aR):=aD.cell dB 0;have y1:w3.cell? ⟨vb,1,none⟩=some (.int .u32 id):=aD.cell dB 1;have m1:=aD.mark hp3 1;have HP3:=aa hp3;have HM3:=aa hm3;have jR:=aa kv;have iO:=aa hr3;clear hp3 hm3 kv hr3 hg3 dB;refine hK.out _ _ US (fun oW=>?_);clear hK K;try simp only[aQ]
 refine tp 10 ?_;refine tp 11 ?_;refine bc.last aW ?_;refine kI 12 aW aW ?_;simp only[List.drop_succ_cons,List.drop_zero];go_wp2_with fail;have KY:p≠mb:=dn HM3.o HP3.o;have uh:aD (w3.setCell ⟨p,1,none⟩ (.slice (some ⟨g,0,none⟩) (l+1) cp)) p 319 #[qT,.slice (some ⟨g,0,none⟩) (l+1) cp,.map (some mb),.int .i64 (next+1)]:=HP3.o.put 1 _;have hr4:aO (fun k=>S k∨w.heap.size≤k) (w3.setCell ⟨p,1,none⟩ (.slice (some ⟨g,0,none⟩) (l+1) cp)) 355 3 (.slice (some ⟨g,0,none⟩) (l+1) cp) (l+1) (gA (cO f l ⟨aR,id,next⟩)):=by
  rw[←ME];refine(iO.o.mono ?_).put (q:=⟨p,1,none⟩) (fun k hk=>iO.o.mr hk HP3.o aM) _;intro k hk _;rcases hk with hk|hk
  ·exact .inl hk
  right;have h1:=yN.o;have h2:=HS2.o;rw[hk];simp;omega
 have xM:dt af 3 3 .i64 (w3.setCell ⟨p,1,none⟩ (.slice (some ⟨g,0,none⟩) (l+1) cp)) mb l φ:=HM3.o.same (cH w3 ⟨p,1,none⟩ _ mb (fun e=>KY e.symm));have jU:aG S w (w3.setCell ⟨p,1,none⟩ (.slice (some ⟨g,0,none⟩) (l+1) cp)):=jR.o.put (p:=⟨p,1,none⟩) (.inl sp) _;obtain⟨w4,hw4⟩:=ae (w3.setCell ⟨p,1,none⟩ (.slice (some ⟨g,0,none⟩) (l+1) cp));rw[hw4] at uh hr4 xM jU ⊢;clear hw4 x1 y0 y1 m1 oW HP3 iO HM3 jR Du HPX HMX HTX HAX qC hHeld nJ;have x1:=uh.cl 1;have x2:=uh.cl 2;have Xk:dt af 3 3 .i64 w4.drew mb l φ:=xM;have Sz:=aa Xk;have NT:=aa uh;have oI:=aa hr4;have nU:=aa jU;have Ef:next+1≤1099511627776:=ag;have Pz:(l:Int)<65536:=wX;have HWL:=aa (show aT.wrap (l:Int)=(l:Int)from vg _ ag);clear xM Xk uh hr4 jU;go_still_tail 11,aW;change wpList _ _ _ _ _ w4.drew
 (repeat(fail_if_success at_mapUpdate;(first|go_values|go_skip|go_guarded|go_step|go_upon)))
 refine gl rfl _ _ _ 316 rfl 3 3 .i64 Tryz.underlying3 Tryz.underlying3 Tryz.underlying316 mb l φ rfl Sz.o (by have:=HL.o;unfold maxLen;omega) next (aT.wrap (l:Int)) rfl rfl (lJ ag) (by rw[HWL.o];exact lJ ag) ?_;intro w5 rD cJ;have CS:=aa rD;have jk:=aa cJ;clear rD cJ;have lY:w4.grownBy w5 (some mb):=⟨jk.o.os,jk.o.tape,jk.o.output,jk.o.size,jk.o.block⟩;have hhs: ∀ i,i<l→(f i).aZ≠next:=fun i hi=>by have:=(CT.o.2.2.2 i hi).2;omega
 have rD:=CS.o;rw[NR.o.none hhs,HWL.o] at rD;have Ex:bP (fun k=>S k∨w.heap.size≤k) w5 p (l+1) (next+1) (cO f l ⟨aR,id,next⟩):=by
  refine⟨⟨_,mb,_,(lY.block p NT.o.lt (by simpa using KY)).trans NT.o,oI.o.pH lY (Bl Sz.o (oI.o.same fun _ _ _=>rfl)),rD,NR.o.snoc ⟨aR,id,next⟩ hhs,.inl sp,.inl sm⟩,wX,ag,Ef,fun i hi=>?_⟩;by_cases e:i=l
  ·subst e;rw[bJ];exact⟨Xi,by show next<next+1;omega⟩
  rw[bj _ _ e];have:=CT.o.2.2.2 i ag;omega
 have oz:=nU.o.grown lY (fun q e=>.inl LV);have y1:w5.cell? ⟨p,1,none⟩=some (.slice (some ⟨g,0,none⟩) (l+1) cp):=aD.cell ((lY.block p NT.o.lt (by simpa using KY)).trans NT.o) 1;clear x1 x2 rD CS jk Sz NT oI nU lY;have pV:=aa Ex;have pg:=aa oz;clear Ex oz;have aX:((l:Int)+1) - 1=(l:Int):=ag;go_wp2_with fail;refine(DZ _ p (l+1) l (next+1) _ w5 pV.o ag).mono ?_;rintro e w6 ⟨⟨v6,rfl⟩,JX,pQ⟩;have lp:=aa JX;have vu:=aa (pg.o.new pQ);clear JX pQ;go_wp2_with fail;go_ret2;exact⟨rfl,lp.o,vu.o⟩
end Hp
end
end
section
section
namespace yj
structure fU(w:World)(p g c n:Nat)(ws:Nat→Nat): Prop where
 own:aD w p 312 #[.bool true,.int .i64 n,.slice (some ⟨g,0,none⟩) ((n+63) / 64) c]
 row: ∃ cur,w.heap[g]? =some (.cells cur 22 (0,0))∧∀ j,j<(n+63) / 64→cur[j]? =some (.int .u64 (ws j))
 small: ∀ j,ws j<18446744073709551616
 apart:p≠g
def hasB(ws:Nat→Nat)(i:Nat): Bool:=(ws (i / 64)).testBit (i % 64)
theorem fU.keep{w w':World}{p g c n:Nat}{ws:Nat→Nat}(h:fU w p g c n ws)(hb:Below w.heap.size w w'): fU w' p g c n ws:=by
 obtain⟨cur,h1,h2⟩:=h.row;exact⟨h.own.keep hb,⟨cur,(hb.block g (eP.1 h1).1).trans h1,h2⟩,h.small,h.apart⟩
theorem fU.word{w:World}{p g c n:Nat}{ws:Nat→Nat}(h:fU w p g c n ws){j:Nat}(hj:j<(n+63) / 64): w.cell? ⟨g,j,none⟩=some (.int .u64 (ws j))∧w.frozen? ⟨g,j,none⟩=false:=by
 obtain⟨cur,h1,h2⟩:=h.row;exact⟨by rw[show w.cell? ⟨g,j,none⟩=cur[j]? from by simp[Ol,h1]];exact h2 j hj,by simp[World.frozen?,h1]⟩
theorem Ye(x k:Nat)(hx:x<18446744073709551616): (bm BinOp.and cL ((x:Int) / 2 ^ k) 1==1)=x.testBit k:=by
 have e:(x:Int) / 2 ^ k=((x / 2 ^ k:Nat):Int):=dA;have hs:x / 2 ^ k≤x:=Nat.div_le_self _ _;rw[e,Nat.testBit_eq_decide_div_mod_eq];generalize x / 2 ^ k=y at hs;rw[and_one_u64 _ ag ag];rw[Bool.eq_iff_iff,beq_iff_eq,decide_eq_true_eq];omega
theorem Yq(p:Nat)(w:World)(h:w.cell? ⟨p,0,none⟩=some (.bool true)): Calls af 241 #[.pointer (some ⟨p,0,none⟩)] w fun e w'=>e= .returned (.bool true)∧w'=w:=by
 go_enter Tryz.func241,Tryz.ntmps241;go_wp2_with fail;go_ret;exact⟨rfl,rfl⟩
theorem oY(p g c n i:Nat)(ws:Nat→Nat)(w:World)(h:fU w p g c n ws)(hi:i<n)(hn:n≤1000000): Calls af 157 #[.pointer (some ⟨p,0,none⟩),.int .i64 i] w fun e w'=>e= .returned (.bool (hasB ws i))∧w'=w:=by
 have x0:=h.own.cl 0;have x1:=h.own.cl 1;have x2:=h.own.cl 2;obtain⟨q,hq⟩:=ae (i / 64);obtain⟨k,hk⟩:=ae (i % 64);have hqn:q<(n+63) / 64:=ag;obtain⟨y0,_⟩:=h.word hqn;have e1:(i:Int) / 64=(q:Int):=ag;have e2:(i:Int) % 64=(k:Int):=ag;have e3:hasB ws i=(ws q).testBit k:=by unfold hasB;rw[hq,hk]
 have hb:=Ye (ws q) k (h.small q);obtain⟨nw,Xd⟩:=ae ((n+63) / 64);rw[Xd] at x2 hqn;have ait:(q:Int)<(nw:Int):=ag;have W6:(0:Int)≤(q:Int):=ag;have Xm:k<64:=ag;have kC:(i:Int)<(n:Int):=ag;have yZ:(0:Int)≤(i:Int):=ag;rw[e3];have HB:=aa hb;clear h hq hk Xd e3 hb;go_enter Tryz.func157,Tryz.ntmps157;go_wp2_with fail;refine(Yq p _ x0).mono ?_;rintro e w1 ⟨rfl,hw⟩;subst hw;go_wp2_with fail;go_ret;exact⟨by rw[←HB.o];rfl,rfl⟩
end yj
end
section
namespace yj
theorem afi(x k:Nat)(hx:x<18446744073709551616)(hk:k<64): bm BinOp.or cL (x:Int) (cL.wrap (2 ^ k))=((x|||2 ^ k:Nat):Int):=by
 have h1:(2:Nat) ^ k<18446744073709551616:=CB (n:=64) aM hk;have e:cL.wrap ((2:Int) ^ k)=((2 ^ k:Nat):Int):=by
  rw[show((2:Int) ^ k)=((2 ^ k:Nat):Int)from dA,mH];generalize(2:Nat) ^ k=y at h1;omega
 rw[e,bits_or_u64_nat x (2 ^ k) hx h1]
theorem SY(p g c n i:Nat)(ws:Nat→Nat)(w:World)(h:fU w p g c n ws)(hi:i<n)(hn:n≤1000000): Calls af 247 #[.pointer (some ⟨p,0,none⟩),.int .i64 i,.bool true] w fun e w'=>e= .returned (.int .i64 0)∧fU w' p g c n (fun j=>if j=i / 64 then ws j|||2 ^ (i % 64)else ws j)∧w.grownBy w' (some g):=by
 have x0:=h.own.cl 0;have x1:=h.own.cl 1;have x2:=h.own.cl 2;obtain⟨q,hq⟩:=ae (i / 64);obtain⟨k,hk⟩:=ae (i % 64);have hqn:q<(n+63) / 64:=ag;obtain⟨y0,m0⟩:=h.word hqn;have e1:(i:Int) / 64=(q:Int):=ag;have e2:(i:Int) % 64=(k:Int):=ag;obtain⟨nw,Xd⟩:=ae ((n+63) / 64);rw[Xd] at x2 hqn;rw[hq,hk];have ait:(q:Int)<(nw:Int):=ag;have W6:(0:Int)≤(q:Int):=ag;have Xm:k<64:=ag;have kC:(i:Int)<(n:Int):=ag;have yZ:(0:Int)≤(i:Int):=ag;have zy:p≠g:=h.apart;have t1:(i:Int).tmod 64=(k:Int):=Ut;have Eh:(0:Int)≤(k:Int):=ag;have v1:aT.wrap (q:Int)=(q:Int):=vg _ ag;have v2:aT.wrap (k:Int)=(k:Int):=vg _ ag;have HS:=aa h;clear h hq hk Xd;go_enter Tryz.func247,Tryz.ntmps247;go_wp2_with fail;refine ah (Yq p _ x0) ?_;go_wp2_with fail;have hS:w.cell? ⟨p,2,none⟩=some (.slice (some ⟨g,0,none⟩) nw c)∧w.cell? ⟨g,q,none⟩=some (.int .u64 (ws q))∧w.frozen? ⟨g,q,none⟩=false:=⟨x2,y0,m0⟩;go_still_tail 13,aW;change wpList _ _ _ _ _ w.drew;have XJ:w.drew.cell? ⟨p,2,none⟩=some (.slice (some ⟨g,0,none⟩) nw c)∧w.drew.cell? ⟨g,q,none⟩=some (.int .u64 (ws q))∧w.drew.frozen? ⟨g,q,none⟩=false:=hS;obtain⟨z1,z2,z3⟩:=XJ;obtain⟨w2,hw2⟩:=ae w.drew;rw[hw2] at z1 z2 z3 ⊢;have Gz:=aa hw2;clear hw2 hS;go_wp2_with fail;go_ret;rw[afi _ _ (HS.o.small q) Xm,←Gz.o];have h0:=HS.o;have kY:w.grownBy w.drew (some g):=⟨rfl,rfl,rfl,aL _,fun _ _ _=>rfl⟩;have hg2:w.drew.grownBy (w.drew.setCell ⟨g,q,none⟩ (.int .u64 ((ws q|||2 ^ k:Nat):Int))) (some g):=⟨rfl,rfl,rfl,dA,fun j _ hj=>cH _ _ _ j (fun e=>hj mj)⟩;obtain⟨cur,r1,r2⟩:=h0.row;refine⟨rfl,⟨aD.other (aD.drew h0.own) zy _,⟨cur.setIfInBounds q (.int .u64 ((ws q|||2 ^ k:Nat):Int)),?_,fun j hj=>?_⟩,fun j=>?_,zy⟩,kY.trans hg2⟩
 ·have r3:w.drew.heap[g]? =some (.cells cur 22 (0,0)):=r1;simp[World.setCell,Array.getElem?_modify,r3]
 ·rw[mJ];by_cases e:j=q
  ·subst e;have hc:j<cur.size:=(eP.1 (r2 j hj)).1;rw[if_pos rfl,if_pos hc];simp
  rw[if_neg (fun h=>e h.symm),if_neg e];exact r2 j hj
 by_cases e:j=q
 ·rw[if_pos e];exact Nat.or_lt_two_pow (n:=64) (h0.small j) (CB aM Xm)
 rw[if_neg e];exact h0.small j
end yj
end
section
namespace yj
theorem TU: (af.info? 22).map (fun i=>(i.zero,i.size,i.bytes))=some (some (.int .u64 0),1,8):=aW
def Ca(n:Nat)(w:World)(e:Ending)(w':World): Prop:=∃ p g,e= .returned (.tuple #[.pointer (some ⟨p,0,none⟩),.int .i64 0])∧fU w' p g ((n+63) / 64) n (fun _=>0)∧w.heap.size≤p∧w.heap.size≤g∧Below w.heap.size w w'
theorem uU(n:Nat)(hn:n≤65536)(w:World): Calls af 91 #[.int .i64 n] w (Ca n w):=by
 obtain⟨i0,hi,hz0,hz1,hz2⟩:=info_parts TU;obtain⟨nw,Xd⟩:=ae ((n+63) / 64);have e1:((n:Int)+63) / 64=(nw:Int):=ag;have hnl:nw≤1025:=ag;have pN: ¬(65536:Int)<(n:Int):=ag;have Xi: ¬(n:Int)<0:=ag;have HN:=aa Xd;clear Xd;go_enter Tryz.func91,Tryz.ntmps91;go_wp2_with (refine wpList_make_full _ rfl _ _ 310 rfl w.heap.size 22 i0 (.int .u64 0) 1 Tryz.underlying310 hi hz0 hz1 .i64 .i64 _ _ nw rfl rfl ag ag (by rw[hz2];omega) aaf (aL _) ?_;intro w5 bT cJ;have rj:=aa bT;have jk:=aa cJ;clear bT cJ);go_ret2;have hown:=rj.o;rw[show(gJ cL 0).cells= #[gJ cL 0] from rfl,toList_madeCells_one] at hown;have hg:=jk.o;have dR:Below w.heap.size w w5:=Below.grown (aq _ _) hg (aL _) dA;have hlt:w.heap.size<w5.heap.size:=(dP (g:=w.heap.size) hown rfl).1;rw[Ca,HN.o];refine⟨w5.heap.size,w.heap.size,rfl,⟨?_,?_,fun _=>aM,ag⟩,dR.size,aL _,aw dR _⟩
 ·rw[HN.o];exact aD.fresh w5 _ _
 rcases hown.2 with⟨h0,_⟩|⟨g',cap,cur,hv,hb,hh,RL,hcm,hcs,ht⟩
 ·cases h0
 injection hv with e1 _ e2
 injection e1 with e1
 injection e1 with e1
 subst e1 e2;refine⟨cur,(heap_alloc_old w5 _ hlt).trans hh,fun j hj=>?_⟩;rw[HN.o] at hj;have hx:cur[j]? =(List.replicate (nw*1) (gJ cL 0))[j]?:=by rw[←ht,List.getElem?_take,if_pos ag,eG]
 rw[hx,List.getElem?_replicate,if_pos ag];rfl
end yj
end
section
namespace ky
theorem QJ(a b:Int): 0≤bm qG cL a b∧bm qG cL a b<18446744073709551616:=by
 show 0≤cL.wrap _∧cL.wrap _<_
 rw[mH];omega
def mx(x d:Int): Int:=bm qG cL x (x / d)
def uJ(x:Int): Int:=mx (cL.wrap (mx (cL.wrap (mx x 1073741824*13787848793156543929)) 134217728*10723151780598845931)) 2147483648
theorem RJ(x:Int): 0≤uJ x∧uJ x<18446744073709551616:=QJ _ _
theorem amM(x:Int)(w:World): Calls af 314 #[.int .u64 x] w fun e w'=>e= .returned (.int .u64 (uJ x))∧w'=w:=by
 go_enter Tryz.func314,Tryz.ntmps314;go_wp2_with fail;go_ret;exact⟨rfl,rfl⟩
end ky
end
section
namespace ky
theorem DY: (af.info? 358).map (fun i=>(i.zero,i.size,i.bytes))=some (some (.agg #[.int .u8 0,.int .u32 0,.int .i64 0]),3,16):=aW
structure Slot where
 state:Nat
 id:Int
 v:Int
def Rows(w:World)(g n:Nat)(f:Nat→Slot): Prop:=∃ cur,w.heap[g]? =some (.cells cur 358 (0,0))∧∀ i,i<n→cur[i*3]? =some (.int .u8 (f i).state)∧cur[i*3+1]? =some (.int .u32 (f i).id)∧cur[i*3+2]? =some (.int .i64 (f i).v)
structure dU(w:World)(p g n:Nat)(bX len aS steps:Int)(f:Nat→Slot): Prop where
 own:aD w p 315 #[.slice (some ⟨g,0,none⟩) n n,.int .i64 bX,.int .i64 len,.int .i64 aS,.int .i64 steps]
 rows:Rows w g n f
 apart:p≠g
def agO(m:Nat)(w:World)(e:Ending)(w':World): Prop:=∃ p g n,e= .returned (.tuple #[.pointer (some ⟨p,0,none⟩),.int .i64 0])∧dU w' p g n m 0 0 0 (fun _=>⟨0,0,0⟩)∧2*m≤n∧n≤4*m∧w.heap.size≤p∧w.heap.size≤g∧Below w.heap.size w w'
theorem Rw(n j:Nat)(h:j<n): (madeCells #[gJ .u8 0,.int .u32 0,.int .i64 0] n)[j]? = #[gJ .u8 0,.int .u32 0,.int .i64 0][j % 3]?:=by
 have h3:j % 3<3:=vk _ aM;unfold madeCells;rw[Array.getElem?_map,Array.getElem?_range,if_pos h];obtain h4|h4|h4:j % 3=0∨j % 3=1∨j % 3=2:=ag
 all_goals simp[h4]
theorem uU(m:Nat)(h1:1≤m)(h2:m≤4096)(w:World): Calls af 92 #[.int .i64 m] w (agO m w):=by
 obtain⟨i0,hi,hz0,hz1,hz2⟩:=info_parts DY;have hm1: ¬(m:Int)<1:=ag;have MX: ¬(4096:Int)<(m:Int):=ag;go_enter Tryz.func92,Tryz.ntmps92;go_wp2_with fail;go_loopw [4] (fun k wr=>∃ n:Nat,1≤n∧n≤4*m∧k= .int .i64 n∧wr=w) (fun k _=>(2*m - intOf k).toNat)
 case atStart=>exact⟨1,ag,ag,rfl,rfl⟩
 case round=>
  obtain⟨n,pN,mW,rfl,hw⟩:=hrel;rw[hw];clear hw;by_cases h:n<2*m
  ·have h':(n:Int)<2*(m:Int):=by omega
   go_wp2_with fail;go_roundw
   case rel=>exact⟨n*2,ag,ag,by go_num,FI⟩
   case measure=>simp[intOf];omega
  have h': ¬(n:Int)<2*(m:Int):=ag;go_wp2_with (refine wpList_make_full _ rfl _ _ 313 rfl w.heap.size 358 i0 (.agg #[.int .u8 0,.int .u32 0,.int .i64 0]) 3 Tryz.underlying313 hi hz0 hz1 .i64 .i64 _ _ n rfl rfl rfl rfl (by rw[hz2];omega) aaf (aL _) ?_;intro w5 bT cJ;have rj:=aa bT;have jk:=aa cJ;clear bT cJ);go_ret2;have hown:=rj.o;have dR:Below w.heap.size w w5:=Below.grown (aq _ _) jk.o (aL _) dA;have hlt:w.heap.size<w5.heap.size:=(dP (g:=w.heap.size) hown rfl).1;refine⟨w5.heap.size,w.heap.size,n,rfl,⟨aD.fresh w5 _ _,?_,ag⟩,ag,mW,dR.size,aL _,aw dR _⟩;rcases hown.2 with⟨h0,_⟩|⟨g',cap,cur,hv,hb,hh,RL,hcm,hcs,ht⟩
  ·cases h0
  injection hv with e1 _ e2
  injection e1 with e1
  injection e1 with e1
  subst e1 e2;have hx: ∀ j,j<n*3→cur[j]? = #[gJ .u8 0,.int .u32 0,.int .i64 0][j % 3]?:=fun j hj=>by
   rw[←Rw (n*3) j hj,←eG (xs:=madeCells _ _)];show cur[j]? =(madeCells (Value.agg #[gJ .u8 0,.int .u32 0,.int .i64 0]).cells (n*3)).toList[j]?
   rw[←ht,List.getElem?_take,if_pos hj,eG]
  refine⟨cur,(heap_alloc_old w5 _ hlt).trans hh,fun i hi=>⟨?_,?_,?_⟩⟩
  ·rw[hx _ ag,Nat.mul_mod_left];rfl
  ·rw[hx _ ag,show(i*3+1) % 3=1 from ag];rfl
  rw[hx _ ag,show(i*3+2) % 3=2 from ag];rfl
end ky
end
section
namespace ky
def ft(f:Nat→Slot)(id:Int)(n:Nat): Nat→Nat→Int→Int × Bool
 | 0,_,free=>(free,false)
 | k+1,a,free=>match (f a).state with
  | 0=>(if free<0 then(a:Int)else free,false)
  | 1=>if(f a).id=id then((a:Int),true)else ft f id n k ((a+1) % n) free
  | _=>ft f id n k ((a+1) % n) (if free<0 then(a:Int)else free)
variable{id:Int}{n k a h i:Nat}
theorem O4{f:Nat→Slot}{free:Int}(s:(f a).state=0): ft f id n (k+1) a free=(if free<0 then(a:Int)else free,false):=by rw[ft,s];rfl
theorem Ra{f:Nat→Slot}{free:Int}(s:(f a).state=1)(h:(f a).id=id): ft f id n (k+1) a free=((a:Int),true):=by rw[ft,s];simp[h]
theorem Vt{f:Nat→Slot}{free:Int}(s:(f a).state=1)(h: ¬(f a).id=id): ft f id n (k+1) a free=ft f id n k ((a+1) % n) free:=by rw[ft,s];simp[h]
theorem O3{f:Nat→Slot}{free:Int}(s:(f a).state=2): ft f id n (k+1) a free=ft f id n k ((a+1) % n) (if free<0 then(a:Int)else free):=by rw[ft,s];rfl
def pos(n h d:Nat): Nat:=(h+d) % n
theorem I9(n h d:Nat): (pos n h d+1) % n=pos n h (d+1):=by unfold pos;rw[Nat.mod_add_mod];rfl
theorem xG(h d:Nat)(hn:0<n): pos n h d<n:=vk _ hn
theorem zr{d:Nat} (hh:h<n)(hd:d<n): pos n h d=if h+d<n then h+d else h+d - n:=by
 unfold pos;split
 ·exact Oj (by assumption)
 rw[Nat.mod_eq_sub_mod ag,Oj ag]
theorem aau{d e:Nat} (hh:h<n)(hd:d<n)(he:e<n)(hx:pos n h d=pos n h e): d=e:=by
 rw[zr hh hd,zr hh he] at hx;split at hx <;>split at hx <;>omega
theorem O5(hh:h<n)(hi:i<n): ∃ e,e<n∧pos n h e=i:=by
 rcases fO i h with h1|h1
 ·exact⟨i+n - h,ag,by rw[zr hh ag];split <;>omega⟩
 exact⟨i - h,ag,by rw[zr hh ag];split <;>omega⟩
def Hit(f:Nat→Slot)(id:Int)(n h d:Nat)(r:Int × Bool): Prop:=∃ e,d≤e∧e<n∧r=((pos n h e:Int),true)∧(f (pos n h e)).state=1∧(f (pos n h e)).id=id
def ajO(f:Nat→Slot)(id:Int)(n h d:Nat)(free:Int)(r:Int × Bool): Prop:=r.2=false∧(∀ e,d≤e→e<n→(f (pos n h e)).state=1→(f (pos n h e)).id=id→∃ e',d≤e'∧e'<e∧(f (pos n h e')).state=0)∧(0≤free→r.1=free)∧(free<0→(r.1=free∧∀ e,d≤e→e<n→(f (pos n h e)).state=1)∨∃ e,d≤e∧e<n∧r.1=(pos n h e:Int)∧(f (pos n h e)).state≠1∧∀ e',d≤e'→e'<e→(f (pos n h e')).state=1)
theorem uD(f:Nat→Slot)(id:Int)(n h:Nat)(hst: ∀ i,i<n→(f i).state≤2)(hn:0<n): ∀ k d free,d+k=n→Hit f id n h d (ft f id n k (pos n h d) free)∨ajO f id n h d free (ft f id n k (pos n h d) free)
 | 0,d,free,hd=>.inr ⟨rfl,fun e h1 h2=>ag,fun _=>rfl,fun _=>.inl ⟨rfl,fun e h1 h2=>ag⟩⟩
 | k+1,d,free,hd=>by
  have hp:pos n h d<n:=xG h d hn;have hs:=hst _ hp;rcases(show(f (pos n h d)).state=0∨(f (pos n h d)).state=1∨(f (pos n h d)).state=2 from ag)with s|s|s
  ·have e:ft f id n (k+1) (pos n h d) free=(if free<0 then(pos n h d:Int)else free,false):=by rw[ft,s];rfl
   rw[e];refine .inr ⟨rfl,fun e h1 h2 s1 _=>⟨d,aL _,?_,s⟩,fun h=>if_neg ag,fun h=>.inr ⟨d,aL _,ag,if_pos h,by rw[s];decide,fun e' h1 h2=>ag⟩⟩;rcases fO d e with h3|h3
   ·exact h3
   obtain rfl:e=d:=ag;rw[s] at s1;cases s1
  ·by_cases hid:(f (pos n h d)).id=id
   ·exact .inl ⟨d,aL _,ag,by rw[ft,s];simp[hid],s,hid⟩
   have e:ft f id n (k+1) (pos n h d) free=ft f id n k (pos n h (d+1)) free:=by rw[ft,s];simp[hid,I9]
   rw[e];rcases uD f id n h hst hn k (d+1) free ag with⟨e,h1,h2⟩|⟨h1,h2,h3,h4⟩
   ·exact .inl ⟨e,ag,h2⟩
   refine .inr ⟨h1,fun e he hen hs1 kC=>?_,h3,fun hf=>?_⟩
   ·rcases fO d e with h5|h5
    ·obtain⟨e',a,b⟩:=h2 e h5 hen hs1 kC;exact⟨e',ag,b⟩
    obtain rfl:e=d:=ag;exact absurd kC hid
   rcases h4 hf with⟨a,b⟩|⟨e,a,b,c,d',g⟩
   ·refine .inl ⟨a,fun e he hen=>?_⟩;rcases fO d e with h5|h5
    ·exact b e h5 hen
    obtain rfl:e=d:=ag;exact s
   refine .inr ⟨e,ag,b,c,d',fun e' he hen=>?_⟩;rcases fO d e' with h5|h5
   ·exact g e' h5 hen
   obtain rfl:e'=d:=ag;exact s
  have e:ft f id n (k+1) (pos n h d) free=ft f id n k (pos n h (d+1)) (if free<0 then(pos n h d:Int)else free):=by rw[ft,s,I9];rfl
  rw[e];rcases uD f id n h hst hn k (d+1) (if free<0 then(pos n h d:Int)else free) ag with⟨e,h1,h2⟩|⟨h1,h2,h3,h4⟩
  ·exact .inl ⟨e,ag,h2⟩
  refine .inr ⟨h1,fun e he hen hs1 kC=>?_,fun hf=>?_,fun hf=>?_⟩
  ·rcases fO d e with h5|h5
   ·obtain⟨e',a,b⟩:=h2 e h5 hen hs1 kC;exact⟨e',ag,b⟩
   obtain rfl:e=d:=ag;rw[s] at hs1;cases hs1
  ·rw[if_neg ag] at h3 ⊢;exact h3 hf
  rw[if_pos hf] at h3 ⊢;exact .inr ⟨d,aL _,ag,h3 ag,by rw[s];decide,fun e' h1 h2=>ag⟩
def cnt(f:Nat→Slot)(s:Nat): Nat→Nat
 | 0=>0
 | n+1=>cnt f s n+if(f n).state=s then 1 else 0
def upd(f:Nat→Slot)(i:Nat)(s:Slot): Nat→Slot:=fun j=>if j=i then s else f j
theorem upd_same(f:Nat→Slot)(i:Nat)(s:Slot): upd f i s i=s:=if_pos rfl
theorem bV(f:Nat→Slot){j:Nat} (s:Slot)(h:j≠i): upd f i s j=f j:=if_neg h
theorem ags(f:Nat→Slot)(s:Nat): ∀ n,cnt f s n≤n
 | 0=>aL _
 | n+1=>by have:=ags f s n;rw[cnt];split <;>omega
theorem Kb{f:Nat→Slot}{s:Nat}: ∀ {n},(∀ i,i<n→(f i).state=s)→cnt f s n=n
 | 0,_=>rfl
 | n+1,h=>by rw[cnt,Kb (fun i hi=>h i ag),if_pos (h n ag)]
theorem J'(f:Nat→Slot)(t:Nat)(i:Nat)(s:Slot): ∀ n,n≤i→cnt (upd f i s) t n=cnt f t n
 | 0,_=>rfl
 | n+1,h=>by rw[cnt,cnt,J' f t i s n ag,bV f s ag]
theorem lO(f:Nat→Slot)(t:Nat)(i:Nat)(s:Slot): ∀ n,i<n→cnt (upd f i s) t n+(if(f i).state=t then 1 else 0)=cnt f t n+(if s.state=t then 1 else 0)
 | 0,h=>ag
 | n+1,h=>by
  rw[cnt,cnt];rcases fO i n with h1|h1
  ·have:=lO f t i s n h1;rw[bV f s (by omega:n≠i)];omega
  obtain rfl:i=n:=ag;rw[J' f t i s i (aL _),upd_same];omega
def home(n:Nat)(id:Int): Nat:=(uJ id % (n:Int)).toNat
theorem zA(id:Int)(hn:0<n): home n id<n:=by
 unfold home;generalize uJ id=x;have h1:=Int.emod_nonneg x (show(n:Int)≠0 from ag);have h2:=Int.emod_lt_of_pos x (show(0:Int)<n from ag);omega
theorem Vu(id:Int)(hn:0<n): pos n (home n id) 0=home n id:=by
 have h:=zA id hn;generalize home n id=x at h;unfold pos;rw[Nat.add_zero];exact Oj h
structure CP(f:Nat→Slot)(n:Nat): Prop where
 states: ∀ i,i<n→(f i).state≤2
 uniq: ∀ i j,i<n→j<n→(f i).state=1→(f j).state=1→(f i).id=(f j).id→i=j
 reach: ∀ id e,e<n→(f (pos n (home n id) e)).state=1→(f (pos n (home n id) e)).id=id→∀ e',e'<e→(f (pos n (home n id) e')).state≠0
def vG(f:Nat→Slot)(n:Nat)(id:Int): Int × Bool:=ft f id n n (home n id) (-1)
theorem sW{f:Nat→Slot}(h:CP f n)(hn:0<n)(id:Int): Hit f id n (home n id) 0 (vG f n id)∨ajO f id n (home n id) 0 (-1) (vG f n id):=by
 have:=uD f id n (home n id) h.states hn n 0 (-1) ag
 rwa [Vu id hn] at this
theorem A9{f:Nat→Slot}(h:CP f n)(hi:i<n)(hs:(f i).state=1): vG f n (f i).id=((i:Int),true):=by
 have hn:0<n:=ag;rcases sW h hn (f i).id with⟨e,_,he,hr,h1,h2⟩|⟨_,h2,_⟩
 ·rw[hr,h.uniq _ _ (xG _ _ hn) hi h1 hs h2]
 obtain⟨e,he,hp⟩:=O5 (zA (f i).id hn) hi;obtain⟨e',_,h3,h4⟩:=h2 e (cu _) he (by rw[hp];exact hs) (by rw[hp]);exact absurd h4 (h.reach (f i).id e he (by rw[hp];exact hs) (by rw[hp]) e' h3)
theorem Vj{f:Nat→Slot}(h:CP f n)(hn:0<n)(hr:(vG f n id).2=true): ∃ i,i<n∧vG f n id=((i:Int),true)∧(f i).state=1∧(f i).id=id:=by
 rcases sW h hn id with⟨e,_,he,h3,h1,h2⟩|⟨h1,_⟩
 ·exact⟨_,xG _ _ hn,h3,h1,h2⟩
 rw[hr] at h1;cases h1
theorem xB{f:Nat→Slot}(h:CP f n)(hl:cnt f 1 n<n)(hr: ∀ i,i<n→(f i).state=1→(f i).id≠id): ∃ i,i<n∧vG f n id=((i:Int),false)∧(f i).state≠1∧∀ v,CP (upd f i ⟨1,id,v⟩) n:=by
 have hn:0<n:=ag;rcases sW h hn id with⟨e,_,he,h3,h1,h2⟩|⟨h1,_,_,h4⟩
 ·exact absurd h2 (hr _ (xG _ _ hn) h1)
 have hr1:vG f n id=((vG f n id).1,false):=by rw[←h1]
 rcases h4 ag with⟨_,h5⟩|⟨e,_,he,h5,h6,h7⟩
 ·have:cnt f 1 n=n:=Kb fun i hi=>by
   obtain⟨e,he,hp⟩:=O5 (zA id hn) hi;have:=h5 e (cu _) he
   rwa [hp] at this
  omega
 refine⟨_,xG _ _ hn,by rw[hr1,h5],h6,fun v=>?_⟩;obtain⟨a,ha⟩:=ae (pos n (home n id) e);rw[ha] at h6 ⊢;have han:a<n:=by rw[←ha];exact xG _ _ hn
 refine⟨fun i hi=>?_,fun i j hi hj si sj e=>?_,fun id' d hd s1 s2 d' PC=>?_⟩
 ·by_cases e:i=a
  ·subst e;rw[upd_same];show 1≤2;decide
  rw[bV _ _ e];exact h.states i hi
 ·by_cases e1:i=a <;>by_cases e2:j=a
  ·omega
  ·subst e1;rw[bV _ _ e2] at sj e;rw[upd_same] at e;exact absurd e.symm (hr j hj sj)
  ·subst e2;rw[bV _ _ e1] at si e;rw[upd_same] at e;exact absurd e (hr i hi si)
  rw[bV _ _ e1] at si e;rw[bV _ _ e2] at sj e;exact h.uniq i j hi hj si sj e
 by_cases e1:pos n (home n id') d'=a
 ·rw[e1,upd_same];show 1≠0;decide
 rw[bV _ _ e1];by_cases e2:pos n (home n id') d=a
 ·rw[e2,upd_same] at s2;have s2':id=id':=s2;subst s2';have hde:d=e:=aau (zA id hn) hd he (by rw[e2,ha]);subst hde;rw[h7 d' (cu _) PC];decide
 rw[bV _ _ e2] at s1 s2;exact h.reach id' d hd s1 s2 d' PC
def jP(f:Nat→Slot)(n:Nat)(id v:Int): Prop:=∃ i,i<n∧(f i).state=1∧(f i).id=id∧(f i).v=v
end ky
end
section
namespace ky
def FO(p:Nat)(w:World): Nat:=match w.cell? ⟨p,4,none⟩with
 | some (.int _ s)=>s.toNat
 | _=>0
variable{w:World}{g n:Nat}
theorem Rows.cell{f:Nat→Slot}(h:Rows w g n f){i:Nat}(hi:i<n): w.cell? ⟨g,i*3,none⟩=some (.int .u8 (f i).state)∧w.cell? ⟨g,i*3+1,none⟩=some (.int .u32 (f i).id)∧w.cell? ⟨g,i*3+2,none⟩=some (.int .i64 (f i).v):=by
 obtain⟨cur,h1,h2⟩:=h;have e: ∀ j,w.cell? ⟨g,j,none⟩=cur[j]?:=fun j=>by simp[Ol,h1]
 obtain⟨a,b,c⟩:=h2 i hi;exact⟨(e _).trans a,(e _).trans b,(e _).trans c⟩
theorem Rows.same{w':World} {f:Nat→Slot}(h:Rows w g n f)(hk:w'.heap[g]? =w.heap[g]?): Rows w' g n f:=by
 obtain⟨cur,h1,h2⟩:=h;exact⟨cur,hk.trans h1,h2⟩
theorem Rows.lt{f:Nat→Slot}(h:Rows w g n f): g<w.heap.size:=by
 obtain⟨cur,h1,_⟩:=h;exact(eP.1 h1).1
theorem dU.alloc{p:Nat} {m l gr s:Int}{f:Nat→Slot}(h:dU w p g n m l gr s f)(o:Obj): dU (w.alloc o) p g n m l gr s f:=⟨h.own.alloc o,h.rows.same (heap_alloc_old w o h.rows.lt),h.apart⟩
theorem AY{p:Nat} {m l gr s:Int}{f:Nat→Slot}(h:dU w p g n m l gr s f): FO p w=s.toNat:=by
 have h4:=h.own.cl 4;simp only[FO,h4]
theorem noGoto_ret{Q:Exit→Act→World→Prop}{a:Act}(h:Q .ret a w): Exit.noGoto Q .ret a w:=h
theorem Find(p g n:Nat)(bX len aS steps id:Int)(f:Nat→Slot)(w:World)(h:dU w p g n bX len aS steps f)(hn:1≤n)(mW:n≤16384)(hid:0≤id∧id<4294967296)(hst: ∀ i,i<n→(f i).state≤2):
  Calls af 245 #[.pointer (some ⟨p,0,none⟩),.int .u32 id] w fun e w'=>e= .returned (.tuple #[.int .i64 (ft f id n n (uJ id % (n:Int)).toNat (-1)).1,.bool (ft f id n n (uJ id % (n:Int)).toNat (-1)).2])∧(∃ s,dU w' p g n bX len aS s f)∧aG (· =p) w w':=by
 have x0:=h.own.cl 0;have x4:=h.own.cl 4;have m4:=h.own.mark 4;obtain⟨hr0,hr1⟩:=RJ id;obtain⟨a0,ha0⟩: ∃ a0:Nat,uJ id % (n:Int)=(a0:Int):=⟨(uJ id % (n:Int)).toNat,by have:=Int.emod_nonneg (uJ id) (show(n:Int)≠0 from ag);omega⟩;have ha1:(a0:Int)<(n:Int):=by rw[←ha0];exact Int.emod_lt_of_pos _ ag
 rw[ha0,Int.toNat_natCast];have HH:=aa h;have HID:=aa ha0;have hnz: ¬(n:Int)=0:=ag;have amV:=aa hst;clear h ha0 hst;go_enter Tryz.func245,Tryz.ntmps245;go_wp2_with fail;refine wp_scope_straight ?_;go_wp2_with fail;refine ah (amM id _) ?_;go_wp2_with fail;refine wp_label ?_;go_wp2_with fail;rw[show wrap64 (uJ id % (n:Int))=(a0:Int)from by rw[HID.o];unfold wrap64;omega];have hI0:dU (w.setCell ⟨p,4,none⟩ (.int .i64 0)) p g n bX len aS ((n:Int) - (n:Int)) f:=⟨by rw[Int.sub_self];exact HH.o.own.put 4 _,HH.o.rows.same (cH _ _ _ g (fun e=>HH.o.apart e.symm)),HH.o.apart⟩;have ht0:aG (· =p) w (w.setCell ⟨p,4,none⟩ (.int .i64 0)):=(aG.refl (· =p) w).put (p:=⟨p,4,none⟩) (.inl rfl) _;go_loopw [7,8] (fun at_ fr wr=>∃ (k a:Nat) (free:Int),k≤n∧a<n∧at_= .int .i64 a∧fr= .int .i64 free∧(-1≤free∧free<n)∧dU wr p g n bX len aS ((n:Int) - (k:Int)) f∧aG (· =p) w wr∧ft f id n k a free=ft f id n n a0 (-1)) (fun _ _ wr=>n - FO p wr)
 case atStart=>exact⟨n,a0,-1,aL _,ag,rfl,rfl,ag,hI0,ht0,rfl⟩
 case round=>
  clear hI0 ht0 x0 x4 m4;obtain⟨k,a,free,hk,ha,rfl,rfl,K4,hI,ht,hpr⟩:=hrel;have x0:=hI.own.cl 0;have x4:=hI.own.cl 4;have m4:=hI.own.mark 4;have hpl:=hI.own.lt;have zy: ¬p=g:=hI.apart;have xN: ¬g=p:=fun e=>hI.apart e.symm
  have oT:=hI.rows.lt;obtain⟨z0,z1,z2⟩:=hI.rows.cell ha;have HI:=aa hI;have HT:=aa ht;have HP:=aa hpr;clear hI ht hpr;cases k with
  | zero=>
   go_wp2_with fail;refine noGoto_ret ?_;go_ret2;exact⟨by rw[←HP.o];rfl,⟨_,HI.o⟩,HT.o⟩
  | succ j=>
   have hlt:(n:Int) - ((j+1:Nat):Int)<(n:Int):=ag;have ha1:(a:Int)<(n:Int):=ag;have ha0:(0:Int)≤(a:Int):=ag;have hs:=amV.o a ha;obtain⟨st,afC⟩:=ae ((f a).state);rw[afC] at z0 hs;have HST:=aa afC;clear afC;obtain⟨fi,hfi⟩:=ae ((f a).id);obtain⟨fv,hfv⟩:=ae ((f a).v);rw[hfi] at z1;rw[hfv] at z2;have HFI:=aa hfi;clear hfi hfv;have hj:((j+1:Nat):Int)=(j:Int)+1:=ag;rw[hj] at x4 hlt;clear hj;obtain⟨sn,qX⟩:=ae ((n:Int) - ((j:Int)+1):Int);rw[qX] at x4 hlt;have alD:0≤sn∧sn≤20000:=ag;have aj4:=aa qX;clear qX;obtain⟨anW,anV⟩:=alD;have alR:a*3+2<n*3:=ag;have hrg:(wr.setCell ⟨p,4,none⟩ (.int .i64 (sn+1))).rangeAt g (a*3) [.int .u8 st,.int .u32 fi,.int .i64 fv]:=fun i u hi=>by
    rw[World.cell?_setCell_other _ _ _ _ (by intro e;injection e with e;exact zy e)];rcases(show i=0∨i=1∨i=2∨3≤i from ag)with rfl|rfl|rfl|h3
    ·rw[←hi];exact z0
    ·rw[←hi];exact z1
    ·rw[←hi];exact z2
    rw[List.getElem?_eq_none (by simpa using h3)] at hi;cases hi
   clear z0 z1 z2 alR;have aoi:=K4.1;have aoh:=K4.2;have HFR:=aa K4;clear K4;have hI':dU (wr.setCell ⟨p,4,none⟩ (.int .i64 (sn+1))) p g n bX len aS (sn+1) f:=⟨HI.o.own.put 4 _,HI.o.rows.same (cH _ _ _ g xN),HI.o.apart⟩;have ht':aG (· =p) w (wr.setCell ⟨p,4,none⟩ (.int .i64 (sn+1))):=HT.o.put (p:=⟨p,4,none⟩) (.inl rfl) _;have HI':=aa hI';have HT':=aa ht';clear hI' ht';obtain⟨a1,dH⟩:=ae ((a+1) % n:Nat);have af4:a1<n:=by rw[←dH];exact vk _ ag
   have afD:((a:Int)+1) % (n:Int)=(a1:Int):=by rw[←dH];push_cast;rfl
   have aii:(n:Int) - (j:Int)=sn+1:=by rw[←aj4.o];omega
   have aj5:=aa aii;clear aii;have ahk:=aa dH;clear dH;rcases(show st=0∨st=1∨st=2 from ag)with rfl|rfl|rfl
   ·have GC:=aa hrg;clear hrg hs;by_cases hf:free<0
    ·go_wp2_with (refine wpList_load_mid rfl 358 _ rfl g (a*3) rfl [.int .u8 ((0:Nat):Int),.int .u32 fi,.int .i64 fv] _ GC.o ym rfl rfl ?_);try refine noGoto_ret ?_
     go_ret2;exact⟨by rw[←HP.o,O4 HST.o,if_pos hf];rfl,⟨_,HI'.o.alloc _⟩,HT'.o.alloc _⟩
    go_wp2_with (refine wpList_load_mid rfl 358 _ rfl g (a*3) rfl [.int .u8 ((0:Nat):Int),.int .u32 fi,.int .i64 fv] _ GC.o ym rfl rfl ?_);try refine noGoto_ret ?_
    go_ret2;exact⟨by rw[←HP.o,O4 HST.o,if_neg ag];rfl,⟨_,HI'.o.alloc _⟩,HT'.o.alloc _⟩
   ·have GC:=aa hrg;clear hrg hs;by_cases RN:fi=id
    ·have hb:(fi==id)=true:=by simpa using RN
     have ag0:=aa RN;clear RN;go_wp2_with (refine wpList_load_mid rfl 358 _ rfl g (a*3) rfl [.int .u8 ((1:Nat):Int),.int .u32 fi,.int .i64 fv] _ GC.o ym rfl rfl ?_);try refine noGoto_ret ?_
     go_ret2;exact⟨by rw[←HP.o,Ra HST.o (HFI.o.trans ag0.o)];rfl,⟨_,HI'.o.alloc _⟩,HT'.o.alloc _⟩
    have hb:(fi==id)=false:=by simpa using RN
    have ag0:=aa RN;clear RN;go_wp2_with (refine wpList_load_mid rfl 358 _ rfl g (a*3) rfl [.int .u8 ((1:Nat):Int),.int .u32 fi,.int .i64 fv] _ GC.o ym rfl rfl ?_);go_roundw
    case rel=>exact⟨j,a1,free,ag,af4,by rw[afD],FI,ag,LR,HT'.o.alloc _,by rw[←HP.o,Vt HST.o (fun e=>ag0.o (HFI.o.symm.trans e)),ahk.o]⟩
    case measure=>
     exact VV
   have GC:=aa hrg;clear hrg hs;by_cases hf:free<0
   ·go_wp2_with (refine wpList_load_mid rfl 358 _ rfl g (a*3) rfl [.int .u8 ((2:Nat):Int),.int .u32 fi,.int .i64 fv] _ GC.o ym rfl rfl ?_);go_roundw
    case rel=>exact⟨j,a1,a,ag,af4,by rw[afD],FI,ag,LR,HT'.o.alloc _,by rw[←HP.o,O3 HST.o,if_pos hf,ahk.o]⟩
    case measure=>
     exact VV
   go_wp2_with (refine wpList_load_mid rfl 358 _ rfl g (a*3) rfl [.int .u8 ((2:Nat):Int),.int .u32 fi,.int .i64 fv] _ GC.o ym rfl rfl ?_);go_roundw
   case rel=>exact⟨j,a1,free,ag,af4,by rw[afD],FI,ag,LR,HT'.o.alloc _,by rw[←HP.o,O3 HST.o,if_neg ag,ahk.o]⟩
   case measure=>
    exact VV
end ky
end
section
namespace ky
variable{w:World}{g n i p:Nat}
theorem Rows.there{f:Nat→Slot}(h:Rows w g n f)(hi:i<n): w.there g (i*3) 3:=by
 obtain⟨cur,h1,h2⟩:=h;have c:=h2 i hi;intro j hj;have e: ∀ k,w.cell? ⟨g,k,none⟩=cur[k]?:=fun k=>by simp[Ol,h1]
 refine⟨?_,by simp[World.frozen?,h1]⟩;rw[e];rcases(show j=0∨j=1∨j=2 from ag)with rfl|rfl|rfl
 ·rw[Nat.add_zero,c.1];rfl
 ·rw[c.2.1];rfl
 rw[c.2.2];rfl
def fI(s:Slot): List Value:=[.int .u8 (s.state:Int),.int .u32 s.id,.int .i64 s.v]
theorem Rows.store{f:Nat→Slot}(h:Rows w g n f)(hi:i<n)(s:Slot): Rows (w.setCells g (i*3) (fI s)) g n (upd f i s):=by
 obtain⟨cur,h1,h2⟩:=h;have hl:(n - 1)*3+2<cur.size:=(eP.1 (h2 (n - 1) ag).2.2).1;obtain⟨cs',r1,r2,r3,r4⟩:=fp g 358 (fI s) (i*3) w cur h1 (by show i*3+3≤cur.size;omega);refine⟨cs',r1,fun j hj=>?_⟩;by_cases e:j=i
 ·subst e;rw[upd_same];have q0:=r3 0 (show 0<3 from aM);have q1:=r3 1 (show 1<3 from aM);have q2:=r3 2 (show 2<3 from aM);exact⟨q0,q1,q2⟩
 rw[bV f s e];have ho: ∀ k,k<3→cs'[j*3+k]? =cur[j*3+k]?:=fun k hk=>r4 _ (by show j*3+k<i*3∨i*3+3≤j*3+k;omega)
 exact⟨(ho 0 ag).trans (h2 j hj).1,(ho 1 ag).trans (h2 j hj).2.1,(ho 2 ag).trans (h2 j hj).2.2⟩
theorem dU.store{m l gr s:Int}{f:Nat→Slot}(h:dU w p g n m l gr s f)(hi:i<n)(x:Slot): dU (w.setCells g (i*3) (fI x)) p g n m l gr s (upd f i x):=
 ⟨h.own.grown (bL g (fI x) (i*3) w).1 h.apart,h.rows.store hi x,h.apart⟩
structure fc(w:World)(p g n bX len aS:Nat)(f:Nat→Slot): Prop where
 dQ: ∃ steps,dU w p g n bX len aS steps f
 tab:CP f n
 full:cnt f 1 n=len
 XQ:cnt f 2 n=aS
 a8:len≤bX∧2*bX≤n∧1≤bX∧bX≤4096∧n≤16384
theorem Gt(f:Nat→Slot): ∀ n,cnt f 1 n+cnt f 2 n≤n
 | 0=>aL _
 | n+1=>by
  have:=Gt f n;rw[cnt,cnt];split <;>split <;>omega
theorem fc.same{w':World} {bX len aS:Nat} {f:Nat→Slot}(h:fc w p g n bX len aS f)(hp:w'.heap[p]? =w.heap[p]?)(hg:w'.heap[g]? =w.heap[g]?): fc w' p g n bX len aS f:=by
 obtain⟨s,hs⟩:=h.dQ;exact⟨⟨s,hp.trans hs.own,hs.rows.same hg,hs.apart⟩,h.tab,h.full,h.XQ,h.a8⟩
theorem fc.lt{bX len aS:Nat} {f:Nat→Slot}(h:fc w p g n bX len aS f): p<w.heap.size∧g<w.heap.size:=by
 obtain⟨s,hs⟩:=h.dQ;exact⟨hs.own.lt,hs.rows.lt⟩
theorem fR(p g n:Nat)(w:World)(h:w.cell? ⟨p,0,none⟩=some (.slice (some ⟨g,0,none⟩) n n)): Calls af 222 #[.pointer (some ⟨p,0,none⟩)] w fun e w'=>e= .returned (.bool true)∧w'=w:=by
 go_enter Tryz.func222,Tryz.ntmps222;go_wp2_with fail;go_ret;exact⟨rfl,rfl⟩
end ky
end
end
section
namespace ky
variable{n i:Nat}
theorem Vg{f:Nat→Slot}(h:CP f n): CP (upd f i ⟨2,0,0⟩) n:=by
 refine⟨fun j hj=>?_,fun a b ha hb sa sb e=>?_,fun id d hd s1 s2 d' PC=>?_⟩
 ·by_cases e:j=i
  ·subst e;rw[upd_same];exact aL _
  rw[bV _ _ e];exact h.states j hj
 ·have ea:a≠i:=fun e=>by subst e;rw[upd_same] at sa;revert sa;decide
  have eb:b≠i:=fun e=>by subst e;rw[upd_same] at sb;revert sb;decide
  rw[bV _ _ ea] at sa e;rw[bV _ _ eb] at sb e;exact h.uniq a b ha hb sa sb e
 have e1:pos n (home n id) d≠i:=fun e=>by rw[e,upd_same] at s1;revert s1;decide
 rw[bV _ _ e1] at s1 s2;by_cases e2:pos n (home n id) d'=i
 ·rw[e2,upd_same];show 2≠0;decide
 rw[bV _ _ e2];exact h.reach id d hd s1 s2 d' PC
theorem aai{f:Nat→Slot}(h:CP f n)(hs:(f i).state=1)(v:Int): CP (upd f i ⟨1,(f i).id,v⟩) n:=by
 have hst: ∀ j,(upd f i ⟨1,(f i).id,v⟩ j).state=(f j).state:=fun j=>by
  by_cases e:j=i
  ·subst e;rw[upd_same,hs]
  rw[bV _ _ e]
 have hid: ∀ j,(upd f i ⟨1,(f i).id,v⟩ j).id=(f j).id:=fun j=>by
  by_cases e:j=i
  ·subst e;rw[upd_same]
  rw[bV _ _ e]
 exact⟨fun j hj=>by rw[hst];exact h.states j hj,fun a b ha hb sa sb e=>h.uniq a b ha hb (by rwa [hst] at sa) (by rwa [hst] at sb) (by rwa [hid,hid] at e),
  fun id d hd s1 s2 d' PC=>by rw[hst];exact h.reach id d hd (by rwa [hst] at s1) (by rwa [hid] at s2) d' PC⟩
theorem wP{f:Nat→Slot}(hi:i<n)(hs:(f i).state≠1)(id v a b:Int): jP (upd f i ⟨1,id,v⟩) n a b↔jP f n a b∨(a=id∧b=v):=by
 constructor
 ·rintro⟨j,hj,h1,h2,h3⟩;by_cases e:j=i
  ·subst e;rw[upd_same] at h2 h3;exact .inr ⟨h2.symm,h3.symm⟩
  rw[bV _ _ e] at h1 h2 h3;exact .inl ⟨j,hj,h1,h2,h3⟩
 rintro(⟨j,hj,h1,h2,h3⟩|⟨rfl,rfl⟩)
 ·have e:j≠i:=fun e=>hs (e▸h1)
  exact⟨j,hj,LO,LN,LM⟩
 exact⟨i,hi,wT,wT,wT⟩
theorem Lq{f:Nat→Slot}(h:CP f n)(hi:i<n)(hs:(f i).state=1)(a b:Int): jP (upd f i ⟨2,0,0⟩) n a b↔jP f n a b∧a≠(f i).id:=by
 constructor
 ·rintro⟨j,hj,h1,h2,h3⟩;have e:j≠i:=fun e=>by subst e;rw[upd_same] at h1;revert h1;decide
  rw[bV _ _ e] at h1 h2 h3;exact⟨⟨j,hj,h1,h2,h3⟩,fun e2=>e (h.uniq j i hj hi h1 hs (h2.trans e2))⟩
 rintro⟨⟨j,hj,h1,h2,h3⟩,hne⟩;have e:j≠i:=fun e=>hne (by rw[←h2,e])
 exact⟨j,hj,LO,LN,LM⟩
theorem QM{f:Nat→Slot}(h:CP f n)(hi:i<n)(hs:(f i).state=1)(v a b:Int): jP (upd f i ⟨1,(f i).id,v⟩) n a b↔(jP f n a b∧a≠(f i).id)∨(a=(f i).id∧b=v):=by
 constructor
 ·rintro⟨j,hj,h1,h2,h3⟩;by_cases e:j=i
  ·subst e;rw[upd_same] at h2 h3;exact .inr ⟨h2.symm,h3.symm⟩
  rw[bV _ _ e] at h1 h2 h3;exact .inl ⟨⟨j,hj,h1,h2,h3⟩,fun e2=>e (h.uniq j i hj hi h1 hs (h2.trans e2))⟩
 rintro(⟨⟨j,hj,h1,h2,h3⟩,hne⟩|⟨rfl,rfl⟩)
 ·have e:j≠i:=fun e=>hne (by rw[←h2,e])
  exact⟨j,hj,LO,LN,LM⟩
 exact⟨i,hi,wT,wT,wT⟩
def f0: Nat→Slot:=fun _=>⟨0,0,0⟩
theorem Vf(n:Nat): CP f0 n:=⟨fun i _=>cu _,fun i j _ _ h=>mo,fun id e _ h=>mo⟩
theorem Ka(n t:Nat)(ht:t≠0): cnt f0 t n=0:=by
 induction n with
 | zero=>rfl
 | succ n ih=>rw[cnt,ih,if_neg (by show ¬0=t;omega)]
theorem Lp(n:Nat)(a b:Int): ¬jP f0 n a b:=fun⟨_,_,h,_⟩=>mo
end ky
end
section
namespace ky
variable{i:Nat}
theorem Rows.alh{w:World}{g n:Nat}{f:Nat→Slot}(h:Rows w g n f)(hi:i<n)(v:Int): Rows (w.setCell ⟨g,i*3+2,none⟩ (.int .i64 v)) g n (upd f i ⟨(f i).state,(f i).id,v⟩):=by
 obtain⟨cur,h1,h2⟩:=h;have ha:aD w g 358 cur:=h1;refine⟨cur.setIfInBounds (i*3+2) (.int .i64 v),ha.put _ _,fun j hj=>?_⟩;obtain⟨q0,q1,q2⟩:=h2 j hj;have hb:=(eP.1 q2).1;have ho: ∀ k,k≠i*3+2→(cur.setIfInBounds (i*3+2) (.int .i64 v))[k]? =cur[k]?:=fun k hk=>by rw[mJ,if_neg (fun e=>hk e.symm)]
 by_cases e:j=i
 ·subst e;rw[upd_same];exact⟨(ho _ ag).trans q0,(ho _ ag).trans q1,by rw[mJ,if_pos rfl,if_pos hb]⟩
 rw[bV _ _ e];exact⟨(ho _ ag).trans q0,(ho _ ag).trans q1,(ho _ ag).trans q2⟩
theorem agI(p g n bX len aS:Nat)(id v:Int)(f:Nat→Slot)(w:World)(h:fc w p g n bX len aS f)(hid:0≤id∧id<4294967296)(hi:i<n)(hs:(f i).state=1)(he:(f i).id=id):
  Calls af 165 #[.pointer (some ⟨p,0,none⟩),.int .u32 id,.int .i64 v] w fun e w'=>e= .returned (.bool true)∧fc w' p g n bX len aS (upd f i ⟨1,id,v⟩)∧aG (fun k=>k=p∨k=g) w w':=by
 obtain⟨steps,hI⟩:=h.dQ;have hsk:vG f n id=((i:Int),true):=LW;have x0:=hI.own.cl 0;have hn:=h.a8;have HF:=Find p g n bX len aS steps id f w hI ag hn.2.2.2.2 hid h.tab.states;have hF:Calls af 245 #[.pointer (some ⟨p,0,none⟩),.int .u32 id] w fun e w'=>e= .returned (.tuple #[.int .i64 (i:Int),.bool true])∧(∃ s,dU w' p g n bX len aS s f)∧aG (· =p) w w':=HF.mono fun e w' h1=>by
  exact VS
 have HH:=aa h;have HG:=aa hF;have HI:=aa (show i<n∧(f i).state=1∧(f i).id=id∧n≤16384 from⟨hi,hs,he,hn.2.2.2.2⟩);have yY:(i:Int)<(n:Int):=ag;clear h hF HF hI hsk hs he hn hid;go_enter Tryz.func165,Tryz.ntmps165;go_wp2_with fail;refine ah (fR p g n w x0) ?_;go_wp2_with fail;refine HG.o.mono ?_;rintro e w1 ⟨rfl,⟨s1,lf⟩,su⟩;have y0:=lf.own.cl 0;obtain⟨_,_,z2⟩:=lf.rows.cell hi;obtain⟨cur,og,_⟩:=lf.rows;have m2:w1.frozen? ⟨g,i*3+2,none⟩=false:=aD.mark (show aD w1 g 358 cur from og) _;have wK:=aa lf;have jx:=aa su;clear lf su og;go_wp2_with fail;go_ret;have lf:=wK.o;have hf:(⟨(f i).state,(f i).id,v⟩:Slot)=⟨1,id,v⟩:=by rw[HI.o.2.1,HI.o.2.2.1]
 refine⟨rfl,⟨⟨s1,lf.own.other (p:=⟨g,i*3+2,none⟩) lf.apart _,?_,lf.apart⟩,?_,?_,?_,HH.o.a8⟩,?_⟩
 ·have:=lf.rows.alh HI.o.1 v;rw[hf] at this;exact this
 ·have:=aai HH.o.tab HI.o.2.1 v;rw[HI.o.2.2.1] at this;exact this
 ·have:=lO f 1 i ⟨1,id,v⟩ n HI.o.1;rw[HI.o.2.1] at this;have:=HH.o.full;simp at *;omega
 ·have:=lO f 2 i ⟨1,id,v⟩ n HI.o.1;rw[HI.o.2.1] at this;have:=HH.o.XQ;simp at *;omega
 ·exact(jx.o.mono (T:=fun k=>k=p∨k=g) fun k _ h=>.inl h).put (p:=⟨g,i*3+2,none⟩) (.inl (.inr rfl)) _
theorem GQ(p g n bX len aS:Nat)(id:Int)(f:Nat→Slot)(w:World)(h:fc w p g n bX len aS f)(hid:0≤id∧id<4294967296)(hi:i<n)(hs:(f i).state=1)(he:(f i).id=id):
  Calls af 162 #[.pointer (some ⟨p,0,none⟩),.int .u32 id] w fun e w'=>e= .returned (.bool true)∧fc w' p g n bX (len - 1) (aS+1) (upd f i ⟨2,0,0⟩)∧1≤len∧aG (fun k=>k=p∨k=g) w w':=by
 obtain⟨steps,hI⟩:=h.dQ;have hsk:vG f n id=((i:Int),true):=LW;have x0:=hI.own.cl 0;have hn:=h.a8;have hc2:=Gt f n;have q1:=lO f 1 i ⟨2,0,0⟩ n hi;have q2:=lO f 2 i ⟨2,0,0⟩ n hi;rw[hs] at q1 q2;simp at q1 q2;have tr:1≤len:=by have:=h.full;omega
 have HQ:=aa (show cnt (upd f i ⟨2,0,0⟩) 1 n=len - 1∧cnt (upd f i ⟨2,0,0⟩) 2 n=aS+1∧1≤len∧aS≤16384∧len≤16384 from by have:=h.full;have:=h.XQ;omega);have HF:=Find p g n bX len aS steps id f w hI ag hn.2.2.2.2 hid h.tab.states;have hF:Calls af 245 #[.pointer (some ⟨p,0,none⟩),.int .u32 id] w fun e w'=>e= .returned (.tuple #[.int .i64 (i:Int),.bool true])∧(∃ s,dU w' p g n bX len aS s f)∧aG (· =p) w w':=HF.mono fun e w' h1=>by
  exact VS
 have HH:=aa h;have HG:=aa hF;have yY:(i:Int)<(n:Int):=ag;have hw0:aT.wrap ((len:Int) - 1)=(len:Int) - 1:=by rw[nX];have:=HQ.o;omega
 have aX:aT.wrap ((aS:Int)+1)=(aS:Int)+1:=by rw[nX];have:=HQ.o;omega
 have HI:=aa hi;clear h hF HF hI hsk hs he hn hid hc2 q1 q2;go_enter Tryz.func162,Tryz.ntmps162;go_wp2_with fail;refine ah (fR p g n w x0) ?_;go_wp2_with fail;refine HG.o.mono ?_;rintro e w1 ⟨rfl,⟨s1,lf⟩,su⟩;have y0:=lf.own.cl 0;have rh:=aa (lf.rows.there hi);have wK:=aa lf;have jx:=aa su;clear lf su;go_wp2_with (refine wpList_store_mid rfl 358 _ _ rfl g (i*3) #[.int .u8 2,.int .u32 0,.int .i64 0] rfl rfl rh.o rfl (by simp[Value.oneCell']) ?_;have fw:=wK.o.store hi ⟨2,0,0⟩;have kv:=(jx.o.mono (T:=fun k=>k=p∨k=g) fun k _ h=>.inl h).grown (bL g (fI ⟨2,0,0⟩) (i*3) w1).1 (fun k e=>.inl (.inr (by injection e with e;exact e.symm)));obtain⟨w3,hw3⟩:=ae (w1.setCells g (i*3) [.int .u8 2,.int .u32 0,.int .i64 0]);change dU (w1.setCells g (i*3) [.int .u8 2,.int .u32 0,.int .i64 0]) _ _ _ _ _ _ _ _ at fw;change aG _ w (w1.setCells g (i*3) [.int .u8 2,.int .u32 0,.int .i64 0]) at kv;change wpList _ _ _ _ _ (w1.setCells g (i*3) [.int .u8 2,.int .u32 0,.int .i64 0]);rw[hw3] at fw kv ⊢;clear hw3 y0 rh;have v2:w3.cell? ⟨p,2,none⟩=some (.int .i64 len):=fw.own.cell 2;have v3:w3.cell? ⟨p,3,none⟩=some (.int .i64 aS):=fw.own.cell 3;have m2:=fw.own.mark 2;have m3:=fw.own.mark 3;have hpl:=fw.own.lt;have gH:=aa fw;have jR:=aa kv;clear fw kv);go_ret;have fw:=gH.o;have hl2:((len - 1:Nat):Int)=(len:Int) - 1:=by have:=HQ.o;omega
 refine⟨rfl,⟨⟨s1,?_,(fw.rows.same (cH w3 ⟨p,2,none⟩ _ g (fun e=>fw.apart e.symm))).same (cH _ ⟨p,3,none⟩ _ g (fun e=>fw.apart e.symm)),fw.apart⟩,Vg HH.o.tab,HQ.o.1,HQ.o.2.1,Az⟩,HQ.o.2.2.1,?_⟩
 ·have:=(fw.own.put 2 (.int .i64 ((len:Int) - 1))).put 3 (.int .i64 ((aS:Int)+1));rw[hl2];push_cast;simpa using this
 ·exact(jR.o.put (p:=⟨p,2,none⟩) (.inl (.inl rfl)) _).put (p:=⟨p,3,none⟩) (.inl (.inl rfl)) _
