import Derived.Test.YtemighjbfanenaaGreatDoorPk8
import Derived.IntWalk
import Derived.Test.YtemighjbfanenaaGreatDoorProg
import Derived.Laws.Bits64b
import Derived.WalkSmall
import Derived.Laws.OwnMore
import Derived.Scope
set_option linter.all false
set_option maxRecDepth 100000
set_option maxHeartbeats 16000000
namespace Go.Proofs.YtemighjbfanenaaGreatDoor
open RowKit
open Go renaming bits→aX
open Go.BinOp renaming xor→qP
open Go.IntKind renaming u64→cR,wrap_i64→mH,wrap_u64→mJ,i64→aO
open Go.IntWalk renaming i64_in→vh
open Go.Proofs.Tryz renaming prog→af,underlying358→yB
open Go.Value renaming int→gI
open Go.WalkArith renaming wf_i64→lJ
open Go.World renaming cell?→NC
open Nat renaming mod_lt→vn,le_refl→aQ,lt_or_ge→lf,mod_eq_of_lt→ND,pow_lt_pow_right→CG,zero_le→cm
open RowKit.Below renaming heap_setCell→dH,refl→au
open _root_.Array renaming getElem?_eq_some_iff→eK,getElem?_setIfInBounds→yE,getElem?_toList→ei
theorem U2{p:Prop}(h:p:=by
 have q1:=aiO.o;have q2:=aiP.o;rw[Bn (HI'.o.alloc _),Bn HI.o];omega):p:=h
theorem U0{p:Prop}(h:p:=by
 have e1:fe f id n n (uL id % (n:Int)).toNat (-1)=((i:Int),true):=hsk;rw[e1] at h1;exact h1):p:=h
theorem Fu{p:Prop}(h:p:=by first|rfl|trivial):p:=h
theorem LL{p:Prop}(h:p:=by intro u hu;simp at hu;rcases hu with rfl|rfl|rfl <;>rfl):p:=h
theorem TW{p:Prop}(h:p:=by first|exact tB.o _ (ax (az (au _ _)) _)|exact⟨x1,y0,y1⟩):p:=h
theorem AZ{p:Prop}(h:p:=by simp[Value.oneCell']):p:=h
theorem LC{p:Prop}(h:p:=by rw[←he];exact Bq h.tab hi hs):p:=h
theorem AR{p:Prop}(h:p:=by have:=HH.o.bg;omega):p:=h
theorem Tv{p:Prop}(h:p:=by rw[Int.tmod_eq_emod_of_nonneg (by omega)];exact e2):p:=h
theorem Lu{p:Prop}(h:p:=by rw[aiP.o];exact HI'.o.alloc _):p:=h
theorem Lr{p:Prop}(h:p:=by rw[bV _ _ e];exact h1):p:=h
theorem Lq{p:Prop}(h:p:=by rw[bV _ _ e];exact h2):p:=h
theorem Lp{p:Prop}(h:p:=by rw[bV _ _ e];exact h3):p:=h
theorem mq{p:Prop}(h:p:=by cases h):p:=h
theorem xj{p:Prop}(h:p:=by rw[upd_same]):p:=h
theorem EV{p:Prop}(h:p:=by have:=HL.o;omega):p:=h
section
section
namespace Hp
variable{l:Nat}
theorem bR.mono{S T:Nat→Prop}{w:World}{p:Nat} {next:Int}{f:Nat→eJ}(h:bR S w p l next f)(p9: ∀ k,S k→k<w.heap.size→T k): bR T w p l next f:=by
 obtain⟨iv,mb,φ,hp,hr,hm,hpl,sp,sm⟩:=h.cQ;exact⟨⟨iv,mb,φ,hp,hr.mono p9,hm,hpl,p9 p sp hp.lt,p9 mb sm hm.lt⟩,h.bound⟩
theorem bR.same{S:Nat→Prop}{w w':World}{p:Nat} {next:Int}{f:Nat→eJ}(h:bR S w p l next f)(hk: ∀ k,S k→k<w.heap.size→w'.heap[k]? =w.heap[k]?): bR S w' p l next f:=by
 obtain⟨iv,mb,φ,hp,hr,hm,hpl,sp,sm⟩:=h.cQ;exact⟨⟨iv,mb,φ,(hk p sp hp.lt).trans hp,hr.same hk,hm.same (hk mb sm hm.lt),hpl,sp,sm⟩,h.bound⟩
theorem JR(W:World): (binOp BinOp.eql 212 (.func (.func 94) #[] #[]) Value.nilFunc).run af W= .ok (.bool false) W:=br
theorem zM(p:Nat)(w:World)(x0:w.cell? ⟨p,0,none⟩=some rp): Calls af 244 #[.pointer (some ⟨p,0,none⟩)] w fun e w'=>e= .returned (.bool false)∧w'=w:=by
 rw[show rp= .func (.func 94) #[] #[] from rfl] at x0;have hfn:=JR;go_enter Tryz.func244,Tryz.ntmps244;go_wp2_with fail;go_ret;exact⟨rfl,rfl⟩
def aiB(w:World)(e:Ending)(w':World): Prop:=∃ p,e= .returned (.pointer (some ⟨p,0,none⟩))∧bR (fun k=>w.heap.size≤k) w' p 0 0 (fun _=>⟨0,0,0⟩)∧Below w.heap.size w w'
theorem uW(w:World): Calls af 93 #[.func (.func 94) #[] #[]] w (aiB w):=by
 have hfn:=JR;have V8:=@run_makeMap af;go_enter Tryz.func93,Tryz.ntmps93;go_wp2_with fail;go_ret;have hb:Below w.heap.size w ((w.alloc (.map #[] 0)).alloc (.cells #[.func (.func 94) #[] #[],.slice none 0 0,.map (some w.heap.size),.int .i64 0] 319)):=ax (ax (au _ _) _) _;exact⟨w.heap.size+1,rfl,⟨⟨_,w.heap.size,fun _=>none,aG.new dR,aM.nil _ _ _ _ _,(dp.made _ _ _ _ w).alloc _,⟨fun i hi=>aj,fun h i hi=>by cases hi⟩,aj,aQ _⟩,aj,aj,aj,fun i hi=>aj⟩,hb⟩
theorem Mj(f:Nat→eJ)(l:Nat)(x:eJ): cH (gw f) l [.int .i64 x.aS,.int .u32 x.id,.int .i64 x.bc]=gw (cH f l x):=by
 funext j;unfold cH gw;by_cases h:j=l
 ·subst h;simp
 simp[h]
theorem jV.snoc{f:Nat→eJ}{φ:Int→Option Int}(h:jV f l φ)(x:eJ)(hx: ∀ i,i<l→(f i).bc≠x.bc): jV (cH f l x) (l+1) (tN φ x.bc (some (l:Int))):=by
 refine⟨fun i hi=>?_,fun y z hz=>?_⟩
 ·by_cases e:i=l
  ·subst e;rw[bM,fo]
  rw[bl _ _ e,cP _ _ (hx i aj)];exact h.1 i aj
 by_cases e:y=x.bc
 ·subst e;rw[fo] at hz;injection hz with hz
  exact⟨l,aj,hz.symm,by rw[bM]⟩
 rw[cP _ _ e] at hz;obtain⟨j,hj,e1,e2⟩:=h.2 y z hz;exact⟨j,aj,e1,by rw[bl _ _ aj];exact e2⟩
theorem jV.none{f:Nat→eJ}{φ:Int→Option Int}(h:jV f l φ){y:Int}(hy: ∀ i,i<l→(f i).bc≠y): φ y=none:=by
 cases hφ:φ y with
 | none=>rfl
 | some z=>
  obtain⟨j,hj,_,e⟩:=h.2 y z hφ;exact absurd e (hy j hj)
def aa5(S:Nat→Prop)(w:World)(p l:Nat)(next:Int)(f:Nat→eJ)(aS id:Int)(e:Ending)(w':World): Prop:=
 e= .returned (.tuple #[.int .i64 next,.int .i64 0])∧bR (fun k=>S k∨w.heap.size≤k) w' p (l+1) (next+1) (gl (cH f l ⟨aS,id,next⟩) (l+1) l)∧aI S w w'
theorem aa4(S:Nat→Prop)(p l:Nat)(next:Int)(f:Nat→eJ)(aS id:Int)(w:World)(h:bR S w p l next f)(hl:l<65536)(hn:next<1099511627776):
  Calls af 243 #[.pointer (some ⟨p,0,none⟩),.agg #[.int .i64 aS,.int .u32 id]] w (aa5 S w p l next f aS id):=by
 obtain⟨i0,hi,hz0,hz1,hz2⟩:=info_parts QN;have HH:=aa h;clear h;go_enter Tryz.func243,Tryz.ntmps243;go_wp2_with fail;have hb1:Below w.heap.size w (w.alloc (.cells #[.int .i64 aS,.int .u32 id] 211)):=ax (au _ _) _;have bt:aG (w.alloc (.cells #[.int .i64 aS,.int .u32 id] 211)) w.heap.size 211 #[.int .i64 aS,.int .u32 id]:=aG.fresh w _ _;obtain⟨w1,aZ⟩:=ae (w.alloc (.cells #[.int .i64 aS,.int .u32 id] 211));obtain⟨vb,oh⟩:=ae w.heap.size;have hs1:w1.heap.size=vb+1:=by rw[←aZ,←oh];simp
 rw[aZ] at hb1 bt ⊢;rw[oh] at bt ⊢;have kS:=eH hb1 HH.o;obtain⟨iv,mb,φ,hp,hr,hm,hpl,sp,sm⟩:=kS.cQ;obtain⟨A,cap,rfl⟩:=hr.any;have Se:=HH.o.bound;have HL:=aa hl;clear hl;clear aZ kS;refine ag (zM p w1 (hp.cell 0)) ?_;have x1:w1.cell? ⟨p,1,none⟩=some (.slice A l cap):=hp.cell 1;have x3:w1.cell? ⟨p,3,none⟩=some (.int .i64 next):=hp.cell 3;have m3:=hp.mark 3;have amc:=hp.lt;have V7:0≤next:=Se.2.1;have hlg:decide ((65536:Int)≤(l:Int))=false:=decide_eq_false EV;have HP:=aa hp;have HR:=aa hr;have HM:=aa hm;have Na:=aa hpl;have bz:=aa hb1;have dz:=aa bt;have zb:=aa oh;have Ig:=aa hs1;have zD:=aa Se;clear hp hr hm hpl hb1 bt oh hs1 Se;go_wp2_with fail;have BM:aG (w1.setCell ⟨p,3,none⟩ (.int .i64 (next+1))) p 319 #[rp,.slice A l cap,.map (some mb),.int .i64 (next+1)]:=HP.o.put 3 _;have hr2:aM S (w1.setCell ⟨p,3,none⟩ (.int .i64 (next+1))) 355 3 (.slice A l cap) l (gw f):=HR.o.put (q:=⟨p,3,none⟩) (fun g hg=>HR.o.mz hg HP.o aN) _;have KG:p≠mb:=dm HM.o HP.o;have vt:dp af 3 3 .i64 (w1.setCell ⟨p,3,none⟩ (.int .i64 (next+1))) mb l φ:=HM.o.same (dH w1 ⟨p,3,none⟩ _ mb (fun e=>KG e.symm));have ia:aG (w1.setCell ⟨p,3,none⟩ (.int .i64 (next+1))) vb 211 #[.int .i64 aS,.int .u32 id]:=dz.o.other (p:=⟨p,3,none⟩) (fun e=>by
  have h1:p<w.heap.size:=by obtain⟨_,_,_,h1,_⟩:=HH.o.cQ;exact h1.lt
  have h2:=zb.o;simp at e;omega) _
 have jB:aI S w (w1.setCell ⟨p,3,none⟩ (.int .i64 (next+1))):=((aI.refl S w).ak bz.o).put (p:=⟨p,3,none⟩) (.inl sp) _;have hs2:(w1.setCell ⟨p,3,none⟩ (.int .i64 (next+1))).heap.size=vb+1:=by simp[Ig.o]
 obtain⟨w2,hw2⟩:=ae (w1.setCell ⟨p,3,none⟩ (.int .i64 (next+1)));rw[hw2] at BM hr2 vt ia jB hs2 ⊢;clear hw2 x1 x3 m3 HP HR HM dz;have x1:=BM.cl 1;have y0:=ia.cl 0;have y1:=ia.cl 1;have aaf:=BM.lt;have H8:Below w2.heap.size w2 (w2.drew.alloc (.cells #[.int .i64 aS,.int .u32 id,.int .i64 next] 355)):=ax (az (au _ _)) _;have zZ:=aa (hr2.ai H8);have HPX:=aa (BM.ai H8);have HMX:=aa (vt.same (H8.block mb vt.lt));have HTX:=aa (jB.ak H8);have HS2:=aa hs2;have tB: ∀ w',Below w2.heap.size w2 w'→(w'.cell? ⟨p,1,none⟩=some (.slice A l cap)∧w'.cell? ⟨vb,0,none⟩=some (.int .i64 aS)∧w'.cell? ⟨vb,1,none⟩=some (.int .u32 id)):=fun w' hb=>⟨(hb.cell (p:=⟨p,1,none⟩) BM.lt).trans x1,(hb.cell (p:=⟨vb,0,none⟩) ia.lt).trans y0,(hb.cell (p:=⟨vb,1,none⟩) ia.lt).trans y1⟩
 have tB:=aa tB;have HAX:=aa (ia.ai H8);clear BM hr2 vt ia jB hs2 H8 x1 y0 y1;refine dI br ?_;refine bj.any (S:=(fun w'=>w'.cell? ⟨p,1,none⟩=some (.slice A l cap)∧w'.cell? ⟨vb,0,none⟩=some (.int .i64 aS)∧w'.cell? ⟨vb,1,none⟩=some (.int .u32 id))) (t:=12) _ _ _ _ ?_;have hHeld:=(show(fun w'=>w'.cell? ⟨p,1,none⟩=some (.slice A l cap)∧w'.cell? ⟨vb,0,none⟩=some (.int .i64 aS)∧w'.cell? ⟨vb,1,none⟩=some (.int .u32 id)) w2.drew from tB.o _ (az (au _ _)));refine tt 0 ?_;refine tt 1 ?_;refine tt 2 ?_;refine tt 3 ?_;refine tt 4 ?_;refine tt 5 ?_;refine tt 6 ?_;refine tt 7 ?_;refine bj.step (i:=8) br br rfl (fun K hK=>?_);go_simp;go_wp2_with fail;refine hK.out _ _ TW (fun qA=>?_);clear hK K;try simp only[aY]
 refine bj.step (i:=9) br br rfl (fun K hK=>?_);rw[if_pos im];refine fp _ (.tmp 30) (.tmp 34) 317 rfl 355 i0 (.agg #[.int .i64 0,.int .u32 0,.int .i64 0]) 3 24 Tryz.underlying317 hi hz0 hz1 hz2 rfl aN (.slice A l cap) l (gw f) rfl zZ.o ⟨w2.heap.size,0,none⟩ 1 [.int .i64 aS,.int .u32 id,.int .i64 next] rfl rfl (iN w2.drew _ _) LL (by have:=HL.o;unfold maxLen;omega) EV ?_;intro g cp w3 hr3 hg3;have hp3:aG w3 p 319 #[rp,.slice A l cap,.map (some mb),.int .i64 (next+1)]:=(hg3.block p HPX.o.lt (fun e=>zZ.o.mz e.symm HPX.o aN rfl)).trans HPX.o;have hm3:=HMX.o.same (hg3.block mb HMX.o.lt (fun e=>zZ.o.Mc e.symm HMX.o rfl));have dD:aG w3 vb 211 #[.int .i64 aS,.int .u32 id]:=(hg3.block vb HAX.o.lt (fun e=>zZ.o.mz e.symm HAX.o aN rfl)).trans HAX.o;have kf:=HTX.o.grown hg3 (fun k e=>.inl (zZ.o.block k e));have x1:w3.cell? ⟨p,1,none⟩=some (.slice A l cap):=aG.cell hp3 1;have y0:w3.cell? ⟨vb,0,none⟩=some (.int .i64 aS):=aG.cell dD 0;have y1:w3.cell? ⟨vb,1,none⟩=some (.int .u32 id):=aG.cell dD 1;have m1:=aG.mark hp3 1;have Zn:=aa hp3;have HM3:=aa hm3;have jF:=aa kf;have gM:=aa hr3;clear hp3 hm3 kf hr3 hg3 dD;refine hK.out _ _ TW (fun F9=>?_);clear hK K;try simp only[aY]
 refine tp 10 ?_;refine tp 11 ?_;refine bj.last br ?_;refine kB 12 br br ?_;simp only[List.drop_succ_cons,List.drop_zero];go_wp2_with fail;have KG:p≠mb:=dm HM3.o Zn.o;have ui:aG (w3.setCell ⟨p,1,none⟩ (.slice (some ⟨g,0,none⟩) (l+1) cp)) p 319 #[rp,.slice (some ⟨g,0,none⟩) (l+1) cp,.map (some mb),.int .i64 (next+1)]:=Zn.o.put 1 _;have hr4:aM (fun k=>S k∨w.heap.size≤k) (w3.setCell ⟨p,1,none⟩ (.slice (some ⟨g,0,none⟩) (l+1) cp)) 355 3 (.slice (some ⟨g,0,none⟩) (l+1) cp) (l+1) (gw (cH f l ⟨aS,id,next⟩)):=by
  rw[←Mj];refine(gM.o.mono ?_).put (q:=⟨p,1,none⟩) (fun k hk=>gM.o.mz hk Zn.o aN) _;intro k hk _;rcases hk with hk|hk
  ·exact .inl hk
  right;have h1:=zb.o;have h2:=HS2.o;rw[hk];simp;omega
 have xZ:dp af 3 3 .i64 (w3.setCell ⟨p,1,none⟩ (.slice (some ⟨g,0,none⟩) (l+1) cp)) mb l φ:=HM3.o.same (dH w3 ⟨p,1,none⟩ _ mb (fun e=>KG e.symm));have jJ:aI S w (w3.setCell ⟨p,1,none⟩ (.slice (some ⟨g,0,none⟩) (l+1) cp)):=jF.o.put (p:=⟨p,1,none⟩) (.inl sp) _;obtain⟨w4,hw4⟩:=ae (w3.setCell ⟨p,1,none⟩ (.slice (some ⟨g,0,none⟩) (l+1) cp));rw[hw4] at ui hr4 xZ jJ ⊢;clear hw4 x1 y0 y1 m1 F9 Zn gM HM3 jF zZ HPX HMX HTX HAX tB hHeld qA;have x1:=ui.cl 1;have x2:=ui.cl 2;have V9:dp af 3 3 .i64 w4.drew mb l φ:=xZ;have Zr:=aa V9;have Nc:=aa ui;have mj:=aa hr4;have nX:=aa jJ;have D5:next+1≤1099511627776:=aj;have OY:(l:Int)<65536:=EV;have HWL:=aa (show aO.wrap (l:Int)=(l:Int)from vh _ aj);clear xZ V9 ui hr4 jJ;go_still_tail 11,br;change wpList _ _ _ _ _ w4.drew
 (repeat(fail_if_success at_mapUpdate;(first|go_values|go_skip|go_guarded|go_step|go_upon)))
 refine gj rfl _ _ _ 316 rfl 3 3 .i64 Tryz.underlying3 Tryz.underlying3 Tryz.underlying316 mb l φ rfl Zr.o (by have:=HL.o;unfold maxLen;omega) next (aO.wrap (l:Int)) rfl rfl (lJ aj) (by rw[HWL.o];exact lJ aj) ?_;intro w5 rK ft;have Gq:=aa rK;have oP:=aa ft;clear rK ft;have lZ:w4.grownBy w5 (some mb):=⟨oP.o.os,oP.o.tape,oP.o.output,oP.o.size,oP.o.block⟩;have hhs: ∀ i,i<l→(f i).bc≠next:=fun i hi=>by have:=(zD.o.2.2.2 i hi).2;omega
 have rK:=Gq.o;rw[Na.o.none hhs,HWL.o] at rK;have Ej:bR (fun k=>S k∨w.heap.size≤k) w5 p (l+1) (next+1) (cH f l ⟨aS,id,next⟩):=by
  refine⟨⟨_,mb,_,(lZ.block p Nc.o.lt (by simpa using KG)).trans Nc.o,mj.o.pN lZ (BD Zr.o (mj.o.same fun _ _ _=>rfl)),rK,Na.o.snoc ⟨aS,id,next⟩ hhs,.inl sp,.inl sm⟩,EV,aj,D5,fun i hi=>?_⟩;by_cases e:i=l
  ·subst e;rw[bM];exact⟨V7,by show next<next+1;omega⟩
  rw[bl _ _ e];have:=zD.o.2.2.2 i aj;omega
 have oG:=nX.o.grown lZ (fun q e=>.inl LA);have y1:w5.cell? ⟨p,1,none⟩=some (.slice (some ⟨g,0,none⟩) (l+1) cp):=aG.cell ((lZ.block p Nc.o.lt (by simpa using KG)).trans Nc.o) 1;clear x1 x2 rK Gq oP Zr Nc mj nX lZ;have pZ:=aa Ej;have px:=aa oG;clear Ej oG;have aZ:((l:Int)+1) - 1=(l:Int):=aj;go_wp2_with fail;refine(DM _ p (l+1) l (next+1) _ w5 pZ.o aj).mono ?_;rintro e w6 ⟨⟨v6,rfl⟩,JQ,pV⟩;have kZ:=aa JQ;have vy:=aa (px.o.new pV);clear JQ pV;go_wp2_with fail;go_ret2;exact⟨rfl,kZ.o,vy.o⟩
end Hp
end
end
section
section
namespace yy
structure fS(w:World)(p g c n:Nat)(ws:Nat→Nat): Prop where
 own:aG w p 312 #[.bool true,.int .i64 n,.slice (some ⟨g,0,none⟩) ((n+63) / 64) c]
 row: ∃ cur,w.heap[g]? =some (.cells cur 22 (0,0))∧∀ j,j<(n+63) / 64→cur[j]? =some (.int .u64 (ws j))
 small: ∀ j,ws j<18446744073709551616
 apart:p≠g
def hasB(ws:Nat→Nat)(i:Nat): Bool:=(ws (i / 64)).testBit (i % 64)
theorem fS.ai{w w':World}{p g c n:Nat}{ws:Nat→Nat}(h:fS w p g c n ws)(hb:Below w.heap.size w w'): fS w' p g c n ws:=by
 obtain⟨cur,h1,h2⟩:=h.row;exact⟨h.own.ai hb,⟨cur,(hb.block g (eK.1 h1).1).trans h1,h2⟩,h.small,h.apart⟩
theorem fS.word{w:World}{p g c n:Nat}{ws:Nat→Nat}(h:fS w p g c n ws){j:Nat}(hj:j<(n+63) / 64): w.cell? ⟨g,j,none⟩=some (.int .u64 (ws j))∧w.frozen? ⟨g,j,none⟩=false:=by
 obtain⟨cur,h1,h2⟩:=h.row;exact⟨by rw[show w.cell? ⟨g,j,none⟩=cur[j]? from by simp[NC,h1]];exact h2 j hj,by simp[World.frozen?,h1]⟩
theorem Xc(x k:Nat)(hx:x<18446744073709551616): (aX BinOp.and cR ((x:Int) / 2 ^ k) 1==1)=x.testBit k:=by
 have e:(x:Int) / 2 ^ k=((x / 2 ^ k:Nat):Int):=dR;have hs:x / 2 ^ k≤x:=Nat.div_le_self _ _;rw[e,Nat.testBit_eq_decide_div_mod_eq];generalize x / 2 ^ k=y at hs;rw[and_one_u64 _ aj aj];rw[Bool.eq_iff_iff,beq_iff_eq,decide_eq_true_eq];omega
theorem Xo(p:Nat)(w:World)(h:w.cell? ⟨p,0,none⟩=some (.bool true)): Calls af 241 #[.pointer (some ⟨p,0,none⟩)] w fun e w'=>e= .returned (.bool true)∧w'=w:=by
 go_enter Tryz.func241,Tryz.ntmps241;go_wp2_with fail;go_ret;exact⟨rfl,rfl⟩
theorem pd(p g c n i:Nat)(ws:Nat→Nat)(w:World)(h:fS w p g c n ws)(hi:i<n)(hn:n≤1000000): Calls af 157 #[.pointer (some ⟨p,0,none⟩),.int .i64 i] w fun e w'=>e= .returned (.bool (hasB ws i))∧w'=w:=by
 have x0:w.cell? ⟨p,0,none⟩=some (.bool true):=h.own.cell 0;have x1:w.cell? ⟨p,1,none⟩=some (.int .i64 n):=h.own.cell 1;have x2:w.cell? ⟨p,2,none⟩=some (.slice (some ⟨g,0,none⟩) ((n+63) / 64) c):=h.own.cell 2;obtain⟨q,hq⟩:=ae (i / 64);obtain⟨k,hk⟩:=ae (i % 64);have hqn:q<(n+63) / 64:=aj;obtain⟨y0,_⟩:=h.word hqn;have e1:(i:Int) / 64=(q:Int):=aj;have e2:(i:Int) % 64=(k:Int):=aj;have e3:hasB ws i=(ws q).testBit k:=by unfold hasB;rw[hq,hk]
 have hb:=Xc (ws q) k (h.small q);obtain⟨nw,V2⟩:=ae ((n+63) / 64);rw[V2] at x2 hqn;have ahe:(q:Int)<(nw:Int):=aj;have VX:(0:Int)≤(q:Int):=aj;have We:k<64:=aj;have Mv:(i:Int)<(n:Int):=aj;have CT:(0:Int)≤(i:Int):=aj;rw[e3];have HB:=aa hb;clear h hq hk V2 e3 hb;go_enter Tryz.func157,Tryz.ntmps157;go_wp2_with fail;refine(Xo p _ x0).mono ?_;rintro e w1 ⟨rfl,hw⟩;subst hw;go_wp2_with fail;go_ret;exact⟨by rw[←HB.o];rfl,rfl⟩
end yy
end
section
namespace yy
theorem aex(x k:Nat)(hx:x<18446744073709551616)(hk:k<64): aX BinOp.or cR (x:Int) (cR.wrap (2 ^ k))=((x|||2 ^ k:Nat):Int):=by
 have h1:(2:Nat) ^ k<18446744073709551616:=CG (n:=64) aN hk;have e:cR.wrap ((2:Int) ^ k)=((2 ^ k:Nat):Int):=by
  rw[show((2:Int) ^ k)=((2 ^ k:Nat):Int)from dR,mJ];generalize(2:Nat) ^ k=y at h1;omega
 rw[e,bits_or_u64_nat x (2 ^ k) hx h1]
theorem RZ(p g c n i:Nat)(ws:Nat→Nat)(w:World)(h:fS w p g c n ws)(hi:i<n)(hn:n≤1000000): Calls af 247 #[.pointer (some ⟨p,0,none⟩),.int .i64 i,.bool true] w fun e w'=>e= .returned (.int .i64 0)∧fS w' p g c n (fun j=>if j=i / 64 then ws j|||2 ^ (i % 64)else ws j)∧w.grownBy w' (some g):=by
 have x0:w.cell? ⟨p,0,none⟩=some (.bool true):=h.own.cell 0;have x1:w.cell? ⟨p,1,none⟩=some (.int .i64 n):=h.own.cell 1;have x2:w.cell? ⟨p,2,none⟩=some (.slice (some ⟨g,0,none⟩) ((n+63) / 64) c):=h.own.cell 2;obtain⟨q,hq⟩:=ae (i / 64);obtain⟨k,hk⟩:=ae (i % 64);have hqn:q<(n+63) / 64:=aj;obtain⟨y0,m0⟩:=h.word hqn;have e1:(i:Int) / 64=(q:Int):=aj;have e2:(i:Int) % 64=(k:Int):=aj;obtain⟨nw,V2⟩:=ae ((n+63) / 64);rw[V2] at x2 hqn;rw[hq,hk];have ahe:(q:Int)<(nw:Int):=aj;have VX:(0:Int)≤(q:Int):=aj;have We:k<64:=aj;have Mv:(i:Int)<(n:Int):=aj;have CT:(0:Int)≤(i:Int):=aj;have zQ:p≠g:=h.apart;have t1:(i:Int).tmod 64=(k:Int):=Tv;have D6:(0:Int)≤(k:Int):=aj;have v1:aO.wrap (q:Int)=(q:Int):=vh _ aj;have v2:aO.wrap (k:Int)=(k:Int):=vh _ aj;have HS:=aa h;clear h hq hk V2;go_enter Tryz.func247,Tryz.ntmps247;go_wp2_with fail;refine ag (Xo p _ x0) ?_;go_wp2_with fail;have hS:w.cell? ⟨p,2,none⟩=some (.slice (some ⟨g,0,none⟩) nw c)∧w.cell? ⟨g,q,none⟩=some (.int .u64 (ws q))∧w.frozen? ⟨g,q,none⟩=false:=⟨x2,y0,m0⟩;go_still_tail 13,br;change wpList _ _ _ _ _ w.drew;have Wz:w.drew.cell? ⟨p,2,none⟩=some (.slice (some ⟨g,0,none⟩) nw c)∧w.drew.cell? ⟨g,q,none⟩=some (.int .u64 (ws q))∧w.drew.frozen? ⟨g,q,none⟩=false:=hS;obtain⟨z1,z2,z3⟩:=Wz;obtain⟨w2,hw2⟩:=ae w.drew;rw[hw2] at z1 z2 z3 ⊢;have KR:=aa hw2;clear hw2 hS;go_wp2_with fail;go_ret;rw[aex _ _ (HS.o.small q) We,←KR.o];have h0:=HS.o;have kX:w.grownBy w.drew (some g):=⟨rfl,rfl,rfl,aQ _,fun _ _ _=>rfl⟩;have hg2:w.drew.grownBy (w.drew.setCell ⟨g,q,none⟩ (.int .u64 ((ws q|||2 ^ k:Nat):Int))) (some g):=⟨rfl,rfl,rfl,dR,fun j _ hj=>dH _ _ _ j (fun e=>hj mm)⟩;obtain⟨cur,r1,r2⟩:=h0.row;refine⟨rfl,⟨aG.other (aG.drew h0.own) zQ _,⟨cur.setIfInBounds q (.int .u64 ((ws q|||2 ^ k:Nat):Int)),?_,fun j hj=>?_⟩,fun j=>?_,zQ⟩,kX.trans hg2⟩
 ·have r3:w.drew.heap[g]? =some (.cells cur 22 (0,0)):=r1;simp[World.setCell,Array.getElem?_modify,r3]
 ·rw[yE];by_cases e:j=q
  ·subst e;have hc:j<cur.size:=(eK.1 (r2 j hj)).1;rw[if_pos rfl,if_pos hc];simp
  rw[if_neg (fun h=>e h.symm),if_neg e];exact r2 j hj
 by_cases e:j=q
 ·rw[if_pos e];exact Nat.or_lt_two_pow (n:=64) (h0.small j) (CG aN We)
 rw[if_neg e];exact h0.small j
end yy
end
section
namespace yy
theorem SV: (af.info? 22).map (fun i=>(i.zero,i.size,i.bytes))=some (some (.int .u64 0),1,8):=br
def Cm(n:Nat)(w:World)(e:Ending)(w':World): Prop:=∃ p g,e= .returned (.tuple #[.pointer (some ⟨p,0,none⟩),.int .i64 0])∧fS w' p g ((n+63) / 64) n (fun _=>0)∧w.heap.size≤p∧w.heap.size≤g∧Below w.heap.size w w'
theorem uW(n:Nat)(hn:n≤65536)(w:World): Calls af 91 #[.int .i64 n] w (Cm n w):=by
 obtain⟨i0,hi,hz0,hz1,hz2⟩:=info_parts SV;obtain⟨nw,V2⟩:=ae ((n+63) / 64);have e1:((n:Int)+63) / 64=(nw:Int):=aj;have hnl:nw≤1025:=aj;have tu: ¬(65536:Int)<(n:Int):=aj;have V7: ¬(n:Int)<0:=aj;have HN:=aa V2;clear V2;go_enter Tryz.func91,Tryz.ntmps91;go_wp2_with (refine wpList_make_full _ rfl _ _ 310 rfl w.heap.size 22 i0 (.int .u64 0) 1 Tryz.underlying310 hi hz0 hz1 .i64 .i64 _ _ nw rfl rfl aj aj (by rw[hz2];omega) ZF (aQ _) ?_;intro w5 kz ft;have uu:=aa kz;have oP:=aa ft;clear kz ft);go_ret2;have hown:=uu.o;rw[show(gI cR 0).cells= #[gI cR 0] from rfl,toList_madeCells_one] at hown;have hg:=oP.o;have dX:Below w.heap.size w w5:=Below.grown (au _ _) hg (aQ _) dR;have hlt:w.heap.size<w5.heap.size:=(dM (g:=w.heap.size) hown rfl).1;rw[Cm,HN.o];refine⟨w5.heap.size,w.heap.size,rfl,⟨?_,?_,fun _=>aN,aj⟩,dX.size,aQ _,ax dX _⟩
 ·rw[HN.o];exact aG.fresh w5 _ _
 rcases hown.2 with⟨h0,_⟩|⟨g',cap,cur,hv,hb,hh,hnc,hcm,hcs,ht⟩
 ·cases h0
 injection hv with e1 _ e2
 injection e1 with e1
 injection e1 with e1
 subst e1 e2;refine⟨cur,(heap_alloc_old w5 _ hlt).trans hh,fun j hj=>?_⟩;rw[HN.o] at hj;have hx:cur[j]? =(List.replicate (nw*1) (gI cR 0))[j]?:=by rw[←ht,List.getElem?_take,if_pos aj,ei]
 rw[hx,List.getElem?_replicate,if_pos aj];rfl
end yy
end
section
namespace ki
theorem Qa(a b:Int): 0≤aX qP cR a b∧aX qP cR a b<18446744073709551616:=by
 show 0≤cR.wrap _∧cR.wrap _<_
 rw[mJ];omega
def mx(x d:Int): Int:=aX qP cR x (x / d)
def uL(x:Int): Int:=mx (cR.wrap (mx (cR.wrap (mx x 1073741824*13787848793156543929)) 134217728*10723151780598845931)) 2147483648
theorem QW(x:Int): 0≤uL x∧uL x<18446744073709551616:=Qa _ _
theorem ak4(x:Int)(w:World): Calls af 314 #[.int .u64 x] w fun e w'=>e= .returned (.int .u64 (uL x))∧w'=w:=by
 go_enter Tryz.func314,Tryz.ntmps314;go_wp2_with fail;go_ret;exact⟨rfl,rfl⟩
end ki
end
section
namespace ki
theorem DL: (af.info? 358).map (fun i=>(i.zero,i.size,i.bytes))=some (some (.agg #[.int .u8 0,.int .u32 0,.int .i64 0]),3,16):=br
structure Slot where
 state:Nat
 id:Int
 v:Int
def Rows(w:World)(g n:Nat)(f:Nat→Slot): Prop:=∃ cur,w.heap[g]? =some (.cells cur 358 (0,0))∧∀ i,i<n→cur[i*3]? =some (.int .u8 (f i).state)∧cur[i*3+1]? =some (.int .u32 (f i).id)∧cur[i*3+2]? =some (.int .i64 (f i).v)
structure dS(w:World)(p g n:Nat)(bU len aV steps:Int)(f:Nat→Slot): Prop where
 own:aG w p 315 #[.slice (some ⟨g,0,none⟩) n n,.int .i64 bU,.int .i64 len,.int .i64 aV,.int .i64 steps]
 rows:Rows w g n f
 apart:p≠g
def afI(m:Nat)(w:World)(e:Ending)(w':World): Prop:=∃ p g n,e= .returned (.tuple #[.pointer (some ⟨p,0,none⟩),.int .i64 0])∧dS w' p g n m 0 0 0 (fun _=>⟨0,0,0⟩)∧2*m≤n∧n≤4*m∧w.heap.size≤p∧w.heap.size≤g∧Below w.heap.size w w'
theorem QK(n j:Nat)(h:j<n): (madeCells #[gI .u8 0,.int .u32 0,.int .i64 0] n)[j]? = #[gI .u8 0,.int .u32 0,.int .i64 0][j % 3]?:=by
 have h3:j % 3<3:=vn _ aN;unfold madeCells;rw[Array.getElem?_map,Array.getElem?_range,if_pos h];obtain h4|h4|h4:j % 3=0∨j % 3=1∨j % 3=2:=aj
 all_goals simp[h4]
theorem uW(m:Nat)(h1:1≤m)(h2:m≤4096)(w:World): Calls af 92 #[.int .i64 m] w (afI m w):=by
 obtain⟨i0,hi,hz0,hz1,hz2⟩:=info_parts DL;have hm1: ¬(m:Int)<1:=aj;have vt: ¬(4096:Int)<(m:Int):=aj;go_enter Tryz.func92,Tryz.ntmps92;go_wp2_with fail;go_loopw [4] (fun k wr=>∃ n:Nat,1≤n∧n≤4*m∧k= .int .i64 n∧wr=w) (fun k _=>(2*m - intOf k).toNat)
 case atStart=>exact⟨1,aj,aj,rfl,rfl⟩
 case round=>
  obtain⟨n,tu,pq,rfl,hw⟩:=hrel;rw[hw];clear hw;by_cases h:n<2*m
  ·have h':(n:Int)<2*(m:Int):=by omega
   go_wp2_with fail;go_roundw
   case rel=>exact⟨n*2,aj,aj,by go_num,Fu⟩
   case measure=>simp[intOf];omega
  have h': ¬(n:Int)<2*(m:Int):=aj;go_wp2_with (refine wpList_make_full _ rfl _ _ 313 rfl w.heap.size 358 i0 (.agg #[.int .u8 0,.int .u32 0,.int .i64 0]) 3 Tryz.underlying313 hi hz0 hz1 .i64 .i64 _ _ n rfl rfl rfl rfl (by rw[hz2];omega) ZF (aQ _) ?_;intro w5 kz ft;have uu:=aa kz;have oP:=aa ft;clear kz ft);go_ret2;have hown:=uu.o;have dX:Below w.heap.size w w5:=Below.grown (au _ _) oP.o (aQ _) dR;have hlt:w.heap.size<w5.heap.size:=(dM (g:=w.heap.size) hown rfl).1;refine⟨w5.heap.size,w.heap.size,n,rfl,⟨aG.fresh w5 _ _,?_,aj⟩,aj,pq,dX.size,aQ _,ax dX _⟩;rcases hown.2 with⟨h0,_⟩|⟨g',cap,cur,hv,hb,hh,hnc,hcm,hcs,ht⟩
  ·cases h0
  injection hv with e1 _ e2
  injection e1 with e1
  injection e1 with e1
  subst e1 e2;have hx: ∀ j,j<n*3→cur[j]? = #[gI .u8 0,.int .u32 0,.int .i64 0][j % 3]?:=fun j hj=>by
   rw[←QK (n*3) j hj,←ei (xs:=madeCells _ _)];show cur[j]? =(madeCells (Value.agg #[gI .u8 0,.int .u32 0,.int .i64 0]).cells (n*3)).toList[j]?
   rw[←ht,List.getElem?_take,if_pos hj,ei]
  refine⟨cur,(heap_alloc_old w5 _ hlt).trans hh,fun i hi=>⟨?_,?_,?_⟩⟩
  ·rw[hx _ aj,Nat.mul_mod_left];rfl
  ·rw[hx _ aj,show(i*3+1) % 3=1 from aj];rfl
  rw[hx _ aj,show(i*3+2) % 3=2 from aj];rfl
end ki
end
section
namespace ki
def fe(f:Nat→Slot)(id:Int)(n:Nat): Nat→Nat→Int→Int × Bool
 | 0,_,free=>(free,false)
 | k+1,a,free=>match (f a).state with
  | 0=>(if free<0 then(a:Int)else free,false)
  | 1=>if(f a).id=id then((a:Int),true)else fe f id n k ((a+1) % n) free
  | _=>fe f id n k ((a+1) % n) (if free<0 then(a:Int)else free)
variable{id:Int}{n k a h i:Nat}
theorem Oo{f:Nat→Slot}{free:Int}(s:(f a).state=0): fe f id n (k+1) a free=(if free<0 then(a:Int)else free,false):=by rw[fe,s];rfl
theorem Qw{f:Nat→Slot}{free:Int}(s:(f a).state=1)(h:(f a).id=id): fe f id n (k+1) a free=((a:Int),true):=by rw[fe,s];simp[h]
theorem UC{f:Nat→Slot}{free:Int}(s:(f a).state=1)(h: ¬(f a).id=id): fe f id n (k+1) a free=fe f id n k ((a+1) % n) free:=by rw[fe,s];simp[h]
theorem On{f:Nat→Slot}{free:Int}(s:(f a).state=2): fe f id n (k+1) a free=fe f id n k ((a+1) % n) (if free<0 then(a:Int)else free):=by rw[fe,s];rfl
def pos(n h d:Nat): Nat:=(h+d) % n
theorem I3(n h d:Nat): (pos n h d+1) % n=pos n h (d+1):=by unfold pos;rw[Nat.mod_add_mod];rfl
theorem xS(h d:Nat)(hn:0<n): pos n h d<n:=vn _ hn
theorem zK{d:Nat} (hh:h<n)(hd:d<n): pos n h d=if h+d<n then h+d else h+d - n:=by
 unfold pos;split
 ·exact ND (by assumption)
 rw[Nat.mod_eq_sub_mod aj,ND aj]
theorem ZU{d e:Nat} (hh:h<n)(hd:d<n)(he:e<n)(hx:pos n h d=pos n h e): d=e:=by
 rw[zK hh hd,zK hh he] at hx;split at hx <;>split at hx <;>omega
theorem Oq(hh:h<n)(hi:i<n): ∃ e,e<n∧pos n h e=i:=by
 rcases lf i h with h1|h1
 ·exact⟨i+n - h,aj,by rw[zK hh aj];split <;>omega⟩
 exact⟨i - h,aj,by rw[zK hh aj];split <;>omega⟩
def Hit(f:Nat→Slot)(id:Int)(n h d:Nat)(r:Int × Bool): Prop:=∃ e,d≤e∧e<n∧r=((pos n h e:Int),true)∧(f (pos n h e)).state=1∧(f (pos n h e)).id=id
def aiy(f:Nat→Slot)(id:Int)(n h d:Nat)(free:Int)(r:Int × Bool): Prop:=r.2=false∧(∀ e,d≤e→e<n→(f (pos n h e)).state=1→(f (pos n h e)).id=id→∃ e',d≤e'∧e'<e∧(f (pos n h e')).state=0)∧(0≤free→r.1=free)∧(free<0→(r.1=free∧∀ e,d≤e→e<n→(f (pos n h e)).state=1)∨∃ e,d≤e∧e<n∧r.1=(pos n h e:Int)∧(f (pos n h e)).state≠1∧∀ e',d≤e'→e'<e→(f (pos n h e')).state=1)
theorem uG(f:Nat→Slot)(id:Int)(n h:Nat)(hst: ∀ i,i<n→(f i).state≤2)(hn:0<n): ∀ k d free,d+k=n→Hit f id n h d (fe f id n k (pos n h d) free)∨aiy f id n h d free (fe f id n k (pos n h d) free)
 | 0,d,free,hd=>.inr ⟨rfl,fun e h1 h2=>aj,fun _=>rfl,fun _=>.inl ⟨rfl,fun e h1 h2=>aj⟩⟩
 | k+1,d,free,hd=>by
  have hp:pos n h d<n:=xS h d hn;have hs:=hst _ hp;rcases(show(f (pos n h d)).state=0∨(f (pos n h d)).state=1∨(f (pos n h d)).state=2 from aj)with s|s|s
  ·have e:fe f id n (k+1) (pos n h d) free=(if free<0 then(pos n h d:Int)else free,false):=by rw[fe,s];rfl
   rw[e];refine .inr ⟨rfl,fun e h1 h2 s1 _=>⟨d,aQ _,?_,s⟩,fun h=>if_neg aj,fun h=>.inr ⟨d,aQ _,aj,if_pos h,by rw[s];decide,fun e' h1 h2=>aj⟩⟩;rcases lf d e with h3|h3
   ·exact h3
   obtain rfl:e=d:=aj;rw[s] at s1;cases s1
  ·by_cases hid:(f (pos n h d)).id=id
   ·exact .inl ⟨d,aQ _,aj,by rw[fe,s];simp[hid],s,hid⟩
   have e:fe f id n (k+1) (pos n h d) free=fe f id n k (pos n h (d+1)) free:=by rw[fe,s];simp[hid,I3]
   rw[e];rcases uG f id n h hst hn k (d+1) free aj with⟨e,h1,h2⟩|⟨h1,h2,h3,h4⟩
   ·exact .inl ⟨e,aj,h2⟩
   refine .inr ⟨h1,fun e he hen hs1 Mv=>?_,h3,fun hf=>?_⟩
   ·rcases lf d e with h5|h5
    ·obtain⟨e',a,b⟩:=h2 e h5 hen hs1 Mv;exact⟨e',aj,b⟩
    obtain rfl:e=d:=aj;exact absurd Mv hid
   rcases h4 hf with⟨a,b⟩|⟨e,a,b,c,d',g⟩
   ·refine .inl ⟨a,fun e he hen=>?_⟩;rcases lf d e with h5|h5
    ·exact b e h5 hen
    obtain rfl:e=d:=aj;exact s
   refine .inr ⟨e,aj,b,c,d',fun e' he hen=>?_⟩;rcases lf d e' with h5|h5
   ·exact g e' h5 hen
   obtain rfl:e'=d:=aj;exact s
  have e:fe f id n (k+1) (pos n h d) free=fe f id n k (pos n h (d+1)) (if free<0 then(pos n h d:Int)else free):=by rw[fe,s,I3];rfl
  rw[e];rcases uG f id n h hst hn k (d+1) (if free<0 then(pos n h d:Int)else free) aj with⟨e,h1,h2⟩|⟨h1,h2,h3,h4⟩
  ·exact .inl ⟨e,aj,h2⟩
  refine .inr ⟨h1,fun e he hen hs1 Mv=>?_,fun hf=>?_,fun hf=>?_⟩
  ·rcases lf d e with h5|h5
   ·obtain⟨e',a,b⟩:=h2 e h5 hen hs1 Mv;exact⟨e',aj,b⟩
   obtain rfl:e=d:=aj;rw[s] at hs1;cases hs1
  ·rw[if_neg aj] at h3 ⊢;exact h3 hf
  rw[if_pos hf] at h3 ⊢;exact .inr ⟨d,aQ _,aj,h3 aj,by rw[s];decide,fun e' h1 h2=>aj⟩
def cnt(f:Nat→Slot)(s:Nat): Nat→Nat
 | 0=>0
 | n+1=>cnt f s n+if(f n).state=s then 1 else 0
def upd(f:Nat→Slot)(i:Nat)(s:Slot): Nat→Slot:=fun j=>if j=i then s else f j
theorem upd_same(f:Nat→Slot)(i:Nat)(s:Slot): upd f i s i=s:=if_pos rfl
theorem bV(f:Nat→Slot){j:Nat} (s:Slot)(h:j≠i): upd f i s j=f j:=if_neg h
theorem afk(f:Nat→Slot)(s:Nat): ∀ n,cnt f s n≤n
 | 0=>aQ _
 | n+1=>by have:=afk f s n;rw[cnt];split <;>omega
theorem J3{f:Nat→Slot}{s:Nat}: ∀ {n},(∀ i,i<n→(f i).state=s)→cnt f s n=n
 | 0,_=>rfl
 | n+1,h=>by rw[cnt,J3 (fun i hi=>h i aj),if_pos (h n aj)]
theorem J1(f:Nat→Slot)(t:Nat)(i:Nat)(s:Slot): ∀ n,n≤i→cnt (upd f i s) t n=cnt f t n
 | 0,_=>rfl
 | n+1,h=>by rw[cnt,cnt,J1 f t i s n aj,bV f s aj]
theorem lO(f:Nat→Slot)(t:Nat)(i:Nat)(s:Slot): ∀ n,i<n→cnt (upd f i s) t n+(if(f i).state=t then 1 else 0)=cnt f t n+(if s.state=t then 1 else 0)
 | 0,h=>aj
 | n+1,h=>by
  rw[cnt,cnt];rcases lf i n with h1|h1
  ·have:=lO f t i s n h1;rw[bV f s (by omega:n≠i)];omega
  obtain rfl:i=n:=aj;rw[J1 f t i s i (aQ _),upd_same];omega
def home(n:Nat)(id:Int): Nat:=(uL id % (n:Int)).toNat
theorem zS(id:Int)(hn:0<n): home n id<n:=by
 unfold home;generalize uL id=x;have h1:=Int.emod_nonneg x (show(n:Int)≠0 from aj);have h2:=Int.emod_lt_of_pos x (show(0:Int)<n from aj);omega
theorem UD(id:Int)(hn:0<n): pos n (home n id) 0=home n id:=by
 have h:=zS id hn;generalize home n id=x at h;unfold pos;rw[Nat.add_zero];exact ND h
structure CV(f:Nat→Slot)(n:Nat): Prop where
 states: ∀ i,i<n→(f i).state≤2
 uniq: ∀ i j,i<n→j<n→(f i).state=1→(f j).state=1→(f i).id=(f j).id→i=j
 reach: ∀ id e,e<n→(f (pos n (home n id) e)).state=1→(f (pos n (home n id) e)).id=id→∀ e',e'<e→(f (pos n (home n id) e')).state≠0
def vL(f:Nat→Slot)(n:Nat)(id:Int): Int × Bool:=fe f id n n (home n id) (-1)
theorem sX{f:Nat→Slot}(h:CV f n)(hn:0<n)(id:Int): Hit f id n (home n id) 0 (vL f n id)∨aiy f id n (home n id) 0 (-1) (vL f n id):=by
 have:=uG f id n (home n id) h.states hn n 0 (-1) aj
 rwa [UD id hn] at this
theorem Bq{f:Nat→Slot}(h:CV f n)(hi:i<n)(hs:(f i).state=1): vL f n (f i).id=((i:Int),true):=by
 have hn:0<n:=aj;rcases sX h hn (f i).id with⟨e,_,he,hr,h1,h2⟩|⟨_,h2,_⟩
 ·rw[hr,h.uniq _ _ (xS _ _ hn) hi h1 hs h2]
 obtain⟨e,he,hp⟩:=Oq (zS (f i).id hn) hi;obtain⟨e',_,h3,h4⟩:=h2 e (cm _) he (by rw[hp];exact hs) (by rw[hp]);exact absurd h4 (h.reach (f i).id e he (by rw[hp];exact hs) (by rw[hp]) e' h3)
theorem Ur{f:Nat→Slot}(h:CV f n)(hn:0<n)(hr:(vL f n id).2=true): ∃ i,i<n∧vL f n id=((i:Int),true)∧(f i).state=1∧(f i).id=id:=by
 rcases sX h hn id with⟨e,_,he,h3,h1,h2⟩|⟨h1,_⟩
 ·exact⟨_,xS _ _ hn,h3,h1,h2⟩
 rw[hr] at h1;cases h1
theorem xN{f:Nat→Slot}(h:CV f n)(hl:cnt f 1 n<n)(hr: ∀ i,i<n→(f i).state=1→(f i).id≠id): ∃ i,i<n∧vL f n id=((i:Int),false)∧(f i).state≠1∧∀ v,CV (upd f i ⟨1,id,v⟩) n:=by
 have hn:0<n:=aj;rcases sX h hn id with⟨e,_,he,h3,h1,h2⟩|⟨h1,_,_,h4⟩
 ·exact absurd h2 (hr _ (xS _ _ hn) h1)
 have hr1:vL f n id=((vL f n id).1,false):=by rw[←h1]
 rcases h4 aj with⟨_,h5⟩|⟨e,_,he,h5,h6,h7⟩
 ·have:cnt f 1 n=n:=J3 fun i hi=>by
   obtain⟨e,he,hp⟩:=Oq (zS id hn) hi;have:=h5 e (cm _) he
   rwa [hp] at this
  omega
 refine⟨_,xS _ _ hn,by rw[hr1,h5],h6,fun v=>?_⟩;obtain⟨a,ha⟩:=ae (pos n (home n id) e);rw[ha] at h6 ⊢;have han:a<n:=by rw[←ha];exact xS _ _ hn
 refine⟨fun i hi=>?_,fun i j hi hj si sj e=>?_,fun id' d hd s1 s2 d' O1=>?_⟩
 ·by_cases e:i=a
  ·subst e;rw[upd_same];show 1≤2;decide
  rw[bV _ _ e];exact h.states i hi
 ·by_cases e1:i=a <;>by_cases e2:j=a
  ·omega
  ·subst e1;rw[bV _ _ e2] at sj e;rw[upd_same] at e;exact absurd e.symm (hr j hj sj)
  ·subst e2;rw[bV _ _ e1] at si e;rw[upd_same] at e;exact absurd e (hr i hi si)
  rw[bV _ _ e1] at si e;rw[bV _ _ e2] at sj e;exact h.uniq i j hi hj si sj e
 by_cases e1:pos n (home n id') d'=a
 ·rw[e1,upd_same];show 1≠0;decide
 rw[bV _ _ e1];by_cases e2:pos n (home n id') d=a
 ·rw[e2,upd_same] at s2;have s2':id=id':=s2;subst s2';have hde:d=e:=ZU (zS id hn) hd he (by rw[e2,ha]);subst hde;rw[h7 d' (cm _) O1];decide
 rw[bV _ _ e2] at s1 s2;exact h.reach id' d hd s1 s2 d' O1
def jE(f:Nat→Slot)(n:Nat)(id v:Int): Prop:=∃ i,i<n∧(f i).state=1∧(f i).id=id∧(f i).v=v
end ki
end
section
namespace ki
def FB(p:Nat)(w:World): Nat:=match w.cell? ⟨p,4,none⟩with
 | some (.int _ s)=>s.toNat
 | _=>0
variable{w:World}{g n:Nat}
theorem Rows.cell{f:Nat→Slot}(h:Rows w g n f){i:Nat}(hi:i<n): w.cell? ⟨g,i*3,none⟩=some (.int .u8 (f i).state)∧w.cell? ⟨g,i*3+1,none⟩=some (.int .u32 (f i).id)∧w.cell? ⟨g,i*3+2,none⟩=some (.int .i64 (f i).v):=by
 obtain⟨cur,h1,h2⟩:=h;have e: ∀ j,w.cell? ⟨g,j,none⟩=cur[j]?:=fun j=>by simp[NC,h1]
 obtain⟨a,b,c⟩:=h2 i hi;exact⟨(e _).trans a,(e _).trans b,(e _).trans c⟩
theorem Rows.same{w':World} {f:Nat→Slot}(h:Rows w g n f)(hk:w'.heap[g]? =w.heap[g]?): Rows w' g n f:=by
 obtain⟨cur,h1,h2⟩:=h;exact⟨cur,hk.trans h1,h2⟩
theorem Rows.lt{f:Nat→Slot}(h:Rows w g n f): g<w.heap.size:=by
 obtain⟨cur,h1,_⟩:=h;exact(eK.1 h1).1
theorem dS.alloc{p:Nat} {m l gr s:Int}{f:Nat→Slot}(h:dS w p g n m l gr s f)(o:Obj): dS (w.alloc o) p g n m l gr s f:=⟨h.own.alloc o,h.rows.same (heap_alloc_old w o h.rows.lt),h.apart⟩
theorem Bn{p:Nat} {m l gr s:Int}{f:Nat→Slot}(h:dS w p g n m l gr s f): FB p w=s.toNat:=by
 have h4:w.cell? ⟨p,4,none⟩=some (.int .i64 s):=h.own.cell 4;simp only[FB,h4]
theorem noGoto_ret{Q:Exit→Act→World→Prop}{a:Act}(h:Q .ret a w): Exit.noGoto Q .ret a w:=h
theorem Find(p g n:Nat)(bU len aV steps id:Int)(f:Nat→Slot)(w:World)(h:dS w p g n bU len aV steps f)(hn:1≤n)(pq:n≤16384)(hid:0≤id∧id<4294967296)(hst: ∀ i,i<n→(f i).state≤2):
  Calls af 245 #[.pointer (some ⟨p,0,none⟩),.int .u32 id] w fun e w'=>e= .returned (.tuple #[.int .i64 (fe f id n n (uL id % (n:Int)).toNat (-1)).1,.bool (fe f id n n (uL id % (n:Int)).toNat (-1)).2])∧(∃ s,dS w' p g n bU len aV s f)∧aI (· =p) w w':=by
 have x0:w.cell? ⟨p,0,none⟩=some (.slice (some ⟨g,0,none⟩) n n):=h.own.cell 0;have x4:w.cell? ⟨p,4,none⟩=some (.int .i64 steps):=h.own.cell 4;have m4:=h.own.mark 4;obtain⟨hr0,hr1⟩:=QW id;obtain⟨a0,ha0⟩: ∃ a0:Nat,uL id % (n:Int)=(a0:Int):=⟨(uL id % (n:Int)).toNat,by have:=Int.emod_nonneg (uL id) (show(n:Int)≠0 from aj);omega⟩;have ha1:(a0:Int)<(n:Int):=by rw[←ha0];exact Int.emod_lt_of_pos _ aj
 rw[ha0,Int.toNat_natCast];have HH:=aa h;have HID:=aa ha0;have hnz: ¬(n:Int)=0:=aj;have ald:=aa hst;clear h ha0 hst;go_enter Tryz.func245,Tryz.ntmps245;go_wp2_with fail;refine wp_scope_straight ?_;go_wp2_with fail;refine ag (ak4 id _) ?_;go_wp2_with fail;refine wp_label ?_;go_wp2_with fail;rw[show wrap64 (uL id % (n:Int))=(a0:Int)from by rw[HID.o];unfold wrap64;omega];have hI0:dS (w.setCell ⟨p,4,none⟩ (.int .i64 0)) p g n bU len aV ((n:Int) - (n:Int)) f:=⟨by rw[Int.sub_self];exact HH.o.own.put 4 _,HH.o.rows.same (dH _ _ _ g (fun e=>HH.o.apart e.symm)),HH.o.apart⟩;have ht0:aI (· =p) w (w.setCell ⟨p,4,none⟩ (.int .i64 0)):=(aI.refl (· =p) w).put (p:=⟨p,4,none⟩) (.inl rfl) _;go_loopw [7,8] (fun at_ fr wr=>∃ (k a:Nat) (free:Int),k≤n∧a<n∧at_= .int .i64 a∧fr= .int .i64 free∧(-1≤free∧free<n)∧dS wr p g n bU len aV ((n:Int) - (k:Int)) f∧aI (· =p) w wr∧fe f id n k a free=fe f id n n a0 (-1)) (fun _ _ wr=>n - FB p wr)
 case atStart=>exact⟨n,a0,-1,aQ _,aj,rfl,rfl,aj,hI0,ht0,rfl⟩
 case round=>
  clear hI0 ht0 x0 x4 m4;obtain⟨k,a,free,hk,ha,rfl,rfl,KN,hI,ht,hpr⟩:=hrel;have x0:wr.cell? ⟨p,0,none⟩=some (.slice (some ⟨g,0,none⟩) n n):=hI.own.cell 0;have x4:wr.cell? ⟨p,4,none⟩=some (.int .i64 ((n:Int) - (k:Int))):=hI.own.cell 4;have m4:=hI.own.mark 4;have hpl:=hI.own.lt;have zQ: ¬p=g:=hI.apart;have F4: ¬g=p:=fun e=>hI.apart e.symm
  have sw:=hI.rows.lt;obtain⟨z0,z1,z2⟩:=hI.rows.cell ha;have HI:=aa hI;have HT:=aa ht;have HP:=aa hpr;clear hI ht hpr;cases k with
  | zero=>
   go_wp2_with fail;refine noGoto_ret ?_;go_ret2;exact⟨by rw[←HP.o];rfl,⟨_,HI.o⟩,HT.o⟩
  | succ j=>
   have hlt:(n:Int) - ((j+1:Nat):Int)<(n:Int):=aj;have ha1:(a:Int)<(n:Int):=aj;have ha0:(0:Int)≤(a:Int):=aj;have hs:=ald.o a ha;obtain⟨st,aeM⟩:=ae ((f a).state);rw[aeM] at z0 hs;have HST:=aa aeM;clear aeM;obtain⟨fi,hfi⟩:=ae ((f a).id);obtain⟨fv,hfv⟩:=ae ((f a).v);rw[hfi] at z1;rw[hfv] at z2;have HFI:=aa hfi;clear hfi hfv;have hj:((j+1:Nat):Int)=(j:Int)+1:=aj;rw[hj] at x4 hlt;clear hj;obtain⟨sn,rB⟩:=ae ((n:Int) - ((j:Int)+1):Int);rw[rB] at x4 hlt;have akc:0≤sn∧sn≤20000:=aj;have aiO:=aa rB;clear rB;obtain⟨al9,al8⟩:=akc;have ako:a*3+2<n*3:=aj;have hrg:(wr.setCell ⟨p,4,none⟩ (.int .i64 (sn+1))).rangeAt g (a*3) [.int .u8 st,.int .u32 fi,.int .i64 fv]:=fun i u hi=>by
    rw[World.cell?_setCell_other _ _ _ _ (by intro e;injection e with e;exact zQ e)];rcases(show i=0∨i=1∨i=2∨3≤i from aj)with rfl|rfl|rfl|h3
    ·rw[←hi];exact z0
    ·rw[←hi];exact z1
    ·rw[←hi];exact z2
    rw[List.getElem?_eq_none (by simpa using h3)] at hi;cases hi
   clear z0 z1 z2 ako;have amv:=KN.1;have amu:=KN.2;have HFR:=aa KN;clear KN;have hI':dS (wr.setCell ⟨p,4,none⟩ (.int .i64 (sn+1))) p g n bU len aV (sn+1) f:=⟨HI.o.own.put 4 _,HI.o.rows.same (dH _ _ _ g F4),HI.o.apart⟩;have ht':aI (· =p) w (wr.setCell ⟨p,4,none⟩ (.int .i64 (sn+1))):=HT.o.put (p:=⟨p,4,none⟩) (.inl rfl) _;have HI':=aa hI';have HT':=aa ht';clear hI' ht';obtain⟨a1,dz⟩:=ae ((a+1) % n:Nat);have ae7:a1<n:=by rw[←dz];exact vn _ aj
   have aeN:((a:Int)+1) % (n:Int)=(a1:Int):=by rw[←dz];push_cast;rfl
   have ag4:(n:Int) - (j:Int)=sn+1:=by rw[←aiO.o];omega
   have aiP:=aa ag4;clear ag4;have age:=aa dz;clear dz;rcases(show st=0∨st=1∨st=2 from aj)with rfl|rfl|rfl
   ·have Gn:=aa hrg;clear hrg hs;by_cases hf:free<0
    ·go_wp2_with (refine wpList_load_mid rfl 358 _ rfl g (a*3) rfl [.int .u8 ((0:Nat):Int),.int .u32 fi,.int .i64 fv] _ Gn.o yB rfl rfl ?_);try refine noGoto_ret ?_
     go_ret2;exact⟨by rw[←HP.o,Oo HST.o,if_pos hf];rfl,⟨_,HI'.o.alloc _⟩,HT'.o.alloc _⟩
    go_wp2_with (refine wpList_load_mid rfl 358 _ rfl g (a*3) rfl [.int .u8 ((0:Nat):Int),.int .u32 fi,.int .i64 fv] _ Gn.o yB rfl rfl ?_);try refine noGoto_ret ?_
    go_ret2;exact⟨by rw[←HP.o,Oo HST.o,if_neg aj];rfl,⟨_,HI'.o.alloc _⟩,HT'.o.alloc _⟩
   ·have Gn:=aa hrg;clear hrg hs;by_cases QZ:fi=id
    ·have hb:(fi==id)=true:=by simpa using QZ
     have afU:=aa QZ;clear QZ;go_wp2_with (refine wpList_load_mid rfl 358 _ rfl g (a*3) rfl [.int .u8 ((1:Nat):Int),.int .u32 fi,.int .i64 fv] _ Gn.o yB rfl rfl ?_);try refine noGoto_ret ?_
     go_ret2;exact⟨by rw[←HP.o,Qw HST.o (HFI.o.trans afU.o)];rfl,⟨_,HI'.o.alloc _⟩,HT'.o.alloc _⟩
    have hb:(fi==id)=false:=by simpa using QZ
    have afU:=aa QZ;clear QZ;go_wp2_with (refine wpList_load_mid rfl 358 _ rfl g (a*3) rfl [.int .u8 ((1:Nat):Int),.int .u32 fi,.int .i64 fv] _ Gn.o yB rfl rfl ?_);go_roundw
    case rel=>exact⟨j,a1,free,aj,ae7,by rw[aeN],Fu,aj,Lu,HT'.o.alloc _,by rw[←HP.o,UC HST.o (fun e=>afU.o (HFI.o.symm.trans e)),age.o]⟩
    case measure=>
     exact U2
   have Gn:=aa hrg;clear hrg hs;by_cases hf:free<0
   ·go_wp2_with (refine wpList_load_mid rfl 358 _ rfl g (a*3) rfl [.int .u8 ((2:Nat):Int),.int .u32 fi,.int .i64 fv] _ Gn.o yB rfl rfl ?_);go_roundw
    case rel=>exact⟨j,a1,a,aj,ae7,by rw[aeN],Fu,aj,Lu,HT'.o.alloc _,by rw[←HP.o,On HST.o,if_pos hf,age.o]⟩
    case measure=>
     exact U2
   go_wp2_with (refine wpList_load_mid rfl 358 _ rfl g (a*3) rfl [.int .u8 ((2:Nat):Int),.int .u32 fi,.int .i64 fv] _ Gn.o yB rfl rfl ?_);go_roundw
   case rel=>exact⟨j,a1,free,aj,ae7,by rw[aeN],Fu,aj,Lu,HT'.o.alloc _,by rw[←HP.o,On HST.o,if_neg aj,age.o]⟩
   case measure=>
    exact U2
end ki
end
section
namespace ki
variable{w:World}{g n i p:Nat}
theorem Rows.there{f:Nat→Slot}(h:Rows w g n f)(hi:i<n): w.there g (i*3) 3:=by
 obtain⟨cur,h1,h2⟩:=h;have c:=h2 i hi;intro j hj;have e: ∀ k,w.cell? ⟨g,k,none⟩=cur[k]?:=fun k=>by simp[NC,h1]
 refine⟨?_,by simp[World.frozen?,h1]⟩;rw[e];rcases(show j=0∨j=1∨j=2 from aj)with rfl|rfl|rfl
 ·rw[Nat.add_zero,c.1];rfl
 ·rw[c.2.1];rfl
 rw[c.2.2];rfl
def fD(s:Slot): List Value:=[.int .u8 (s.state:Int),.int .u32 s.id,.int .i64 s.v]
theorem Rows.store{f:Nat→Slot}(h:Rows w g n f)(hi:i<n)(s:Slot): Rows (w.setCells g (i*3) (fD s)) g n (upd f i s):=by
 obtain⟨cur,h1,h2⟩:=h;have hl:(n - 1)*3+2<cur.size:=(eK.1 (h2 (n - 1) aj).2.2).1;obtain⟨cs',r1,r2,r3,r4⟩:=fQ g 358 (fD s) (i*3) w cur h1 (by show i*3+3≤cur.size;omega);refine⟨cs',r1,fun j hj=>?_⟩;by_cases e:j=i
 ·subst e;rw[upd_same];have q0:=r3 0 (show 0<3 from aN);have q1:=r3 1 (show 1<3 from aN);have q2:=r3 2 (show 2<3 from aN);exact⟨q0,q1,q2⟩
 rw[bV f s e];have ho: ∀ k,k<3→cs'[j*3+k]? =cur[j*3+k]?:=fun k hk=>r4 _ (by show j*3+k<i*3∨i*3+3≤j*3+k;omega)
 exact⟨(ho 0 aj).trans (h2 j hj).1,(ho 1 aj).trans (h2 j hj).2.1,(ho 2 aj).trans (h2 j hj).2.2⟩
theorem dS.store{m l gr s:Int}{f:Nat→Slot}(h:dS w p g n m l gr s f)(hi:i<n)(x:Slot): dS (w.setCells g (i*3) (fD x)) p g n m l gr s (upd f i x):=
 ⟨h.own.grown (dr g (fD x) (i*3) w).1 h.apart,h.rows.store hi x,h.apart⟩
structure eU(w:World)(p g n bU len aV:Nat)(f:Nat→Slot): Prop where
 cQ: ∃ steps,dS w p g n bU len aV steps f
 tab:CV f n
 full:cnt f 1 n=len
 WH:cnt f 2 n=aV
 bg:len≤bU∧2*bU≤n∧1≤bU∧bU≤4096∧n≤16384
theorem Gi(f:Nat→Slot): ∀ n,cnt f 1 n+cnt f 2 n≤n
 | 0=>aQ _
 | n+1=>by
  have:=Gi f n;rw[cnt,cnt];split <;>split <;>omega
theorem eU.same{w':World} {bU len aV:Nat} {f:Nat→Slot}(h:eU w p g n bU len aV f)(hp:w'.heap[p]? =w.heap[p]?)(hg:w'.heap[g]? =w.heap[g]?): eU w' p g n bU len aV f:=by
 obtain⟨s,hs⟩:=h.cQ;exact⟨⟨s,hp.trans hs.own,hs.rows.same hg,hs.apart⟩,h.tab,h.full,h.WH,h.bg⟩
theorem eU.lt{bU len aV:Nat} {f:Nat→Slot}(h:eU w p g n bU len aV f): p<w.heap.size∧g<w.heap.size:=by
 obtain⟨s,hs⟩:=h.cQ;exact⟨hs.own.lt,hs.rows.lt⟩
theorem fP(p g n:Nat)(w:World)(h:w.cell? ⟨p,0,none⟩=some (.slice (some ⟨g,0,none⟩) n n)): Calls af 222 #[.pointer (some ⟨p,0,none⟩)] w fun e w'=>e= .returned (.bool true)∧w'=w:=by
 go_enter Tryz.func222,Tryz.ntmps222;go_wp2_with fail;go_ret;exact⟨rfl,rfl⟩
end ki
end
end
section
namespace ki
variable{n i:Nat}
theorem Uo{f:Nat→Slot}(h:CV f n): CV (upd f i ⟨2,0,0⟩) n:=by
 refine⟨fun j hj=>?_,fun a b ha hb sa sb e=>?_,fun id d hd s1 s2 d' O1=>?_⟩
 ·by_cases e:j=i
  ·subst e;rw[upd_same];exact aQ _
  rw[bV _ _ e];exact h.states j hj
 ·have ea:a≠i:=fun e=>by subst e;rw[upd_same] at sa;revert sa;decide
  have eb:b≠i:=fun e=>by subst e;rw[upd_same] at sb;revert sb;decide
  rw[bV _ _ ea] at sa e;rw[bV _ _ eb] at sb e;exact h.uniq a b ha hb sa sb e
 have e1:pos n (home n id) d≠i:=fun e=>by rw[e,upd_same] at s1;revert s1;decide
 rw[bV _ _ e1] at s1 s2;by_cases e2:pos n (home n id) d'=i
 ·rw[e2,upd_same];show 2≠0;decide
 rw[bV _ _ e2];exact h.reach id d hd s1 s2 d' O1
theorem ZI{f:Nat→Slot}(h:CV f n)(hs:(f i).state=1)(v:Int): CV (upd f i ⟨1,(f i).id,v⟩) n:=by
 have hst: ∀ j,(upd f i ⟨1,(f i).id,v⟩ j).state=(f j).state:=fun j=>by
  by_cases e:j=i
  ·subst e;rw[upd_same,hs]
  rw[bV _ _ e]
 have hid: ∀ j,(upd f i ⟨1,(f i).id,v⟩ j).id=(f j).id:=fun j=>by
  by_cases e:j=i
  ·subst e;rw[upd_same]
  rw[bV _ _ e]
 exact⟨fun j hj=>by rw[hst];exact h.states j hj,fun a b ha hb sa sb e=>h.uniq a b ha hb (by rwa [hst] at sa) (by rwa [hst] at sb) (by rwa [hid,hid] at e),
  fun id d hd s1 s2 d' O1=>by rw[hst];exact h.reach id d hd (by rwa [hst] at s1) (by rwa [hid] at s2) d' O1⟩
theorem wZ{f:Nat→Slot}(hi:i<n)(hs:(f i).state≠1)(id v a b:Int): jE (upd f i ⟨1,id,v⟩) n a b↔jE f n a b∨(a=id∧b=v):=by
 constructor
 ·rintro⟨j,hj,h1,h2,h3⟩;by_cases e:j=i
  ·subst e;rw[upd_same] at h2 h3;exact .inr ⟨h2.symm,h3.symm⟩
  rw[bV _ _ e] at h1 h2 h3;exact .inl ⟨j,hj,h1,h2,h3⟩
 rintro(⟨j,hj,h1,h2,h3⟩|⟨rfl,rfl⟩)
 ·have e:j≠i:=fun e=>hs (e▸h1)
  exact⟨j,hj,Lr,Lq,Lp⟩
 exact⟨i,hi,xj,xj,xj⟩
theorem K3{f:Nat→Slot}(h:CV f n)(hi:i<n)(hs:(f i).state=1)(a b:Int): jE (upd f i ⟨2,0,0⟩) n a b↔jE f n a b∧a≠(f i).id:=by
 constructor
 ·rintro⟨j,hj,h1,h2,h3⟩;have e:j≠i:=fun e=>by subst e;rw[upd_same] at h1;revert h1;decide
  rw[bV _ _ e] at h1 h2 h3;exact⟨⟨j,hj,h1,h2,h3⟩,fun e2=>e (h.uniq j i hj hi h1 hs (h2.trans e2))⟩
 rintro⟨⟨j,hj,h1,h2,h3⟩,hne⟩;have e:j≠i:=fun e=>hne (by rw[←h2,e])
 exact⟨j,hj,Lr,Lq,Lp⟩
theorem Qc{f:Nat→Slot}(h:CV f n)(hi:i<n)(hs:(f i).state=1)(v a b:Int): jE (upd f i ⟨1,(f i).id,v⟩) n a b↔(jE f n a b∧a≠(f i).id)∨(a=(f i).id∧b=v):=by
 constructor
 ·rintro⟨j,hj,h1,h2,h3⟩;by_cases e:j=i
  ·subst e;rw[upd_same] at h2 h3;exact .inr ⟨h2.symm,h3.symm⟩
  rw[bV _ _ e] at h1 h2 h3;exact .inl ⟨⟨j,hj,h1,h2,h3⟩,fun e2=>e (h.uniq j i hj hi h1 hs (h2.trans e2))⟩
 rintro(⟨⟨j,hj,h1,h2,h3⟩,hne⟩|⟨rfl,rfl⟩)
 ·have e:j≠i:=fun e=>hne (by rw[←h2,e])
  exact⟨j,hj,Lr,Lq,Lp⟩
 exact⟨i,hi,xj,xj,xj⟩
def f0: Nat→Slot:=fun _=>⟨0,0,0⟩
theorem Un(n:Nat): CV f0 n:=⟨fun i _=>cm _,fun i j _ _ h=>mq,fun id e _ h=>mq⟩
theorem J2(n t:Nat)(ht:t≠0): cnt f0 t n=0:=by
 induction n with
 | zero=>rfl
 | succ n ih=>rw[cnt,ih,if_neg (by show ¬0=t;omega)]
theorem K2(n:Nat)(a b:Int): ¬jE f0 n a b:=fun⟨_,_,h,_⟩=>mq
end ki
end
section
namespace ki
variable{i:Nat}
theorem Rows.aj0{w:World}{g n:Nat}{f:Nat→Slot}(h:Rows w g n f)(hi:i<n)(v:Int): Rows (w.setCell ⟨g,i*3+2,none⟩ (.int .i64 v)) g n (upd f i ⟨(f i).state,(f i).id,v⟩):=by
 obtain⟨cur,h1,h2⟩:=h;have ha:aG w g 358 cur:=h1;refine⟨cur.setIfInBounds (i*3+2) (.int .i64 v),ha.put _ _,fun j hj=>?_⟩;obtain⟨q0,q1,q2⟩:=h2 j hj;have hb:=(eK.1 q2).1;have ho: ∀ k,k≠i*3+2→(cur.setIfInBounds (i*3+2) (.int .i64 v))[k]? =cur[k]?:=fun k hk=>by rw[yE,if_neg (fun e=>hk e.symm)]
 by_cases e:j=i
 ·subst e;rw[upd_same];exact⟨(ho _ aj).trans q0,(ho _ aj).trans q1,by rw[yE,if_pos rfl,if_pos hb]⟩
 rw[bV _ _ e];exact⟨(ho _ aj).trans q0,(ho _ aj).trans q1,(ho _ aj).trans q2⟩
theorem afC(p g n bU len aV:Nat)(id v:Int)(f:Nat→Slot)(w:World)(h:eU w p g n bU len aV f)(hid:0≤id∧id<4294967296)(hi:i<n)(hs:(f i).state=1)(he:(f i).id=id):
  Calls af 165 #[.pointer (some ⟨p,0,none⟩),.int .u32 id,.int .i64 v] w fun e w'=>e= .returned (.bool true)∧eU w' p g n bU len aV (upd f i ⟨1,id,v⟩)∧aI (fun k=>k=p∨k=g) w w':=by
 obtain⟨steps,hI⟩:=h.cQ;have hsk:vL f n id=((i:Int),true):=LC;have x0:w.cell? ⟨p,0,none⟩=some (.slice (some ⟨g,0,none⟩) n n):=hI.own.cell 0;have hn:=h.bg;have HF:=Find p g n bU len aV steps id f w hI aj hn.2.2.2.2 hid h.tab.states;have hF:Calls af 245 #[.pointer (some ⟨p,0,none⟩),.int .u32 id] w fun e w'=>e= .returned (.tuple #[.int .i64 (i:Int),.bool true])∧(∃ s,dS w' p g n bU len aV s f)∧aI (· =p) w w':=HF.mono fun e w' h1=>by
  exact U0
 have HH:=aa h;have HG:=aa hF;have HI:=aa (show i<n∧(f i).state=1∧(f i).id=id∧n≤16384 from⟨hi,hs,he,hn.2.2.2.2⟩);have Dn:(i:Int)<(n:Int):=aj;clear h hF HF hI hsk hs he hn hid;go_enter Tryz.func165,Tryz.ntmps165;go_wp2_with fail;refine ag (fP p g n w x0) ?_;go_wp2_with fail;refine HG.o.mono ?_;rintro e w1 ⟨rfl,⟨s1,kS⟩,sB⟩;have y0:w1.cell? ⟨p,0,none⟩=some (.slice (some ⟨g,0,none⟩) n n):=kS.own.cell 0;obtain⟨_,_,z2⟩:=kS.rows.cell hi;obtain⟨cur,pU,_⟩:=kS.rows;have m2:w1.frozen? ⟨g,i*3+2,none⟩=false:=aG.mark (show aG w1 g 358 cur from pU) _;have wV:=aa kS;have jq:=aa sB;clear kS sB pU;go_wp2_with fail;go_ret;have kS:=wV.o;have hf:(⟨(f i).state,(f i).id,v⟩:Slot)=⟨1,id,v⟩:=by rw[HI.o.2.1,HI.o.2.2.1]
 refine⟨rfl,⟨⟨s1,kS.own.other (p:=⟨g,i*3+2,none⟩) kS.apart _,?_,kS.apart⟩,?_,?_,?_,HH.o.bg⟩,?_⟩
 ·have:=kS.rows.aj0 HI.o.1 v;rw[hf] at this;exact this
 ·have:=ZI HH.o.tab HI.o.2.1 v;rw[HI.o.2.2.1] at this;exact this
 ·have:=lO f 1 i ⟨1,id,v⟩ n HI.o.1;rw[HI.o.2.1] at this;have:=HH.o.full;simp at *;omega
 ·have:=lO f 2 i ⟨1,id,v⟩ n HI.o.1;rw[HI.o.2.1] at this;have:=HH.o.WH;simp at *;omega
 ·exact(jq.o.mono (T:=fun k=>k=p∨k=g) fun k _ h=>.inl h).put (p:=⟨g,i*3+2,none⟩) (.inl (.inr rfl)) _
theorem Gz(p g n bU len aV:Nat)(id:Int)(f:Nat→Slot)(w:World)(h:eU w p g n bU len aV f)(hid:0≤id∧id<4294967296)(hi:i<n)(hs:(f i).state=1)(he:(f i).id=id):
  Calls af 162 #[.pointer (some ⟨p,0,none⟩),.int .u32 id] w fun e w'=>e= .returned (.bool true)∧eU w' p g n bU (len - 1) (aV+1) (upd f i ⟨2,0,0⟩)∧1≤len∧aI (fun k=>k=p∨k=g) w w':=by
 obtain⟨steps,hI⟩:=h.cQ;have hsk:vL f n id=((i:Int),true):=LC;have x0:w.cell? ⟨p,0,none⟩=some (.slice (some ⟨g,0,none⟩) n n):=hI.own.cell 0;have hn:=h.bg;have hc2:=Gi f n;have q1:=lO f 1 i ⟨2,0,0⟩ n hi;have q2:=lO f 2 i ⟨2,0,0⟩ n hi;rw[hs] at q1 q2;simp at q1 q2;have oZ:1≤len:=by have:=h.full;omega
 have HQ:=aa (show cnt (upd f i ⟨2,0,0⟩) 1 n=len - 1∧cnt (upd f i ⟨2,0,0⟩) 2 n=aV+1∧1≤len∧aV≤16384∧len≤16384 from by have:=h.full;have:=h.WH;omega);have HF:=Find p g n bU len aV steps id f w hI aj hn.2.2.2.2 hid h.tab.states;have hF:Calls af 245 #[.pointer (some ⟨p,0,none⟩),.int .u32 id] w fun e w'=>e= .returned (.tuple #[.int .i64 (i:Int),.bool true])∧(∃ s,dS w' p g n bU len aV s f)∧aI (· =p) w w':=HF.mono fun e w' h1=>by
  exact U0
 have HH:=aa h;have HG:=aa hF;have Dn:(i:Int)<(n:Int):=aj;have hw0:aO.wrap ((len:Int) - 1)=(len:Int) - 1:=by rw[mH];have:=HQ.o;omega
 have aZ:aO.wrap ((aV:Int)+1)=(aV:Int)+1:=by rw[mH];have:=HQ.o;omega
 have HI:=aa hi;clear h hF HF hI hsk hs he hn hid hc2 q1 q2;go_enter Tryz.func162,Tryz.ntmps162;go_wp2_with fail;refine ag (fP p g n w x0) ?_;go_wp2_with fail;refine HG.o.mono ?_;rintro e w1 ⟨rfl,⟨s1,kS⟩,sB⟩;have y0:w1.cell? ⟨p,0,none⟩=some (.slice (some ⟨g,0,none⟩) n n):=kS.own.cell 0;have rF:=aa (kS.rows.there hi);have wV:=aa kS;have jq:=aa sB;clear kS sB;go_wp2_with (refine wpList_store_mid rfl 358 _ _ rfl g (i*3) #[.int .u8 2,.int .u32 0,.int .i64 0] rfl rfl rF.o rfl AZ ?_;have fj:=wV.o.store hi ⟨2,0,0⟩;have kf:=(jq.o.mono (T:=fun k=>k=p∨k=g) fun k _ h=>.inl h).grown (dr g (fD ⟨2,0,0⟩) (i*3) w1).1 (fun k e=>.inl (.inr (by injection e with e;exact e.symm)));obtain⟨w3,hw3⟩:=ae (w1.setCells g (i*3) [.int .u8 2,.int .u32 0,.int .i64 0]);change dS (w1.setCells g (i*3) [.int .u8 2,.int .u32 0,.int .i64 0]) _ _ _ _ _ _ _ _ at fj;change aI _ w (w1.setCells g (i*3) [.int .u8 2,.int .u32 0,.int .i64 0]) at kf;change wpList _ _ _ _ _ (w1.setCells g (i*3) [.int .u8 2,.int .u32 0,.int .i64 0]);rw[hw3] at fj kf ⊢;clear hw3 y0 rF;have v2:w3.cell? ⟨p,2,none⟩=some (.int .i64 len):=fj.own.cell 2;have v3:w3.cell? ⟨p,3,none⟩=some (.int .i64 aV):=fj.own.cell 3;have m2:=fj.own.mark 2;have m3:=fj.own.mark 3;have hpl:=fj.own.lt;have gG:=aa fj;have jF:=aa kf;clear fj kf);go_ret;have fj:=gG.o;have hl2:((len - 1:Nat):Int)=(len:Int) - 1:=by have:=HQ.o;omega
 refine⟨rfl,⟨⟨s1,?_,(fj.rows.same (dH w3 ⟨p,2,none⟩ _ g (fun e=>fj.apart e.symm))).same (dH _ ⟨p,3,none⟩ _ g (fun e=>fj.apart e.symm)),fj.apart⟩,Uo HH.o.tab,HQ.o.1,HQ.o.2.1,AR⟩,HQ.o.2.2.1,?_⟩
 ·have:=(fj.own.put 2 (.int .i64 ((len:Int) - 1))).put 3 (.int .i64 ((aV:Int)+1));rw[hl2];push_cast;simpa using this
 ·exact(jF.o.put (p:=⟨p,2,none⟩) (.inl (.inl rfl)) _).put (p:=⟨p,3,none⟩) (.inl (.inl rfl)) _
