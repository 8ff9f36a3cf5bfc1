import Derived.Test.YtemighjbfanenaaGreatDoorQk8
import Derived.IntWalk
import Derived.Test.YtemighjbfanenaaGreatDoorProg
import Derived.Laws.Bits64b
import Derived.WalkSmall
import Derived.Laws.OwnMore
import Derived.Scope
set_option linter.all false
set_option maxRecDepth 100000
set_option maxHeartbeats 16000000
namespace Go.Proofs.YtemighjbfanenaaGreatDoor
open RowKit
open Go renaming bits→aX
open Go.BinOp renaming xor→qK
open Go.IntKind renaming u64→cU,wrap_u64→lN,i64→aN,wrap_i64→mM
open Go.IntWalk renaming i64_in→uX
open Go.Proofs.Tryz renaming underlying358→tI,prog→af
open Go.Value renaming int→eK
open Go.WalkArith renaming wf_i64→lM
open Go.World renaming cell?→G7
open Nat renaming zero_le→cx,lt_or_ge→lp,pow_lt_pow_right→Co,mod_lt→uZ,le_refl→aY,mod_eq_of_lt→G6
open RowKit.Below renaming heap_setCell→dJ,refl→ar
open _root_.Array renaming getElem?_setIfInBounds→Ep,getElem?_eq_some_iff→eL,getElem?_toList→dK
theorem UQ{p:Prop}(h:p:=by
 have q1:=aiK.o;have q2:=aiL.o;rw[AP (HI'.o.alloc _),AP HI.o];omega):p:=h
theorem UO{p:Prop}(h:p:=by
 have e1:fh f id n n (uI id % (n:Int)).toNat (-1)=((i:Int),true):=hsk;rw[e1] at h1;exact h1):p:=h
theorem E'{p:Prop}(h:p:=by first|rfl|trivial):p:=h
theorem Lq{p:Prop}(h:p:=by intro u hu;simp at hu;rcases hu with rfl|rfl|rfl <;>rfl):p:=h
theorem TK{p:Prop}(h:p:=by first|exact tu.o _ (ay (az (ar _ _)) _)|exact⟨x1,y0,y1⟩):p:=h
theorem AA{p:Prop}(h:p:=by simp[Value.oneCell']):p:=h
theorem Lj{p:Prop}(h:p:=by rw[←he];exact AU h.tab hi hs):p:=h
theorem Au{p:Prop}(h:p:=by have:=HH.o.bj;omega):p:=h
theorem Tl{p:Prop}(h:p:=by rw[Int.tmod_eq_emod_of_nonneg (by omega)];exact e2):p:=h
theorem Lb{p:Prop}(h:p:=by rw[aiL.o];exact HI'.o.alloc _):p:=h
theorem K8{p:Prop}(h:p:=by rw[bU _ _ e];exact h1):p:=h
theorem K7{p:Prop}(h:p:=by rw[bU _ _ e];exact h2):p:=h
theorem K6{p:Prop}(h:p:=by rw[bU _ _ e];exact h3):p:=h
theorem mC{p:Prop}(h:p:=by cases h):p:=h
theorem wU{p:Prop}(h:p:=by rw[upd_same]):p:=h
theorem ED{p:Prop}(h:p:=by have:=HL.o;omega):p:=h
section
section
namespace Hp
variable{l:Nat}
theorem bP.mono{S T:Nat→Prop}{w:World}{p:Nat} {next:Int}{f:Nat→eI}(h:bP S w p l next f)(p7: ∀ k,S k→k<w.heap.size→T k): bP T w p l next f:=by
 obtain⟨iv,mb,φ,hp,hr,hm,hpl,sp,sm⟩:=h.cw;exact⟨⟨iv,mb,φ,hp,hr.mono p7,hm,hpl,p7 p sp hp.lt,p7 mb sm hm.lt⟩,h.bound⟩
theorem bP.same{S:Nat→Prop}{w w':World}{p:Nat} {next:Int}{f:Nat→eI}(h:bP S w p l next f)(hk: ∀ k,S k→k<w.heap.size→w'.heap[k]? =w.heap[k]?): bP S w' p l next f:=by
 obtain⟨iv,mb,φ,hp,hr,hm,hpl,sp,sm⟩:=h.cw;exact⟨⟨iv,mb,φ,(hk p sp hp.lt).trans hp,hr.same hk,hm.same (hk mb sm hm.lt),hpl,sp,sm⟩,h.bound⟩
theorem Ju(W:World): (binOp BinOp.eql 212 (.func (.func 94) #[] #[]) Value.nilFunc).run af W= .ok (.bool false) W:=bh
theorem zo(p:Nat)(w:World)(x0:w.cell? ⟨p,0,none⟩=some qX): Calls af 244 #[.pointer (some ⟨p,0,none⟩)] w fun e w'=>e= .returned (.bool false)∧w'=w:=by
 rw[show qX= .func (.func 94) #[] #[] from rfl] at x0;have hfn:=Ju;go_enter Tryz.func244,Tryz.ntmps244;go_wp2_with fail;go_ret;exact⟨rfl,rfl⟩
def aix(w:World)(e:Ending)(w':World): Prop:=∃ p,e= .returned (.pointer (some ⟨p,0,none⟩))∧bP (fun k=>w.heap.size≤k) w' p 0 0 (fun _=>⟨0,0,0⟩)∧Below w.heap.size w w'
theorem uQ(w:World): Calls af 93 #[.func (.func 94) #[] #[]] w (aix w):=by
 have hfn:=Ju;have VZ:=@run_makeMap af;go_enter Tryz.func93,Tryz.ntmps93;go_wp2_with fail;go_ret;have hb:Below w.heap.size w ((w.alloc (.map #[] 0)).alloc (.cells #[.func (.func 94) #[] #[],.slice none 0 0,.map (some w.heap.size),.int .i64 0] 319)):=ay (ay (ar _ _) _) _;exact⟨w.heap.size+1,rfl,⟨⟨_,w.heap.size,fun _=>none,aG.new dM,aP.nil _ _ _ _ _,(dt.made _ _ _ _ w).alloc _,⟨fun i hi=>ai,fun h i hi=>by cases hi⟩,ai,aY _⟩,ai,ai,ai,fun i hi=>ai⟩,hb⟩
theorem LW(f:Nat→eI)(l:Nat)(x:eI): cK (gA f) l [.int .i64 x.aR,.int .u32 x.id,.int .i64 x.bf]=gA (cK f l x):=by
 funext j;unfold cK gA;by_cases h:j=l
 ·subst h;simp
 simp[h]
theorem jW.snoc{f:Nat→eI}{φ:Int→Option Int}(h:jW f l φ)(x:eI)(hx: ∀ i,i<l→(f i).bf≠x.bf): jW (cK f l x) (l+1) (tK φ x.bf (some (l:Int))):=by
 refine⟨fun i hi=>?_,fun y z hz=>?_⟩
 ·by_cases e:i=l
  ·subst e;rw[bL,ft]
  rw[bn _ _ e,cT _ _ (hx i ai)];exact h.1 i ai
 by_cases e:y=x.bf
 ·subst e;rw[ft] at hz;injection hz with hz
  exact⟨l,ai,hz.symm,by rw[bL]⟩
 rw[cT _ _ e] at hz;obtain⟨j,hj,e1,e2⟩:=h.2 y z hz;exact⟨j,ai,e1,by rw[bn _ _ ai];exact e2⟩
theorem jW.none{f:Nat→eI}{φ:Int→Option Int}(h:jW f l φ){y:Int}(hy: ∀ i,i<l→(f i).bf≠y): φ y=none:=by
 cases hφ:φ y with
 | none=>rfl
 | some z=>
  obtain⟨j,hj,_,e⟩:=h.2 y z hφ;exact absurd e (hy j hj)
def aaY(S:Nat→Prop)(w:World)(p l:Nat)(next:Int)(f:Nat→eI)(aR id:Int)(e:Ending)(w':World): Prop:=
 e= .returned (.tuple #[.int .i64 next,.int .i64 0])∧bP (fun k=>S k∨w.heap.size≤k) w' p (l+1) (next+1) (gp (cK f l ⟨aR,id,next⟩) (l+1) l)∧aI S w w'
theorem aaX(S:Nat→Prop)(p l:Nat)(next:Int)(f:Nat→eI)(aR id:Int)(w:World)(h:bP S w p l next f)(hl:l<65536)(hn:next<1099511627776):
  Calls af 243 #[.pointer (some ⟨p,0,none⟩),.agg #[.int .i64 aR,.int .u32 id]] w (aaY S w p l next f aR id):=by
 obtain⟨i0,hi,hz0,hz1,hz2⟩:=info_parts QB;have HH:=aa h;clear h;go_enter Tryz.func243,Tryz.ntmps243;go_wp2_with fail;have hb1:Below w.heap.size w (w.alloc (.cells #[.int .i64 aR,.int .u32 id] 211)):=ay (ar _ _) _;have bp:aG (w.alloc (.cells #[.int .i64 aR,.int .u32 id] 211)) w.heap.size 211 #[.int .i64 aR,.int .u32 id]:=aG.fresh w _ _;obtain⟨w1,a8⟩:=ae (w.alloc (.cells #[.int .i64 aR,.int .u32 id] 211));obtain⟨vb,oh⟩:=ae w.heap.size;have hs1:w1.heap.size=vb+1:=by rw[←a8,←oh];simp
 rw[a8] at hb1 bp ⊢;rw[oh] at bp ⊢;have kV:=eG hb1 HH.o;obtain⟨iv,mb,φ,hp,hr,hm,hpl,sp,sm⟩:=kV.cw;obtain⟨A,cap,rfl⟩:=hr.any;have RZ:=HH.o.bound;have HL:=aa hl;clear hl;clear a8 kV;refine ag (zo p w1 (hp.cell 0)) ?_;have x1:w1.cell? ⟨p,1,none⟩=some (.slice A l cap):=hp.cell 1;have x3:w1.cell? ⟨p,3,none⟩=some (.int .i64 next):=hp.cell 3;have m3:=hp.mark 3;have al9:=hp.lt;have VY:0≤next:=RZ.2.1;have hlg:decide ((65536:Int)≤(l:Int))=false:=decide_eq_false ED;have HP:=aa hp;have HR:=aa hr;have HM:=aa hm;have MT:=aa hpl;have bA:=aa hb1;have dF:=aa bp;have yN:=aa oh;have Hk:=aa hs1;have CF:=aa RZ;clear hp hr hm hpl hb1 bp oh hs1 RZ;go_wp2_with fail;have Bl:aG (w1.setCell ⟨p,3,none⟩ (.int .i64 (next+1))) p 319 #[qX,.slice A l cap,.map (some mb),.int .i64 (next+1)]:=HP.o.put 3 _;have hr2:aP S (w1.setCell ⟨p,3,none⟩ (.int .i64 (next+1))) 355 3 (.slice A l cap) l (gA f):=HR.o.put (q:=⟨p,3,none⟩) (fun g hg=>HR.o.mE hg HP.o aM) _;have Kk:p≠mb:=dp HM.o HP.o;have Jb:dt af 3 3 .i64 (w1.setCell ⟨p,3,none⟩ (.int .i64 (next+1))) mb l φ:=HM.o.same (dJ w1 ⟨p,3,none⟩ _ mb (fun e=>Kk e.symm));have gZ:aG (w1.setCell ⟨p,3,none⟩ (.int .i64 (next+1))) vb 211 #[.int .i64 aR,.int .u32 id]:=dF.o.other (p:=⟨p,3,none⟩) (fun e=>by
  have h1:p<w.heap.size:=by obtain⟨_,_,_,h1,_⟩:=HH.o.cw;exact h1.lt
  have h2:=yN.o;simp at e;omega) _
 have jE:aI S w (w1.setCell ⟨p,3,none⟩ (.int .i64 (next+1))):=((aI.refl S w).ak bA.o).put (p:=⟨p,3,none⟩) (.inl sp) _;have hs2:(w1.setCell ⟨p,3,none⟩ (.int .i64 (next+1))).heap.size=vb+1:=by simp[Hk.o]
 obtain⟨w2,hw2⟩:=ae (w1.setCell ⟨p,3,none⟩ (.int .i64 (next+1)));rw[hw2] at Bl hr2 Jb gZ jE hs2 ⊢;clear hw2 x1 x3 m3 HP HR HM dF;have x1:=Bl.cl 1;have y0:=gZ.cl 0;have y1:=gZ.cl 1;have Z9:=Bl.lt;have He:Below w2.heap.size w2 (w2.drew.alloc (.cells #[.int .i64 aR,.int .u32 id,.int .i64 next] 355)):=ay (az (ar _ _)) _;have Ca:=aa (hr2.ah He);have HPX:=aa (Bl.ah He);have HMX:=aa (Jb.same (He.block mb Jb.lt));have HTX:=aa (jE.ak He);have HS2:=aa hs2;have tu: ∀ w',Below w2.heap.size w2 w'→(w'.cell? ⟨p,1,none⟩=some (.slice A l cap)∧w'.cell? ⟨vb,0,none⟩=some (.int .i64 aR)∧w'.cell? ⟨vb,1,none⟩=some (.int .u32 id)):=fun w' hb=>⟨(hb.cell (p:=⟨p,1,none⟩) Bl.lt).trans x1,(hb.cell (p:=⟨vb,0,none⟩) gZ.lt).trans y0,(hb.cell (p:=⟨vb,1,none⟩) gZ.lt).trans y1⟩
 have tu:=aa tu;have HAX:=aa (gZ.ah He);clear Bl hr2 Jb gZ jE hs2 He x1 y0 y1;refine dL bh ?_;refine bm.any (S:=(fun w'=>w'.cell? ⟨p,1,none⟩=some (.slice A l cap)∧w'.cell? ⟨vb,0,none⟩=some (.int .i64 aR)∧w'.cell? ⟨vb,1,none⟩=some (.int .u32 id))) (t:=12) _ _ _ _ ?_;have hHeld:=(show(fun w'=>w'.cell? ⟨p,1,none⟩=some (.slice A l cap)∧w'.cell? ⟨vb,0,none⟩=some (.int .i64 aR)∧w'.cell? ⟨vb,1,none⟩=some (.int .u32 id)) w2.drew from tu.o _ (az (ar _ _)));refine tt 0 ?_;refine tt 1 ?_;refine tt 2 ?_;refine tt 3 ?_;refine tt 4 ?_;refine tt 5 ?_;refine tt 6 ?_;refine tt 7 ?_;refine bm.step (i:=8) bh bh rfl (fun K hK=>?_);go_simp;go_wp2_with fail;refine hK.out _ _ TK (fun qu=>?_);clear hK K;try simp only[aZ]
 refine bm.step (i:=9) bh bh rfl (fun K hK=>?_);rw[if_pos iI];refine fu _ (.tmp 30) (.tmp 34) 317 rfl 355 i0 (.agg #[.int .i64 0,.int .u32 0,.int .i64 0]) 3 24 Tryz.underlying317 hi hz0 hz1 hz2 rfl aM (.slice A l cap) l (gA f) rfl Ca.o ⟨w2.heap.size,0,none⟩ 1 [.int .i64 aR,.int .u32 id,.int .i64 next] rfl rfl (iQ w2.drew _ _) Lq (by have:=HL.o;unfold maxLen;omega) ED ?_;intro g cp w3 hr3 hg3;have hp3:aG w3 p 319 #[qX,.slice A l cap,.map (some mb),.int .i64 (next+1)]:=(hg3.block p HPX.o.lt (fun e=>Ca.o.mE e.symm HPX.o aM rfl)).trans HPX.o;have hm3:=HMX.o.same (hg3.block mb HMX.o.lt (fun e=>Ca.o.LO e.symm HMX.o rfl));have dE:aG w3 vb 211 #[.int .i64 aR,.int .u32 id]:=(hg3.block vb HAX.o.lt (fun e=>Ca.o.mE e.symm HAX.o aM rfl)).trans HAX.o;have ki:=HTX.o.grown hg3 (fun k e=>.inl (Ca.o.block k e));have x1:w3.cell? ⟨p,1,none⟩=some (.slice A l cap):=aG.cell hp3 1;have y0:w3.cell? ⟨vb,0,none⟩=some (.int .i64 aR):=aG.cell dE 0;have y1:w3.cell? ⟨vb,1,none⟩=some (.int .u32 id):=aG.cell dE 1;have m1:=aG.mark hp3 1;have Zg:=aa hp3;have HM3:=aa hm3;have iJ:=aa ki;have iu:=aa hr3;clear hp3 hm3 ki hr3 hg3 dE;refine hK.out _ _ TK (fun BB=>?_);clear hK K;try simp only[aZ]
 refine tp 10 ?_;refine tp 11 ?_;refine bm.last bh ?_;refine kD 12 bh bh ?_;simp only[List.drop_succ_cons,List.drop_zero];go_wp2_with fail;have Kk:p≠mb:=dp HM3.o Zg.o;have ue:aG (w3.setCell ⟨p,1,none⟩ (.slice (some ⟨g,0,none⟩) (l+1) cp)) p 319 #[qX,.slice (some ⟨g,0,none⟩) (l+1) cp,.map (some mb),.int .i64 (next+1)]:=Zg.o.put 1 _;have hr4:aP (fun k=>S k∨w.heap.size≤k) (w3.setCell ⟨p,1,none⟩ (.slice (some ⟨g,0,none⟩) (l+1) cp)) 355 3 (.slice (some ⟨g,0,none⟩) (l+1) cp) (l+1) (gA (cK f l ⟨aR,id,next⟩)):=by
  rw[←LW];refine(iu.o.mono ?_).put (q:=⟨p,1,none⟩) (fun k hk=>iu.o.mE hk Zg.o aM) _;intro k hk _;rcases hk with hk|hk
  ·exact .inl hk
  right;have h1:=yN.o;have h2:=HS2.o;rw[hk];simp;omega
 have xO:dt af 3 3 .i64 (w3.setCell ⟨p,1,none⟩ (.slice (some ⟨g,0,none⟩) (l+1) cp)) mb l φ:=HM3.o.same (dJ w3 ⟨p,1,none⟩ _ mb (fun e=>Kk e.symm));have jK:aI S w (w3.setCell ⟨p,1,none⟩ (.slice (some ⟨g,0,none⟩) (l+1) cp)):=iJ.o.put (p:=⟨p,1,none⟩) (.inl sp) _;obtain⟨w4,hw4⟩:=ae (w3.setCell ⟨p,1,none⟩ (.slice (some ⟨g,0,none⟩) (l+1) cp));rw[hw4] at ue hr4 xO jK ⊢;clear hw4 x1 y0 y1 m1 BB Zg iu HM3 iJ Ca HPX HMX HTX HAX tu hHeld qu;have x1:=ue.cl 1;have x2:=ue.cl 2;have V0:dt af 3 3 .i64 w4.drew mb l φ:=xO;have Zk:=aa V0;have MV:=aa ue;have nV:=aa hr4;have nU:=aa jK;have DL:next+1≤1099511627776:=ai;have OE:(l:Int)<65536:=ED;have HWL:=aa (show aN.wrap (l:Int)=(l:Int)from uX _ ai);clear xO V0 ue hr4 jK;go_still_tail 11,bh;change wpList _ _ _ _ _ w4.drew
 (repeat(fail_if_success at_mapUpdate;(first|go_values|go_skip|go_guarded|go_step|go_upon)))
 refine gm rfl _ _ _ 316 rfl 3 3 .i64 Tryz.underlying3 Tryz.underlying3 Tryz.underlying316 mb l φ rfl Zk.o (by have:=HL.o;unfold maxLen;omega) next (aN.wrap (l:Int)) rfl rfl (lM ai) (by rw[HWL.o];exact lM ai) ?_;intro w5 rJ fF;have F9:=aa rJ;have p3:=aa fF;clear rJ fF;have mg:w4.grownBy w5 (some mb):=⟨p3.o.os,p3.o.tape,p3.o.output,p3.o.size,p3.o.block⟩;have hhs: ∀ i,i<l→(f i).bf≠next:=fun i hi=>by have:=(CF.o.2.2.2 i hi).2;omega
 have rJ:=F9.o;rw[MT.o.none hhs,HWL.o] at rJ;have D3:bP (fun k=>S k∨w.heap.size≤k) w5 p (l+1) (next+1) (cK f l ⟨aR,id,next⟩):=by
  refine⟨⟨_,mb,_,(mg.block p MV.o.lt (by simpa using Kk)).trans MV.o,nV.o.pN mg (Bc Zk.o (nV.o.same fun _ _ _=>rfl)),rJ,MT.o.snoc ⟨aR,id,next⟩ hhs,.inl sp,.inl sm⟩,ED,ai,DL,fun i hi=>?_⟩;by_cases e:i=l
  ·subst e;rw[bL];exact⟨VY,by show next<next+1;omega⟩
  rw[bn _ _ e];have:=CF.o.2.2.2 i ai;omega
 have oH:=nU.o.grown mg (fun q e=>.inl Lh);have y1:w5.cell? ⟨p,1,none⟩=some (.slice (some ⟨g,0,none⟩) (l+1) cp):=aG.cell ((mg.block p MV.o.lt (by simpa using Kk)).trans MV.o) 1;clear x1 x2 rJ F9 p3 Zk MV nV nU mg;have pZ:=aa D3;have pz:=aa oH;clear D3 oH;have a8:((l:Int)+1) - 1=(l:Int):=ai;go_wp2_with fail;refine(Dx _ p (l+1) l (next+1) _ w5 pZ.o ai).mono ?_;rintro e w6 ⟨⟨v6,rfl⟩,Jt,pW⟩;have ll:=aa Jt;have vn:=aa (pz.o.new pW);clear Jt pW;go_wp2_with fail;go_ret2;exact⟨rfl,ll.o,vn.o⟩
end Hp
end
end
section
section
namespace yj
structure fU(w:World)(p g c n:Nat)(ws:Nat→Nat): Prop where
 own:aG w p 312 #[.bool true,.int .i64 n,.slice (some ⟨g,0,none⟩) ((n+63) / 64) c]
 row: ∃ cur,w.heap[g]? =some (.cells cur 22 (0,0))∧∀ j,j<(n+63) / 64→cur[j]? =some (.int .u64 (ws j))
 small: ∀ j,ws j<18446744073709551616
 apart:p≠g
def hasB(ws:Nat→Nat)(i:Nat): Bool:=(ws (i / 64)).testBit (i % 64)
theorem fU.ah{w w':World}{p g c n:Nat}{ws:Nat→Nat}(h:fU w p g c n ws)(hb:Below w.heap.size w w'): fU w' p g c n ws:=by
 obtain⟨cur,h1,h2⟩:=h.row;exact⟨h.own.ah hb,⟨cur,(hb.block g (eL.1 h1).1).trans h1,h2⟩,h.small,h.apart⟩
theorem fU.word{w:World}{p g c n:Nat}{ws:Nat→Nat}(h:fU w p g c n ws){j:Nat}(hj:j<(n+63) / 64): w.cell? ⟨g,j,none⟩=some (.int .u64 (ws j))∧w.frozen? ⟨g,j,none⟩=false:=by
 obtain⟨cur,h1,h2⟩:=h.row;exact⟨by rw[show w.cell? ⟨g,j,none⟩=cur[j]? from by simp[G7,h1]];exact h2 j hj,by simp[World.frozen?,h1]⟩
theorem WX(x k:Nat)(hx:x<18446744073709551616): (aX BinOp.and cU ((x:Int) / 2 ^ k) 1==1)=x.testBit k:=by
 have e:(x:Int) / 2 ^ k=((x / 2 ^ k:Nat):Int):=dM;have hs:x / 2 ^ k≤x:=Nat.div_le_self _ _;rw[e,Nat.testBit_eq_decide_div_mod_eq];generalize x / 2 ^ k=y at hs;rw[and_one_u64 _ ai ai];rw[Bool.eq_iff_iff,beq_iff_eq,decide_eq_true_eq];omega
theorem Xg(p:Nat)(w:World)(h:w.cell? ⟨p,0,none⟩=some (.bool true)): Calls af 241 #[.pointer (some ⟨p,0,none⟩)] w fun e w'=>e= .returned (.bool true)∧w'=w:=by
 go_enter Tryz.func241,Tryz.ntmps241;go_wp2_with fail;go_ret;exact⟨rfl,rfl⟩
theorem pc(p g c n i:Nat)(ws:Nat→Nat)(w:World)(h:fU w p g c n ws)(hi:i<n)(hn:n≤1000000): Calls af 157 #[.pointer (some ⟨p,0,none⟩),.int .i64 i] w fun e w'=>e= .returned (.bool (hasB ws i))∧w'=w:=by
 have x0:w.cell? ⟨p,0,none⟩=some (.bool true):=h.own.cell 0;have x1:w.cell? ⟨p,1,none⟩=some (.int .i64 n):=h.own.cell 1;have x2:w.cell? ⟨p,2,none⟩=some (.slice (some ⟨g,0,none⟩) ((n+63) / 64) c):=h.own.cell 2;obtain⟨q,hq⟩:=ae (i / 64);obtain⟨k,hk⟩:=ae (i % 64);have hqn:q<(n+63) / 64:=ai;obtain⟨y0,_⟩:=h.word hqn;have e1:(i:Int) / 64=(q:Int):=ai;have e2:(i:Int) % 64=(k:Int):=ai;have e3:hasB ws i=(ws q).testBit k:=by unfold hasB;rw[hq,hk]
 have hb:=WX (ws q) k (h.small q);obtain⟨nw,OD⟩:=ae ((n+63) / 64);rw[OD] at x2 hqn;have ag7:(q:Int)<(nw:Int):=ai;have VP:(0:Int)≤(q:Int):=ai;have V2:k<64:=ai;have Md:(i:Int)<(n:Int):=ai;have CB:(0:Int)≤(i:Int):=ai;rw[e3];have HB:=aa hb;clear h hq hk OD e3 hb;go_enter Tryz.func157,Tryz.ntmps157;go_wp2_with fail;refine(Xg p _ x0).mono ?_;rintro e w1 ⟨rfl,hw⟩;subst hw;go_wp2_with fail;go_ret;exact⟨by rw[←HB.o];rfl,rfl⟩
end yj
end
section
namespace yj
theorem aem(x k:Nat)(hx:x<18446744073709551616)(hk:k<64): aX BinOp.or cU (x:Int) (cU.wrap (2 ^ k))=((x|||2 ^ k:Nat):Int):=by
 have h1:(2:Nat) ^ k<18446744073709551616:=Co (n:=64) aM hk;have e:cU.wrap ((2:Int) ^ k)=((2 ^ k:Nat):Int):=by
  rw[show((2:Int) ^ k)=((2 ^ k:Nat):Int)from dM,lN];generalize(2:Nat) ^ k=y at h1;omega
 rw[e,bits_or_u64_nat x (2 ^ k) hx h1]
theorem RL(p g c n i:Nat)(ws:Nat→Nat)(w:World)(h:fU w p g c n ws)(hi:i<n)(hn:n≤1000000): Calls af 247 #[.pointer (some ⟨p,0,none⟩),.int .i64 i,.bool true] w fun e w'=>e= .returned (.int .i64 0)∧fU w' p g c n (fun j=>if j=i / 64 then ws j|||2 ^ (i % 64)else ws j)∧w.grownBy w' (some g):=by
 have x0:w.cell? ⟨p,0,none⟩=some (.bool true):=h.own.cell 0;have x1:w.cell? ⟨p,1,none⟩=some (.int .i64 n):=h.own.cell 1;have x2:w.cell? ⟨p,2,none⟩=some (.slice (some ⟨g,0,none⟩) ((n+63) / 64) c):=h.own.cell 2;obtain⟨q,hq⟩:=ae (i / 64);obtain⟨k,hk⟩:=ae (i % 64);have hqn:q<(n+63) / 64:=ai;obtain⟨y0,m0⟩:=h.word hqn;have e1:(i:Int) / 64=(q:Int):=ai;have e2:(i:Int) % 64=(k:Int):=ai;obtain⟨nw,OD⟩:=ae ((n+63) / 64);rw[OD] at x2 hqn;rw[hq,hk];have ag7:(q:Int)<(nw:Int):=ai;have VP:(0:Int)≤(q:Int):=ai;have V2:k<64:=ai;have Md:(i:Int)<(n:Int):=ai;have CB:(0:Int)≤(i:Int):=ai;have zv:p≠g:=h.apart;have t1:(i:Int).tmod 64=(k:Int):=Tl;have DN:(0:Int)≤(k:Int):=ai;have v1:aN.wrap (q:Int)=(q:Int):=uX _ ai;have v2:aN.wrap (k:Int)=(k:Int):=uX _ ai;have HS:=aa h;clear h hq hk OD;go_enter Tryz.func247,Tryz.ntmps247;go_wp2_with fail;refine ag (Xg p _ x0) ?_;go_wp2_with fail;have hS:w.cell? ⟨p,2,none⟩=some (.slice (some ⟨g,0,none⟩) nw c)∧w.cell? ⟨g,q,none⟩=some (.int .u64 (ws q))∧w.frozen? ⟨g,q,none⟩=false:=⟨x2,y0,m0⟩;go_still_tail 13,bh;change wpList _ _ _ _ _ w.drew;have Wq:w.drew.cell? ⟨p,2,none⟩=some (.slice (some ⟨g,0,none⟩) nw c)∧w.drew.cell? ⟨g,q,none⟩=some (.int .u64 (ws q))∧w.drew.frozen? ⟨g,q,none⟩=false:=hS;obtain⟨z1,z2,z3⟩:=Wq;obtain⟨w2,hw2⟩:=ae w.drew;rw[hw2] at z1 z2 z3 ⊢;have Kw:=aa hw2;clear hw2 hS;go_wp2_with fail;go_ret;rw[aem _ _ (HS.o.small q) V2,←Kw.o];have h0:=HS.o;have kB:w.grownBy w.drew (some g):=⟨rfl,rfl,rfl,aY _,fun _ _ _=>rfl⟩;have hg2:w.drew.grownBy (w.drew.setCell ⟨g,q,none⟩ (.int .u64 ((ws q|||2 ^ k:Nat):Int))) (some g):=⟨rfl,rfl,rfl,dM,fun j _ hj=>dJ _ _ _ j (fun e=>hj mA)⟩;obtain⟨cur,r1,r2⟩:=h0.row;refine⟨rfl,⟨aG.other (aG.drew h0.own) zv _,⟨cur.setIfInBounds q (.int .u64 ((ws q|||2 ^ k:Nat):Int)),?_,fun j hj=>?_⟩,fun j=>?_,zv⟩,kB.trans hg2⟩
 ·have r3:w.drew.heap[g]? =some (.cells cur 22 (0,0)):=r1;simp[World.setCell,Array.getElem?_modify,r3]
 ·rw[Ep];by_cases e:j=q
  ·subst e;have hc:j<cur.size:=(eL.1 (r2 j hj)).1;rw[if_pos rfl,if_pos hc];simp
  rw[if_neg (fun h=>e h.symm),if_neg e];exact r2 j hj
 by_cases e:j=q
 ·rw[if_pos e];exact Nat.or_lt_two_pow (n:=64) (h0.small j) (Co aM V2)
 rw[if_neg e];exact h0.small j
end yj
end
section
namespace yj
theorem SF: (af.info? 22).map (fun i=>(i.zero,i.size,i.bytes))=some (some (.int .u64 0),1,8):=bh
def B3(n:Nat)(w:World)(e:Ending)(w':World): Prop:=∃ p g,e= .returned (.tuple #[.pointer (some ⟨p,0,none⟩),.int .i64 0])∧fU w' p g ((n+63) / 64) n (fun _=>0)∧w.heap.size≤p∧w.heap.size≤g∧Below w.heap.size w w'
theorem uQ(n:Nat)(hn:n≤65536)(w:World): Calls af 91 #[.int .i64 n] w (B3 n w):=by
 obtain⟨i0,hi,hz0,hz1,hz2⟩:=info_parts SF;obtain⟨nw,OD⟩:=ae ((n+63) / 64);have e1:((n:Int)+63) / 64=(nw:Int):=ai;have hnl:nw≤1025:=ai;have sZ: ¬(65536:Int)<(n:Int):=ai;have VY: ¬(n:Int)<0:=ai;have HN:=aa OD;clear OD;go_enter Tryz.func91,Tryz.ntmps91;go_wp2_with (refine wpList_make_full _ rfl _ _ 310 rfl w.heap.size 22 i0 (.int .u64 0) 1 Tryz.underlying310 hi hz0 hz1 .i64 .i64 _ _ nw rfl rfl ai ai (by rw[hz2];omega) Zv (aY _) ?_;intro w5 kA fF;have um:=aa kA;have p3:=aa fF;clear kA fF);go_ret2;have hown:=um.o;rw[show(eK cU 0).cells= #[eK cU 0] from rfl,toList_madeCells_one] at hown;have hg:=p3.o;have dU:Below w.heap.size w w5:=Below.grown (ar _ _) hg (aY _) dM;have hlt:w.heap.size<w5.heap.size:=(eP (g:=w.heap.size) hown rfl).1;rw[B3,HN.o];refine⟨w5.heap.size,w.heap.size,rfl,⟨?_,?_,fun _=>aM,ai⟩,dU.size,aY _,ay dU _⟩
 ·rw[HN.o];exact aG.fresh w5 _ _
 rcases hown.2 with⟨h0,_⟩|⟨g',cap,cur,hv,hb,hh,hnc,hcm,hcs,ht⟩
 ·cases h0
 injection hv with e1 _ e2
 injection e1 with e1
 injection e1 with e1
 subst e1 e2;refine⟨cur,(heap_alloc_old w5 _ hlt).trans hh,fun j hj=>?_⟩;rw[HN.o] at hj;have hx:cur[j]? =(List.replicate (nw*1) (eK cU 0))[j]?:=by rw[←ht,List.getElem?_take,if_pos ai,dK]
 rw[hx,List.getElem?_replicate,if_pos ai];rfl
end yj
end
section
namespace km
theorem PZ(a b:Int): 0≤aX qK cU a b∧aX qK cU a b<18446744073709551616:=by
 show 0≤cU.wrap _∧cU.wrap _<_
 rw[lN];omega
def mx(x d:Int): Int:=aX qK cU x (x / d)
def uI(x:Int): Int:=mx (cU.wrap (mx (cU.wrap (mx x 1073741824*13787848793156543929)) 134217728*10723151780598845931)) 2147483648
theorem QJ(x:Int): 0≤uI x∧uI x<18446744073709551616:=PZ _ _
theorem ak0(x:Int)(w:World): Calls af 314 #[.int .u64 x] w fun e w'=>e= .returned (.int .u64 (uI x))∧w'=w:=by
 go_enter Tryz.func314,Tryz.ntmps314;go_wp2_with fail;go_ret;exact⟨rfl,rfl⟩
end km
end
section
namespace km
theorem Dv: (af.info? 358).map (fun i=>(i.zero,i.size,i.bytes))=some (some (.agg #[.int .u8 0,.int .u32 0,.int .i64 0]),3,16):=bh
structure Slot where
 state:Nat
 id:Int
 v:Int
def Rows(w:World)(g n:Nat)(f:Nat→Slot): Prop:=∃ cur,w.heap[g]? =some (.cells cur 358 (0,0))∧∀ i,i<n→cur[i*3]? =some (.int .u8 (f i).state)∧cur[i*3+1]? =some (.int .u32 (f i).id)∧cur[i*3+2]? =some (.int .i64 (f i).v)
structure dR(w:World)(p g n:Nat)(bT len aT steps:Int)(f:Nat→Slot): Prop where
 own:aG w p 315 #[.slice (some ⟨g,0,none⟩) n n,.int .i64 bT,.int .i64 len,.int .i64 aT,.int .i64 steps]
 rows:Rows w g n f
 apart:p≠g
def afz(m:Nat)(w:World)(e:Ending)(w':World): Prop:=∃ p g n,e= .returned (.tuple #[.pointer (some ⟨p,0,none⟩),.int .i64 0])∧dR w' p g n m 0 0 0 (fun _=>⟨0,0,0⟩)∧2*m≤n∧n≤4*m∧w.heap.size≤p∧w.heap.size≤g∧Below w.heap.size w w'
theorem Qy(n j:Nat)(h:j<n): (madeCells #[eK .u8 0,.int .u32 0,.int .i64 0] n)[j]? = #[eK .u8 0,.int .u32 0,.int .i64 0][j % 3]?:=by
 have h3:j % 3<3:=uZ _ aM;unfold madeCells;rw[Array.getElem?_map,Array.getElem?_range,if_pos h];obtain h4|h4|h4:j % 3=0∨j % 3=1∨j % 3=2:=ai
 all_goals simp[h4]
theorem uQ(m:Nat)(h1:1≤m)(h2:m≤4096)(w:World): Calls af 92 #[.int .i64 m] w (afz m w):=by
 obtain⟨i0,hi,hz0,hz1,hz2⟩:=info_parts Dv;have hm1: ¬(m:Int)<1:=ai;have Jb: ¬(4096:Int)<(m:Int):=ai;go_enter Tryz.func92,Tryz.ntmps92;go_wp2_with fail;go_loopw [4] (fun k wr=>∃ n:Nat,1≤n∧n≤4*m∧k= .int .i64 n∧wr=w) (fun k _=>(2*m - intOf k).toNat)
 case atStart=>exact⟨1,ai,ai,rfl,rfl⟩
 case round=>
  obtain⟨n,sZ,px,rfl,hw⟩:=hrel;rw[hw];clear hw;by_cases h:n<2*m
  ·have h':(n:Int)<2*(m:Int):=by omega
   go_wp2_with fail;go_roundw
   case rel=>exact⟨n*2,ai,ai,by go_num,E'⟩
   case measure=>simp[intOf];omega
  have h': ¬(n:Int)<2*(m:Int):=ai;go_wp2_with (refine wpList_make_full _ rfl _ _ 313 rfl w.heap.size 358 i0 (.agg #[.int .u8 0,.int .u32 0,.int .i64 0]) 3 Tryz.underlying313 hi hz0 hz1 .i64 .i64 _ _ n rfl rfl rfl rfl (by rw[hz2];omega) Zv (aY _) ?_;intro w5 kA fF;have um:=aa kA;have p3:=aa fF;clear kA fF);go_ret2;have hown:=um.o;have dU:Below w.heap.size w w5:=Below.grown (ar _ _) p3.o (aY _) dM;have hlt:w.heap.size<w5.heap.size:=(eP (g:=w.heap.size) hown rfl).1;refine⟨w5.heap.size,w.heap.size,n,rfl,⟨aG.fresh w5 _ _,?_,ai⟩,ai,px,dU.size,aY _,ay dU _⟩;rcases hown.2 with⟨h0,_⟩|⟨g',cap,cur,hv,hb,hh,hnc,hcm,hcs,ht⟩
  ·cases h0
  injection hv with e1 _ e2
  injection e1 with e1
  injection e1 with e1
  subst e1 e2;have hx: ∀ j,j<n*3→cur[j]? = #[eK .u8 0,.int .u32 0,.int .i64 0][j % 3]?:=fun j hj=>by
   rw[←Qy (n*3) j hj,←dK (xs:=madeCells _ _)];show cur[j]? =(madeCells (Value.agg #[eK .u8 0,.int .u32 0,.int .i64 0]).cells (n*3)).toList[j]?
   rw[←ht,List.getElem?_take,if_pos hj,dK]
  refine⟨cur,(heap_alloc_old w5 _ hlt).trans hh,fun i hi=>⟨?_,?_,?_⟩⟩
  ·rw[hx _ ai,Nat.mul_mod_left];rfl
  ·rw[hx _ ai,show(i*3+1) % 3=1 from ai];rfl
  rw[hx _ ai,show(i*3+2) % 3=2 from ai];rfl
end km
end
section
namespace km
def fh(f:Nat→Slot)(id:Int)(n:Nat): Nat→Nat→Int→Int × Bool
 | 0,_,free=>(free,false)
 | k+1,a,free=>match (f a).state with
  | 0=>(if free<0 then(a:Int)else free,false)
  | 1=>if(f a).id=id then((a:Int),true)else fh f id n k ((a+1) % n) free
  | _=>fh f id n k ((a+1) % n) (if free<0 then(a:Int)else free)
variable{id:Int}{n k a h i:Nat}
theorem N6{f:Nat→Slot}{free:Int}(s:(f a).state=0): fh f id n (k+1) a free=(if free<0 then(a:Int)else free,false):=by rw[fh,s];rfl
theorem Qk{f:Nat→Slot}{free:Int}(s:(f a).state=1)(h:(f a).id=id): fh f id n (k+1) a free=((a:Int),true):=by rw[fh,s];simp[h]
theorem Up{f:Nat→Slot}{free:Int}(s:(f a).state=1)(h: ¬(f a).id=id): fh f id n (k+1) a free=fh f id n k ((a+1) % n) free:=by rw[fh,s];simp[h]
theorem N5{f:Nat→Slot}{free:Int}(s:(f a).state=2): fh f id n (k+1) a free=fh f id n k ((a+1) % n) (if free<0 then(a:Int)else free):=by rw[fh,s];rfl
def pos(n h d:Nat): Nat:=(h+d) % n
theorem IB(n h d:Nat): (pos n h d+1) % n=pos n h (d+1):=by unfold pos;rw[Nat.mod_add_mod];rfl
theorem xI(h d:Nat)(hn:0<n): pos n h d<n:=uZ _ hn
theorem zm{d:Nat} (hh:h<n)(hd:d<n): pos n h d=if h+d<n then h+d else h+d - n:=by
 unfold pos;split
 ·exact G6 (by assumption)
 rw[Nat.mod_eq_sub_mod ai,G6 ai]
theorem ZK{d e:Nat} (hh:h<n)(hd:d<n)(he:e<n)(hx:pos n h d=pos n h e): d=e:=by
 rw[zm hh hd,zm hh he] at hx;split at hx <;>split at hx <;>omega
theorem N7(hh:h<n)(hi:i<n): ∃ e,e<n∧pos n h e=i:=by
 rcases lp i h with h1|h1
 ·exact⟨i+n - h,ai,by rw[zm hh ai];split <;>omega⟩
 exact⟨i - h,ai,by rw[zm hh ai];split <;>omega⟩
def Hit(f:Nat→Slot)(id:Int)(n h d:Nat)(r:Int × Bool): Prop:=∃ e,d≤e∧e<n∧r=((pos n h e:Int),true)∧(f (pos n h e)).state=1∧(f (pos n h e)).id=id
def aiu(f:Nat→Slot)(id:Int)(n h d:Nat)(free:Int)(r:Int × Bool): Prop:=r.2=false∧(∀ e,d≤e→e<n→(f (pos n h e)).state=1→(f (pos n h e)).id=id→∃ e',d≤e'∧e'<e∧(f (pos n h e')).state=0)∧(0≤free→r.1=free)∧(free<0→(r.1=free∧∀ e,d≤e→e<n→(f (pos n h e)).state=1)∨∃ e,d≤e∧e<n∧r.1=(pos n h e:Int)∧(f (pos n h e)).state≠1∧∀ e',d≤e'→e'<e→(f (pos n h e')).state=1)
theorem uC(f:Nat→Slot)(id:Int)(n h:Nat)(hst: ∀ i,i<n→(f i).state≤2)(hn:0<n): ∀ k d free,d+k=n→Hit f id n h d (fh f id n k (pos n h d) free)∨aiu f id n h d free (fh f id n k (pos n h d) free)
 | 0,d,free,hd=>.inr ⟨rfl,fun e h1 h2=>ai,fun _=>rfl,fun _=>.inl ⟨rfl,fun e h1 h2=>ai⟩⟩
 | k+1,d,free,hd=>by
  have hp:pos n h d<n:=xI h d hn;have hs:=hst _ hp;rcases(show(f (pos n h d)).state=0∨(f (pos n h d)).state=1∨(f (pos n h d)).state=2 from ai)with s|s|s
  ·have e:fh f id n (k+1) (pos n h d) free=(if free<0 then(pos n h d:Int)else free,false):=by rw[fh,s];rfl
   rw[e];refine .inr ⟨rfl,fun e h1 h2 s1 _=>⟨d,aY _,?_,s⟩,fun h=>if_neg ai,fun h=>.inr ⟨d,aY _,ai,if_pos h,by rw[s];decide,fun e' h1 h2=>ai⟩⟩;rcases lp d e with h3|h3
   ·exact h3
   obtain rfl:e=d:=ai;rw[s] at s1;cases s1
  ·by_cases hid:(f (pos n h d)).id=id
   ·exact .inl ⟨d,aY _,ai,by rw[fh,s];simp[hid],s,hid⟩
   have e:fh f id n (k+1) (pos n h d) free=fh f id n k (pos n h (d+1)) free:=by rw[fh,s];simp[hid,IB]
   rw[e];rcases uC f id n h hst hn k (d+1) free ai with⟨e,h1,h2⟩|⟨h1,h2,h3,h4⟩
   ·exact .inl ⟨e,ai,h2⟩
   refine .inr ⟨h1,fun e he hen hs1 Md=>?_,h3,fun hf=>?_⟩
   ·rcases lp d e with h5|h5
    ·obtain⟨e',a,b⟩:=h2 e h5 hen hs1 Md;exact⟨e',ai,b⟩
    obtain rfl:e=d:=ai;exact absurd Md hid
   rcases h4 hf with⟨a,b⟩|⟨e,a,b,c,d',g⟩
   ·refine .inl ⟨a,fun e he hen=>?_⟩;rcases lp d e with h5|h5
    ·exact b e h5 hen
    obtain rfl:e=d:=ai;exact s
   refine .inr ⟨e,ai,b,c,d',fun e' he hen=>?_⟩;rcases lp d e' with h5|h5
   ·exact g e' h5 hen
   obtain rfl:e'=d:=ai;exact s
  have e:fh f id n (k+1) (pos n h d) free=fh f id n k (pos n h (d+1)) (if free<0 then(pos n h d:Int)else free):=by rw[fh,s,IB];rfl
  rw[e];rcases uC f id n h hst hn k (d+1) (if free<0 then(pos n h d:Int)else free) ai with⟨e,h1,h2⟩|⟨h1,h2,h3,h4⟩
  ·exact .inl ⟨e,ai,h2⟩
  refine .inr ⟨h1,fun e he hen hs1 Md=>?_,fun hf=>?_,fun hf=>?_⟩
  ·rcases lp d e with h5|h5
   ·obtain⟨e',a,b⟩:=h2 e h5 hen hs1 Md;exact⟨e',ai,b⟩
   obtain rfl:e=d:=ai;rw[s] at hs1;cases hs1
  ·rw[if_neg ai] at h3 ⊢;exact h3 hf
  rw[if_pos hf] at h3 ⊢;exact .inr ⟨d,aY _,ai,h3 ai,by rw[s];decide,fun e' h1 h2=>ai⟩
def cnt(f:Nat→Slot)(s:Nat): Nat→Nat
 | 0=>0
 | n+1=>cnt f s n+if(f n).state=s then 1 else 0
def upd(f:Nat→Slot)(i:Nat)(s:Slot): Nat→Slot:=fun j=>if j=i then s else f j
theorem upd_same(f:Nat→Slot)(i:Nat)(s:Slot): upd f i s i=s:=if_pos rfl
theorem bU(f:Nat→Slot){j:Nat} (s:Slot)(h:j≠i): upd f i s j=f j:=if_neg h
theorem afc(f:Nat→Slot)(s:Nat): ∀ n,cnt f s n≤n
 | 0=>aY _
 | n+1=>by have:=afc f s n;rw[cnt];split <;>omega
theorem JH{f:Nat→Slot}{s:Nat}: ∀ {n},(∀ i,i<n→(f i).state=s)→cnt f s n=n
 | 0,_=>rfl
 | n+1,h=>by rw[cnt,JH (fun i hi=>h i ai),if_pos (h n ai)]
theorem JF(f:Nat→Slot)(t:Nat)(i:Nat)(s:Slot): ∀ n,n≤i→cnt (upd f i s) t n=cnt f t n
 | 0,_=>rfl
 | n+1,h=>by rw[cnt,cnt,JF f t i s n ai,bU f s ai]
theorem lU(f:Nat→Slot)(t:Nat)(i:Nat)(s:Slot): ∀ n,i<n→cnt (upd f i s) t n+(if(f i).state=t then 1 else 0)=cnt f t n+(if s.state=t then 1 else 0)
 | 0,h=>ai
 | n+1,h=>by
  rw[cnt,cnt];rcases lp i n with h1|h1
  ·have:=lU f t i s n h1;rw[bU f s (by omega:n≠i)];omega
  obtain rfl:i=n:=ai;rw[JF f t i s i (aY _),upd_same];omega
def home(n:Nat)(id:Int): Nat:=(uI id % (n:Int)).toNat
theorem zx(id:Int)(hn:0<n): home n id<n:=by
 unfold home;generalize uI id=x;have h1:=Int.emod_nonneg x (show(n:Int)≠0 from ai);have h2:=Int.emod_lt_of_pos x (show(0:Int)<n from ai);omega
theorem Uq(id:Int)(hn:0<n): pos n (home n id) 0=home n id:=by
 have h:=zx id hn;generalize home n id=x at h;unfold pos;rw[Nat.add_zero];exact G6 h
structure CE(f:Nat→Slot)(n:Nat): Prop where
 states: ∀ i,i<n→(f i).state≤2
 uniq: ∀ i j,i<n→j<n→(f i).state=1→(f j).state=1→(f i).id=(f j).id→i=j
 reach: ∀ id e,e<n→(f (pos n (home n id) e)).state=1→(f (pos n (home n id) e)).id=id→∀ e',e'<e→(f (pos n (home n id) e')).state≠0
def vC(f:Nat→Slot)(n:Nat)(id:Int): Int × Bool:=fh f id n n (home n id) (-1)
theorem sS{f:Nat→Slot}(h:CE f n)(hn:0<n)(id:Int): Hit f id n (home n id) 0 (vC f n id)∨aiu f id n (home n id) 0 (-1) (vC f n id):=by
 have:=uC f id n (home n id) h.states hn n 0 (-1) ai
 rwa [Uq id hn] at this
theorem AU{f:Nat→Slot}(h:CE f n)(hi:i<n)(hs:(f i).state=1): vC f n (f i).id=((i:Int),true):=by
 have hn:0<n:=ai;rcases sS h hn (f i).id with⟨e,_,he,hr,h1,h2⟩|⟨_,h2,_⟩
 ·rw[hr,h.uniq _ _ (xI _ _ hn) hi h1 hs h2]
 obtain⟨e,he,hp⟩:=N7 (zx (f i).id hn) hi;obtain⟨e',_,h3,h4⟩:=h2 e (cx _) he (by rw[hp];exact hs) (by rw[hp]);exact absurd h4 (h.reach (f i).id e he (by rw[hp];exact hs) (by rw[hp]) e' h3)
theorem Uf{f:Nat→Slot}(h:CE f n)(hn:0<n)(hr:(vC f n id).2=true): ∃ i,i<n∧vC f n id=((i:Int),true)∧(f i).state=1∧(f i).id=id:=by
 rcases sS h hn id with⟨e,_,he,h3,h1,h2⟩|⟨h1,_⟩
 ·exact⟨_,xI _ _ hn,h3,h1,h2⟩
 rw[hr] at h1;cases h1
theorem xD{f:Nat→Slot}(h:CE f n)(hl:cnt f 1 n<n)(hr: ∀ i,i<n→(f i).state=1→(f i).id≠id): ∃ i,i<n∧vC f n id=((i:Int),false)∧(f i).state≠1∧∀ v,CE (upd f i ⟨1,id,v⟩) n:=by
 have hn:0<n:=ai;rcases sS h hn id with⟨e,_,he,h3,h1,h2⟩|⟨h1,_,_,h4⟩
 ·exact absurd h2 (hr _ (xI _ _ hn) h1)
 have hr1:vC f n id=((vC f n id).1,false):=by rw[←h1]
 rcases h4 ai with⟨_,h5⟩|⟨e,_,he,h5,h6,h7⟩
 ·have:cnt f 1 n=n:=JH fun i hi=>by
   obtain⟨e,he,hp⟩:=N7 (zx id hn) hi;have:=h5 e (cx _) he
   rwa [hp] at this
  omega
 refine⟨_,xI _ _ hn,by rw[hr1,h5],h6,fun v=>?_⟩;obtain⟨a,ha⟩:=ae (pos n (home n id) e);rw[ha] at h6 ⊢;have han:a<n:=by rw[←ha];exact xI _ _ hn
 refine⟨fun i hi=>?_,fun i j hi hj si sj e=>?_,fun id' d hd s1 s2 d' OL=>?_⟩
 ·by_cases e:i=a
  ·subst e;rw[upd_same];show 1≤2;decide
  rw[bU _ _ e];exact h.states i hi
 ·by_cases e1:i=a <;>by_cases e2:j=a
  ·omega
  ·subst e1;rw[bU _ _ e2] at sj e;rw[upd_same] at e;exact absurd e.symm (hr j hj sj)
  ·subst e2;rw[bU _ _ e1] at si e;rw[upd_same] at e;exact absurd e (hr i hi si)
  rw[bU _ _ e1] at si e;rw[bU _ _ e2] at sj e;exact h.uniq i j hi hj si sj e
 by_cases e1:pos n (home n id') d'=a
 ·rw[e1,upd_same];show 1≠0;decide
 rw[bU _ _ e1];by_cases e2:pos n (home n id') d=a
 ·rw[e2,upd_same] at s2;have s2':id=id':=s2;subst s2';have hde:d=e:=ZK (zx id hn) hd he (by rw[e2,ha]);subst hde;rw[h7 d' (cx _) OL];decide
 rw[bU _ _ e2] at s1 s2;exact h.reach id' d hd s1 s2 d' OL
def jH(f:Nat→Slot)(n:Nat)(id v:Int): Prop:=∃ i,i<n∧(f i).state=1∧(f i).id=id∧(f i).v=v
end km
end
section
namespace km
def Fg(p:Nat)(w:World): Nat:=match w.cell? ⟨p,4,none⟩with
 | some (.int _ s)=>s.toNat
 | _=>0
variable{w:World}{g n:Nat}
theorem Rows.cell{f:Nat→Slot}(h:Rows w g n f){i:Nat}(hi:i<n): w.cell? ⟨g,i*3,none⟩=some (.int .u8 (f i).state)∧w.cell? ⟨g,i*3+1,none⟩=some (.int .u32 (f i).id)∧w.cell? ⟨g,i*3+2,none⟩=some (.int .i64 (f i).v):=by
 obtain⟨cur,h1,h2⟩:=h;have e: ∀ j,w.cell? ⟨g,j,none⟩=cur[j]?:=fun j=>by simp[G7,h1]
 obtain⟨a,b,c⟩:=h2 i hi;exact⟨(e _).trans a,(e _).trans b,(e _).trans c⟩
theorem Rows.same{w':World} {f:Nat→Slot}(h:Rows w g n f)(hk:w'.heap[g]? =w.heap[g]?): Rows w' g n f:=by
 obtain⟨cur,h1,h2⟩:=h;exact⟨cur,hk.trans h1,h2⟩
theorem Rows.lt{f:Nat→Slot}(h:Rows w g n f): g<w.heap.size:=by
 obtain⟨cur,h1,_⟩:=h;exact(eL.1 h1).1
theorem dR.alloc{p:Nat} {m l gr s:Int}{f:Nat→Slot}(h:dR w p g n m l gr s f)(o:Obj): dR (w.alloc o) p g n m l gr s f:=⟨h.own.alloc o,h.rows.same (heap_alloc_old w o h.rows.lt),h.apart⟩
theorem AP{p:Nat} {m l gr s:Int}{f:Nat→Slot}(h:dR w p g n m l gr s f): Fg p w=s.toNat:=by
 have h4:w.cell? ⟨p,4,none⟩=some (.int .i64 s):=h.own.cell 4;simp only[Fg,h4]
theorem noGoto_ret{Q:Exit→Act→World→Prop}{a:Act}(h:Q .ret a w): Exit.noGoto Q .ret a w:=h
theorem Find(p g n:Nat)(bT len aT steps id:Int)(f:Nat→Slot)(w:World)(h:dR w p g n bT len aT steps f)(hn:1≤n)(px:n≤16384)(hid:0≤id∧id<4294967296)(hst: ∀ i,i<n→(f i).state≤2):
  Calls af 245 #[.pointer (some ⟨p,0,none⟩),.int .u32 id] w fun e w'=>e= .returned (.tuple #[.int .i64 (fh f id n n (uI id % (n:Int)).toNat (-1)).1,.bool (fh f id n n (uI id % (n:Int)).toNat (-1)).2])∧(∃ s,dR w' p g n bT len aT s f)∧aI (· =p) w w':=by
 have x0:w.cell? ⟨p,0,none⟩=some (.slice (some ⟨g,0,none⟩) n n):=h.own.cell 0;have x4:w.cell? ⟨p,4,none⟩=some (.int .i64 steps):=h.own.cell 4;have m4:=h.own.mark 4;obtain⟨hr0,hr1⟩:=QJ id;obtain⟨a0,ha0⟩: ∃ a0:Nat,uI id % (n:Int)=(a0:Int):=⟨(uI id % (n:Int)).toNat,by have:=Int.emod_nonneg (uI id) (show(n:Int)≠0 from ai);omega⟩;have ha1:(a0:Int)<(n:Int):=by rw[←ha0];exact Int.emod_lt_of_pos _ ai
 rw[ha0,Int.toNat_natCast];have HH:=aa h;have HID:=aa ha0;have hnz: ¬(n:Int)=0:=ai;have ak9:=aa hst;clear h ha0 hst;go_enter Tryz.func245,Tryz.ntmps245;go_wp2_with fail;refine wp_scope_straight ?_;go_wp2_with fail;refine ag (ak0 id _) ?_;go_wp2_with fail;refine wp_label ?_;go_wp2_with fail;rw[show wrap64 (uI id % (n:Int))=(a0:Int)from by rw[HID.o];unfold wrap64;omega];have hI0:dR (w.setCell ⟨p,4,none⟩ (.int .i64 0)) p g n bT len aT ((n:Int) - (n:Int)) f:=⟨by rw[Int.sub_self];exact HH.o.own.put 4 _,HH.o.rows.same (dJ _ _ _ g (fun e=>HH.o.apart e.symm)),HH.o.apart⟩;have ht0:aI (· =p) w (w.setCell ⟨p,4,none⟩ (.int .i64 0)):=(aI.refl (· =p) w).put (p:=⟨p,4,none⟩) (.inl rfl) _;go_loopw [7,8] (fun at_ fr wr=>∃ (k a:Nat) (free:Int),k≤n∧a<n∧at_= .int .i64 a∧fr= .int .i64 free∧(-1≤free∧free<n)∧dR wr p g n bT len aT ((n:Int) - (k:Int)) f∧aI (· =p) w wr∧fh f id n k a free=fh f id n n a0 (-1)) (fun _ _ wr=>n - Fg p wr)
 case atStart=>exact⟨n,a0,-1,aY _,ai,rfl,rfl,ai,hI0,ht0,rfl⟩
 case round=>
  clear hI0 ht0 x0 x4 m4;obtain⟨k,a,free,hk,ha,rfl,rfl,Kr,hI,ht,hpr⟩:=hrel;have x0:wr.cell? ⟨p,0,none⟩=some (.slice (some ⟨g,0,none⟩) n n):=hI.own.cell 0;have x4:wr.cell? ⟨p,4,none⟩=some (.int .i64 ((n:Int) - (k:Int))):=hI.own.cell 4;have m4:=hI.own.mark 4;have hpl:=hI.own.lt;have zv: ¬p=g:=hI.apart;have FL: ¬g=p:=fun e=>hI.apart e.symm
  have pU:=hI.rows.lt;obtain⟨z0,z1,z2⟩:=hI.rows.cell ha;have HI:=aa hI;have HT:=aa ht;have HP:=aa hpr;clear hI ht hpr;cases k with
  | zero=>
   go_wp2_with fail;refine noGoto_ret ?_;go_ret2;exact⟨by rw[←HP.o];rfl,⟨_,HI.o⟩,HT.o⟩
  | succ j=>
   have hlt:(n:Int) - ((j+1:Nat):Int)<(n:Int):=ai;have ha1:(a:Int)<(n:Int):=ai;have ha0:(0:Int)≤(a:Int):=ai;have hs:=ak9.o a ha;obtain⟨st,aeB⟩:=ae ((f a).state);rw[aeB] at z0 hs;have HST:=aa aeB;clear aeB;obtain⟨fi,hfi⟩:=ae ((f a).id);obtain⟨fv,hfv⟩:=ae ((f a).v);rw[hfi] at z1;rw[hfv] at z2;have HFI:=aa hfi;clear hfi hfv;have hj:((j+1:Nat):Int)=(j:Int)+1:=ai;rw[hj] at x4 hlt;clear hj;obtain⟨sn,rh⟩:=ae ((n:Int) - ((j:Int)+1):Int);rw[rh] at x4 hlt;have aj9:0≤sn∧sn≤20000:=ai;have aiK:=aa rh;clear rh;obtain⟨al6,al5⟩:=aj9;have akl:a*3+2<n*3:=ai;have hrg:(wr.setCell ⟨p,4,none⟩ (.int .i64 (sn+1))).rangeAt g (a*3) [.int .u8 st,.int .u32 fi,.int .i64 fv]:=fun i u hi=>by
    rw[World.cell?_setCell_other _ _ _ _ (by intro e;injection e with e;exact zv e)];rcases(show i=0∨i=1∨i=2∨3≤i from ai)with rfl|rfl|rfl|h3
    ·rw[←hi];exact z0
    ·rw[←hi];exact z1
    ·rw[←hi];exact z2
    rw[List.getElem?_eq_none (by simpa using h3)] at hi;cases hi
   clear z0 z1 z2 akl;have amp:=Kr.1;have amo:=Kr.2;have HFR:=aa Kr;clear Kr;have hI':dR (wr.setCell ⟨p,4,none⟩ (.int .i64 (sn+1))) p g n bT len aT (sn+1) f:=⟨HI.o.own.put 4 _,HI.o.rows.same (dJ _ _ _ g FL),HI.o.apart⟩;have ht':aI (· =p) w (wr.setCell ⟨p,4,none⟩ (.int .i64 (sn+1))):=HT.o.put (p:=⟨p,4,none⟩) (.inl rfl) _;have HI':=aa hI';have HT':=aa ht';clear hI' ht';obtain⟨a1,dF⟩:=ae ((a+1) % n:Nat);have aeY:a1<n:=by rw[←dF];exact uZ _ ai
   have aeC:((a:Int)+1) % (n:Int)=(a1:Int):=by rw[←dF];push_cast;rfl
   have agW:(n:Int) - (j:Int)=sn+1:=by rw[←aiK.o];omega
   have aiL:=aa agW;clear agW;have af4:=aa dF;clear dF;rcases(show st=0∨st=1∨st=2 from ai)with rfl|rfl|rfl
   ·have F6:=aa hrg;clear hrg hs;by_cases hf:free<0
    ·go_wp2_with (refine wpList_load_mid rfl 358 _ rfl g (a*3) rfl [.int .u8 ((0:Nat):Int),.int .u32 fi,.int .i64 fv] _ F6.o tI rfl rfl ?_);try refine noGoto_ret ?_
     go_ret2;exact⟨by rw[←HP.o,N6 HST.o,if_pos hf];rfl,⟨_,HI'.o.alloc _⟩,HT'.o.alloc _⟩
    go_wp2_with (refine wpList_load_mid rfl 358 _ rfl g (a*3) rfl [.int .u8 ((0:Nat):Int),.int .u32 fi,.int .i64 fv] _ F6.o tI rfl rfl ?_);try refine noGoto_ret ?_
    go_ret2;exact⟨by rw[←HP.o,N6 HST.o,if_neg ai];rfl,⟨_,HI'.o.alloc _⟩,HT'.o.alloc _⟩
   ·have F6:=aa hrg;clear hrg hs;by_cases QL:fi=id
    ·have hb:(fi==id)=true:=by simpa using QL
     have afK:=aa QL;clear QL;go_wp2_with (refine wpList_load_mid rfl 358 _ rfl g (a*3) rfl [.int .u8 ((1:Nat):Int),.int .u32 fi,.int .i64 fv] _ F6.o tI rfl rfl ?_);try refine noGoto_ret ?_
     go_ret2;exact⟨by rw[←HP.o,Qk HST.o (HFI.o.trans afK.o)];rfl,⟨_,HI'.o.alloc _⟩,HT'.o.alloc _⟩
    have hb:(fi==id)=false:=by simpa using QL
    have afK:=aa QL;clear QL;go_wp2_with (refine wpList_load_mid rfl 358 _ rfl g (a*3) rfl [.int .u8 ((1:Nat):Int),.int .u32 fi,.int .i64 fv] _ F6.o tI rfl rfl ?_);go_roundw
    case rel=>exact⟨j,a1,free,ai,aeY,by rw[aeC],E',ai,Lb,HT'.o.alloc _,by rw[←HP.o,Up HST.o (fun e=>afK.o (HFI.o.symm.trans e)),af4.o]⟩
    case measure=>
     exact UQ
   have F6:=aa hrg;clear hrg hs;by_cases hf:free<0
   ·go_wp2_with (refine wpList_load_mid rfl 358 _ rfl g (a*3) rfl [.int .u8 ((2:Nat):Int),.int .u32 fi,.int .i64 fv] _ F6.o tI rfl rfl ?_);go_roundw
    case rel=>exact⟨j,a1,a,ai,aeY,by rw[aeC],E',ai,Lb,HT'.o.alloc _,by rw[←HP.o,N5 HST.o,if_pos hf,af4.o]⟩
    case measure=>
     exact UQ
   go_wp2_with (refine wpList_load_mid rfl 358 _ rfl g (a*3) rfl [.int .u8 ((2:Nat):Int),.int .u32 fi,.int .i64 fv] _ F6.o tI rfl rfl ?_);go_roundw
   case rel=>exact⟨j,a1,free,ai,aeY,by rw[aeC],E',ai,Lb,HT'.o.alloc _,by rw[←HP.o,N5 HST.o,if_neg ai,af4.o]⟩
   case measure=>
    exact UQ
end km
end
section
namespace km
variable{w:World}{g n i p:Nat}
theorem Rows.there{f:Nat→Slot}(h:Rows w g n f)(hi:i<n): w.there g (i*3) 3:=by
 obtain⟨cur,h1,h2⟩:=h;have c:=h2 i hi;intro j hj;have e: ∀ k,w.cell? ⟨g,k,none⟩=cur[k]?:=fun k=>by simp[G7,h1]
 refine⟨?_,by simp[World.frozen?,h1]⟩;rw[e];rcases(show j=0∨j=1∨j=2 from ai)with rfl|rfl|rfl
 ·rw[Nat.add_zero,c.1];rfl
 ·rw[c.2.1];rfl
 rw[c.2.2];rfl
def fD(s:Slot): List Value:=[.int .u8 (s.state:Int),.int .u32 s.id,.int .i64 s.v]
theorem Rows.store{f:Nat→Slot}(h:Rows w g n f)(hi:i<n)(s:Slot): Rows (w.setCells g (i*3) (fD s)) g n (upd f i s):=by
 obtain⟨cur,h1,h2⟩:=h;have hl:(n - 1)*3+2<cur.size:=(eL.1 (h2 (n - 1) ai).2.2).1;obtain⟨cs',r1,r2,r3,r4⟩:=fR g 358 (fD s) (i*3) w cur h1 (by show i*3+3≤cur.size;omega);refine⟨cs',r1,fun j hj=>?_⟩;by_cases e:j=i
 ·subst e;rw[upd_same];have q0:=r3 0 (show 0<3 from aM);have q1:=r3 1 (show 1<3 from aM);have q2:=r3 2 (show 2<3 from aM);exact⟨q0,q1,q2⟩
 rw[bU f s e];have ho: ∀ k,k<3→cs'[j*3+k]? =cur[j*3+k]?:=fun k hk=>r4 _ (by show j*3+k<i*3∨i*3+3≤j*3+k;omega)
 exact⟨(ho 0 ai).trans (h2 j hj).1,(ho 1 ai).trans (h2 j hj).2.1,(ho 2 ai).trans (h2 j hj).2.2⟩
theorem dR.store{m l gr s:Int}{f:Nat→Slot}(h:dR w p g n m l gr s f)(hi:i<n)(x:Slot): dR (w.setCells g (i*3) (fD x)) p g n m l gr s (upd f i x):=
 ⟨h.own.grown (dw g (fD x) (i*3) w).1 h.apart,h.rows.store hi x,h.apart⟩
structure eW(w:World)(p g n bT len aT:Nat)(f:Nat→Slot): Prop where
 cw: ∃ steps,dR w p g n bT len aT steps f
 tab:CE f n
 full:cnt f 1 n=len
 Wy:cnt f 2 n=aT
 bj:len≤bT∧2*bT≤n∧1≤bT∧bT≤4096∧n≤16384
theorem FY(f:Nat→Slot): ∀ n,cnt f 1 n+cnt f 2 n≤n
 | 0=>aY _
 | n+1=>by
  have:=FY f n;rw[cnt,cnt];split <;>split <;>omega
theorem eW.same{w':World} {bT len aT:Nat} {f:Nat→Slot}(h:eW w p g n bT len aT f)(hp:w'.heap[p]? =w.heap[p]?)(hg:w'.heap[g]? =w.heap[g]?): eW w' p g n bT len aT f:=by
 obtain⟨s,hs⟩:=h.cw;exact⟨⟨s,hp.trans hs.own,hs.rows.same hg,hs.apart⟩,h.tab,h.full,h.Wy,h.bj⟩
theorem eW.lt{bT len aT:Nat} {f:Nat→Slot}(h:eW w p g n bT len aT f): p<w.heap.size∧g<w.heap.size:=by
 obtain⟨s,hs⟩:=h.cw;exact⟨hs.own.lt,hs.rows.lt⟩
theorem fQ(p g n:Nat)(w:World)(h:w.cell? ⟨p,0,none⟩=some (.slice (some ⟨g,0,none⟩) n n)): Calls af 222 #[.pointer (some ⟨p,0,none⟩)] w fun e w'=>e= .returned (.bool true)∧w'=w:=by
 go_enter Tryz.func222,Tryz.ntmps222;go_wp2_with fail;go_ret;exact⟨rfl,rfl⟩
end km
end
end
section
namespace km
variable{n i:Nat}
theorem Uc{f:Nat→Slot}(h:CE f n): CE (upd f i ⟨2,0,0⟩) n:=by
 refine⟨fun j hj=>?_,fun a b ha hb sa sb e=>?_,fun id d hd s1 s2 d' OL=>?_⟩
 ·by_cases e:j=i
  ·subst e;rw[upd_same];exact aY _
  rw[bU _ _ e];exact h.states j hj
 ·have ea:a≠i:=fun e=>by subst e;rw[upd_same] at sa;revert sa;decide
  have eb:b≠i:=fun e=>by subst e;rw[upd_same] at sb;revert sb;decide
  rw[bU _ _ ea] at sa e;rw[bU _ _ eb] at sb e;exact h.uniq a b ha hb sa sb e
 have e1:pos n (home n id) d≠i:=fun e=>by rw[e,upd_same] at s1;revert s1;decide
 rw[bU _ _ e1] at s1 s2;by_cases e2:pos n (home n id) d'=i
 ·rw[e2,upd_same];show 2≠0;decide
 rw[bU _ _ e2];exact h.reach id d hd s1 s2 d' OL
theorem Zy{f:Nat→Slot}(h:CE f n)(hs:(f i).state=1)(v:Int): CE (upd f i ⟨1,(f i).id,v⟩) n:=by
 have hst: ∀ j,(upd f i ⟨1,(f i).id,v⟩ j).state=(f j).state:=fun j=>by
  by_cases e:j=i
  ·subst e;rw[upd_same,hs]
  rw[bU _ _ e]
 have hid: ∀ j,(upd f i ⟨1,(f i).id,v⟩ j).id=(f j).id:=fun j=>by
  by_cases e:j=i
  ·subst e;rw[upd_same]
  rw[bU _ _ e]
 exact⟨fun j hj=>by rw[hst];exact h.states j hj,fun a b ha hb sa sb e=>h.uniq a b ha hb (by rwa [hst] at sa) (by rwa [hst] at sb) (by rwa [hid,hid] at e),
  fun id d hd s1 s2 d' OL=>by rw[hst];exact h.reach id d hd (by rwa [hst] at s1) (by rwa [hid] at s2) d' OL⟩
theorem wQ{f:Nat→Slot}(hi:i<n)(hs:(f i).state≠1)(id v a b:Int): jH (upd f i ⟨1,id,v⟩) n a b↔jH f n a b∨(a=id∧b=v):=by
 constructor
 ·rintro⟨j,hj,h1,h2,h3⟩;by_cases e:j=i
  ·subst e;rw[upd_same] at h2 h3;exact .inr ⟨h2.symm,h3.symm⟩
  rw[bU _ _ e] at h1 h2 h3;exact .inl ⟨j,hj,h1,h2,h3⟩
 rintro(⟨j,hj,h1,h2,h3⟩|⟨rfl,rfl⟩)
 ·have e:j≠i:=fun e=>hs (e▸h1)
  exact⟨j,hj,K8,K7,K6⟩
 exact⟨i,hi,wU,wU,wU⟩
theorem KM{f:Nat→Slot}(h:CE f n)(hi:i<n)(hs:(f i).state=1)(a b:Int): jH (upd f i ⟨2,0,0⟩) n a b↔jH f n a b∧a≠(f i).id:=by
 constructor
 ·rintro⟨j,hj,h1,h2,h3⟩;have e:j≠i:=fun e=>by subst e;rw[upd_same] at h1;revert h1;decide
  rw[bU _ _ e] at h1 h2 h3;exact⟨⟨j,hj,h1,h2,h3⟩,fun e2=>e (h.uniq j i hj hi h1 hs (h2.trans e2))⟩
 rintro⟨⟨j,hj,h1,h2,h3⟩,hne⟩;have e:j≠i:=fun e=>hne (by rw[←h2,e])
 exact⟨j,hj,K8,K7,K6⟩
theorem P1{f:Nat→Slot}(h:CE f n)(hi:i<n)(hs:(f i).state=1)(v a b:Int): jH (upd f i ⟨1,(f i).id,v⟩) n a b↔(jH f n a b∧a≠(f i).id)∨(a=(f i).id∧b=v):=by
 constructor
 ·rintro⟨j,hj,h1,h2,h3⟩;by_cases e:j=i
  ·subst e;rw[upd_same] at h2 h3;exact .inr ⟨h2.symm,h3.symm⟩
  rw[bU _ _ e] at h1 h2 h3;exact .inl ⟨⟨j,hj,h1,h2,h3⟩,fun e2=>e (h.uniq j i hj hi h1 hs (h2.trans e2))⟩
 rintro(⟨⟨j,hj,h1,h2,h3⟩,hne⟩|⟨rfl,rfl⟩)
 ·have e:j≠i:=fun e=>hne (by rw[←h2,e])
  exact⟨j,hj,K8,K7,K6⟩
 exact⟨i,hi,wU,wU,wU⟩
def f0: Nat→Slot:=fun _=>⟨0,0,0⟩
theorem Ub(n:Nat): CE f0 n:=⟨fun i _=>cx _,fun i j _ _ h=>mC,fun id e _ h=>mC⟩
theorem JG(n t:Nat)(ht:t≠0): cnt f0 t n=0:=by
 induction n with
 | zero=>rfl
 | succ n ih=>rw[cnt,ih,if_neg (by show ¬0=t;omega)]
theorem KL(n:Nat)(a b:Int): ¬jH f0 n a b:=fun⟨_,_,h,_⟩=>mC
end km
end
section
namespace km
variable{i:Nat}
theorem Rows.ajX{w:World}{g n:Nat}{f:Nat→Slot}(h:Rows w g n f)(hi:i<n)(v:Int): Rows (w.setCell ⟨g,i*3+2,none⟩ (.int .i64 v)) g n (upd f i ⟨(f i).state,(f i).id,v⟩):=by
 obtain⟨cur,h1,h2⟩:=h;have ha:aG w g 358 cur:=h1;refine⟨cur.setIfInBounds (i*3+2) (.int .i64 v),ha.put _ _,fun j hj=>?_⟩;obtain⟨q0,q1,q2⟩:=h2 j hj;have hb:=(eL.1 q2).1;have ho: ∀ k,k≠i*3+2→(cur.setIfInBounds (i*3+2) (.int .i64 v))[k]? =cur[k]?:=fun k hk=>by rw[Ep,if_neg (fun e=>hk e.symm)]
 by_cases e:j=i
 ·subst e;rw[upd_same];exact⟨(ho _ ai).trans q0,(ho _ ai).trans q1,by rw[Ep,if_pos rfl,if_pos hb]⟩
 rw[bU _ _ e];exact⟨(ho _ ai).trans q0,(ho _ ai).trans q1,(ho _ ai).trans q2⟩
theorem aft(p g n bT len aT:Nat)(id v:Int)(f:Nat→Slot)(w:World)(h:eW w p g n bT len aT f)(hid:0≤id∧id<4294967296)(hi:i<n)(hs:(f i).state=1)(he:(f i).id=id):
  Calls af 165 #[.pointer (some ⟨p,0,none⟩),.int .u32 id,.int .i64 v] w fun e w'=>e= .returned (.bool true)∧eW w' p g n bT len aT (upd f i ⟨1,id,v⟩)∧aI (fun k=>k=p∨k=g) w w':=by
 obtain⟨steps,hI⟩:=h.cw;have hsk:vC f n id=((i:Int),true):=Lj;have x0:w.cell? ⟨p,0,none⟩=some (.slice (some ⟨g,0,none⟩) n n):=hI.own.cell 0;have hn:=h.bj;have HF:=Find p g n bT len aT steps id f w hI ai hn.2.2.2.2 hid h.tab.states;have hF:Calls af 245 #[.pointer (some ⟨p,0,none⟩),.int .u32 id] w fun e w'=>e= .returned (.tuple #[.int .i64 (i:Int),.bool true])∧(∃ s,dR w' p g n bT len aT s f)∧aI (· =p) w w':=HF.mono fun e w' h1=>by
  exact UO
 have HH:=aa h;have HG:=aa hF;have HI:=aa (show i<n∧(f i).state=1∧(f i).id=id∧n≤16384 from⟨hi,hs,he,hn.2.2.2.2⟩);have zy:(i:Int)<(n:Int):=ai;clear h hF HF hI hsk hs he hn hid;go_enter Tryz.func165,Tryz.ntmps165;go_wp2_with fail;refine ag (fQ p g n w x0) ?_;go_wp2_with fail;refine HG.o.mono ?_;rintro e w1 ⟨rfl,⟨s1,kV⟩,sx⟩;have y0:w1.cell? ⟨p,0,none⟩=some (.slice (some ⟨g,0,none⟩) n n):=kV.own.cell 0;obtain⟨_,_,z2⟩:=kV.rows.cell hi;obtain⟨cur,pV,_⟩:=kV.rows;have m2:w1.frozen? ⟨g,i*3+2,none⟩=false:=aG.mark (show aG w1 g 358 cur from pV) _;have wK:=aa kV;have iN:=aa sx;clear kV sx pV;go_wp2_with fail;go_ret;have kV:=wK.o;have hf:(⟨(f i).state,(f i).id,v⟩:Slot)=⟨1,id,v⟩:=by rw[HI.o.2.1,HI.o.2.2.1]
 refine⟨rfl,⟨⟨s1,kV.own.other (p:=⟨g,i*3+2,none⟩) kV.apart _,?_,kV.apart⟩,?_,?_,?_,HH.o.bj⟩,?_⟩
 ·have:=kV.rows.ajX HI.o.1 v;rw[hf] at this;exact this
 ·have:=Zy HH.o.tab HI.o.2.1 v;rw[HI.o.2.2.1] at this;exact this
 ·have:=lU f 1 i ⟨1,id,v⟩ n HI.o.1;rw[HI.o.2.1] at this;have:=HH.o.full;simp at *;omega
 ·have:=lU f 2 i ⟨1,id,v⟩ n HI.o.1;rw[HI.o.2.1] at this;have:=HH.o.Wy;simp at *;omega
 ·exact(iN.o.mono (T:=fun k=>k=p∨k=g) fun k _ h=>.inl h).put (p:=⟨g,i*3+2,none⟩) (.inl (.inr rfl)) _
theorem Gi(p g n bT len aT:Nat)(id:Int)(f:Nat→Slot)(w:World)(h:eW w p g n bT len aT f)(hid:0≤id∧id<4294967296)(hi:i<n)(hs:(f i).state=1)(he:(f i).id=id):
  Calls af 162 #[.pointer (some ⟨p,0,none⟩),.int .u32 id] w fun e w'=>e= .returned (.bool true)∧eW w' p g n bT (len - 1) (aT+1) (upd f i ⟨2,0,0⟩)∧1≤len∧aI (fun k=>k=p∨k=g) w w':=by
 obtain⟨steps,hI⟩:=h.cw;have hsk:vC f n id=((i:Int),true):=Lj;have x0:w.cell? ⟨p,0,none⟩=some (.slice (some ⟨g,0,none⟩) n n):=hI.own.cell 0;have hn:=h.bj;have hc2:=FY f n;have q1:=lU f 1 i ⟨2,0,0⟩ n hi;have q2:=lU f 2 i ⟨2,0,0⟩ n hi;rw[hs] at q1 q2;simp at q1 q2;have rD:1≤len:=by have:=h.full;omega
 have HQ:=aa (show cnt (upd f i ⟨2,0,0⟩) 1 n=len - 1∧cnt (upd f i ⟨2,0,0⟩) 2 n=aT+1∧1≤len∧aT≤16384∧len≤16384 from by have:=h.full;have:=h.Wy;omega);have HF:=Find p g n bT len aT steps id f w hI ai hn.2.2.2.2 hid h.tab.states;have hF:Calls af 245 #[.pointer (some ⟨p,0,none⟩),.int .u32 id] w fun e w'=>e= .returned (.tuple #[.int .i64 (i:Int),.bool true])∧(∃ s,dR w' p g n bT len aT s f)∧aI (· =p) w w':=HF.mono fun e w' h1=>by
  exact UO
 have HH:=aa h;have HG:=aa hF;have zy:(i:Int)<(n:Int):=ai;have hw0:aN.wrap ((len:Int) - 1)=(len:Int) - 1:=by rw[mM];have:=HQ.o;omega
 have a8:aN.wrap ((aT:Int)+1)=(aT:Int)+1:=by rw[mM];have:=HQ.o;omega
 have HI:=aa hi;clear h hF HF hI hsk hs he hn hid hc2 q1 q2;go_enter Tryz.func162,Tryz.ntmps162;go_wp2_with fail;refine ag (fQ p g n w x0) ?_;go_wp2_with fail;refine HG.o.mono ?_;rintro e w1 ⟨rfl,⟨s1,kV⟩,sx⟩;have y0:w1.cell? ⟨p,0,none⟩=some (.slice (some ⟨g,0,none⟩) n n):=kV.own.cell 0;have rA:=aa (kV.rows.there hi);have wK:=aa kV;have iN:=aa sx;clear kV sx;go_wp2_with (refine wpList_store_mid rfl 358 _ _ rfl g (i*3) #[.int .u8 2,.int .u32 0,.int .i64 0] rfl rfl rA.o rfl AA ?_;have fo:=wK.o.store hi ⟨2,0,0⟩;have ki:=(iN.o.mono (T:=fun k=>k=p∨k=g) fun k _ h=>.inl h).grown (dw g (fD ⟨2,0,0⟩) (i*3) w1).1 (fun k e=>.inl (.inr (by injection e with e;exact e.symm)));obtain⟨w3,hw3⟩:=ae (w1.setCells g (i*3) [.int .u8 2,.int .u32 0,.int .i64 0]);change dR (w1.setCells g (i*3) [.int .u8 2,.int .u32 0,.int .i64 0]) _ _ _ _ _ _ _ _ at fo;change aI _ w (w1.setCells g (i*3) [.int .u8 2,.int .u32 0,.int .i64 0]) at ki;change wpList _ _ _ _ _ (w1.setCells g (i*3) [.int .u8 2,.int .u32 0,.int .i64 0]);rw[hw3] at fo ki ⊢;clear hw3 y0 rA;have v2:w3.cell? ⟨p,2,none⟩=some (.int .i64 len):=fo.own.cell 2;have v3:w3.cell? ⟨p,3,none⟩=some (.int .i64 aT):=fo.own.cell 3;have m2:=fo.own.mark 2;have m3:=fo.own.mark 3;have hpl:=fo.own.lt;have gH:=aa fo;have iJ:=aa ki;clear fo ki);go_ret;have fo:=gH.o;have hl2:((len - 1:Nat):Int)=(len:Int) - 1:=by have:=HQ.o;omega
 refine⟨rfl,⟨⟨s1,?_,(fo.rows.same (dJ w3 ⟨p,2,none⟩ _ g (fun e=>fo.apart e.symm))).same (dJ _ ⟨p,3,none⟩ _ g (fun e=>fo.apart e.symm)),fo.apart⟩,Uc HH.o.tab,HQ.o.1,HQ.o.2.1,Au⟩,HQ.o.2.2.1,?_⟩
 ·have:=(fo.own.put 2 (.int .i64 ((len:Int) - 1))).put 3 (.int .i64 ((aT:Int)+1));rw[hl2];push_cast;simpa using this
 ·exact(iJ.o.put (p:=⟨p,2,none⟩) (.inl (.inl rfl)) _).put (p:=⟨p,3,none⟩) (.inl (.inl rfl)) _
