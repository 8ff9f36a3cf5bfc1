import Derived.Test.YtemighjbfanenaaGreatDoorPk9
import Derived.Test.YtemighjbfanenaaGreatDoorPk4
import Derived.Test.YtemighjbfanenaaGreatDoorPk2
set_option linter.all false
set_option maxRecDepth 100000
set_option maxHeartbeats 16000000
namespace Go.Proofs.YtemighjbfanenaaGreatDoor
open RowKit
open List renaming map_append→QF,getD→qM,getElem?_eq_getElem→cI,range→Hz,range_succ→QG
open Nat renaming zero_le→cu
open RowKit.Below renaming refl→aq
open Tryz renaming prog→af,underlying313→Hy
theorem Wr{p:Prop}(h:p:=by
 go_roundw
 case rel=>exact⟨j+1,ag,by go_num,by rw[MS];exact hJ3,dS⟩
 case measure=>simp[intOf];omega):p:=h
theorem DU{p:Prop}(h:p:=by rw[beq_eq_false_iff_ne];omega):p:=h
theorem IP{p:Prop}(h:p:=by injection e with e;exact .inl e.symm):p:=h
theorem UE{p:Prop}(h:p:=by unfold kept;rw[QG,QF,List.filter_append];simp[h]):p:=h
section
namespace ky
theorem JZ{c:Nat→List Value}(h1: ∀ i,∀ u∈c i,u.oneCell'=true): ∀ n,∀ u∈flat c n,u.oneCell'=true
 | 0,u,hu=>by simp[flat] at hu
 | n+1,u,hu=>by
  rw[flat,List.mem_append] at hu;rcases hu with hu|hu
  ·exact JZ h1 n u hu
  exact h1 n u hu
theorem Rows.keep{w w':World}{g n:Nat}{f:Nat→Slot}(h:Rows w g n f)(hb:Below w.heap.size w w'): Rows w' g n f:=h.same (hb.block g h.lt)
theorem xA(s:Slot): (fI s).length=3:=rfl
theorem xy(s:Slot): ∀ u∈fI s,u.oneCell'=true:=by
 intro u hu;simp only[fI,List.mem_cons,List.not_mem_nil,or_false] at hu;rcases hu with rfl|rfl|rfl <;>rfl
theorem sV: (af.info? 358).map (·.size)=some 3:=aW
theorem Q3{w:World}{g n:Nat}{f:Nat→Slot}(h:Rows w g n f): ∀ j u,(flat (fun i=>fI (f i)) n)[j]? =some u→w.cell? ((⟨g,0,none⟩:Addr).add j)=some u:=by
 obtain⟨cur,h1,h2⟩:=h;intro j u hu;rw[gU,show w.cell? ⟨g,j,none⟩=cur[j]? from by simp[World.cell?,h1]];have hj:j<n*3:=by
  have:=(List.getElem?_eq_some_iff.1 hu).1
  rwa [bZ (sz:=3) (fun _=>rfl)] at this
 have a1:j / 3<n:=(Nat.div_lt_iff_lt_mul aM).2 hj;have a2:j % 3<3:=Nat.mod_lt _ aM;have a3:j / 3*3+j % 3=j:=by rw[Nat.mul_comm];exact Nat.div_add_mod j 3
 rw[←a3,gD (sz:=3) (fun _=>rfl) a1 a2] at hu;rw[←a3,←hu];have h3:=h2 (j / 3) a1;rcases(show j % 3=0∨j % 3=1∨j % 3=2 from ag)with e|e|e <;>rw[e]
 ·exact h3.1
 ·exact h3.2.1
 exact h3.2.2
def PO(w0:World)(v:Value)(n:Nat)(f:Nat→Slot)(w:World): Prop:=aO (fun k=>w0.heap.size≤k) w 358 3 v n (fun i=>fI (f i))
theorem Rj(ad:Addr)(n c:Nat)(W:World): (binOp BinOp.eql 313 (.slice (some ad) n c) (.slice none 0 0)).run af W= .ok (.bool false) W:=Go.Lib.run_eql_slice_nil W 313 358 (some ad) n c 0 0 Hy
def akY(n:Nat)(f:Nat→Slot)(w:World)(e:Ending)(w':World): Prop:=∃ g cap,e= .returned (.slice (some ⟨g,0,none⟩) n cap)∧PO w (.slice (some ⟨g,0,none⟩) n cap) n f w'∧Below w.heap.size w w'
theorem Sc(g n c:Nat)(f:Nat→Slot)(w:World)(h:Rows w g n f)(hn:1≤n∧n≤16384): Calls af 348 #[.slice (some ⟨g,0,none⟩) n c] w (akY n f w):=by
 obtain⟨i0,hi,hz0,hz1,hz2⟩:=info_parts DY;have HH:=aa h;have hq:=Rj ⟨g,0,none⟩ n c;clear h;go_enter Tryz.func348,Tryz.ntmps348;go_wp2_with (at_builtin;refine wpList_append_own _ rfl _ _ 313 rfl w.heap.size 358 i0 (.agg #[.int .u8 0,.int .u32 0,.int .i64 0]) 3 16 Hy hi hz0 hz1 hz2 rfl aM (.slice (some ⟨w.heap.size,0,none⟩) 0 0) 0 [] rfl (Rb w 358 3) ⟨g,0,none⟩ n c (flat (fun i=>fI (f i)) n) rfl (by rw[bZ (sz:=3) (fun _=>rfl)]) (Q3 (HH.o.keep (aw (aq _ _) _))) (JZ (fun i=>xy _) n) QP ag dA ?_;intro v2 w2 Xa hg2 aiy;have Gz:=aa Xa;have tR:=aa hg2;obtain⟨VA,vc,hv2⟩:=cg Xa;subst hv2;clear Xa hg2 aiy);have hw2:=Gz.o;rw[Nat.zero_add,List.nil_append] at hw2;obtain⟨gg,cap,hgg⟩: ∃ gg cap,VA=some ⟨gg,0,none⟩∧vc=cap:=by
  rcases hw2.2 with⟨h0,h1⟩|⟨g',cap',cur,hv,_⟩
  ·omega
  injection hv with e1 _ e2;exact⟨g',cap',e1,e2⟩
 obtain⟨rfl,rfl⟩:=hgg;have hr2:PO w (.slice (some ⟨gg,0,none⟩) n vc) n f w2:=⟨eJ hw2 (cu _),fun g hg=>(dP hw2 hg).2⟩;go_ret;exact⟨gg,vc,dA,hr2,Below.grown (aw (aq _ _) _) tR.o dA (fun k hk=>by simp[Value.ownBlock] at hk;omega)⟩
end ky
end
section
namespace ky
theorem Yg(st:Nat)(id v:Int)(w:World): Calls af 349 #[.agg #[.int .u8 (st:Int),.int .u32 id,.int .i64 v]] w (fun e w'=>e= .returned (.bool ((st:Int) != 1))∧Below w.heap.size w w'):=by
 go_enter Tryz.func349,Tryz.ntmps349;go_wp2_with fail;go_ret;exact⟨rfl,aw (aq _ _) _⟩
def oh(g:Nat)(w:World)(n cap:Nat)(c:Nat→Slot): Prop:=aO (fun k=>k=g) w 358 3 (.slice (some ⟨g,0,none⟩) n cap) n (fun i=>fI (c i))
def ajP(f:Nat→Slot)(n:Nat)(w:World)(e:Ending)(w':World): Prop:=
 Below w.heap.size w w'∧((∃ k,k<n∧(∀ j,j<k→(f j).state=1)∧(f k).state≠1∧e= .returned (.int .i64 (k:Nat)))∨((∀ j,j<n→(f j).state=1)∧e= .returned (.int .i64 (-1))))
theorem Sb(g n cap:Nat)(f:Nat→Slot)(w:World)(h:oh g w n cap f)(hn:n≤16384): Calls af 368 #[.slice (some ⟨g,0,none⟩) n cap,.func (.func 349) #[] #[]] w (ajP f n w):=by
 have HH:=aa h;clear h;go_enter Tryz.func368,Tryz.ntmps368;go_wp2_with fail;go_loopw [8] (fun i wr=>∃ j:Nat,j≤n∧i= .int .i64 j∧(∀ x,x<j→(f x).state=1)∧Below w.heap.size w wr) (fun i _=>(n - intOf i).toNat)
 case atStart=>exact⟨0,cu _,rfl,fun x hx=>absurd hx (Nat.not_lt_zero _),aq _ _⟩
 case round=>
  obtain⟨j,hj,rfl,hst,hb⟩:=hrel;have HB:=aa hb;have HST:=aa hst;clear hb hst;by_cases hlt:j<n
  ·have tr:(j:Int)<(n:Int):=by omega
   have hl0:(0:Int)≤(j:Int):=ag;have HR:=aa (HH.o.keep HB.o);go_wp2_with (refine fx rfl 358 _ rfl HR.o (fun _=>rfl) j hlt rfl _ Tryz.underlying358 rfl sV ?_);refine(Yg (f j).state (f j).id (f j).v wr).mono ?_;rintro e w2 ⟨rfl,hb2⟩;have cx:=HB.eo hb2;clear hb2;by_cases hst:(f j).state=1
   ·have hq:(((f j).state:Int) != 1)=false:=by simp[hst]
    rw[hq];have Iu:=aa hst;clear hst hq;go_wp2_with fail;go_roundw
    case rel=>
     have hall: ∀ x,x<j+1→(f x).state=1:=fun x hx=>by
      rcases Nat.lt_or_ge x j with h1|h1
      ·exact HST.o x h1
      obtain rfl:x=j:=ag;exact Iu.o
     exact⟨j+1,ag,by go_num,hall,cx.o⟩
    case measure=>simp[intOf];omega
   have hq:(((f j).state:Int) != 1)=true:=fH;rw[hq];have Iu:=aa hst;clear hst hq;go_wp2_with fail;go_ret;exact⟨cx.o,.inl ⟨j,hlt,HST.o,Iu.o,rfl⟩⟩
  have tr: ¬(j:Int)<(n:Int):=ag;go_wp2_with fail;go_ret;exact⟨HB.o,.inr ⟨fun x hx=>HST.o x ag,rfl⟩⟩
def kept(f:Nat→Slot)(j:Nat): List Slot:=((Hz j).map f).filter fun s=>decide (s.state=1)
theorem WI(f:Nat→Slot)(j:Nat): (kept f j).length≤j:=by
 unfold kept;exact Nat.le_trans (List.length_filter_le _ _) dA
theorem r9{f:Nat→Slot}{j:Nat}(h:(f j).state=1): kept f (j+1)=kept f j++ [f j]:=UE
theorem ox{f:Nat→Slot}{j:Nat}(h:(f j).state≠1): kept f (j+1)=kept f j:=UE
theorem vQ{f:Nat→Slot}: ∀ {j:Nat},(∀ x,x<j→(f x).state=1)→kept f j=(Hz j).map f
 | 0,_=>rfl
 | j+1,h=>by rw[r9 (h j ag),vQ fun x hx=>h x ag,QG,QF];rfl
def Slot.none: Slot:=⟨0,0,0⟩
def pd(l:List Slot)(i:Nat): Slot:=l.getD i Slot.none
def aeA(f:Nat→Slot)(n g cap:Nat)(w:World)(e:Ending)(w':World): Prop:=e= .returned (.slice (some ⟨g,0,none⟩) (kept f n).length cap)∧oh g w' (kept f n).length cap (pd (kept f n))∧aG (· =g) w w'
theorem oh.congr{g n cap:Nat}{w:World}{c d:Nat→Slot}(h:oh g w n cap c)(wG: ∀ i,i<n→c i=d i): oh g w n cap d:=
 ⟨by have:=h.own;rwa [iT (fun i hi=>by rw[wG i hi])] at this,h.block⟩
theorem DX(w:World): (zeroValue 358).run af w= .ok (.agg #[.int .u8 0,.int .u32 0,.int .i64 0]) w:=aW
theorem NG(g n cap:Nat)(f:Nat→Slot)(w:World)(h:oh g w n cap f)(hn:n≤16384)(sk:n≤cap): Calls af 347 #[.slice (some ⟨g,0,none⟩) n cap,.func (.func 349) #[] #[]] w (aeA f n g cap w):=by
 have HI:=aa (Sb g n cap f w h hn);have HH:=aa h;have anB:(n:Int)≤(cap:Int):=ag;clear h;go_enter Tryz.func347,Tryz.ntmps347;go_wp2_with fail;refine HI.o.mono ?_;rintro e w1 ⟨hb1,⟨k,hk,hall,nI,rfl⟩|⟨hall,rfl⟩⟩
 ·have EK:=aa (show oh g w1 n cap f from HH.o.keep hb1);have bu:=aa (aG.aU (S:=(· =g)) hb1);have Ty:=aa hall;have Tw:=aa nI;have hq:((k:Int)== -1)=false:=DU;clear hb1 hall nI HI HH;go_wp2_with fail;go_loopw [5,6] (fun i5 i6 wr=>∃ (j:Nat) (c:Nat→Slot),0<j∧j≤n∧i6= .int .i64 j∧i5= .int .i64 ((kept f j).length:Nat)∧(kept f j).length<j∧oh g wr n cap c∧(∀ x,x<(kept f j).length→c x=pd (kept f j) x)∧(∀ x,j≤x→x<n→c x=f x)∧aG (· =g) w wr) (fun _ i6 _=>(n - intOf i6).toNat)
  case atStart=>
   have hl:(kept f k).length=k:=by rw[vQ Ty.o];simp
   refine⟨k+1,f,ag,ag,by go_num,by rw[ox Tw.o,hl],by rw[ox Tw.o,hl];omega,EK.o,fun x hx=>?_,fun _ _ _=>rfl,bu.o⟩;rw[ox Tw.o,hl] at hx;rw[ox Tw.o,vQ Ty.o];unfold pd;simp[qM,hx]
  case round=>
   obtain⟨j,c,Ta,hj,rfl,rfl,hlen,hR,hc1,hc2,ht⟩:=hrel;obtain⟨i,hi⟩:=ae ((kept f j).length);rw[hi] at hlen hc1 ⊢;have HR:=aa hR;have kZ:=aa hc1;have EP:=aa hc2;have HT:=aa ht;have HIL:=aa hi;have yZ:(0:Int)≤(i:Int):=ag;have yY:(i:Int)≤(n:Int):=ag;have hic:(i:Int)≤(cap:Int):=ag;have kC:(i:Int)<(n:Int):=ag;clear hR hc1 hc2 ht hi;by_cases hlt:j<n
   ·have tr:(j:Int)<(n:Int):=by omega
    have hl0:(0:Int)≤(j:Int):=ag;have hcj:c j=f j:=EP.o j (Nat.le_refl _) hlt;go_wp2_with (refine fx rfl 358 _ rfl HR.o (fun _=>rfl) j hlt rfl _ Tryz.underlying358 rfl sV ?_;rw[hcj];dsimp only[fI]);obtain⟨tb,htb⟩:=ae wr.heap.size;obtain⟨w2,hw2⟩:=ae (wr.alloc (.cells #[.int .u8 ((f j).state:Int),.int .u32 (f j).id,.int .i64 (f j).v] 358));have ha2:=aH hw2 htb;have hb2:=aJ hw2;rw[hw2,htb];have jI:=aa ha2;have cx:=aa hb2;clear hw2 ha2 hb2;refine(Yg (f j).state (f j).id (f j).v w2).mono ?_;rintro e w3 ⟨rfl,hb3⟩;have XF:=jI.o.keep hb3;have z0:=XF.cl 0;have z1:=XF.cl 1;have z2:=XF.cl 2;have afZ:Below wr.heap.size wr w3:=ar cx.o hb3;have iO:=aa (show oh g w3 n cap c from HR.o.keep afZ);have jR:=aa (HT.o.ai afZ);clear XF afZ hb3;by_cases hst:(f j).state=1
    ·have hq:(((f j).state:Int) != 1)=false:=by simp[hst]
     rw[hq];have Iu:=aa hst;clear hst hq;go_wp2_with (refine cU rfl 358 _ _ rfl iO.o (fun _=>rfl) i ag rfl (fI (f j)) rfl rfl (xy _) sV ?_;intro w5 JV cJ hs5;have rF:=aa JV;have jk:=aa cJ;clear JV cJ hs5);go_roundw
     case rel=>
      have vV:=r9 Iu.o;have tr:(kept f (j+1)).length=i+1:=by rw[vV,List.length_append,HIL.o];rfl
      refine⟨j+1,cO c i (f j),ag,ag,by go_num,by rw[tr];go_num,ag,?_,fun x hx=>?_,fun x hx hxn=>?_,jR.o.grown jk.o (fun k e=>IP)⟩
      ·have h5:=rF.o
       rwa [show cO (fun x=>fI (c x)) i (fI (f j))=fun x=>fI (cO c i (f j) x)from funext fun x=>by unfold cO;split <;>rfl] at h5
      ·rw[tr] at hx;rw[vV];unfold pd;by_cases RD:x=i
       ·subst RD;rw[bJ];rw[qM,List.getElem?_append_right (by rw[HIL.o];exact Nat.le_refl _),HIL.o,Nat.sub_self];rfl
       rw[bj c (f j) RD,kZ.o x ag];unfold pd;rw[qM,qM,List.getElem?_append_left (by rw[HIL.o];omega)]
      rw[bj c (f j) ag,EP.o x ag hxn]
     case measure=>simp[intOf];omega
    have hq:(((f j).state:Int) != 1)=true:=fH;rw[hq];have Iu:=aa hst;clear hst hq;go_wp2_with fail;go_roundw
    case rel=>
     have vV:=ox Iu.o;exact⟨j+1,c,ag,ag,by go_num,by rw[vV,HIL.o],by rw[vV,HIL.o];omega,iO.o,fun x hx=>by rw[vV,HIL.o] at hx;rw[vV];exact kZ.o x hx,fun x hx hxn=>EP.o x ag hxn,jR.o⟩
    case measure=>simp[intOf];omega
   have tr: ¬(j:Int)<(n:Int):=ag;obtain rfl:j=n:=ag;have hci:(i:Int)≤(j:Int):=ag;go_wp2_with (refine vz rfl _ 313 rfl 358 (.agg #[.int .u8 0,.int .u32 0,.int .i64 0]) 3 j i g cap (fun x=>fI (c x)) Hy DX rfl (by intro v hv;simp[Value.cells] at hv;rcases hv with rfl|rfl|rfl <;>rfl) _ _ _ rfl rfl (fun _=>rfl) HR.o (fun _=>rfl) ag ?_;intro w5 JV cJ hs5;have rF:=aa JV;have jk:=aa cJ;clear JV cJ hs5);go_ret;refine⟨by rw[HIL.o];rfl,?_,HT.o.grown jk.o (fun k e=>IP)⟩;rw[HIL.o];exact oh.congr rF.o (fun x hx=>kZ.o x hx)
 have HK:=aa (show kept f n=(Hz n).map f from vQ hall);have hl:(kept f n).length=n:=by rw[HK.o];simp
 have HF:=aa (show aeA f n g cap w (.returned (.slice (some ⟨g,0,none⟩) n cap)) w1 from⟨mm,by rw[hl];exact oh.congr (HH.o.keep hb1) (fun i hi=>by rw[HK.o];unfold pd;simp[qM,hi]),aG.aU hb1⟩);clear hall hb1 HI HH hl;go_wp2_with fail;go_ret;exact HF.o
end ky
end
section
namespace ky
def X3(x:Slot): Array Value:=#[.int .u32 x.id,.int .i64 x.v]
def KpA(lb g:Nat)(A B:World): Prop:=B.heap[lb]? =A.heap[lb]?∧B.heap[g]? =A.heap[g]?
structure sP(W:World)(lb g:Nat)(l:List Slot): Prop where
 cell: ∃ cap,aD W lb 313 #[.slice (some ⟨g,0,none⟩) l.length cap]∧oh g W l.length cap (pd l)
 lt:g<W.heap.size
theorem sP.same{W W':World}{lb g:Nat}{l:List Slot}(h:sP W lb g l)(hz:W.heap.size≤W'.heap.size)(h1:W'.heap[lb]? =W.heap[lb]?)(h2:W'.heap[g]? =W.heap[g]?): sP W' lb g l:=by
 obtain⟨cap,ha,hr⟩:=h.cell;exact⟨⟨cap,h1.trans ha,hr.same fun k hk _=>by rw[show k=g from hk];exact h2⟩,Nat.lt_of_lt_of_le h.lt hz⟩
theorem sP.keep{W W':World}{lb g:Nat}{l:List Slot}(h:sP W lb g l)(hb:Below W.heap.size W W'): sP W' lb g l:=by
 obtain⟨cap,ha,hr⟩:=h.cell;exact h.same hb.size (hb.block _ ha.lt) (hb.block _ h.lt)
theorem Qg(n:Nat)(hn:2≤n)(y lb g:Nat)(l:List Slot)(hl:l.length≤16384)(J Jx:List Slot→World→Prop)(W:World)(hJ:AbidesFrom W.heap.size J)
  (hY: ∀ pre x W1,x∈l→J pre W1→pre.length<l.length→YieldAt Fence.wide (n - 1) af y (X3 x) W1 fun e W'=>
   (e= .returned (.bool true)∧J (pre++ [x]) W'∧KpA lb g W1 W')∨(e= .returned (.bool false)∧Jx (pre++ [x]) W'))
  (hA:sP W lb g l) (h0:J [] W) :
  CallsIn Fence.wide n af 308 #[.func (.yield y) #[] #[],.pointer (some ⟨lb,0,none⟩)] W fun e W'=>(∃ v,e= .returned v)∧
   ((∃ xs:List Slot,xs=l∧J xs W')∨(∃ pre:List Slot,pre <+: l∧Jx pre W')):=by
 obtain⟨cap,hAr,hRw⟩:=hA.cell;have x0:W.cell? ⟨lb,0,none⟩=some (.slice (some ⟨g,0,none⟩) l.length cap):=hAr.cell 0;refine callsIn_of_wp Tryz.func308 rfl trivial ?_ rfl;simp only[Tryz.ntmps308,List.size_toArray,List.length_cons,List.length_nil,Nat.reduceAdd,Nat.reduceSub,Array.replicate_succ,Array.replicate_zero,List.push_toArray,List.append_toArray,List.nil_append,List.cons_append]
 gi_wp2
 gi_loopw [7] (fun p wr=>∃ j:Nat,j≤l.length∧p= .int .i64 j∧J (l.take j) wr∧oh g wr l.length cap (pd l)) (fun p _=>(l.length - intOf p).toNat)
 case atStart=>exact⟨0,cu _,rfl,h0,hRw⟩
 case round=>
  obtain⟨j,hj,rfl,hJj,hR⟩:=hrel;by_cases hlt:j<l.length
  ·have tr:(j:Int)<(l.length:Int):=by omega
   have hl0:(0:Int)≤(j:Int):=ag;obtain⟨s,hs⟩:=ae (pd l j);have hrg:=hR.range (fun _=>rfl) hlt;rw[hs] at hrg;have r0:wr.cell? ⟨g,j*3,none⟩=some (.int .u8 (s.state:Int)):=hrg 0 _ rfl;have r1:wr.cell? ⟨g,j*3+1,none⟩=some (.int .u32 s.id):=hrg 1 _ rfl;have r2:wr.cell? ⟨g,j*3+2,none⟩=some (.int .i64 s.v):=hrg 2 _ rfl;have MS:l.take (j+1)=l.take j++ [s]:=by
    rw[List.take_succ_eq_append_getElem hlt,←hs];unfold pd;rw[qM,cI hlt];rfl
   obtain⟨w2,hw2⟩:=ae (wr.alloc (.cells #[.int .u8 (s.state:Int),.int .u32 s.id,.int .i64 s.v] 358));have hb2:=aJ hw2;have hJ2:J (l.take j) w2:=hJ _ wr w2 none hJj hb2.none (fun r e=>pZ);have qo:oh g w2 l.length cap (pd l):=hR.keep hb2;have hlen:(l.take j).length<l.length:=AI;obtain⟨fn,tmps,assign,body,hy,hYR⟩:=hY (l.take j) s w2 (by rw[←hs];unfold pd;rw[qM,cI hlt];exact List.getElem_mem _) hJ2 hlen;dsimp only[X3] at hy;have ha2:aD w2 wr.heap.size 358 #[.int .u8 (s.state:Int),.int .u32 s.id,.int .i64 s.v]:=by rw[←hw2];exact aD.fresh wr _ _
   have q1:w2.cell? ⟨wr.heap.size,1,none⟩=some (.int .u32 s.id):=ha2.cell 1;have q2:w2.cell? ⟨wr.heap.size,2,none⟩=some (.int .i64 s.v):=ha2.cell 2
   gi_wp2
   refine⟨fun h=>(nomatch h),hYR.mono ?_⟩;rintro e W3 (⟨rfl,hJ3,hk3⟩|⟨rfl,af9⟩)
   ·have dS:oh g W3 l.length cap (pd l):=qo.same fun k hk _=>by rw[show k=g from hk];exact hk3.2
    gi_wp2
    exact Wr
   gi_wp2
   refine bodyPost_ret (results_none rfl _ _ _) rfl ?_;exact⟨⟨_,rfl⟩,.inr ⟨l.take j++ [s],by rw[←MS];exact List.take_prefix _ _,af9⟩⟩
  have tr: ¬(j:Int)<(l.length:Int):=ag;obtain rfl:j=l.length:=ag
  gi_wp2
  go_end0;rw[List.take_length] at hJj;exact⟨⟨_,rfl⟩,.inl hJj⟩
