import Derived.Test.YtemighjbfanenaaGreatDoorQk9
import Derived.Test.YtemighjbfanenaaGreatDoorQk4
import Derived.Test.YtemighjbfanenaaGreatDoorQk2
set_option linter.all false
set_option maxRecDepth 100000
set_option maxHeartbeats 16000000
namespace Go.Proofs.YtemighjbfanenaaGreatDoor
open RowKit
open Go.Proofs.Tryz renaming underlying313→G5,prog→af
open List renaming range_succ→PW,getD→qP,getElem?_eq_getElem→bY,range→G4,map_append→PV
open Nat renaming zero_le→cx
open RowKit.Below renaming refl→ar
theorem Vk{p:Prop}(h:p:=by
 go_roundw
 case rel=>exact⟨j+1,ai,by go_num,by rw[L6];exact hJ3,dO⟩
 case measure=>simp[intOf];omega):p:=h
theorem Ib{p:Prop}(h:p:=by injection e with e;exact .inl e.symm):p:=h
theorem Tw{p:Prop}(h:p:=by unfold kept;rw[PW,PV,List.filter_append];simp[h]):p:=h
section
namespace km
theorem Jv{c:Nat→List Value}(h1: ∀ i,∀ u∈c i,u.oneCell'=true): ∀ n,∀ u∈flat c n,u.oneCell'=true
 | 0,u,hu=>by simp[flat] at hu
 | n+1,u,hu=>by
  rw[flat,List.mem_append] at hu;rcases hu with hu|hu
  ·exact Jv h1 n u hu
  exact h1 n u hu
theorem Rows.ah{w w':World}{g n:Nat}{f:Nat→Slot}(h:Rows w g n f)(hb:Below w.heap.size w w'): Rows w' g n f:=h.same (hb.block g h.lt)
theorem xC(s:Slot): (fD s).length=3:=rfl
theorem xB(s:Slot): ∀ u∈fD s,u.oneCell'=true:=by
 intro u hu;simp only[fD,List.mem_cons,List.not_mem_nil,or_false] at hu;rcases hu with rfl|rfl|rfl <;>rfl
theorem sR: (af.info? 358).map (·.size)=some 3:=bh
theorem Qf{w:World}{g n:Nat}{f:Nat→Slot}(h:Rows w g n f): ∀ j u,(flat (fun i=>fD (f i)) n)[j]? =some u→w.cell? ((⟨g,0,none⟩:Addr).add j)=some u:=by
 obtain⟨cur,h1,h2⟩:=h;intro j u hu;rw[qA,show w.cell? ⟨g,j,none⟩=cur[j]? from by simp[World.cell?,h1]];have hj:j<n*3:=by
  have:=(List.getElem?_eq_some_iff.1 hu).1
  rwa [cy (sz:=3) (fun _=>rfl)] at this
 have a1:j / 3<n:=(Nat.div_lt_iff_lt_mul aM).2 hj;have a2:j % 3<3:=Nat.mod_lt _ aM;have a3:j / 3*3+j % 3=j:=by rw[Nat.mul_comm];exact Nat.div_add_mod j 3
 rw[←a3,gC (sz:=3) (fun _=>rfl) a1 a2] at hu;rw[←a3,←hu];have h3:=h2 (j / 3) a1;rcases(show j % 3=0∨j % 3=1∨j % 3=2 from ai)with e|e|e <;>rw[e]
 ·exact h3.1
 ·exact h3.2.1
 exact h3.2.2
def OZ(w0:World)(v:Value)(n:Nat)(f:Nat→Slot)(w:World): Prop:=aP (fun k=>w0.heap.size≤k) w 358 3 v n (fun i=>fD (f i))
theorem Qp(ad:Addr)(n c:Nat)(W:World): (binOp BinOp.eql 313 (.slice (some ad) n c) (.slice none 0 0)).run af W= .ok (.bool false) W:=Go.Lib.run_eql_slice_nil W 313 358 (some ad) n c 0 0 G5
def ajF(n:Nat)(f:Nat→Slot)(w:World)(e:Ending)(w':World): Prop:=∃ g cap,e= .returned (.slice (some ⟨g,0,none⟩) n cap)∧OZ w (.slice (some ⟨g,0,none⟩) n cap) n f w'∧Below w.heap.size w w'
theorem Q8(g n c:Nat)(f:Nat→Slot)(w:World)(h:Rows w g n f)(hn:1≤n∧n≤16384): Calls af 348 #[.slice (some ⟨g,0,none⟩) n c] w (ajF n f w):=by
 obtain⟨i0,hi,hz0,hz1,hz2⟩:=info_parts Dv;have HH:=aa h;have hq:=Qp ⟨g,0,none⟩ n c;clear h;go_enter Tryz.func348,Tryz.ntmps348;go_wp2_with (at_builtin;refine wpList_append_own _ rfl _ _ 313 rfl w.heap.size 358 i0 (.agg #[.int .u8 0,.int .u32 0,.int .i64 0]) 3 16 G5 hi hz0 hz1 hz2 rfl aM (.slice (some ⟨w.heap.size,0,none⟩) 0 0) 0 [] rfl (Ql w 358 3) ⟨g,0,none⟩ n c (flat (fun i=>fD (f i)) n) rfl (by rw[cy (sz:=3) (fun _=>rfl)]) (Qf (HH.o.ah (ay (ar _ _) _))) (Jv (fun i=>xB _) n) P4 ai dM ?_;intro v2 w2 VR hg2 ahc;have Kw:=aa VR;have yc:=aa hg2;obtain⟨VA,vc,hv2⟩:=cB VR;subst hv2;clear VR hg2 ahc);have hw2:=Kw.o;rw[Nat.zero_add,List.nil_append] at hw2;obtain⟨gg,cap,hgg⟩: ∃ gg cap,VA=some ⟨gg,0,none⟩∧vc=cap:=by
  rcases hw2.2 with⟨h0,h1⟩|⟨g',cap',cur,hv,_⟩
  ·omega
  injection hv with e1 _ e2;exact⟨g',cap',e1,e2⟩
 obtain⟨rfl,rfl⟩:=hgg;have hr2:OZ w (.slice (some ⟨gg,0,none⟩) n vc) n f w2:=⟨fj hw2 (cx _),fun g hg=>(eP hw2 hg).2⟩;go_ret;exact⟨gg,vc,dM,hr2,Below.grown (ay (ar _ _) _) yc.o dM (fun k hk=>by simp[Value.ownBlock] at hk;omega)⟩
end km
end
section
namespace km
theorem WZ(st:Nat)(id v:Int)(w:World): Calls af 349 #[.agg #[.int .u8 (st:Int),.int .u32 id,.int .i64 v]] w (fun e w'=>e= .returned (.bool ((st:Int) != 1))∧Below w.heap.size w w'):=by
 go_enter Tryz.func349,Tryz.ntmps349;go_wp2_with fail;go_ret;exact⟨rfl,ay (ar _ _) _⟩
def om(g:Nat)(w:World)(n cap:Nat)(c:Nat→Slot): Prop:=aP (fun k=>k=g) w 358 3 (.slice (some ⟨g,0,none⟩) n cap) n (fun i=>fD (c i))
def aiv(f:Nat→Slot)(n:Nat)(w:World)(e:Ending)(w':World): Prop:=
 Below w.heap.size w w'∧((∃ k,k<n∧(∀ j,j<k→(f j).state=1)∧(f k).state≠1∧e= .returned (.int .i64 (k:Nat)))∨((∀ j,j<n→(f j).state=1)∧e= .returned (.int .i64 (-1))))
theorem Q7(g n cap:Nat)(f:Nat→Slot)(w:World)(h:om g w n cap f)(hn:n≤16384): Calls af 368 #[.slice (some ⟨g,0,none⟩) n cap,.func (.func 349) #[] #[]] w (aiv f n w):=by
 have HH:=aa h;clear h;go_enter Tryz.func368,Tryz.ntmps368;go_wp2_with fail;go_loopw [8] (fun i wr=>∃ j:Nat,j≤n∧i= .int .i64 j∧(∀ x,x<j→(f x).state=1)∧Below w.heap.size w wr) (fun i _=>(n - intOf i).toNat)
 case atStart=>exact⟨0,cx _,rfl,fun x hx=>absurd hx (Nat.not_lt_zero _),ar _ _⟩
 case round=>
  obtain⟨j,hj,rfl,hst,hb⟩:=hrel;have HB:=aa hb;have HST:=aa hst;clear hb hst;by_cases hlt:j<n
  ·have rD:(j:Int)<(n:Int):=by omega
   have hl0:(0:Int)≤(j:Int):=ai;have HR:=aa (HH.o.ah HB.o);go_wp2_with (refine fq rfl 358 _ rfl HR.o (fun _=>rfl) j hlt rfl _ Tryz.underlying358 rfl sR ?_);refine(WZ (f j).state (f j).id (f j).v wr).mono ?_;rintro e w2 ⟨rfl,hb2⟩;have cu:=HB.dQ hb2;clear hb2;by_cases hst:(f j).state=1
   ·have hq:(((f j).state:Int) != 1)=false:=by simp[hst]
    rw[hq];have Hk:=aa hst;clear hst hq;go_wp2_with fail;go_roundw
    case rel=>
     have hall: ∀ x,x<j+1→(f x).state=1:=fun x hx=>by
      rcases Nat.lt_or_ge x j with h1|h1
      ·exact HST.o x h1
      obtain rfl:x=j:=ai;exact Hk.o
     exact⟨j+1,ai,by go_num,hall,cu.o⟩
    case measure=>simp[intOf];omega
   have hq:(((f j).state:Int) != 1)=true:=fZ;rw[hq];have Hk:=aa hst;clear hst hq;go_wp2_with fail;go_ret;exact⟨cu.o,.inl ⟨j,hlt,HST.o,Hk.o,rfl⟩⟩
  have rD: ¬(j:Int)<(n:Int):=ai;go_wp2_with fail;go_ret;exact⟨HB.o,.inr ⟨fun x hx=>HST.o x ai,rfl⟩⟩
def kept(f:Nat→Slot)(j:Nat): List Slot:=((G4 j).map f).filter fun s=>decide (s.state=1)
theorem Vx(f:Nat→Slot)(j:Nat): (kept f j).length≤j:=by
 unfold kept;exact Nat.le_trans (List.length_filter_le _ _) dM
theorem se{f:Nat→Slot}{j:Nat}(h:(f j).state=1): kept f (j+1)=kept f j++ [f j]:=Tw
theorem oG{f:Nat→Slot}{j:Nat}(h:(f j).state≠1): kept f (j+1)=kept f j:=Tw
theorem vM{f:Nat→Slot}: ∀ {j:Nat},(∀ x,x<j→(f x).state=1)→kept f j=(G4 j).map f
 | 0,_=>rfl
 | j+1,h=>by rw[se (h j ai),vM fun x hx=>h x ai,PW,PV];rfl
def Slot.none: Slot:=⟨0,0,0⟩
def py(l:List Slot)(i:Nat): Slot:=l.getD i Slot.none
def adD(f:Nat→Slot)(n g cap:Nat)(w:World)(e:Ending)(w':World): Prop:=e= .returned (.slice (some ⟨g,0,none⟩) (kept f n).length cap)∧om g w' (kept f n).length cap (py (kept f n))∧aI (· =g) w w'
theorem om.congr{g n cap:Nat}{w:World}{c d:Nat→Slot}(h:om g w n cap c)(wF: ∀ i,i<n→c i=d i): om g w n cap d:=
 ⟨by have:=h.own;rwa [lJ (fun i hi=>by rw[wF i hi])] at this,h.block⟩
theorem Du(w:World): (zeroValue 358).run af w= .ok (.agg #[.int .u8 0,.int .u32 0,.int .i64 0]) w:=bh
theorem MJ(g n cap:Nat)(f:Nat→Slot)(w:World)(h:om g w n cap f)(hn:n≤16384)(sr:n≤cap): Calls af 347 #[.slice (some ⟨g,0,none⟩) n cap,.func (.func 349) #[] #[]] w (adD f n g cap w):=by
 have HI:=aa (Q7 g n cap f w h hn);have HH:=aa h;have alN:(n:Int)≤(cap:Int):=ai;clear h;go_enter Tryz.func347,Tryz.ntmps347;go_wp2_with fail;refine HI.o.mono ?_;rintro e w1 ⟨hb1,⟨k,hk,hall,nK,rfl⟩|⟨hall,rfl⟩⟩
 ·have wI:=aa (show om g w1 n cap f from HH.o.ah hb1);have bA:=aa (aI.aW (S:=(· =g)) hb1);have Si:=aa hall;have Sh:=aa nK;have hq:((k:Int)== -1)=false:=by rw[beq_eq_false_iff_ne];omega
  clear hb1 hall nK HI HH;go_wp2_with fail;go_loopw [5,6] (fun i5 i6 wr=>∃ (j:Nat) (c:Nat→Slot),0<j∧j≤n∧i6= .int .i64 j∧i5= .int .i64 ((kept f j).length:Nat)∧(kept f j).length<j∧om g wr n cap c∧(∀ x,x<(kept f j).length→c x=py (kept f j) x)∧(∀ x,j≤x→x<n→c x=f x)∧aI (· =g) w wr) (fun _ i6 _=>(n - intOf i6).toNat)
  case atStart=>
   have hl:(kept f k).length=k:=by rw[vM Si.o];simp
   refine⟨k+1,f,ai,ai,by go_num,by rw[oG Sh.o,hl],by rw[oG Sh.o,hl];omega,wI.o,fun x hx=>?_,fun _ _ _=>rfl,bA.o⟩;rw[oG Sh.o,hl] at hx;rw[oG Sh.o,vM Si.o];unfold py;simp[qP,hx]
  case round=>
   obtain⟨j,c,OI,hj,rfl,rfl,hlen,hR,hc1,hc2,ht⟩:=hrel;obtain⟨i,hi⟩:=ae ((kept f j).length);rw[hi] at hlen hc1 ⊢;have HR:=aa hR;have ku:=aa hc1;have Ek:=aa hc2;have HT:=aa ht;have HIL:=aa hi;have CB:(0:Int)≤(i:Int):=ai;have zy:(i:Int)≤(n:Int):=ai;have hic:(i:Int)≤(cap:Int):=ai;have Md:(i:Int)<(n:Int):=ai;clear hR hc1 hc2 ht hi;by_cases hlt:j<n
   ·have rD:(j:Int)<(n:Int):=by omega
    have hl0:(0:Int)≤(j:Int):=ai;have hcj:c j=f j:=Ek.o j (Nat.le_refl _) hlt;go_wp2_with (refine fq rfl 358 _ rfl HR.o (fun _=>rfl) j hlt rfl _ Tryz.underlying358 rfl sR ?_;rw[hcj];dsimp only[fD]);obtain⟨tb,htb⟩:=ae wr.heap.size;obtain⟨w2,hw2⟩:=ae (wr.alloc (.cells #[.int .u8 ((f j).state:Int),.int .u32 (f j).id,.int .i64 (f j).v] 358));have ha2:=aJ hw2 htb;have hb2:=aK hw2;rw[hw2,htb];have jB:=aa ha2;have cu:=aa hb2;clear hw2 ha2 hb2;refine(WZ (f j).state (f j).id (f j).v w2).mono ?_;rintro e w3 ⟨rfl,hb3⟩;have Wm:=jB.o.ah hb3;have z0:=Wm.cl 0;have z1:=Wm.cl 1;have z2:=Wm.cl 2;have aeT:Below wr.heap.size wr w3:=av cu.o hb3;have iu:=aa (show om g w3 n cap c from HR.o.ah aeT);have iJ:=aa (HT.o.ak aeT);clear Wm aeT hb3;by_cases hst:(f j).state=1
    ·have hq:(((f j).state:Int) != 1)=false:=by simp[hst]
     rw[hq];have Hk:=aa hst;clear hst hq;go_wp2_with (refine cX rfl 358 _ _ rfl iu.o (fun _=>rfl) i ai rfl (fD (f j)) rfl rfl (xB _) sR ?_;intro w5 Jr fF hs5;have qG:=aa Jr;have p3:=aa fF;clear Jr fF hs5);go_roundw
     case rel=>
      have yF:=se Hk.o;have rD:(kept f (j+1)).length=i+1:=by rw[yF,List.length_append,HIL.o];rfl
      refine⟨j+1,cK c i (f j),ai,ai,by go_num,by rw[rD];go_num,ai,?_,fun x hx=>?_,fun x hx ZY=>?_,iJ.o.grown p3.o (fun k e=>Ib)⟩
      ·have h5:=qG.o
       rwa [show cK (fun x=>fD (c x)) i (fD (f j))=fun x=>fD (cK c i (f j) x)from funext fun x=>by unfold cK;split <;>rfl] at h5
      ·rw[rD] at hx;rw[yF];unfold py;by_cases QE:x=i
       ·subst QE;rw[bL];rw[qP,List.getElem?_append_right (by rw[HIL.o];exact Nat.le_refl _),HIL.o,Nat.sub_self];rfl
       rw[bn c (f j) QE,ku.o x ai];unfold py;rw[qP,qP,List.getElem?_append_left (by rw[HIL.o];omega)]
      rw[bn c (f j) ai,Ek.o x ai ZY]
     case measure=>simp[intOf];omega
    have hq:(((f j).state:Int) != 1)=true:=fZ;rw[hq];have Hk:=aa hst;clear hst hq;go_wp2_with fail;go_roundw
    case rel=>
     have yF:=oG Hk.o;exact⟨j+1,c,ai,ai,by go_num,by rw[yF,HIL.o],by rw[yF,HIL.o];omega,iu.o,fun x hx=>by rw[yF,HIL.o] at hx;rw[yF];exact ku.o x hx,fun x hx ZY=>Ek.o x ai ZY,iJ.o⟩
    case measure=>simp[intOf];omega
   have rD: ¬(j:Int)<(n:Int):=ai;obtain rfl:j=n:=ai;have hci:(i:Int)≤(j:Int):=ai;go_wp2_with (refine vr rfl _ 313 rfl 358 (.agg #[.int .u8 0,.int .u32 0,.int .i64 0]) 3 j i g cap (fun x=>fD (c x)) G5 Du rfl (by intro v hv;simp[Value.cells] at hv;rcases hv with rfl|rfl|rfl <;>rfl) _ _ _ rfl rfl (fun _=>rfl) HR.o (fun _=>rfl) ai ?_;intro w5 Jr fF hs5;have qG:=aa Jr;have p3:=aa fF;clear Jr fF hs5);go_ret;refine⟨by rw[HIL.o];rfl,?_,HT.o.grown p3.o (fun k e=>Ib)⟩;rw[HIL.o];exact om.congr qG.o (fun x hx=>ku.o x hx)
 have HK:=aa (show kept f n=(G4 n).map f from vM hall);have hl:(kept f n).length=n:=by rw[HK.o];simp
 have HF:=aa (show adD f n g cap w (.returned (.slice (some ⟨g,0,none⟩) n cap)) w1 from⟨mB,by rw[hl];exact om.congr (HH.o.ah hb1) (fun i hi=>by rw[HK.o];unfold py;simp[qP,hi]),aI.aW hb1⟩);clear hall hb1 HI HH hl;go_wp2_with fail;go_ret;exact HF.o
end km
end
section
namespace km
def WL(x:Slot): Array Value:=#[.int .u32 x.id,.int .i64 x.v]
def KpA(lb g:Nat)(A B:World): Prop:=B.heap[lb]? =A.heap[lb]?∧B.heap[g]? =A.heap[g]?
structure sM(W:World)(lb g:Nat)(l:List Slot): Prop where
 cell: ∃ cap,aG W lb 313 #[.slice (some ⟨g,0,none⟩) l.length cap]∧om g W l.length cap (py l)
 lt:g<W.heap.size
theorem sM.same{W W':World}{lb g:Nat}{l:List Slot}(h:sM W lb g l)(hz:W.heap.size≤W'.heap.size)(h1:W'.heap[lb]? =W.heap[lb]?)(h2:W'.heap[g]? =W.heap[g]?): sM W' lb g l:=by
 obtain⟨cap,ha,hr⟩:=h.cell;exact⟨⟨cap,h1.trans ha,hr.same fun k hk _=>by rw[show k=g from hk];exact h2⟩,Nat.lt_of_lt_of_le h.lt hz⟩
theorem sM.ah{W W':World}{lb g:Nat}{l:List Slot}(h:sM W lb g l)(hb:Below W.heap.size W W'): sM W' lb g l:=by
 obtain⟨cap,ha,hr⟩:=h.cell;exact h.same hb.size (hb.block _ ha.lt) (hb.block _ h.lt)
theorem Pv(n:Nat)(hn:2≤n)(y lb g:Nat)(l:List Slot)(hl:l.length≤16384)(J Jx:List Slot→World→Prop)(W:World)(hJ:AbidesFrom W.heap.size J)
  (hY: ∀ pre x W1,x∈l→J pre W1→pre.length<l.length→YieldAt Fence.wide (n - 1) af y (WL x) W1 fun e W'=>
   (e= .returned (.bool true)∧J (pre++ [x]) W'∧KpA lb g W1 W')∨(e= .returned (.bool false)∧Jx (pre++ [x]) W'))
  (hA:sM W lb g l) (h0:J [] W) :
  CallsIn Fence.wide n af 308 #[.func (.yield y) #[] #[],.pointer (some ⟨lb,0,none⟩)] W fun e W'=>(∃ v,e= .returned v)∧
   ((∃ xs:List Slot,xs=l∧J xs W')∨(∃ pre:List Slot,pre <+: l∧Jx pre W')):=by
 obtain⟨cap,hAr,hRw⟩:=hA.cell;have x0:W.cell? ⟨lb,0,none⟩=some (.slice (some ⟨g,0,none⟩) l.length cap):=hAr.cell 0;refine callsIn_of_wp Tryz.func308 rfl trivial ?_ rfl;simp only[Tryz.ntmps308,List.size_toArray,List.length_cons,List.length_nil,Nat.reduceAdd,Nat.reduceSub,Array.replicate_succ,Array.replicate_zero,List.push_toArray,List.append_toArray,List.nil_append,List.cons_append]
 gi_wp2
 gi_loopw [7] (fun p wr=>∃ j:Nat,j≤l.length∧p= .int .i64 j∧J (l.take j) wr∧om g wr l.length cap (py l)) (fun p _=>(l.length - intOf p).toNat)
 case atStart=>exact⟨0,cx _,rfl,h0,hRw⟩
 case round=>
  obtain⟨j,hj,rfl,hJj,hR⟩:=hrel;by_cases hlt:j<l.length
  ·have rD:(j:Int)<(l.length:Int):=by omega
   have hl0:(0:Int)≤(j:Int):=ai;obtain⟨s,hs⟩:=ae (py l j);have hrg:=hR.range (fun _=>rfl) hlt;rw[hs] at hrg;have r0:wr.cell? ⟨g,j*3,none⟩=some (.int .u8 (s.state:Int)):=hrg 0 _ rfl;have r1:wr.cell? ⟨g,j*3+1,none⟩=some (.int .u32 s.id):=hrg 1 _ rfl;have r2:wr.cell? ⟨g,j*3+2,none⟩=some (.int .i64 s.v):=hrg 2 _ rfl;have L6:l.take (j+1)=l.take j++ [s]:=by
    rw[List.take_succ_eq_append_getElem hlt,←hs];unfold py;rw[qP,bY hlt];rfl
   obtain⟨w2,hw2⟩:=ae (wr.alloc (.cells #[.int .u8 (s.state:Int),.int .u32 s.id,.int .i64 s.v] 358));have hb2:=aK hw2;have hJ2:J (l.take j) w2:=hJ _ wr w2 none hJj hb2.none (fun r e=>nA);have qp:om g w2 l.length cap (py l):=hR.ah hb2;have hlen:(l.take j).length<l.length:=EN;obtain⟨fn,tmps,assign,body,hy,hYR⟩:=hY (l.take j) s w2 (by rw[←hs];unfold py;rw[qP,bY hlt];exact List.getElem_mem _) hJ2 hlen;dsimp only[WL] at hy;have ha2:aG w2 wr.heap.size 358 #[.int .u8 (s.state:Int),.int .u32 s.id,.int .i64 s.v]:=by rw[←hw2];exact aG.fresh wr _ _
   have q1:w2.cell? ⟨wr.heap.size,1,none⟩=some (.int .u32 s.id):=ha2.cell 1;have q2:w2.cell? ⟨wr.heap.size,2,none⟩=some (.int .i64 s.v):=ha2.cell 2
   gi_wp2
   refine⟨fun h=>(nomatch h),hYR.mono ?_⟩;rintro e W3 (⟨rfl,hJ3,hk3⟩|⟨rfl,ae3⟩)
   ·have dO:om g W3 l.length cap (py l):=qp.same fun k hk _=>by rw[show k=g from hk];exact hk3.2
    gi_wp2
    exact Vk
   gi_wp2
   refine bodyPost_ret (results_none rfl _ _ _) rfl ?_;exact⟨⟨_,rfl⟩,.inr ⟨l.take j++ [s],by rw[←L6];exact List.take_prefix _ _,ae3⟩⟩
  have rD: ¬(j:Int)<(l.length:Int):=ai;obtain rfl:j=l.length:=ai
  gi_wp2
  go_end0;rw[List.take_length] at hJj;exact⟨⟨_,rfl⟩,.inl hJj⟩
