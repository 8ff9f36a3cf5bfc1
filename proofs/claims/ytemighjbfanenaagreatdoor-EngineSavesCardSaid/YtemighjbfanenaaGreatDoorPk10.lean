import Derived.Test.YtemighjbfanenaaGreatDoorPk9
import Derived.Test.YtemighjbfanenaaGreatDoorPk4
import Derived.Test.YtemighjbfanenaaGreatDoorPk2
set_option linter.all false
set_option maxRecDepth 100000
set_option maxHeartbeats 16000000
namespace Go.Proofs.YtemighjbfanenaaGreatDoor
open RowKit
open Go.Proofs.Tryz renaming underlying313→Hr,prog→af
open List renaming range_succ→P7,range→Hq,getElem?_eq_getElem→bY,map_append→P8,getD→qV
open Nat renaming zero_le→cm
open RowKit.Below renaming refl→au
theorem Vv{p:Prop}(h:p:=by
 go_roundw
 case rel=>exact⟨j+1,aj,by go_num,by rw[Mn];exact hJ3,dN⟩
 case measure=>simp[intOf];omega):p:=h
theorem ID{p:Prop}(h:p:=by injection e with e;exact .inl e.symm):p:=h
theorem TG{p:Prop}(h:p:=by unfold kept;rw[P7,P8,List.filter_append];simp[h]):p:=h
section
namespace ki
theorem JS{c:Nat→List Value}(h1: ∀ i,∀ u∈c i,u.oneCell'=true): ∀ n,∀ u∈flat c n,u.oneCell'=true
 | 0,u,hu=>by simp[flat] at hu
 | n+1,u,hu=>by
  rw[flat,List.mem_append] at hu;rcases hu with hu|hu
  ·exact JS h1 n u hu
  exact h1 n u hu
theorem Rows.ai{w w':World}{g n:Nat}{f:Nat→Slot}(h:Rows w g n f)(hb:Below w.heap.size w w'): Rows w' g n f:=h.same (hb.block g h.lt)
theorem xM(s:Slot): (fD s).length=3:=rfl
theorem xL(s:Slot): ∀ u∈fD s,u.oneCell'=true:=by
 intro u hu;simp only[fD,List.mem_cons,List.not_mem_nil,or_false] at hu;rcases hu with rfl|rfl|rfl <;>rfl
theorem sW: (af.info? 358).map (·.size)=some 3:=br
theorem Qr{w:World}{g n:Nat}{f:Nat→Slot}(h:Rows w g n f): ∀ j u,(flat (fun i=>fD (f i)) n)[j]? =some u→w.cell? ((⟨g,0,none⟩:Addr).add j)=some u:=by
 obtain⟨cur,h1,h2⟩:=h;intro j u hu;rw[qF,show w.cell? ⟨g,j,none⟩=cur[j]? from by simp[World.cell?,h1]];have hj:j<n*3:=by
  have:=(List.getElem?_eq_some_iff.1 hu).1
  rwa [cf (sz:=3) (fun _=>rfl)] at this
 have a1:j / 3<n:=(Nat.div_lt_iff_lt_mul aN).2 hj;have a2:j % 3<3:=Nat.mod_lt _ aN;have a3:j / 3*3+j % 3=j:=by rw[Nat.mul_comm];exact Nat.div_add_mod j 3
 rw[←a3,gA (sz:=3) (fun _=>rfl) a1 a2] at hu;rw[←a3,←hu];have h3:=h2 (j / 3) a1;rcases(show j % 3=0∨j % 3=1∨j % 3=2 from aj)with e|e|e <;>rw[e]
 ·exact h3.1
 ·exact h3.2.1
 exact h3.2.2
def Pc(w0:World)(v:Value)(n:Nat)(f:Nat→Slot)(w:World): Prop:=aM (fun k=>w0.heap.size≤k) w 358 3 v n (fun i=>fD (f i))
theorem QB(ad:Addr)(n c:Nat)(W:World): (binOp BinOp.eql 313 (.slice (some ad) n c) (.slice none 0 0)).run af W= .ok (.bool false) W:=Go.Lib.run_eql_slice_nil W 313 358 (some ad) n c 0 0 Hr
def ajH(n:Nat)(f:Nat→Slot)(w:World)(e:Ending)(w':World): Prop:=∃ g cap,e= .returned (.slice (some ⟨g,0,none⟩) n cap)∧Pc w (.slice (some ⟨g,0,none⟩) n cap) n f w'∧Below w.heap.size w w'
theorem Rt(g n c:Nat)(f:Nat→Slot)(w:World)(h:Rows w g n f)(hn:1≤n∧n≤16384): Calls af 348 #[.slice (some ⟨g,0,none⟩) n c] w (ajH n f w):=by
 obtain⟨i0,hi,hz0,hz1,hz2⟩:=info_parts DL;have HH:=aa h;have hq:=QB ⟨g,0,none⟩ n c;clear h;go_enter Tryz.func348,Tryz.ntmps348;go_wp2_with (at_builtin;refine wpList_append_own _ rfl _ _ 313 rfl w.heap.size 358 i0 (.agg #[.int .u8 0,.int .u32 0,.int .i64 0]) 3 16 Hr hi hz0 hz1 hz2 rfl aN (.slice (some ⟨w.heap.size,0,none⟩) 0 0) 0 [] rfl (Qx w 358 3) ⟨g,0,none⟩ n c (flat (fun i=>fD (f i)) n) rfl (by rw[cf (sz:=3) (fun _=>rfl)]) (Qr (HH.o.ai (ax (au _ _) _))) (JS (fun i=>xL _) n) Qf aj dR ?_;intro v2 w2 VZ hg2 ahj;have KR:=aa VZ;have yq:=aa hg2;obtain⟨VA,vc,hv2⟩:=cy VZ;subst hv2;clear VZ hg2 ahj);have hw2:=KR.o;rw[Nat.zero_add,List.nil_append] at hw2;obtain⟨gg,cap,hgg⟩: ∃ gg cap,VA=some ⟨gg,0,none⟩∧vc=cap:=by
  rcases hw2.2 with⟨h0,h1⟩|⟨g',cap',cur,hv,_⟩
  ·omega
  injection hv with e1 _ e2;exact⟨g',cap',e1,e2⟩
 obtain⟨rfl,rfl⟩:=hgg;have hr2:Pc w (.slice (some ⟨gg,0,none⟩) n vc) n f w2:=⟨fg hw2 (cm _),fun g hg=>(dM hw2 hg).2⟩;go_ret;exact⟨gg,vc,dR,hr2,Below.grown (ax (au _ _) _) yq.o dR (fun k hk=>by simp[Value.ownBlock] at hk;omega)⟩
end ki
end
section
namespace ki
theorem Xe(st:Nat)(id v:Int)(w:World): Calls af 349 #[.agg #[.int .u8 (st:Int),.int .u32 id,.int .i64 v]] w (fun e w'=>e= .returned (.bool ((st:Int) != 1))∧Below w.heap.size w w'):=by
 go_enter Tryz.func349,Tryz.ntmps349;go_wp2_with fail;go_ret;exact⟨rfl,ax (au _ _) _⟩
def om(g:Nat)(w:World)(n cap:Nat)(c:Nat→Slot): Prop:=aM (fun k=>k=g) w 358 3 (.slice (some ⟨g,0,none⟩) n cap) n (fun i=>fD (c i))
def aiz(f:Nat→Slot)(n:Nat)(w:World)(e:Ending)(w':World): Prop:=
 Below w.heap.size w w'∧((∃ k,k<n∧(∀ j,j<k→(f j).state=1)∧(f k).state≠1∧e= .returned (.int .i64 (k:Nat)))∨((∀ j,j<n→(f j).state=1)∧e= .returned (.int .i64 (-1))))
theorem Rs(g n cap:Nat)(f:Nat→Slot)(w:World)(h:om g w n cap f)(hn:n≤16384): Calls af 368 #[.slice (some ⟨g,0,none⟩) n cap,.func (.func 349) #[] #[]] w (aiz f n w):=by
 have HH:=aa h;clear h;go_enter Tryz.func368,Tryz.ntmps368;go_wp2_with fail;go_loopw [8] (fun i wr=>∃ j:Nat,j≤n∧i= .int .i64 j∧(∀ x,x<j→(f x).state=1)∧Below w.heap.size w wr) (fun i _=>(n - intOf i).toNat)
 case atStart=>exact⟨0,cm _,rfl,fun x hx=>absurd hx (Nat.not_lt_zero _),au _ _⟩
 case round=>
  obtain⟨j,hj,rfl,hst,hb⟩:=hrel;have HB:=aa hb;have HST:=aa hst;clear hb hst;by_cases hlt:j<n
  ·have oZ:(j:Int)<(n:Int):=by omega
   have hl0:(0:Int)≤(j:Int):=aj;have HR:=aa (HH.o.ai HB.o);go_wp2_with (refine dQ rfl 358 _ rfl HR.o (fun _=>rfl) j hlt rfl _ Tryz.underlying358 rfl sW ?_);refine(Xe (f j).state (f j).id (f j).v wr).mono ?_;rintro e w2 ⟨rfl,hb2⟩;have cu:=HB.dP hb2;clear hb2;by_cases hst:(f j).state=1
   ·have hq:(((f j).state:Int) != 1)=false:=by simp[hst]
    rw[hq];have Ig:=aa hst;clear hst hq;go_wp2_with fail;go_roundw
    case rel=>
     have hall: ∀ x,x<j+1→(f x).state=1:=fun x hx=>by
      rcases Nat.lt_or_ge x j with h1|h1
      ·exact HST.o x h1
      obtain rfl:x=j:=aj;exact Ig.o
     exact⟨j+1,aj,by go_num,hall,cu.o⟩
    case measure=>simp[intOf];omega
   have hq:(((f j).state:Int) != 1)=true:=fV;rw[hq];have Ig:=aa hst;clear hst hq;go_wp2_with fail;go_ret;exact⟨cu.o,.inl ⟨j,hlt,HST.o,Ig.o,rfl⟩⟩
  have oZ: ¬(j:Int)<(n:Int):=aj;go_wp2_with fail;go_ret;exact⟨HB.o,.inr ⟨fun x hx=>HST.o x aj,rfl⟩⟩
def kept(f:Nat→Slot)(j:Nat): List Slot:=((Hq j).map f).filter fun s=>decide (s.state=1)
theorem VJ(f:Nat→Slot)(j:Nat): (kept f j).length≤j:=by
 unfold kept;exact Nat.le_trans (List.length_filter_le _ _) dR
theorem sf{f:Nat→Slot}{j:Nat}(h:(f j).state=1): kept f (j+1)=kept f j++ [f j]:=TG
theorem oF{f:Nat→Slot}{j:Nat}(h:(f j).state≠1): kept f (j+1)=kept f j:=TG
theorem vW{f:Nat→Slot}: ∀ {j:Nat},(∀ x,x<j→(f x).state=1)→kept f j=(Hq j).map f
 | 0,_=>rfl
 | j+1,h=>by rw[sf (h j aj),vW fun x hx=>h x aj,P7,P8];rfl
def Slot.none: Slot:=⟨0,0,0⟩
def pw(l:List Slot)(i:Nat): Slot:=l.getD i Slot.none
def adM(f:Nat→Slot)(n g cap:Nat)(w:World)(e:Ending)(w':World): Prop:=e= .returned (.slice (some ⟨g,0,none⟩) (kept f n).length cap)∧om g w' (kept f n).length cap (pw (kept f n))∧aI (· =g) w w'
theorem om.congr{g n cap:Nat}{w:World}{c d:Nat→Slot}(h:om g w n cap c)(wR: ∀ i,i<n→c i=d i): om g w n cap d:=
 ⟨by have:=h.own;rwa [iQ (fun i hi=>by rw[wR i hi])] at this,h.block⟩
theorem DK(w:World): (zeroValue 358).run af w= .ok (.agg #[.int .u8 0,.int .u32 0,.int .i64 0]) w:=br
theorem MZ(g n cap:Nat)(f:Nat→Slot)(w:World)(h:om g w n cap f)(hn:n≤16384)(sx:n≤cap): Calls af 347 #[.slice (some ⟨g,0,none⟩) n cap,.func (.func 349) #[] #[]] w (adM f n g cap w):=by
 have HI:=aa (Rs g n cap f w h hn);have HH:=aa h;have alR:(n:Int)≤(cap:Int):=aj;clear h;go_enter Tryz.func347,Tryz.ntmps347;go_wp2_with fail;refine HI.o.mono ?_;rintro e w1 ⟨hb1,⟨k,hk,hall,nN,rfl⟩|⟨hall,rfl⟩⟩
 ·have wT:=aa (show om g w1 n cap f from HH.o.ai hb1);have bz:=aa (aI.aU (S:=(· =g)) hb1);have Sz:=aa hall;have Sy:=aa nN;have hq:((k:Int)== -1)=false:=by rw[beq_eq_false_iff_ne];omega
  clear hb1 hall nN HI HH;go_wp2_with fail;go_loopw [5,6] (fun i5 i6 wr=>∃ (j:Nat) (c:Nat→Slot),0<j∧j≤n∧i6= .int .i64 j∧i5= .int .i64 ((kept f j).length:Nat)∧(kept f j).length<j∧om g wr n cap c∧(∀ x,x<(kept f j).length→c x=pw (kept f j) x)∧(∀ x,j≤x→x<n→c x=f x)∧aI (· =g) w wr) (fun _ i6 _=>(n - intOf i6).toNat)
  case atStart=>
   have hl:(kept f k).length=k:=by rw[vW Sz.o];simp
   refine⟨k+1,f,aj,aj,by go_num,by rw[oF Sy.o,hl],by rw[oF Sy.o,hl];omega,wT.o,fun x hx=>?_,fun _ _ _=>rfl,bz.o⟩;rw[oF Sy.o,hl] at hx;rw[oF Sy.o,vW Sz.o];unfold pw;simp[qV,hx]
  case round=>
   obtain⟨j,c,Y7,hj,rfl,rfl,hlen,hR,hc1,hc2,ht⟩:=hrel;obtain⟨i,hi⟩:=ae ((kept f j).length);rw[hi] at hlen hc1 ⊢;have HR:=aa hR;have kR:=aa hc1;have zB:=aa hc2;have HT:=aa ht;have HIL:=aa hi;have CT:(0:Int)≤(i:Int):=aj;have Dn:(i:Int)≤(n:Int):=aj;have hic:(i:Int)≤(cap:Int):=aj;have Mv:(i:Int)<(n:Int):=aj;clear hR hc1 hc2 ht hi;by_cases hlt:j<n
   ·have oZ:(j:Int)<(n:Int):=by omega
    have hl0:(0:Int)≤(j:Int):=aj;have hcj:c j=f j:=zB.o j (Nat.le_refl _) hlt;go_wp2_with (refine dQ rfl 358 _ rfl HR.o (fun _=>rfl) j hlt rfl _ Tryz.underlying358 rfl sW ?_;rw[hcj];dsimp only[fD]);obtain⟨tb,htb⟩:=ae wr.heap.size;obtain⟨w2,hw2⟩:=ae (wr.alloc (.cells #[.int .u8 ((f j).state:Int),.int .u32 (f j).id,.int .i64 (f j).v] 358));have ha2:=aK hw2 htb;have hb2:=aL hw2;rw[hw2,htb];have iZ:=aa ha2;have cu:=aa hb2;clear hw2 ha2 hb2;refine(Xe (f j).state (f j).id (f j).v w2).mono ?_;rintro e w3 ⟨rfl,hb3⟩;have Wv:=iZ.o.ai hb3;have z0:=Wv.cl 0;have z1:=Wv.cl 1;have z2:=Wv.cl 2;have ae2:Below wr.heap.size wr w3:=av cu.o hb3;have gM:=aa (show om g w3 n cap c from HR.o.ai ae2);have jF:=aa (HT.o.ak ae2);clear Wv ae2 hb3;by_cases hst:(f j).state=1
    ·have hq:(((f j).state:Int) != 1)=false:=by simp[hst]
     rw[hq];have Ig:=aa hst;clear hst hq;go_wp2_with (refine cU rfl 358 _ _ rfl gM.o (fun _=>rfl) i aj rfl (fD (f j)) rfl rfl (xL _) sW ?_;intro w5 JO ft hs5;have qL:=aa JO;have oP:=aa ft;clear JO ft hs5);go_roundw
     case rel=>
      have yU:=sf Ig.o;have oZ:(kept f (j+1)).length=i+1:=by rw[yU,List.length_append,HIL.o];rfl
      refine⟨j+1,cH c i (f j),aj,aj,by go_num,by rw[oZ];go_num,aj,?_,fun x hx=>?_,fun x hx Z8=>?_,jF.o.grown oP.o (fun k e=>ID)⟩
      ·have h5:=qL.o
       rwa [show cH (fun x=>fD (c x)) i (fD (f j))=fun x=>fD (cH c i (f j) x)from funext fun x=>by unfold cH;split <;>rfl] at h5
      ·rw[oZ] at hx;rw[yU];unfold pw;by_cases QQ:x=i
       ·subst QQ;rw[bM];rw[qV,List.getElem?_append_right (by rw[HIL.o];exact Nat.le_refl _),HIL.o,Nat.sub_self];rfl
       rw[bl c (f j) QQ,kR.o x aj];unfold pw;rw[qV,qV,List.getElem?_append_left (by rw[HIL.o];omega)]
      rw[bl c (f j) aj,zB.o x aj Z8]
     case measure=>simp[intOf];omega
    have hq:(((f j).state:Int) != 1)=true:=fV;rw[hq];have Ig:=aa hst;clear hst hq;go_wp2_with fail;go_roundw
    case rel=>
     have yU:=oF Ig.o;exact⟨j+1,c,aj,aj,by go_num,by rw[yU,HIL.o],by rw[yU,HIL.o];omega,gM.o,fun x hx=>by rw[yU,HIL.o] at hx;rw[yU];exact kR.o x hx,fun x hx Z8=>zB.o x aj Z8,jF.o⟩
    case measure=>simp[intOf];omega
   have oZ: ¬(j:Int)<(n:Int):=aj;obtain rfl:j=n:=aj;have hci:(i:Int)≤(j:Int):=aj;go_wp2_with (refine vD rfl _ 313 rfl 358 (.agg #[.int .u8 0,.int .u32 0,.int .i64 0]) 3 j i g cap (fun x=>fD (c x)) Hr DK rfl (by intro v hv;simp[Value.cells] at hv;rcases hv with rfl|rfl|rfl <;>rfl) _ _ _ rfl rfl (fun _=>rfl) HR.o (fun _=>rfl) aj ?_;intro w5 JO ft hs5;have qL:=aa JO;have oP:=aa ft;clear JO ft hs5);go_ret;refine⟨by rw[HIL.o];rfl,?_,HT.o.grown oP.o (fun k e=>ID)⟩;rw[HIL.o];exact om.congr qL.o (fun x hx=>kR.o x hx)
 have HK:=aa (show kept f n=(Hq n).map f from vW hall);have hl:(kept f n).length=n:=by rw[HK.o];simp
 have HF:=aa (show adM f n g cap w (.returned (.slice (some ⟨g,0,none⟩) n cap)) w1 from⟨mo,by rw[hl];exact om.congr (HH.o.ai hb1) (fun i hi=>by rw[HK.o];unfold pw;simp[qV,hi]),aI.aU hb1⟩);clear hall hb1 HI HH hl;go_wp2_with fail;go_ret;exact HF.o
end ki
end
section
namespace ki
def WU(x:Slot): Array Value:=#[.int .u32 x.id,.int .i64 x.v]
def KpA(lb g:Nat)(A B:World): Prop:=B.heap[lb]? =A.heap[lb]?∧B.heap[g]? =A.heap[g]?
structure sS(W:World)(lb g:Nat)(l:List Slot): Prop where
 cell: ∃ cap,aG W lb 313 #[.slice (some ⟨g,0,none⟩) l.length cap]∧om g W l.length cap (pw l)
 lt:g<W.heap.size
theorem sS.same{W W':World}{lb g:Nat}{l:List Slot}(h:sS W lb g l)(hz:W.heap.size≤W'.heap.size)(h1:W'.heap[lb]? =W.heap[lb]?)(h2:W'.heap[g]? =W.heap[g]?): sS W' lb g l:=by
 obtain⟨cap,ha,hr⟩:=h.cell;exact⟨⟨cap,h1.trans ha,hr.same fun k hk _=>by rw[show k=g from hk];exact h2⟩,Nat.lt_of_lt_of_le h.lt hz⟩
theorem sS.ai{W W':World}{lb g:Nat}{l:List Slot}(h:sS W lb g l)(hb:Below W.heap.size W W'): sS W' lb g l:=by
 obtain⟨cap,ha,hr⟩:=h.cell;exact h.same hb.size (hb.block _ ha.lt) (hb.block _ h.lt)
theorem PI(n:Nat)(hn:2≤n)(y lb g:Nat)(l:List Slot)(hl:l.length≤16384)(J Jx:List Slot→World→Prop)(W:World)(hJ:AbidesFrom W.heap.size J)
  (hY: ∀ pre x W1,x∈l→J pre W1→pre.length<l.length→YieldAt Fence.wide (n - 1) af y (WU x) W1 fun e W'=>
   (e= .returned (.bool true)∧J (pre++ [x]) W'∧KpA lb g W1 W')∨(e= .returned (.bool false)∧Jx (pre++ [x]) W'))
  (hA:sS W lb g l) (h0:J [] W) :
  CallsIn Fence.wide n af 308 #[.func (.yield y) #[] #[],.pointer (some ⟨lb,0,none⟩)] W fun e W'=>(∃ v,e= .returned v)∧
   ((∃ xs:List Slot,xs=l∧J xs W')∨(∃ pre:List Slot,pre <+: l∧Jx pre W')):=by
 obtain⟨cap,hAr,hRw⟩:=hA.cell;have x0:W.cell? ⟨lb,0,none⟩=some (.slice (some ⟨g,0,none⟩) l.length cap):=hAr.cell 0;refine callsIn_of_wp Tryz.func308 rfl trivial ?_ rfl;simp only[Tryz.ntmps308,List.size_toArray,List.length_cons,List.length_nil,Nat.reduceAdd,Nat.reduceSub,Array.replicate_succ,Array.replicate_zero,List.push_toArray,List.append_toArray,List.nil_append,List.cons_append]
 gi_wp2
 gi_loopw [7] (fun p wr=>∃ j:Nat,j≤l.length∧p= .int .i64 j∧J (l.take j) wr∧om g wr l.length cap (pw l)) (fun p _=>(l.length - intOf p).toNat)
 case atStart=>exact⟨0,cm _,rfl,h0,hRw⟩
 case round=>
  obtain⟨j,hj,rfl,hJj,hR⟩:=hrel;by_cases hlt:j<l.length
  ·have oZ:(j:Int)<(l.length:Int):=by omega
   have hl0:(0:Int)≤(j:Int):=aj;obtain⟨s,hs⟩:=ae (pw l j);have hrg:=hR.range (fun _=>rfl) hlt;rw[hs] at hrg;have r0:wr.cell? ⟨g,j*3,none⟩=some (.int .u8 (s.state:Int)):=hrg 0 _ rfl;have r1:wr.cell? ⟨g,j*3+1,none⟩=some (.int .u32 s.id):=hrg 1 _ rfl;have r2:wr.cell? ⟨g,j*3+2,none⟩=some (.int .i64 s.v):=hrg 2 _ rfl;have Mn:l.take (j+1)=l.take j++ [s]:=by
    rw[List.take_succ_eq_append_getElem hlt,←hs];unfold pw;rw[qV,bY hlt];rfl
   obtain⟨w2,hw2⟩:=ae (wr.alloc (.cells #[.int .u8 (s.state:Int),.int .u32 s.id,.int .i64 s.v] 358));have hb2:=aL hw2;have hJ2:J (l.take j) w2:=hJ _ wr w2 none hJj hb2.none (fun r e=>qf);have qz:om g w2 l.length cap (pw l):=hR.ai hb2;have hlen:(l.take j).length<l.length:=Bb;obtain⟨fn,tmps,assign,body,hy,hYR⟩:=hY (l.take j) s w2 (by rw[←hs];unfold pw;rw[qV,bY hlt];exact List.getElem_mem _) hJ2 hlen;dsimp only[WU] at hy;have ha2:aG w2 wr.heap.size 358 #[.int .u8 (s.state:Int),.int .u32 s.id,.int .i64 s.v]:=by rw[←hw2];exact aG.fresh wr _ _
   have q1:w2.cell? ⟨wr.heap.size,1,none⟩=some (.int .u32 s.id):=ha2.cell 1;have q2:w2.cell? ⟨wr.heap.size,2,none⟩=some (.int .i64 s.v):=ha2.cell 2
   gi_wp2
   refine⟨fun h=>(nomatch h),hYR.mono ?_⟩;rintro e W3 (⟨rfl,hJ3,hk3⟩|⟨rfl,afc⟩)
   ·have dN:om g W3 l.length cap (pw l):=qz.same fun k hk _=>by rw[show k=g from hk];exact hk3.2
    gi_wp2
    exact Vv
   gi_wp2
   refine bodyPost_ret (results_none rfl _ _ _) rfl ?_;exact⟨⟨_,rfl⟩,.inr ⟨l.take j++ [s],by rw[←Mn];exact List.take_prefix _ _,afc⟩⟩
  have oZ: ¬(j:Int)<(l.length:Int):=aj;obtain rfl:j=l.length:=aj
  gi_wp2
  go_end0;rw[List.take_length] at hJj;exact⟨⟨_,rfl⟩,.inl hJj⟩
