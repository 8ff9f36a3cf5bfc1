import Derived.Test.YtemighjbfanenaaGreatDoorQk27
set_option linter.all false
set_option maxRecDepth 100000
set_option maxHeartbeats 16000000
namespace Go.Proofs.YtemighjbfanenaaGreatDoor
open RowKit
open yj (fU hasB)
open km (eW Slot)
open Hp (eI bP)
open List renaming filter_cons_of_pos→kO,filter_cons_of_neg→jh,getElem?_take→mP
open Nat renaming mul_le_mul_right→gX,succ_mul→pq
open _root_.Array renaming getElem?_toList→dK
section
namespace Bk
theorem _root_.Go.Proofs.YtemighjbfanenaaGreatDoor.aP.aic{S:Nat→Prop}{w:World}{e:TypeId}{sz n g cap:Nat}{c:Nat→List Value}(h:aP S w e sz (.slice (some ⟨g,0,none⟩) n cap) n c)(hc: ∀ i,(c i).length=sz){i j:Nat}(hi:i<n)(hj:j<sz)(v:Value):
  aP S (w.setCell ⟨g,i*sz+j,none⟩ v) e sz (.slice (some ⟨g,0,none⟩) n cap) n (cK c i ((c i).set j v)):=by
 refine⟨?_,h.block⟩;rcases h.own.2 with⟨hv',_⟩|⟨g',cap',cur,hv',_,hh,h1,h2,h3,h4⟩
 ·cases hv'
 ·injection hv' with e1 _ e2
  injection e1 with e1
  injection e1 with e1
  subst e1 e2;have hmul:(i+1)*sz≤cap*sz:=gX sz ai;have ahe:n*sz≤cap*sz:=gX sz h1;rw[pq] at hmul;obtain⟨cs',r1,r2,r3,r4⟩:=fR g e [v] (i*sz+j) w cur hh (by show i*sz+j+1≤cur.size;omega);have r1':(w.setCell ⟨g,i*sz+j,none⟩ v).heap[g]? =some (.cells cs' e (0,0)):=r1;have hc': ∀ k,(cK c i ((c i).set j v) k).length=sz:=fun k=>by unfold cK;split;(rw[List.length_set];exact hc i);exact hc k
  refine⟨cy hc' n,.inr ⟨g,cap,cs',rfl,Nat.zero_le _,r1',h1,h2,ai,?_⟩⟩;apply List.ext_getElem?;intro k;rcases Nat.lt_or_ge k (n*sz)with hk|hk
  ·have hsz:0<sz:=by omega
   have DM:k / sz<n:=(Nat.div_lt_iff_lt_mul hsz).2 hk;have Mb:k % sz<sz:=Nat.mod_lt _ hsz;have hke:k / sz*sz+k % sz=k:=by rw[Nat.mul_comm];exact Nat.div_add_mod k sz
   rw[mP,if_pos hk,dK,←hke,gC hc' DM Mb];obtain⟨a,ha⟩:=ae (k / sz);obtain⟨b,hb⟩:=ae (k % sz);rw[ha,hb] at hke ⊢;rw[hb] at Mb;rw[ha] at DM;have hold:cur[a*sz+b]? =(c a)[b]?:=by rw[←gC hc DM Mb,←h4,mP,if_pos ai,dK]
   by_cases hai:a=i
   ·subst hai;rw[bL];by_cases hbj:b=j
    ·subst hbj;have:=r3 0 (by show 0<1;decide);rw[Nat.add_zero] at this;rw[this,List.getElem?_set_self (by rw[hc a];exact hj)];rfl
    rw[r4 _ (by show a*sz+b<a*sz+j∨a*sz+j+1≤a*sz+b;omega),hold,List.getElem?_set_ne (fun e=>hbj e.symm)]
   have hout:a*sz+b<i*sz+j∨i*sz+j+1≤a*sz+b:=by
    rcases Nat.lt_or_ge a i with h5|h5
    ·have:=gX sz (show a+1≤i from h5);rw[pq] at this;omega
    have:=gX sz (show i+1≤a from ai);rw[pq] at this;omega
   rw[r4 _ hout,bn c _ hai,hold]
  rw[mP,if_neg ai,List.getElem?_eq_none (by rw[cy hc' n];exact hk)]
theorem P7{S:Nat→Prop}{w:World}{b n au:Nat}{aA next aq:Int}{len:Nat}{q:bI}(h:cG S w b n au aA next aq len q)(ug:Int)(hc:ug≤aq):
  Calls Tryz.prog 70 #[.pointer (some ⟨b,0,none⟩),.int .i64 ug] w fun e w'=>e= .returned (.int .i64 173)∧w'=w:=by
 have x4:w.cell? ⟨b,4,none⟩=some (.int .i64 aq):=h.own.cell 4;clear h;go_enter Tryz.func70,Tryz.ntmps70;go_wp2_with fail;go_ret;exact⟨rfl,rfl⟩
def mI(L:List bS)(id:Int): List bS:=L.map fun y=>if y.id=id then {y with aR:=0}else y
theorem Mq(L:List bS)(id:Int): (mI L id).length=L.length:=by unfold mI;rw[List.length_map]
theorem gQ{L:List bS}{id:Int}{z:bS}: z∈mI L id↔∃ y∈L,(if y.id=id then {y with aR:=0}else y)=z:=by unfold mI;rw[List.mem_map]
theorem vS(L:List bS)(id:Int): kh (mI L id)=kh (without L id):=by
 induction L with
 | nil=>rfl
 | cons a L ih=>
  unfold mI without kh at ih ⊢;rw[List.map_cons];by_cases e:a.id=id
  ·rw[if_pos e,jh (p:=fun x:bS=>decide (0<x.aR)) dM,jh (p:=fun y:bS=>!decide (y.id=id)) (by simpa using e)];exact ih
  rw[if_neg e,kO (p:=fun y:bS=>!decide (y.id=id)) (by simpa using e)];by_cases k:0<a.aR
  ·rw[kO (p:=fun x:bS=>decide (0<x.aR)) (by simpa using k),kO (p:=fun x:bS=>decide (0<x.aR)) (by simpa using k),List.length_cons,List.length_cons,ih]
  rw[jh (p:=fun x:bS=>decide (0<x.aR)) (by simpa using k),jh (p:=fun x:bS=>decide (0<x.aR)) (by simpa using k)];exact ih
theorem mJ.mI{L:List bS}{q:bI}{id:Int}(h:mJ (without L id) q)(hid: ∀ x∈L,0≤x.id∧x.id<4294967296): mJ (mI L id) q:=by
 refine⟨by rw[vS];exact h.len,by rw[vS];exact h.cnt,fun z hz hp=>?_,fun y hy=>?_,fun i hi=>h.free i fun y hy hp=>?_,h.ord,fun z hz=>?_⟩
 ·obtain⟨y,hy,rfl⟩:=gQ.1 hz;by_cases e:y.id=id
  ·rw[if_pos e] at hp;exact absurd hp dM
  rw[if_neg e] at hp ⊢;exact h.held y (cH.2 ⟨hy,e⟩) hp
 ·obtain⟨z,hz,r⟩:=h.items y hy;obtain⟨h1,h2⟩:=cH.1 hz;exact⟨z,gQ.2 ⟨z,h1,if_neg h2⟩,r⟩
 ·obtain⟨h1,h2⟩:=cH.1 hy;exact hi y (gQ.2 ⟨y,h1,if_neg h2⟩) hp
 obtain⟨y,hy,rfl⟩:=gQ.1 hz;split <;>exact hid y hy
