import Derived.Test.YtemighjbfanenaaGreatDoorPk31
set_option linter.all false
set_option maxRecDepth 100000
set_option maxHeartbeats 16000000
namespace Go.Proofs.YtemighjbfanenaaGreatDoor
open RowKit
open yj (fU hasB)
open ky (fc Slot)
open Hp (eO bP)
open List renaming getElem?_take→iY,filter_cons_of_pos→kS,filter_cons_of_neg→jn
open Nat renaming mul_le_mul_right→ib,succ_mul→o9
open _root_.Array renaming getElem?_toList→eG
section
namespace Bk
theorem _root_.Go.Proofs.YtemighjbfanenaaGreatDoor.aO.ajx{S:Nat→Prop}{w:World}{e:TypeId}{sz n g cap:Nat}{c:Nat→List Value}(h:aO S w e sz (.slice (some ⟨g,0,none⟩) n cap) n c)(hc: ∀ i,(c i).length=sz){i j:Nat}(hi:i<n)(hj:j<sz)(v:Value):
  aO S (w.setCell ⟨g,i*sz+j,none⟩ v) e sz (.slice (some ⟨g,0,none⟩) n cap) n (cO c i ((c i).set j v)):=by
 refine⟨?_,h.block⟩;rcases h.own.2 with⟨hv',_⟩|⟨g',cap',cur,hv',_,hh,h1,h2,h3,h4⟩
 ·cases hv'
 ·injection hv' with e1 _ e2
  injection e1 with e1
  injection e1 with e1
  subst e1 e2;have hmul:(i+1)*sz≤cap*sz:=ib sz ag;have aiA:n*sz≤cap*sz:=ib sz h1;rw[o9] at hmul;obtain⟨cs',r1,r2,r3,r4⟩:=fp g e [v] (i*sz+j) w cur hh (by show i*sz+j+1≤cur.size;omega);have r1':(w.setCell ⟨g,i*sz+j,none⟩ v).heap[g]? =some (.cells cs' e (0,0)):=r1;have hc': ∀ k,(cO c i ((c i).set j v) k).length=sz:=fun k=>by unfold cO;split;(rw[List.length_set];exact hc i);exact hc k
  refine⟨bZ hc' n,.inr ⟨g,cap,cs',rfl,Nat.zero_le _,r1',h1,h2,ag,?_⟩⟩;apply List.ext_getElem?;intro k;rcases Nat.lt_or_ge k (n*sz)with hk|hk
  ·have hsz:0<sz:=by omega
   have Ic:k / sz<n:=(Nat.div_lt_iff_lt_mul hsz).2 hk;have M1:k % sz<sz:=Nat.mod_lt _ hsz;have hke:k / sz*sz+k % sz=k:=by rw[Nat.mul_comm];exact Nat.div_add_mod k sz
   rw[iY,if_pos hk,eG,←hke,gD hc' Ic M1];obtain⟨a,ha⟩:=ae (k / sz);obtain⟨b,hb⟩:=ae (k % sz);rw[ha,hb] at hke ⊢;rw[hb] at M1;rw[ha] at Ic;have hold:cur[a*sz+b]? =(c a)[b]?:=by rw[←gD hc Ic M1,←h4,iY,if_pos ag,eG]
   by_cases hai:a=i
   ·subst hai;rw[bJ];by_cases hbj:b=j
    ·subst hbj;have:=r3 0 (by show 0<1;decide);rw[Nat.add_zero] at this;rw[this,List.getElem?_set_self (by rw[hc a];exact hj)];rfl
    rw[r4 _ (by show a*sz+b<a*sz+j∨a*sz+j+1≤a*sz+b;omega),hold,List.getElem?_set_ne (fun e=>hbj e.symm)]
   have hout:a*sz+b<i*sz+j∨i*sz+j+1≤a*sz+b:=by
    rcases Nat.lt_or_ge a i with h5|h5
    ·have:=ib sz (show a+1≤i from h5);rw[o9] at this;omega
    have:=ib sz (show i+1≤a from ag);rw[o9] at this;omega
   rw[r4 _ hout,bj c _ hai,hold]
  rw[iY,if_neg ag,List.getElem?_eq_none (by rw[bZ hc' n];exact hk)]
theorem QS{S:Nat→Prop}{w:World}{b n au:Nat}{az next ak:Int}{len:Nat}{q:bD}(h:cA S w b n au az next ak len q)(uk:Int)(hc:uk≤ak):
  Calls Tryz.prog 70 #[.pointer (some ⟨b,0,none⟩),.int .i64 uk] w fun e w'=>e= .returned (.int .i64 173)∧w'=w:=by
 have x4:=h.own.cl 4;clear h;go_enter Tryz.func70,Tryz.ntmps70;go_wp2_with fail;go_ret;exact⟨rfl,rfl⟩
def mD(L:List bU)(id:Int): List bU:=L.map fun y=>if y.id=id then {y with aR:=0}else y
theorem Nj(L:List bU)(id:Int): (mD L id).length=L.length:=by unfold mD;rw[List.length_map]
theorem gS{L:List bU}{id:Int}{z:bU}: z∈mD L id↔∃ y∈L,(if y.id=id then {y with aR:=0}else y)=z:=by unfold mD;rw[List.mem_map]
theorem vW(L:List bU)(id:Int): ku (mD L id)=ku (without L id):=by
 induction L with
 | nil=>rfl
 | cons a L ih=>
  unfold mD without ku at ih ⊢;rw[List.map_cons];by_cases e:a.id=id
  ·rw[if_pos e,jn (p:=fun x:bU=>decide (0<x.aR)) dA,jn (p:=fun y:bU=>!decide (y.id=id)) (by simpa using e)];exact ih
  rw[if_neg e,kS (p:=fun y:bU=>!decide (y.id=id)) (by simpa using e)];by_cases k:0<a.aR
  ·rw[kS (p:=fun x:bU=>decide (0<x.aR)) (by simpa using k),kS (p:=fun x:bU=>decide (0<x.aR)) (by simpa using k),List.length_cons,List.length_cons,ih]
  rw[jn (p:=fun x:bU=>decide (0<x.aR)) (by simpa using k),jn (p:=fun x:bU=>decide (0<x.aR)) (by simpa using k)];exact ih
theorem mE.mD{L:List bU}{q:bD}{id:Int}(h:mE (without L id) q)(hid: ∀ x∈L,0≤x.id∧x.id<4294967296): mE (mD L id) q:=by
 refine⟨by rw[vW];exact h.len,by rw[vW];exact h.cnt,fun z hz hp=>?_,fun y hy=>?_,fun i hi=>h.free i fun y hy hp=>?_,h.ord,fun z hz=>?_⟩
 ·obtain⟨y,hy,rfl⟩:=gS.1 hz;by_cases e:y.id=id
  ·rw[if_pos e] at hp;exact absurd hp dA
  rw[if_neg e] at hp ⊢;exact h.held y (cB.2 ⟨hy,e⟩) hp
 ·obtain⟨z,hz,r⟩:=h.items y hy;obtain⟨h1,h2⟩:=cB.1 hz;exact⟨z,gS.2 ⟨z,h1,if_neg h2⟩,r⟩
 ·obtain⟨h1,h2⟩:=cB.1 hy;exact hi y (gS.2 ⟨y,h1,if_neg h2⟩) hp
 obtain⟨y,hy,rfl⟩:=gS.1 hz;split <;>exact hid y hy
