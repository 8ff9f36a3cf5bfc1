import Derived.Test.YtemighjbfanenaaGreatDoorPk27
set_option linter.all false
set_option maxRecDepth 100000
set_option maxHeartbeats 16000000
namespace Go.Proofs.YtemighjbfanenaaGreatDoor
open RowKit
open yy (fS hasB)
open ki (eU Slot)
open Hp (eJ bR)
open List renaming filter_cons_of_neg→jg,filter_cons_of_pos→kM,getElem?_take→mL
open Nat renaming succ_mul→uv,mul_le_mul_right→gV
open _root_.Array renaming getElem?_toList→ei
section
namespace Bk
theorem _root_.Go.Proofs.YtemighjbfanenaaGreatDoor.aM.aii{S:Nat→Prop}{w:World}{e:TypeId}{sz n g cap:Nat}{c:Nat→List Value}(h:aM S w e sz (.slice (some ⟨g,0,none⟩) n cap) n c)(hc: ∀ i,(c i).length=sz){i j:Nat}(hi:i<n)(hj:j<sz)(v:Value):
  aM S (w.setCell ⟨g,i*sz+j,none⟩ v) e sz (.slice (some ⟨g,0,none⟩) n cap) n (cH c i ((c i).set j v)):=by
 refine⟨?_,h.block⟩;rcases h.own.2 with⟨hv',_⟩|⟨g',cap',cur,hv',_,hh,h1,h2,h3,h4⟩
 ·cases hv'
 ·injection hv' with e1 _ e2
  injection e1 with e1
  injection e1 with e1
  subst e1 e2;have hmul:(i+1)*sz≤cap*sz:=gV sz aj;have ahl:n*sz≤cap*sz:=gV sz h1;rw[uv] at hmul;obtain⟨cs',r1,r2,r3,r4⟩:=fQ g e [v] (i*sz+j) w cur hh (by show i*sz+j+1≤cur.size;omega);have r1':(w.setCell ⟨g,i*sz+j,none⟩ v).heap[g]? =some (.cells cs' e (0,0)):=r1;have hc': ∀ k,(cH c i ((c i).set j v) k).length=sz:=fun k=>by unfold cH;split;(rw[List.length_set];exact hc i);exact hc k
  refine⟨cf hc' n,.inr ⟨g,cap,cs',rfl,Nat.zero_le _,r1',h1,h2,aj,?_⟩⟩;apply List.ext_getElem?;intro k;rcases Nat.lt_or_ge k (n*sz)with hk|hk
  ·have hsz:0<sz:=by omega
   have Hy:k / sz<n:=(Nat.div_lt_iff_lt_mul hsz).2 hk;have Mt:k % sz<sz:=Nat.mod_lt _ hsz;have hke:k / sz*sz+k % sz=k:=by rw[Nat.mul_comm];exact Nat.div_add_mod k sz
   rw[mL,if_pos hk,ei,←hke,gA hc' Hy Mt];obtain⟨a,ha⟩:=ae (k / sz);obtain⟨b,hb⟩:=ae (k % sz);rw[ha,hb] at hke ⊢;rw[hb] at Mt;rw[ha] at Hy;have hold:cur[a*sz+b]? =(c a)[b]?:=by rw[←gA hc Hy Mt,←h4,mL,if_pos aj,ei]
   by_cases hai:a=i
   ·subst hai;rw[bM];by_cases hbj:b=j
    ·subst hbj;have:=r3 0 (by show 0<1;decide);rw[Nat.add_zero] at this;rw[this,List.getElem?_set_self (by rw[hc a];exact hj)];rfl
    rw[r4 _ (by show a*sz+b<a*sz+j∨a*sz+j+1≤a*sz+b;omega),hold,List.getElem?_set_ne (fun e=>hbj e.symm)]
   have hout:a*sz+b<i*sz+j∨i*sz+j+1≤a*sz+b:=by
    rcases Nat.lt_or_ge a i with h5|h5
    ·have:=gV sz (show a+1≤i from h5);rw[uv] at this;omega
    have:=gV sz (show i+1≤a from aj);rw[uv] at this;omega
   rw[r4 _ hout,bl c _ hai,hold]
  rw[mL,if_neg aj,List.getElem?_eq_none (by rw[cf hc' n];exact hk)]
theorem Qi{S:Nat→Prop}{w:World}{b n ar:Nat}{aA next aq:Int}{len:Nat}{q:bH}(h:cC S w b n ar aA next aq len q)(uk:Int)(hc:uk≤aq):
  Calls Tryz.prog 70 #[.pointer (some ⟨b,0,none⟩),.int .i64 uk] w fun e w'=>e= .returned (.int .i64 173)∧w'=w:=by
 have x4:w.cell? ⟨b,4,none⟩=some (.int .i64 aq):=h.own.cell 4;clear h;go_enter Tryz.func70,Tryz.ntmps70;go_wp2_with fail;go_ret;exact⟨rfl,rfl⟩
def mD(L:List bS)(id:Int): List bS:=L.map fun y=>if y.id=id then {y with aS:=0}else y
theorem MI(L:List bS)(id:Int): (mD L id).length=L.length:=by unfold mD;rw[List.length_map]
theorem gS{L:List bS}{id:Int}{z:bS}: z∈mD L id↔∃ y∈L,(if y.id=id then {y with aS:=0}else y)=z:=by unfold mD;rw[List.mem_map]
theorem wk(L:List bS)(id:Int): ke (mD L id)=ke (without L id):=by
 induction L with
 | nil=>rfl
 | cons a L ih=>
  unfold mD without ke at ih ⊢;rw[List.map_cons];by_cases e:a.id=id
  ·rw[if_pos e,jg (p:=fun x:bS=>decide (0<x.aS)) dR,jg (p:=fun y:bS=>!decide (y.id=id)) (by simpa using e)];exact ih
  rw[if_neg e,kM (p:=fun y:bS=>!decide (y.id=id)) (by simpa using e)];by_cases k:0<a.aS
  ·rw[kM (p:=fun x:bS=>decide (0<x.aS)) (by simpa using k),kM (p:=fun x:bS=>decide (0<x.aS)) (by simpa using k),List.length_cons,List.length_cons,ih]
  rw[jg (p:=fun x:bS=>decide (0<x.aS)) (by simpa using k),jg (p:=fun x:bS=>decide (0<x.aS)) (by simpa using k)];exact ih
theorem mE.mD{L:List bS}{q:bH}{id:Int}(h:mE (without L id) q)(hid: ∀ x∈L,0≤x.id∧x.id<4294967296): mE (mD L id) q:=by
 refine⟨by rw[wk];exact h.len,by rw[wk];exact h.cnt,fun z hz hp=>?_,fun y hy=>?_,fun i hi=>h.free i fun y hy hp=>?_,h.ord,fun z hz=>?_⟩
 ·obtain⟨y,hy,rfl⟩:=gS.1 hz;by_cases e:y.id=id
  ·rw[if_pos e] at hp;exact absurd hp dR
  rw[if_neg e] at hp ⊢;exact h.held y (cD.2 ⟨hy,e⟩) hp
 ·obtain⟨z,hz,r⟩:=h.items y hy;obtain⟨h1,h2⟩:=cD.1 hz;exact⟨z,gS.2 ⟨z,h1,if_neg h2⟩,r⟩
 ·obtain⟨h1,h2⟩:=cD.1 hy;exact hi y (gS.2 ⟨y,h1,if_neg h2⟩) hp
 obtain⟨y,hy,rfl⟩:=gS.1 hz;split <;>exact hid y hy
