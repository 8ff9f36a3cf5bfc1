/- EngineKeeps returns true, and what was there stays as it was; the listed variables are as the program lays them. -/
import Derived.Test.YtemighjbfanenaaGreatDoorCards
import Derived.Test.YtemighjbfanenaaGreatDoorTie
import Derived.Test.YtemighjbfanenaaGreatDoorPk44
import Derived.Test.YtemighjbfanenaaGreatDoorPk45
set_option linter.all false
set_option maxRecDepth 100000
set_option maxHeartbeats 16000000
namespace Go.Proofs.YtemighjbfanenaaGreatDoor
open RowKit
open Go.DataW renaming weights_mem_each→Qi
open Go.OpenSpec renaming ofChange→zJ
open Go.World renaming laidAll→G1
open Option.some renaming inj→cN
open Go.Proofs.Tryz renaming prog→af,f3→kR,func3→G0,checked→G3
namespace yg
open Go.ChangeShapes Go.WideShapes Go.ChangeAt Go.RowKit Go.Joins
open Go.ChangeMaps (open_string shut_string)
theorem own: ownKnob af.godebug=none:=aW
theorem laidOut: laidOutB af=true:=aW
theorem contract(H:Type)(enc:TypeId × Value→H)(W:World)(base:Nat)(args:Array Value)(ds gs:List (DataW H))(before:List MemPlace)
  (ah3:∀(j:Nat) t v,kR.params[j]? =some t→args[j]? =some v→Value.okWide af W .any base t v)
  (hW:DataW.Whole enc af kR.params.toList Rows.engineKeepsSpec.vars false W args.toList ds gs before)
  (WW:(DataW.weightsEach af (kR.params.toList++(zJ Rows.engineKeepsSpec).bare.plain.varTypes af) (ds++gs)).all (·≤reachBytes)=true) (hL:laidMetH af Rows.engineKeepsRow.laid W) :
  Calls af 3 args W fun e W'=>∃v,e=.returned v∧Rows.engineKeepsSpec.post enc af kR false true false false W args v W':=by
 have hval:∀(j:Nat) t v,kR.params[j]? =some t→args[j]? =some v→Value.okWide af W .any base t v:=ah3;have hW':=hW;obtain⟨p,q,RV,hV,rfl,hfz,hnd⟩:=hW;have hA:DataW.TrodAll enc af W 0 (fun _=>true) true kR.params.toList args.toList ds p:=RV;rw[Tryz.params3] at hA hval WW;obtain⟨v0,vs0,d0,ds0,p0,q0,anE,rfl,rfl,h0,r0⟩:=trodAll_cons hA;obtain⟨v1,vs1,d1,ds1,p1,q1,rfl,rfl,rfl,h1,r1⟩:=trodAll_cons r0;obtain⟨rfl,rfl,rfl⟩:=trodAll_nil r1;obtain rfl:args= #[v0,v1]:=by cases args;simp_all
 obtain⟨rfl,rfl⟩:=trodVars_none hV;have k0:=h0;have lt0:∀x∈p0,x.block<W.heap.size:=by obtain⟨m,hm⟩:=k0;exact DataW.trod_lt m _ _ _ hm
 have s0:∀n∈d0.weights af 24,n≤reachBytes:=fun n hn=>by
  have h:=List.all_eq_true.1 WW n (Qi (j:=0) rfl rfl n hn);exact of_decide_eq_true h
 have k1:=h1;have lt1:∀x∈p1,x.block<W.heap.size:=by obtain⟨m,hm⟩:=k1;exact DataW.trod_lt m _ _ _ hm
 have s1:∀n∈d1.weights af 25,n≤reachBytes:=fun n hn=>by
  have h:=List.all_eq_true.1 WW n (Qi (j:=1) rfl rfl n hn);exact of_decide_eq_true h
 clear WW;obtain⟨s0_,rfl,hs0,he0,W6,ho0⟩:=Kpo.Mj (hval 0 24 v0 rfl rfl) h0;obtain⟨l1,A1,c1,rfl,bh,vV,tr⟩:=Kpo.R3 (hval 1 25 v1 rfl rfl) h1 s1;have hC:=Kpo.iy (show laidMetH af Kpo.Bp W from hL);have hT:=Kpo.tab (show laidMetH af Kpo.Bp W from hL);refine(Rf.WJ s0_ hs0 l1 vV A1 c1 W bh tr hC hT).mono fun e W' ⟨he,yJ⟩=>?_
 subst he;exact⟨_,rfl,_,_,_,[],_,[],hW',trodAll_mk1 (shut_bool Tryz.underlying4 _),(trodAll_cons_mk (Below.trod laidOut aW (of_decide_eq_true aW) k0 yJ lt0) (trodAll_cons_mk (Below.trod laidOut aW (of_decide_eq_true aW) k1 yJ lt1) trodAll_mk0)),rfl,yJ.frame _,fun h=>mo⟩
theorem WD(os:Os): laidMetH af Rows.engineKeepsRow.laid ((G1 af os Rows.engineKeepsRow.laid).forCall (fun _ _=>0) ⟨#[],#[.agg #[.int .i64 0,.int .i64 0,.bool false,.int .u64 0,.int .u64 0,.int .i64 0],.slice none 0 0],[]⟩).memory:=by
 rw[MakeChecks.laidMetH_plain _ _ _ aW];exact laidMet_laidAll _ aW aW
theorem reads(os:Os){H:Type}(enc:TypeId × Value→H):∃places,DataW.whole enc af ((G1 af os Rows.engineKeepsRow.laid).forCall (fun _ _=>0) ⟨#[],#[.agg #[.int .i64 0,.int .i64 0,.bool false,.int .u64 0,.int .u64 0,.int .i64 0],.slice none 0 0],[]⟩).memory kR.params.toList Rows.engineKeepsSpec.vars false (#[.agg #[.int .i64 0,.int .i64 0,.bool false,.int .u64 0,.int .u64 0,.int .i64 0],.slice none 0 0]:Array Value).toList 8=some ([.agg [.lit (.int .i64 0),.lit (.int .i64 0),.lit (.bool false),.lit (.int .u64 0),.lit (.int .u64 0),.lit (.int .i64 0)],.nil],[],places):=
 ⟨[],aW⟩
theorem lifted(os:Os)(started:os.Started)(H:Type)(enc:TypeId × Value→H)(F:Stop.Interp):
  ReturnsInHanded {} G3 os 3 .any ((zJ Rows.engineKeepsSpec).preRow enc af kR Rows.engineKeepsRow.domain false Rows.engineKeepsRow.laid) (((zJ Rows.engineKeepsSpec).at F).post enc af kR false true false false):=by
 obtain⟨places,hx⟩:=reads os enc;refine returnsInHanded_of_row (C:=G3) (s:=zJ Rows.engineKeepsSpec) own started aW G0
  (Kpo.IG (enc:=enc) (C:=G3) false (G1 af os Rows.engineKeepsRow.laid) #[.agg #[.int .i64 0,.int .i64 0,.bool false,.int .u64 0,.int .u64 0,.int .i64 0],.slice none 0 0] (World.laidAll_os _ _ _) aW aW aW
   (OpenSpec.preRow_of_cond 8 hx aW (fun k hk=>by cases hk) aW (WD os))) ?_
 intro W base args ds gs before hval hW _ _ hsz hL _ _;exact contract H enc W base args ds gs before hval hW hsz hL
theorem said: Rows.EngineKeepsSaid:=
 OpenClaim.holds_of_cond 3 kR rfl rfl rfl rfl rfl rfl rfl ⟨rfl,rfl,rfl,rfl,rfl⟩ rfl rfl rfl rfl rfl (by as_aux_lemma=>kernel_rfl) G0 (by
   unfold joinedFacts;repeat' (with_reducible refine Bool.and_eq_true_iff.mpr ⟨?_,?_⟩)
   all_goals(as_aux_lemma=>kernel_rfl))
  (of_decide_eq_true (by as_aux_lemma=>kernel_rfl)) (by unfold Func.isWrapper;first|(rw[if_pos (by as_aux_lemma=>decide +kernel)];as_aux_lemma=>kernel_rfl)|(rw[if_neg (by as_aux_lemma=>decide +kernel)];exact⟨rfl,rfl⟩))
  (fun os started H enc _ F=>by rw[OpenClaim.pre_eq_preRow];exact lifted os started H enc F)
theorem plain(f:FuncId)(fn:Func)(hf:Tryz.pinned.checked.prog.funcNamed Rows.engineKeepsRow.func=some f)(hfn:Tryz.pinned.checked.prog.funcs[f]? =some fn):
  false=Tryz.pinned.checked.prog.looks []∧∀(j:Nat) t,fn.params[j]? =some t→Tryz.pinned.checked.prog.wantsStandIn t=false:=by
 obtain rfl:f=3:=cN ((show af.funcNamed Rows.engineKeepsRow.func=some 3 from aW).symm.trans hf) |>.symm
 obtain rfl:fn=kR:=(cN (G0.symm.trans hfn)).symm;refine⟨aW,fun j t ht=>?_⟩;rw[Tryz.params3] at ht;have hm:=Array.mem_of_getElem? ht;have h1:t=24∨t=25:=by simpa[or_assoc] using hm
 rcases h1 with rfl|rfl
 all_goals first
  | exact(show af.wantsStandIn 25=false from aW)
  | exact(show af.wantsStandIn 24=false from aW)
theorem proved: Rows.EngineKeepsCardSaid:=
 Claim7.holds_tied_plain_at .later [] _ _ _ _ said (fun _ h=>mo) (by as_aux_lemma=>kernel_rfl) (fun _ h=>mo) engineKeeps_row_tie rfl ⟨rfl,rfl⟩ (by as_aux_lemma=>kernel_rfl) rfl plain (by as_aux_lemma=>kernel_rfl)
