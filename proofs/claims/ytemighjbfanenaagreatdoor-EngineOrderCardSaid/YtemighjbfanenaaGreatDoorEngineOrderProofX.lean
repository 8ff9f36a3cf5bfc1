/- EngineOrder returns true, and what was there stays as it was; the listed variables are as the program lays them. -/
import Derived.Test.YtemighjbfanenaaGreatDoorCards
import Derived.Test.YtemighjbfanenaaGreatDoorTie
import Derived.Test.YtemighjbfanenaaGreatDoorQk43
import Derived.Test.YtemighjbfanenaaGreatDoorQk45
set_option linter.all false
set_option maxRecDepth 100000
set_option maxHeartbeats 16000000
namespace Go.Proofs.YtemighjbfanenaaGreatDoor
open RowKit
open Go.DataW renaming weights_mem_each→Px
open Go.OpenSpec renaming ofChange→zG
open Go.Proofs.Tryz renaming f6→kN,prog→af,func6→Gu,checked→Gt
open Go.World renaming laidAll→Gv
open Option.some renaming inj→cP
namespace yg
open Go.ChangeShapes Go.WideShapes Go.ChangeAt Go.RowKit Go.Joins
open Go.ChangeMaps (open_string shut_string)
theorem own: ownKnob af.godebug=none:=bh
theorem laidOut: laidOutB af=true:=bh
theorem contract(H:Type)(enc:TypeId × Value→H)(W:World)(base:Nat)(args:Array Value)(ds gs:List (DataW H))(before:List MemPlace)
  (agR: ∀ (j:Nat) t v,kN.params[j]? =some t→args[j]? =some v→Value.okWide af W .any base t v)
  (hW:DataW.Whole enc af kN.params.toList Rows.engineOrderSpec.vars false W args.toList ds gs before)
  (VL:(DataW.weightsEach af (kN.params.toList++(zG Rows.engineOrderSpec).bare.plain.varTypes af) (ds++gs)).all (·≤reachBytes)=true) (hL:laidMetH af Rows.engineOrderRow.laid W) :
  Calls af 6 args W fun e W'=>∃ v,e= .returned v∧Rows.engineOrderSpec.post enc af kN false true false false W args v W':=by
 have hval: ∀ (j:Nat) t v,kN.params[j]? =some t→args[j]? =some v→Value.okWide af W .any base t v:=agR;have hW':=hW;obtain⟨p,q,Y8,hV,rfl,hfz,hnd⟩:=hW;have hA:DataW.TrodAll enc af W 0 (fun _=>true) true kN.params.toList args.toList ds p:=Y8;rw[Tryz.params6] at hA hval VL;obtain⟨v0,vs0,d0,ds0,p0,q0,alO,rfl,rfl,h0,r0⟩:=trodAll_cons hA;obtain⟨v1,vs1,d1,ds1,p1,q1,rfl,rfl,rfl,h1,r1⟩:=trodAll_cons r0;obtain⟨rfl,rfl,rfl⟩:=trodAll_nil r1;obtain rfl:args= #[v0,v1]:=by cases args;simp_all
 obtain⟨rfl,rfl⟩:=trodVars_none hV;have k0:=h0;have lt0: ∀ x∈p0,x.block<W.heap.size:=by obtain⟨m,hm⟩:=k0;exact DataW.trod_lt m _ _ _ hm
 have s0: ∀ n∈d0.weights af 24,n≤reachBytes:=fun n hn=>by
  have h:=List.all_eq_true.1 VL n (Px (j:=0) rfl rfl n hn);exact of_decide_eq_true h
 have k1:=h1;have lt1: ∀ x∈p1,x.block<W.heap.size:=by obtain⟨m,hm⟩:=k1;exact DataW.trod_lt m _ _ _ hm
 have s1: ∀ n∈d1.weights af 25,n≤reachBytes:=fun n hn=>by
  have h:=List.all_eq_true.1 VL n (Px (j:=1) rfl rfl n hn);exact of_decide_eq_true h
 clear VL;obtain⟨s0_,rfl,hs0,he0,VP,ho0⟩:=Kpo.LA (hval 0 24 v0 rfl rfl) h0;obtain⟨l1,A1,c1,rfl,bp,yF,rD⟩:=Kpo.QW (hval 1 25 v1 rfl rfl) h1 s1;have hC:=Kpo.ij (show laidMetH af Kpo.Bf W from hL);have hT:=Kpo.tab (show laidMetH af Kpo.Bf W from hL);refine(Rf.Uy s0_ hs0 l1 yF A1 c1 W bp rD hC hT).mono fun e W' ⟨he,za⟩=>?_
 subst he;exact⟨_,rfl,_,_,_,[],_,[],hW',trodAll_mk1 (shut_bool Tryz.underlying4 _),(trodAll_cons_mk (Below.trod laidOut bh (of_decide_eq_true bh) k0 za lt0) (trodAll_cons_mk (Below.trod laidOut bh (of_decide_eq_true bh) k1 za lt1) trodAll_mk0)),rfl,za.frame _,fun h=>mC⟩
theorem Vu(os:Os): laidMetH af Rows.engineOrderRow.laid ((Gv af os Rows.engineOrderRow.laid).forCall (fun _ _=>0) ⟨#[],#[.agg #[.int .i64 0,.int .i64 0,.bool false,.int .u64 0,.int .u64 0,.int .i64 0],.slice none 0 0],[]⟩).memory:=by
 rw[MakeChecks.laidMetH_plain _ _ _ bh];exact laidMet_laidAll _ bh bh
theorem reads(os:Os){H:Type}(enc:TypeId × Value→H): ∃ places,DataW.whole enc af ((Gv af os Rows.engineOrderRow.laid).forCall (fun _ _=>0) ⟨#[],#[.agg #[.int .i64 0,.int .i64 0,.bool false,.int .u64 0,.int .u64 0,.int .i64 0],.slice none 0 0],[]⟩).memory kN.params.toList Rows.engineOrderSpec.vars false (#[.agg #[.int .i64 0,.int .i64 0,.bool false,.int .u64 0,.int .u64 0,.int .i64 0],.slice none 0 0]:Array Value).toList 8=some ([.agg [.lit (.int .i64 0),.lit (.int .i64 0),.lit (.bool false),.lit (.int .u64 0),.lit (.int .u64 0),.lit (.int .i64 0)],.nil],[],places):=
 ⟨[],bh⟩
theorem lifted(os:Os)(started:os.Started)(H:Type)(enc:TypeId × Value→H)(F:Stop.Interp):
  ReturnsInHanded {} Gt os 6 .any ((zG Rows.engineOrderSpec).preRow enc af kN Rows.engineOrderRow.domain false Rows.engineOrderRow.laid) (((zG Rows.engineOrderSpec).at F).post enc af kN false true false false):=by
 obtain⟨places,hx⟩:=reads os enc;refine returnsInHanded_of_row (C:=Gt) (s:=zG Rows.engineOrderSpec) own started bh Gu
  (Kpo.Hx (enc:=enc) (C:=Gt) false (Gv af os Rows.engineOrderRow.laid) #[.agg #[.int .i64 0,.int .i64 0,.bool false,.int .u64 0,.int .u64 0,.int .i64 0],.slice none 0 0] (World.laidAll_os _ _ _) bh bh bh
   (OpenSpec.preRow_of_cond 8 hx bh (fun k hk=>by cases hk) bh (Vu os))) ?_
 intro W base args ds gs before hval hW _ _ hsz hL _ _;exact contract H enc W base args ds gs before hval hW hsz hL
theorem said: Rows.EngineOrderSaid:=
 OpenClaim.holds_of_cond 6 kN rfl rfl rfl rfl rfl rfl rfl ⟨rfl,rfl,rfl,rfl,rfl⟩ rfl rfl rfl rfl rfl (by as_aux_lemma=>kernel_rfl) Gu (by
   unfold joinedFacts;repeat' (with_reducible refine Bool.and_eq_true_iff.mpr ⟨?_,?_⟩)
   all_goals(as_aux_lemma=>kernel_rfl))
  (of_decide_eq_true (by as_aux_lemma=>kernel_rfl)) (by unfold Func.isWrapper;first|(rw[if_pos (by as_aux_lemma=>decide +kernel)];as_aux_lemma=>kernel_rfl)|(rw[if_neg (by as_aux_lemma=>decide +kernel)];exact⟨rfl,rfl⟩))
  (fun os started H enc _ F=>by rw[OpenClaim.pre_eq_preRow];exact lifted os started H enc F)
theorem plain(f:FuncId)(fn:Func)(hf:Tryz.pinned.checked.prog.funcNamed Rows.engineOrderRow.func=some f)(hfn:Tryz.pinned.checked.prog.funcs[f]? =some fn):
  false=Tryz.pinned.checked.prog.looks []∧∀ (j:Nat) t,fn.params[j]? =some t→Tryz.pinned.checked.prog.wantsStandIn t=false:=by
 obtain rfl:f=6:=cP ((show af.funcNamed Rows.engineOrderRow.func=some 6 from bh).symm.trans hf) |>.symm
 obtain rfl:fn=kN:=(cP (Gu.symm.trans hfn)).symm;refine⟨bh,fun j t ht=>?_⟩;rw[Tryz.params6] at ht;have hm:=Array.mem_of_getElem? ht;have h1:t=24∨t=25:=by simpa[or_assoc] using hm
 rcases h1 with rfl|rfl
 all_goals first
  | exact(show af.wantsStandIn 25=false from bh)
  | exact(show af.wantsStandIn 24=false from bh)
theorem proved: Rows.EngineOrderCardSaid:=
 Claim7.holds_tied_plain_at .later [] _ _ _ _ said (fun _ h=>mC) (by as_aux_lemma=>kernel_rfl) (fun _ h=>mC) engineOrder_row_tie rfl ⟨rfl,rfl⟩ (by as_aux_lemma=>kernel_rfl) rfl plain (by as_aux_lemma=>kernel_rfl)
#print axioms proved
