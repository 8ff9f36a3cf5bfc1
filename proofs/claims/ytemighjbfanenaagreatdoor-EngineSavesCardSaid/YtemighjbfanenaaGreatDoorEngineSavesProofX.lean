/- EngineSaves returns true, and what was there stays as it was; the listed variables are as the program lays them. -/
import Derived.Test.YtemighjbfanenaaGreatDoorCards
import Derived.Test.YtemighjbfanenaaGreatDoorTie
import Derived.Test.YtemighjbfanenaaGreatDoorPk38
import Derived.Test.YtemighjbfanenaaGreatDoorPk45
set_option linter.all false
set_option maxRecDepth 100000
set_option maxHeartbeats 16000000
namespace Go.Proofs.YtemighjbfanenaaGreatDoor
open RowKit
open Go.DataW renaming weights_mem_each→GO,trod_lt→GL
open Go.OpenSpec renaming ofChange→Ac
open Go.Proofs.Tryz renaming f5→kL,func5→GK,checked→GQ,prog→af
open Go.World renaming laidAll→GM
open List renaming all_eq_true→GP
open Option.some renaming inj→cM
open RowKit.Below renaming trod→GN
namespace yu
open Go.ChangeShapes Go.WideShapes Go.ChangeAt Go.RowKit Go.Joins
open Go.ChangeMaps (open_string shut_string)
theorem own: ownKnob af.godebug=none:=br
theorem laidOut: laidOutB af=true:=br
theorem contract(H:Type)(enc:TypeId × Value→H)(W:World)(base:Nat)(args:Array Value)(ds gs:List (DataW H))(before:List MemPlace)
  (agZ: ∀ (j:Nat) t v,kL.params[j]? =some t→args[j]? =some v→Value.okWide af W .any base t v)
  (hW:DataW.Whole enc af kL.params.toList Rows.engineSavesSpec.vars false W args.toList ds gs before)
  (QV:(DataW.weightsEach af (kL.params.toList++(Ac Rows.engineSavesSpec).bare.plain.varTypes af) (ds++gs)).all (·≤reachBytes)=true) (hL:laidMetH af Rows.engineSavesRow.laid W) :
  Calls af 5 args W fun e W'=>∃ v,e= .returned v∧Rows.engineSavesSpec.post enc af kL false true false false W args v W':=by
 have hval: ∀ (j:Nat) t v,kL.params[j]? =some t→args[j]? =some v→Value.okWide af W .any base t v:=agZ;have hW':=hW;obtain⟨p,q,Zc,hV,rfl,hfz,hnd⟩:=hW;have hA:DataW.TrodAll enc af W 0 (fun _=>true) true kL.params.toList args.toList ds p:=Zc;rw[Tryz.params5] at hA hval QV;obtain⟨v0,vs0,d0,ds0,p0,q0,alS,rfl,rfl,h0,r0⟩:=trodAll_cons hA;obtain⟨v1,vs1,d1,ds1,p1,q1,rfl,rfl,rfl,h1,r1⟩:=trodAll_cons r0;obtain⟨v2,vs2,d2,ds2,p2,q2,rfl,rfl,rfl,h2,r2⟩:=trodAll_cons r1;obtain⟨rfl,rfl,rfl⟩:=trodAll_nil r2;obtain rfl:args= #[v0,v1,v2]:=by cases args;simp_all
 obtain⟨rfl,rfl⟩:=trodVars_none hV;have k0:=h0;have lt0: ∀ x∈p0,x.block<W.heap.size:=by obtain⟨m,hm⟩:=k0;exact GL m _ _ _ hm
 have s0: ∀ n∈d0.weights af 24,n≤reachBytes:=fun n hn=>by
  have h:=GP.1 QV n (GO (j:=0) rfl rfl n hn);exact of_decide_eq_true h
 have k1:=h1;have lt1: ∀ x∈p1,x.block<W.heap.size:=by obtain⟨m,hm⟩:=k1;exact GL m _ _ _ hm
 have s1: ∀ n∈d1.weights af 25,n≤reachBytes:=fun n hn=>by
  have h:=GP.1 QV n (GO (j:=1) rfl rfl n hn);exact of_decide_eq_true h
 have k2:=h2;have lt2: ∀ x∈p2,x.block<W.heap.size:=by obtain⟨m,hm⟩:=k2;exact GL m _ _ _ hm
 have s2: ∀ n∈d2.weights af 3,n≤reachBytes:=fun n hn=>by
  have h:=GP.1 QV n (GO (j:=2) rfl rfl n hn);exact of_decide_eq_true h
 clear QV;obtain⟨s0_,rfl,hs0,he0,VX,ho0⟩:=Kpo.LU (hval 0 24 v0 rfl rfl) h0;obtain⟨l1,A1,c1,rfl,bt,yU,oZ⟩:=Kpo.Rh (hval 1 25 v1 rfl rfl) h1 s1;obtain⟨a2,rfl,rfl,rfl,w2⟩:=open_int Tryz.underlying3 (hval 2 3 v2 rfl rfl) h2;have hC:=Kpo.ic (show laidMetH af Kpo.BH W from hL);have hT:=Kpo.tab (show laidMetH af Kpo.BH W from hL);refine(Rf.Us s0_ hs0 l1 yU a2 (Kpo.wf_i64 w2) A1 c1 W bt oZ hC hT).mono fun e W' ⟨he,y6⟩=>?_
 subst he;exact⟨_,rfl,_,_,_,[],_,[],hW',trodAll_mk1 (shut_bool Tryz.underlying4 _),(trodAll_cons_mk (GN laidOut br (of_decide_eq_true br) k0 y6 lt0) (trodAll_cons_mk (GN laidOut br (of_decide_eq_true br) k1 y6 lt1) (trodAll_cons_mk (GN laidOut br (of_decide_eq_true br) k2 y6 lt2) trodAll_mk0))),rfl,y6.frame _,fun h=>mq⟩
theorem VG(os:Os): laidMetH af Rows.engineSavesRow.laid ((GM af os Rows.engineSavesRow.laid).forCall (fun _ _=>0) ⟨#[],#[.agg #[.int .i64 0,.int .i64 0,.bool false,.int .u64 0,.int .u64 0,.int .i64 0],.slice none 0 0,.int .i64 0],[]⟩).memory:=by
 rw[MakeChecks.laidMetH_plain _ _ _ br];exact laidMet_laidAll _ br br
theorem reads(os:Os){H:Type}(enc:TypeId × Value→H): ∃ places,DataW.whole enc af ((GM af os Rows.engineSavesRow.laid).forCall (fun _ _=>0) ⟨#[],#[.agg #[.int .i64 0,.int .i64 0,.bool false,.int .u64 0,.int .u64 0,.int .i64 0],.slice none 0 0,.int .i64 0],[]⟩).memory kL.params.toList Rows.engineSavesSpec.vars false (#[.agg #[.int .i64 0,.int .i64 0,.bool false,.int .u64 0,.int .u64 0,.int .i64 0],.slice none 0 0,.int .i64 0]:Array Value).toList 8=some ([.agg [.lit (.int .i64 0),.lit (.int .i64 0),.lit (.bool false),.lit (.int .u64 0),.lit (.int .u64 0),.lit (.int .i64 0)],.nil,.lit (.int .i64 0)],[],places):=
 ⟨[],br⟩
theorem lifted(os:Os)(started:os.Started)(H:Type)(enc:TypeId × Value→H)(F:Stop.Interp):
  ReturnsInHanded {} GQ os 5 .any ((Ac Rows.engineSavesSpec).preRow enc af kL Rows.engineSavesRow.domain false Rows.engineSavesRow.laid) (((Ac Rows.engineSavesSpec).at F).post enc af kL false true false false):=by
 obtain⟨places,hx⟩:=reads os enc;refine returnsInHanded_of_row (C:=GQ) (s:=Ac Rows.engineSavesSpec) own started br GK
  (Kpo.Iw (enc:=enc) (C:=GQ) false (GM af os Rows.engineSavesRow.laid) #[.agg #[.int .i64 0,.int .i64 0,.bool false,.int .u64 0,.int .u64 0,.int .i64 0],.slice none 0 0,.int .i64 0] (World.laidAll_os _ _ _) br br br
   (OpenSpec.preRow_of_cond 8 hx br (fun k hk=>by cases hk) br (VG os))) ?_
 intro W base args ds gs before hval hW _ _ hsz hL _ _;exact contract H enc W base args ds gs before hval hW hsz hL
theorem said: Rows.EngineSavesSaid:=
 OpenClaim.holds_of_cond 5 kL rfl rfl rfl rfl rfl rfl rfl ⟨rfl,rfl,rfl,rfl,rfl⟩ rfl rfl rfl rfl rfl (by as_aux_lemma=>kernel_rfl) GK (by
   unfold joinedFacts;repeat' (with_reducible refine Bool.and_eq_true_iff.mpr ⟨?_,?_⟩)
   all_goals(as_aux_lemma=>kernel_rfl))
  (of_decide_eq_true (by as_aux_lemma=>kernel_rfl)) (by unfold Func.isWrapper;first|(rw[if_pos (by as_aux_lemma=>decide +kernel)];as_aux_lemma=>kernel_rfl)|(rw[if_neg (by as_aux_lemma=>decide +kernel)];exact⟨rfl,rfl⟩))
  (fun os started H enc _ F=>by rw[OpenClaim.pre_eq_preRow];exact lifted os started H enc F)
theorem plain(f:FuncId)(fn:Func)(hf:Tryz.pinned.checked.prog.funcNamed Rows.engineSavesRow.func=some f)(hfn:Tryz.pinned.checked.prog.funcs[f]? =some fn):
  false=Tryz.pinned.checked.prog.looks []∧∀ (j:Nat) t,fn.params[j]? =some t→Tryz.pinned.checked.prog.wantsStandIn t=false:=by
 obtain rfl:f=5:=cM ((show af.funcNamed Rows.engineSavesRow.func=some 5 from br).symm.trans hf) |>.symm
 obtain rfl:fn=kL:=(cM (GK.symm.trans hfn)).symm;refine⟨br,fun j t ht=>?_⟩;rw[Tryz.params5] at ht;have hm:=Array.mem_of_getElem? ht;have h1:t=24∨t=25∨t=3:=by simpa[or_assoc] using hm
 rcases h1 with rfl|rfl|rfl
 all_goals first
  | exact(show af.wantsStandIn 25=false from br)
  | exact(show af.wantsStandIn 24=false from br)
  | exact(show af.wantsStandIn 3=false from br)
theorem proved: Rows.EngineSavesCardSaid:=
 Claim7.holds_tied_plain_at .later [] _ _ _ _ said (fun _ h=>mq) (by as_aux_lemma=>kernel_rfl) (fun _ h=>mq) engineSaves_row_tie rfl ⟨rfl,rfl⟩ (by as_aux_lemma=>kernel_rfl) rfl plain (by as_aux_lemma=>kernel_rfl)
#print axioms proved
