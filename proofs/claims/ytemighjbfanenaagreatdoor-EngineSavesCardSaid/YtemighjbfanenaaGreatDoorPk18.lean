import Derived.Test.YtemighjbfanenaaGreatDoorPk6
import Derived.WalkArith
import Derived.WideKeyEntry
set_option linter.all false
set_option maxRecDepth 100000
set_option maxHeartbeats 16000000
namespace Go.Proofs.YtemighjbfanenaaGreatDoor
open RowKit
open Oc (Bs fZ fF aP rh eP cI)
open Go.MapKept (Stamped)
open Bool renaming or_eq_false_iff→yC
open Go.ChangeMaps renaming setBlock→gu
open Go.Instr renaming entryStore→tJ,mapUpdate→Hf,mapEntry→Am
open Go.MapKept renaming run_getObj_map→tK,run_setObj_map→tL
open Go.Oper renaming wp→fc
open Go.Proofs.Tryz renaming underlying3→fu,prog→af,underlying329→Hk
open Go.Result renaming andThen_ok→Hj,andThen→iV
open Go.Sem renaming run_pure→Hg,run_bind→Hi
open Go.Value renaming ownBlock→gY
open Go.WalkArith renaming wf_i64→Hl
open Go.WideElems renaming findIdx_arr→P3,findIdx_born→P5
open Go.World renaming cell?_of_block→eO,size_setCell→Hm,setRow→Hc,block_lt_of_cell?→bD
open List renaming getElem?_append_left→qT,getElem_mem→wL,getElem?_eq_getElem→bY,length_take→gU,getD_eq_getElem?_getD→bN,getElem?_eq_some_iff→oa,getElem?_append_right→wJ
open Nat renaming le_refl→aQ,not_lt_zero→kP,min_eq_left→qQ,lt_of_lt_of_le→aW
open RowKit.Below renaming heap_setCell→dH,refl→au
open _root_.Array renaming ext'→Hh,toList_modify→P4,toList_push→He,getElem?_toList→ei
theorem agL{p:Prop}(h:p:=by
 go_simp;go_wp2_with fail;refine bW hK (by exact HS3.o) fun hHb=>?_
 clear hK K;refine cG 12 fun K hK=>?_
 refine fp _ (.tmp 35) (.tmp 37) 328 rfl 338 i0 (.agg #[.int .i64 0,.slice none 0 0]) 2 32 Tryz.underlying328 CT hz0 hz1 hz2 rfl aN q.rv d.row.length (Dd d q) rfl gM.o ⟨w2.heap.size,0,none⟩ 1 [.int .i64 i,.slice (some ⟨gb,0,none⟩) b.length cb] rfl rfl (iN w2.drew _ _) ad3 km aj ?_;intro ga ca w4 hr4 hg4;have hk4: ∀ k,k<w2.heap.size→q.rv.ownBlock≠some k→w4.heap[k]? =w2.heap[k]?:=fun k hk hne=>(hg4.block k (aW hk yr.o.size) (fun e=>hne e.symm)).trans (yr.o.block k hk)
 have ui:aG w4 p 331 #[.int .i64 d.size,.slice (some ⟨q.gd,0,none⟩) d.df.length q.cd,q.rv,.map (some q.mb)]:=(hk4 p jG.o.own.lt (fun e=>jG.o.row.rZ e jG.o.own (fun c e=>yH) rfl)).trans jG.o.own;have hv4:aG w4 vb 338 #[.int .i64 i,.slice (some ⟨gb,0,none⟩) b.length cb]:=(hk4 vb Ti (fun e=>ad8)).trans iZ.o;have xZ:fB af 3 .i64 w4 q.mb q.mn (od d q):=jG.o.newest.same (hk4 q.mb jG.o.newest.lt (fun e=>aeq));have JN:w4.cell? ⟨p,3,none⟩=some (.map (some q.mb))∧w4.cell? ⟨vb,0,none⟩=some (.int .i64 i)∧w4.cell? ⟨vb,1,none⟩=some (.slice (some ⟨gb,0,none⟩) b.length cb):=⟨ui.cell 3,hv4.cell 0,hv4.cell 1⟩;have z5:w4.cell? ⟨p,2,none⟩=some q.rv:=ui.cell 2;have m5:=ui.mark 2;have hpv:p≠vb:=fun e=>by have:=iY.o p jG.o.bA.1;have:=HGW.o;omega
 have Hv:aG (w4.setCell ⟨p,2,none⟩ (.slice (some ⟨ga,0,none⟩) (d.row.length+1) ca)) p 331 #[.int .i64 d.size,.slice (some ⟨q.gd,0,none⟩) d.df.length q.cd,.slice (some ⟨ga,0,none⟩) (d.row.length+1) ca,.map (some q.mb)]:=aei;have OV:=hv4.other (p:=⟨p,2,none⟩) (fun e=>hpv e.symm) (.slice (some ⟨ga,0,none⟩) (d.row.length+1) ca);have hS5:(w4.setCell ⟨p,2,none⟩ (.slice (some ⟨ga,0,none⟩) (d.row.length+1) ca)).cell? ⟨p,3,none⟩=some (.map (some q.mb))∧(w4.setCell ⟨p,2,none⟩ (.slice (some ⟨ga,0,none⟩) (d.row.length+1) ca)).cell? ⟨vb,0,none⟩=some (.int .i64 i)∧(w4.setCell ⟨p,2,none⟩ (.slice (some ⟨ga,0,none⟩) (d.row.length+1) ca)).cell? ⟨vb,1,none⟩=some (.slice (some ⟨gb,0,none⟩) b.length cb):=⟨Hv.cell 3,OV.cell 0,OV.cell 1⟩;have hmp:q.mb≠p:=fun e=>xZ.mz ui e.symm
 have rK:=xZ.same (w':=w4.setCell ⟨p,2,none⟩ (.slice (some ⟨ga,0,none⟩) (d.row.length+1) ca)) (dH w4 ⟨p,2,none⟩ _ q.mb hmp);have Jy:p≠ga:=hr4.rZ rfl ui (fun c e=>yH);have su:=hr4.put (q:=⟨p,2,none⟩) (fun g e=>(show ga=g from Lo)▸Jy) (.slice (some ⟨ga,0,none⟩) (d.row.length+1) ca);have agX:=hg4.size;have qL:=aa su;have ve:=aa hg4;have HK4:=aa hk4;have Dx:=aa Hv;have HV5:=aa OV;have Gq:=aa rK;have Yb:=aa hS5;have Gp:=aa hmp;have HZ4:=aa agX;clear hr4 hg4 hk4 ui hv4 xZ Hv OV hS5 hmp rK su Jy hpv agX;refine bW hK (by exact JN) fun amP=>?_
 clear hK K;refine tX 15 16 ?_;refine cG 17 fun K hK=>?_
 go_simp;go_wp2_with fail;refine bW hK (by exact Yb.o) fun amN=>?_
 clear hK K;refine cG 18 fun K hK=>?_
 obtain⟨v0,st,w6,acZ,kq,hz6,hst⟩:=Gq.o.entry fu Hk (fun u=>Bp u) (show q.mn<maxLen by have:=jG.o.few;unfold maxLen;omega) (i:=(i:Int)) HWF.o;have hS6:w6.cell? ⟨p,3,none⟩=some (.map (some q.mb))∧w6.cell? ⟨vb,0,none⟩=some (.int .i64 i)∧w6.cell? ⟨vb,1,none⟩=some (.slice (some ⟨gb,0,none⟩) b.length cb):=by
  have zR:=Dx.o.bw kq (fun e=>DF);have hv6:=HV5.o.bw kq (fun e=>S9);exact⟨zR.cell 3,hv6.cell 0,hv6.cell 1⟩
 have Kr:=aa kq;have HZ6:=aa hz6;have HST:=aa hst;clear kq hz6 hst;refine Iv (.tmp 30) (.tmp 31) 329 rfl rfl rfl acZ ?_;clear acZ;refine bW hK (by exact hS6) fun amM=>?_
 clear hK K;refine ty 19 ?_;refine cG 20 fun K hK=>?_
 obtain⟨w7,acY,hm7,JC,hz7⟩:=HST.o w6 (.slice (some ⟨gb,0,none⟩) b.length cb) rfl;have hS7:w7.cell? ⟨p,3,none⟩=some (.map (some q.mb))∧w7.cell? ⟨vb,0,none⟩=some (.int .i64 i)∧w7.cell? ⟨vb,1,none⟩=some (.slice (some ⟨gb,0,none⟩) b.length cb):=by
  have hp7:=(Dx.o.bw Kr.o (fun e=>DF)).bw JC (fun e=>DF);have hv7:=(HV5.o.bw Kr.o (fun e=>S9)).bw JC (fun e=>S9);exact⟨hp7.cell 3,hv7.cell 0,hv7.cell 1⟩
 have HM7:=aa hm7;have HG7:=aa JC;have HZ7:=aa hz7;clear hm7 JC hz7;refine C2 (.tmp 30) (.tmp 44) (.tmp 40) 329 rfl rfl rfl rfl acY ?_;clear acY;refine bW hK (by exact hS7) fun amL=>?_
 clear hK K;refine bO ?_;go_wp2_with fail;go_ret;have hT:aI S w w7:=((((((aI.aU af0.o).ak yr.o).grown ve.o (fun k e=>.inl (jG.o.row.block k e))).put (p:=⟨p,2,none⟩) (.inl jG.o.bA.1) _).grown Kr.o (fun k e=>.inl T9)).grown HG7.o (fun k e=>.inl T9));have hz7:vb+2≤w7.heap.size:=by
  have a1:=HZ7.o;have a2:=HZ6.o;have a3:=ve.o.size;have a4:=zb.o;simp at a2 a3;omega
 have hgv:=HGV.o;have hgw:=HGW.o;have akC:=Sv.o;have Wy: ∀ k,S k→k<w.heap.size:=iY.o;have hk7: ∀ k,k<w2.heap.size→k≠p→k≠q.mb→q.rv.ownBlock≠some k→w7.heap[k]? =w2.heap[k]?:=fun k hk h1 h2 h3=>by
  have z4:=ve.o.size;have z6:=HZ6.o;have hv:=zb.o;simp at z4 z6;have k4:=HK4.o k hk h3;have k5:=dH w4 ⟨p,2,none⟩ (.slice (some ⟨ga,0,none⟩) (d.row.length+1) ca) k h1;have k6:=Kr.o.block k (by rw[Hm];omega) (fun e=>TF);have k7:=HG7.o.block k aj (fun e=>TF);exact k7.trans (k6.trans (k5.trans k4))
 have KM:q.mb≠ga:=aeo;have hz6:=HZ6.o;have akD:=(dM qL.o.own (g:=ga) rfl).1;have hr7:=qL.o.OM (w':=w7) ((HG7.o.block ga aj (fun e=>TS)).trans (Kr.o.block ga akD (fun e=>TS)));have hp7:=(Dx.o.bw Kr.o (fun e=>DF)).bw HG7.o (fun e=>DF);have hm7:=HM7.o;have hcb:=HCB.o;have OY:=HLB.o;rw[OY] at hm7 hcb hr7;refine⟨rfl,jG.o.write hi OY hcb ?_ (fun hs=>by have:=Wy gb hs;omega) (.inr ⟨akC,aj⟩) (fun k hs=>hk7 k (jG.o.lt k hs)) hp7 (hr7.mono fun k hk hk3=>?_) hm7 (fun k hk=>.inl hk) (fun k hk=>?_),hT⟩
 ·refine alE.o.same (hk7 gb Ti (fun e=>?_) (fun e=>?_) (fun e=>?_))
  ·have:=Wy p jG.o.bA.1;omega
  ·have:=Wy q.mb jG.o.bA.2.1;omega
  have:=Wy gb (jG.o.row.block gb e);omega
 ·rcases hk with hk|hk
  ·exact .inl hk
  refine .inr ⟨?_,hk3⟩;rw[hk];have:=zb.o;simp;omega
 rcases hk with hk|hk
 ·have:=Wy k hk;omega
 exact hk.2):p:=h
theorem acJ{p:Prop}(h:p:=by
 go_enter Tryz.func360,Tryz.ntmps360;go_wp2_with fail;refine ag HN.o ?_;go_wp2_with (refine zi rfl (.tmp 19) (.tmp 20) 329 rfl 3 34 .i64 fu Hk (.slice none 0 0) (Bp w) q.mb q.mn (od d q) rfl HM.o (i:Int) rfl HW.o ?_;rw[HV.o]);refine HC.o.mono ?_;rintro e w1 ⟨A,c,he,h1,h2,_,_,h3⟩;rw[HL.o] at he;subst he;have hf:RdD (d.look i) 0 w (.returned (.tuple #[.slice A d.size c,.int .i64 0])) w1:=⟨A,c,by rw[HL.o],h1,h2,h3⟩;have HF:=aa hf;clear h1 h2 h3 hf HC;go_wp2_with fail;go_ret2;exact HF.o):p:=h
theorem ab5{p:Prop}(h:p:=by
 clear h hb;go_enter Tryz.func122,Tryz.ntmps122;go_wp2_with fail;refine ag HN.o ?_;go_wp2_with fail;go_ret;exact⟨rfl,rfl⟩):p:=h
theorem yH{p:Prop}(h:p:=by injection e with _ e2;revert e2;decide):p:=h
theorem DF{p:Prop}(h:p:=by injection e with e;exact Gp.o e):p:=h
theorem S9{p:Prop}(h:p:=by injection e with e;exact Gq.o.mz HV5.o e.symm):p:=h
theorem aeq{p:Prop}(h:p:=by obtain⟨es,c,hb⟩:=jG.o.newest.obj;exact jG.o.row.rZ e hb (fun c e=>by injection e) rfl):p:=h
theorem rS{p:Prop}(h:p:=by rw[PB.o];exact ajA.o):p:=h
theorem T9{p:Prop}(h:p:=by injection e with e;exact e▸jG.o.bA.2.1):p:=h
theorem aeo{p:Prop}(h:p:=by obtain⟨es,cc,hb⟩:=Gq.o.obj;exact qL.o.rZ rfl hb (fun c e=>by injection e)):p:=h
theorem TS{p:Prop}(h:p:=by injection e with e;exact KM e.symm):p:=h
theorem aei{p:Prop}(h:p:=by simpa using ui.put 2 (.slice (some ⟨ga,0,none⟩) (d.row.length+1) ca)):p:=h
theorem TF{p:Prop}(h:p:=by injection e with e;exact h2 e):p:=h
theorem ad8{p:Prop}(h:p:=by have:=iY.o vb (jG.o.row.block vb e);have:=HGW.o;omega):p:=h
theorem ad3{p:Prop}(h:p:=by intro u hu;simp at hu;rcases hu with rfl|rfl <;>rfl):p:=h
theorem Ti{p:Prop}(h:p:=by have:=zb.o;omega):p:=h
theorem Lo{p:Prop}(h:p:=by simpa[gY] using e):p:=h
section
namespace En
def RdD(bs:By)(er:Int)(w:World)(e:Ending)(w':World): Prop:=
 ∃ A c,e= .returned (.tuple #[.slice A bs.length c,.int .i64 er])∧(bs≠ []→∃ g,A=some ⟨g,0,none⟩∧w.heap.size≤g∧jN w' 5 g bs)∧bs.length≤c∧Below w.heap.size w w'
theorem lX: ∀ {l:List (Nat × By)} {i j:Nat},fI l i=some j→j<l.length∧gP l i=some (l.getD j (0,[])).2
 | [],_,_,h=>by simp[fI] at h
 | x::r,i,j,h=>by
  rw[fI] at h;rw[gP];cases hr:fI r i with
  | some k=>
   rw[hr] at h;injection h with h
   subst h;obtain⟨h1,h2⟩:=lX hr;rw[h2];exact⟨fV,dR⟩
  | none=>
   rw[hr] at h;have h2:gP r i=none:=se hr;rw[h2];simp only at h;split at h
   ·injection h with h;subst h
    rename_i hx;exact⟨dR,by simp[hx]⟩
   cases h
where
 se: ∀ {l:List (Nat × By)} {i:Nat},fI l i=none→gP l i=none
 | [],_,_=>rfl
 | x::r,i,h=>by
  rw[fI] at h;rw[gP];cases hr:fI r i with
  | some k=>rw[hr] at h;cases h
  | none=>
   rw[hr] at h;rw[se hr];simp only at h ⊢;split at h
   ·cases h
   rename_i hx;simp[hx]
variable{i p:Nat}{S:Nat→Prop}{w:World}
theorem DX{l:List (Nat × By)}(h:fI l i=none): gP l i=none:=lX.se h
theorem vV{d:Dk}(h:d.Ok)(hi:i<d.df.length): (d.look i).length=d.size:=by
 unfold Dk.look;cases hr:fI d.row i with
 | some j=>
  obtain⟨h1,h2⟩:=lX hr;rw[h2];exact(h.aF (d.row.getD j (0,[])) (by rw[bN,bY h1];exact wL h1)).2
 | none=>
  rw[DX hr];exact h.each (d.df.getD i []) (by rw[bN,bY hi];exact wL hi)
theorem Bp(w:World): (zeroValue 34).run af w= .ok (.slice none 0 0) w:=br
theorem XF{d:Dk}{q:EI}(h:eN S w p d q)(at_:Int)(hb:d.bad at_=true): Calls af 360 #[.pointer (some ⟨p,0,none⟩),.int .i64 at_] w (RdD [] 50 w):=by
 have HN:=aa (I7 h at_ hb);clear h hb;go_enter Tryz.func360,Tryz.ntmps360;go_wp2_with fail;refine ag HN.o ?_;go_wp2_with fail;go_ret2;exact⟨none,0,rfl,fun h=>absurd rfl h,aQ _,au _ _⟩
theorem XE{d:Dk}{q:EI}(h:eN S w p d q)(i j:Nat)(hi:i<d.df.length)(hj:fI d.row i=some j): Calls af 360 #[.pointer (some ⟨p,0,none⟩),.int .i64 i] w (RdD (d.look i) 0 w):=by
 have hb:d.bad i=false:=by simp[Dk.bad];omega
 have HN:=aa (zL h i hb);have x3:w.cell? ⟨p,3,none⟩=some (.map (some q.mb)):=h.own.cell 3;have hv:od d q i=some (.slice (some ⟨q.wg j,0,none⟩) d.size (q.wc j)):=by simp[od,hj]
 obtain⟨Wf,hlk⟩:=lX hj;have JA:d.look i=(d.row.getD j (0,[])).2:=by unfold Dk.look;rw[hlk];rfl
 have Mr:=vV h.ok hi;have hC:=Oc.yA (d.look i) (some ⟨q.wg j,0,none⟩) (q.wc j) w (by rw[JA];exact(h.aF j Wf).1.bs) (cI _ _) (by rw[Mr];have:=h.ok.size;omega);rw[Mr] at hC;have HC:=aa hC;have HM:=aa h.newest;have HV:=aa hv;have HL:=aa Mr;have CT:(i:Int)<9223372036854775808:=by have:=h.ok.some;omega
 have zn:(Lit.int .i64 (i:Int)).wf=true:=Hl ⟨aj,aj⟩;have HW:=aa zn;clear h hb hv hC Mr JA hlk Wf zn;exact acJ
theorem DN{e:TypeId}{n g cap:Nat}{c:Nat→List Value}(h:aM S w e 1 (.slice (some ⟨g,0,none⟩) n cap) n c)(hc: ∀ i,(c i).length=1)(hi:i<n){v:Value}(hv:c i= [v]): w.cell? ⟨g,i,none⟩=some v:=by
 have:=h.range hc hi 0 v (by rw[hv];rfl);simpa using this
theorem XD{d:Dk}{q:EI}(h:eN S w p d q)(i:Nat)(hi:i<d.df.length)(hj:fI d.row i=none): Calls af 360 #[.pointer (some ⟨p,0,none⟩),.int .i64 i] w (RdD (d.look i) 0 w):=by
 have hb:d.bad i=false:=by simp[Dk.bad];omega
 have HN:=aa (zL h i hb);have x3:w.cell? ⟨p,3,none⟩=some (.map (some q.mb)):=h.own.cell 3;have x1:w.cell? ⟨p,1,none⟩=some (.slice (some ⟨q.gd,0,none⟩) d.df.length q.cd):=h.own.cell 1;have y0:w.cell? ⟨q.gd,i,none⟩=some (.slice (some ⟨q.ad i,0,none⟩) d.size (q.cp i)):=DN h.df (fun _=>rfl) hi rfl;have hv:od d q i=none:=by simp[od,hj]
 have JA:d.look i=d.df.getD i []:=by unfold Dk.look;rw[DX hj];rfl
 have Mr:=vV h.ok hi;have hC:=Oc.yA (d.look i) (some ⟨q.ad i,0,none⟩) (q.cp i) w (by rw[JA];exact(h.each i hi).1.bs) (cI _ _) (by rw[Mr];have:=h.ok.size;omega);rw[Mr] at hC;have HC:=aa hC;have HM:=aa h.newest;have HV:=aa hv;have HL:=aa Mr;have CT:(i:Int)<(d.df.length:Int):=aj;have Mv:(0:Int)≤(i:Int):=aj;have zn:(Lit.int .i64 (i:Int)).wf=true:=Hl ⟨aj,by have:=h.ok.some;omega⟩;have HW:=aa zn;clear h hb hv hC Mr JA zn;exact acJ
theorem aa1{d:Dk}(h:vg p d S w)(at_:Int): Calls af 360 #[.pointer (some ⟨p,0,none⟩),.int .i64 at_] w (RdD (d.read at_).2 (d.read at_).1 w):=by
 obtain⟨q,h⟩:=h;cases hb:d.bad at_ with
 | true=>rw[Dk.read,if_pos hb];exact XF h at_ hb
 | false=>
  rw[Dk.read,if_neg (by rw[hb];simp)];obtain⟨i,rfl⟩: ∃ i:Nat,at_=i:=⟨at_.toNat,DG⟩;have hi:i<d.df.length:=DG;cases hj:fI d.row i with
  | some j=>exact XE h i j hi hj
  | none=>exact XD h i hi hj
end En
end
section
open Go.RowKit Go.Maps
variable{P:Program}{w:World}
theorem o8(w:World){b:Nat}{es:Array MapEntry}{c:Nat}{o':Obj}(h:w.heap[b]? =some (.map es c)): (gu w b o').heap[b]? =some o':=ChangeMaps.heap_setBlock_same h o'
theorem fB.entry{k e t:TypeId}{q:IntKind}{b n:Nat}{φ:Int→Option Value}(h:fB P k q w b n φ)(hk:P.underlying k=some (.int q))(ht:P.underlying t=some (.map k e)){z:Value}(hz: ∀ u:World,(zeroValue e).run P u= .ok z u)(hn:n<maxLen){i:Int}(hi:(Lit.int q i).wf=true):
  ∃ (v0:Value) (st:Int) (w1:World),(Am t (.map (some b)) (.int q i)).run P w= .ok (.tuple #[v0,.int .i64 st]) w1∧w.grownBy w1 (some b)∧w1.heap.size=w.heap.size∧
   ∀ (w2:World) (v:Value),w2.heap[b]? =w1.heap[b]?→∃ w3,(tJ t (.map (some b)) (.int .i64 st) v).run P w2= .ok () w3∧fB P k q w3 b (if(φ i).isSome then n else n+1) (Da φ i (some v))∧w2.grownBy w3 (some b)∧w3.heap.size=w2.heap.size:=by
 have hput:=fun v=>h.put hk ht hn hi (v:=v)
 obtain⟨D,⟨es,aq,hb,F,hs,_⟩,_⟩:=h;have K:=int_keyed hk;have hkey:=keyOf_int_mk hk hi;obtain⟨s1,s2,_⟩:=F.stamped;have hgr: ∀ (W:World) (es0:Array MapEntry) (c0:Nat) (o':Obj),W.heap[b]? =some (.map es0 c0)→W.grownBy (gu W b o') (some b)∧(gu W b o').heap.size=W.heap.size:=fun W es0 c0 o' hW=>
  ⟨⟨rfl,rfl,rfl,by simp[gu],fun j _ hj=>ChangeMaps.heap_setBlock_other hW _ (fun e=>hj mm)⟩,by simp[gu]⟩
 have lG: ∀ (st:Nat) (MJ:Array MapEntry) (c1:Nat),(∀ (W:World) (v:Value),W.heap[b]? =some (.map MJ c1)→∃ es' c',(tJ t (.map (some b)) (.int .i64 (st:Int)) v).run P W= .ok () (gu W b (.map es' c'))∧(Hf t (.map (some b)) (.int q i) v).run P w= .ok () (gu w b (.map es' c')))→
   ∀ (w2:World) (v:Value),w2.heap[b]? =(gu w b (.map MJ c1)).heap[b]?→∃ w3,(tJ t (.map (some b)) (.int .i64 (st:Int)) v).run P w2= .ok () w3∧fB P k q w3 b (if(φ i).isSome then n else n+1) (Da φ i (some v))∧w2.grownBy w3 (some b)∧w3.heap.size=w2.heap.size:=by
  intro st MJ c1 hst w2 v hw2;have BK:w2.heap[b]? =some (.map MJ c1):=hw2.trans (o8 w hb);obtain⟨es',c',r1,r2⟩:=hst w2 v BK;obtain⟨w',u1,u2,_⟩:=hput v;rw[r2] at u1;injection u1 with _ u1
  subst u1;obtain⟨g1,g2⟩:=hgr w2 _ _ (.map es' c') BK;exact⟨_,r1,u2.same ((o8 w2 BK).trans (o8 w hb).symm),g1,g2⟩
 rcases K.find w hkey es.toList F.keys with⟨h1,h2⟩|⟨j,e0,h1,h2,h3⟩
 ·refine⟨z,(aq:Int),gu w b (.map (es.push ⟨.int q i,z,aq⟩) (aq+1)),?_,(hgr w _ _ _ hb).1,(hgr w _ _ _ hb).2,lG aq _ _ fun W v hW=>⟨es.push ⟨.int q i,v,aq⟩,aq+1,?_,?_⟩⟩
  ·simp[Am,run_underlying ht,tK hb,K.check w false hkey,h1,hz,tL _ hb,iV,gu,goInt]
  ·have Mu:(es.push ⟨.int q i,z,aq⟩).findIdx? (fun e=>((e.born:Nat):Int)==((aq:Nat):Int))=some es.size:=by
    rw[P3];refine P5 (j:=es.size) (e0:=⟨.int q i,z,aq⟩) ?_ dR;rw[He,List.map_append];refine List.nodup_append.2 ⟨s2,dR,fun a ha c hc e1=>?_⟩;obtain⟨x,hx,rfl⟩:=List.mem_map.1 ha;have:=s1 x hx;simp at hc;omega
   have aeS:(es.push ⟨.int q i,z,aq⟩).modify es.size (fun e=>{e with val:=v})=es.push ⟨.int q i,v,aq⟩:=by
    apply Hh;rw[P4,He,He,←Array.length_toList,WideElems.modify_last]
   simp[tJ,tK hW,asInt,asIntOf,Mu,aeS,tL _ hW,iV,gu]
  simp[Hf,run_underlying ht,tK hb,K.check w false hkey,h1,tL _ hb,iV,gu]
 ·have hj:es[j]? =some e0:=by simpa using h2
  have F2: ∀ f:MapEntry→MapEntry,(es.modify j f).toList=es.toList.set j (f e0):=fun f=>by
   rw[P4];exact Go.ChangeMaps.modify_eq_set _ _ _ _ h2
  have OX:es.modify j (fun e=>{e with key:=.int q i})=es:=by
   apply Hh;rw[F2];have:({e0 with key:=.int q i}:MapEntry)=e0:=by rw[←h3]
   rw[this];exact WideElems.set_self _ _ _ h2
  refine⟨e0.val,(e0.born:Int),gu w b (.map es aq),?_,(hgr w _ _ _ hb).1,(hgr w _ _ _ hb).2,lG e0.born _ _ fun W v hW=>⟨es.modify j (fun e'=>{e' with key:=.int q i,val:=v}),aq,?_,?_⟩⟩
  ·simp[Am,run_underlying ht,tK hb,K.check w false hkey,h1,hj,h3,K.stays w hkey,OX,tL _ hb,iV,gu,goInt]
  ·have Mu:es.findIdx? (fun e=>((e.born:Nat):Int)==((e0.born:Nat):Int))=some j:=by
    rw[P3];exact P5 s2 h2
   have aeS:es.modify j (fun e=>{e with val:=v})=es.modify j (fun e'=>{e' with key:=.int q i,val:=v}):=by
    apply Hh;rw[F2,F2,←h3]
   simp[tJ,tK hW,asInt,asIntOf,Mu,aeS,tL _ hW,iV,gu]
  simp[Hf,run_underlying ht,tK hb,K.check w false hkey,h1,hj,h3,K.stays w hkey,tL _ hb,iV,gu]
theorem Iv{w1:World} {o:Oper}{a:Act}{K:Act→World→Prop}{Q:Exit→Act→World→Prop}(m x:Operand)(t:TypeId)(hop:o.op=Op.mapEntry t m x){mv xv v:Value}(hm:a.eval m=mv)(hx:a.eval x=xv)
  (hrun:(Am t mv xv).run P w= .ok v w1) (hK:K (a.put o.dst v) w1):fc P o a w K Q:=by
 unfold fc execOp;simp only[hop,Hi,Hg,Hj,hm,hx,hrun];exact hK
theorem C2{w1:World} {o:Oper}{a:Act}{K:Act→World→Prop}{Q:Exit→Act→World→Prop}(m x y:Operand)(t:TypeId)(hop:o.op=Op.entryStore t m x y){mv xv yv:Value}(hm:a.eval m=mv)(hx:a.eval x=xv)(hy:a.eval y=yv)
  (hrun:(tJ t mv xv yv).run P w= .ok () w1) (hK:K (a.put o.dst undef) w1):fc P o a w K Q:=by
 unfold fc execOp;simp only[hop,Hi,Hg,Hj,hm,hx,hy,hrun];exact hK
end
section
namespace En
variable{p n g:Nat}{S:Nat→Prop}{w:World}
theorem Rl{d:Dk}{q:EI}(h:eN S w p d q)(at_:Int)(hb:d.bad at_=true)(v:Value): Calls af 122 #[.pointer (some ⟨p,0,none⟩),.int .i64 at_,v] w fun e w'=>e= .returned (.int .i64 50)∧w'=w:=by
 have HN:=aa (I7 h at_ hb);exact ab5
theorem MU{d:Dk}{q:EI}(h:eN S w p d q)(at_:Int)(hb:d.bad at_=false)(A:Option Addr)(n c:Nat)(hn:n≠d.size): Calls af 122 #[.pointer (some ⟨p,0,none⟩),.int .i64 at_,.slice A n c] w fun e w'=>e= .returned (.int .i64 3)∧w'=w:=by
 have HN:=aa (zL h at_ hb);have x0:w.cell? ⟨p,0,none⟩=some (.int .i64 d.size):=h.own.cell 0;have hq:((n:Int)==(d.size:Int))=false:=fV;have CQ:(n==d.size)=false:=fV;exact ab5
theorem K0: (af.info? 338).map (fun i=>(i.zero,i.size,i.bytes))=some (some (.agg #[.int .i64 0,.slice none 0 0]),2,32):=br
theorem _root_.Go.Proofs.YtemighjbfanenaaGreatDoor.aM.rZ{e:TypeId}{sz k:Nat} {v:Value}{c:Nat→List Value}(h:aM S w e sz v n c)(hg:v.ownBlock=some g){o:Obj}(ho:w.heap[k]? =some o)(hne: ∀ cur,o≠ .cells cur e (0,0)): k≠g:=by
 rintro rfl;rcases h.own.2 with⟨hv,_⟩|⟨g',cap',cur,hv,_,hh,_⟩
 ·subst hv;simp[gY] at hg
 subst hv;have e1:g'=k:=uE;subst e1;rw[hh] at ho;injection ho with ho
 exact hne cur ho.symm
theorem _root_.Go.Proofs.YtemighjbfanenaaGreatDoor.fB.obj{P:Program}{k:TypeId}{q:IntKind}{b:Nat} {φ:Int→Option Value}(h:fB P k q w b n φ): ∃ es c,w.heap[b]? =some (.map es c):=by obtain⟨D,⟨es,aq,hb,_⟩,_⟩:=h;exact⟨es,aq,hb⟩
theorem _root_.Go.Proofs.YtemighjbfanenaaGreatDoor.fB.mz{P:Program}{k t:TypeId}{q:IntKind}{b:Nat} {φ:Int→Option Value}{cs:Array Value}(h:fB P k q w b n φ)(ha:aG w g t cs): g≠b:=by
 rintro rfl;obtain⟨es,c,hb⟩:=h.obj;rw[aG,hb] at ha;injection ha with ha
 cases ha
theorem _root_.Go.Proofs.YtemighjbfanenaaGreatDoor.aM.OM{w':World} {e:TypeId}{sz cap:Nat} {c:Nat→List Value}(h:aM S w e sz (.slice (some ⟨g,0,none⟩) n cap) n c)(hk:w'.heap[g]? =w.heap[g]?): aM S w' e sz (.slice (some ⟨g,0,none⟩) n cap) n c:=
 ⟨dY h.own fun g' hg=>by
  have:g=g':=uE;subst this;exact hk,h.block⟩
theorem r9(i j:Nat)(b:By): ∀ l,fI (l++ [(j,b)]) i=if j=i then some l.length else fI l i
 | []=>by by_cases h:j=i <;>simp[fI,h]
 | x::r=>by
  rw[List.cons_append,fI,r9 i j b r];by_cases h:j=i
  ·rw[if_pos h,if_pos h];simp
  rw[if_neg h,if_neg h,fI]
theorem eN.write{T:Nat→Prop} {w':World} {i gb cb ga ca:Nat} {d:Dk}{q:EI}{b:By}(h:eN S w p d q)(hi:i<d.df.length)(hl:b.length=d.size)(hcb:d.size≤cb)(hgb:jN w' 5 gb b)(akk: ¬S gb)(hgT:T gb)
  (hk: ∀ k,S k→k≠p→k≠q.mb→q.rv.ownBlock≠some k→w'.heap[k]? =w.heap[k]?)
  (hown:aG w' p 331 #[.int .i64 d.size,.slice (some ⟨q.gd,0,none⟩) d.df.length q.cd,.slice (some ⟨ga,0,none⟩) (d.row.length+1) ca,.map (some q.mb)])
  (hrow:aM T w' 338 2 (.slice (some ⟨ga,0,none⟩) (d.row.length+1) ca) (d.row.length+1) (cH (Dd d q) d.row.length [.int .i64 i,.slice (some ⟨gb,0,none⟩) d.size cb]))
  (hm:fB af 3 .i64 w' q.mb (if(od d q i).isSome then q.mn else q.mn+1) (Da (od d q) i (some (.slice (some ⟨gb,0,none⟩) d.size cb)))) (p9: ∀ k,S k→T k) (hT: ∀ k,T k→k<w'.heap.size) :
  vg p {d with row:=d.row++ [(i,b)]} T w':=by
 have hlen:(d.row++ [(i,b)]).length=d.row.length+1:=dR;have ac3: ∀ j,j<d.row.length→(d.row++ [(i,b)]).getD j (0,[])=d.row.getD j (0,[]):=fun j hj=>by rw[bN,bN,qT hj]
 have ac2:(d.row++ [(i,b)]).getD d.row.length (0,[])=(i,b):=by rw[bN,wJ (aQ _)];simp
 have Y2:cH (Dd d q) d.row.length [.int .i64 i,.slice (some ⟨gb,0,none⟩) d.size cb]=fun j=>if j=d.row.length then [.int .i64 i,.slice (some ⟨gb,0,none⟩) d.size cb] else Dd d q j:=rfl
 have obj: ∀ {k:Nat} {o:Obj},w.heap[k]? =some o→(∀ cur,o≠ .cells cur 338 (0,0))→q.rv.ownBlock≠some k:=fun ho hne e=>h.row.rZ e ho hne rfl
 have hap:=h.apart;have agq: ∀ {k:Nat} {l:By},jN w 5 k l→k≠p∧k≠q.mb∧q.rv.ownBlock≠some k:=fun {k l} hb=>by
  obtain⟨cur,h1,_⟩:=hb;refine⟨?_,?_,obj h1 (fun c e=>yH)⟩
  ·rintro rfl;have:=h.own;rw[aG] at this;rw[this] at h1;injection h1 with h1
   injection h1 with _ h2
   revert h2;decide
  rintro rfl;obtain⟨D,⟨es,aq,hb,_⟩,_⟩:=h.newest;rw[hb] at h1;injection h1 with h1
  cases h1
 have akB:w'.heap[q.gd]? =w.heap[q.gd]?:=by
  have hS:S q.gd:=h.df.block q.gd rfl;rcases h.df.own.2 with⟨hv,_⟩|⟨g',cap',cur,hv,_,hh,_⟩
  ·cases hv
  injection hv with e1 _ _
  injection e1 with e1
  injection e1 with e1
  subst e1;refine hk _ hS ?_ ?_ (obj hh (fun c e=>yH))
  ·intro e;have:=h.own;rw[aG,←e] at this;rw[this] at hh;injection hh with hh
   injection hh with _ h2
   revert h2;decide
  intro e;obtain⟨D,⟨es,aq,hb,_⟩,_⟩:=h.newest;rw[←e] at hb;rw[hb] at hh;injection hh with hh
  cases hh
 refine⟨{q with rv:=.slice (some ⟨ga,0,none⟩) (d.row.length+1) ca,mn:=if(od d q i).isSome then q.mn else q.mn+1,wg:=cH q.wg d.row.length gb,wc:=cH q.wc d.row.length cb},hown,(h.df.OM akB).mono fun g hg _=>p9 g hg,fun j hj=>?_,?_,fun j hj=>?_,?_,⟨h.ok.size,h.ok.some,h.ok.each,fun x hx=>?_⟩,⟨p9 _ h.bA.1,p9 _ h.bA.2.1,fun j hj=>p9 _ (h.bA.2.2.1 j hj),fun j hj=>?_⟩,⟨hap.1,fun a j ha hj=>?_⟩,hT,?_⟩
 ·obtain⟨n1,n2,n3⟩:=agq (h.each j hj).1;exact⟨(h.each j hj).1.same (hk _ (h.bA.2.2.1 j hj) n1 n2 n3),(h.each j hj).2⟩
 ·show aM T w' _ 2 _ (d.row++ [(i,b)]).length _
  rw[hlen];refine⟨?_,hrow.block⟩;have:=hrow.own;rw[iQ (d:=Dd {d with row:=d.row++ [(i,b)]} {q with rv:=.slice (some ⟨ga,0,none⟩) (d.row.length+1) ca,mn:=if(od d q i).isSome then q.mn else q.mn+1,wg:=cH q.wg d.row.length gb,wc:=cH q.wc d.row.length cb}) (fun j hj=>?_)] at this
  ·exact this
  unfold Dd;by_cases e:j=d.row.length
  ·subst e;rw[bM,ac2];show _= [Value.int .i64 (i:Nat),Value.slice (some ⟨cH q.wg d.row.length gb d.row.length,0,none⟩) d.size (cH q.wc d.row.length cb d.row.length)]
   rw[bM,bM]
  rw[bl _ _ e,ac3 j aj];show _= [Value.int .i64 ((d.row.getD j (0,[])).1:Nat),Value.slice (some ⟨cH q.wg d.row.length gb j,0,none⟩) d.size (cH q.wc d.row.length cb j)]
  rw[bl _ _ e,bl _ _ e]
 ·have D7:j<d.row.length+1:=by simpa using hj
  show jN w' _ (cH q.wg d.row.length gb j) ((d.row++ [(i,b)]).getD j (0,[])).2∧d.size≤cH q.wc d.row.length cb j
  by_cases e:j=d.row.length
  ·subst e;rw[bM,bM,ac2];exact⟨hgb,hcb⟩
  rw[bl _ _ e,bl _ _ e,ac3 j aj];obtain⟨n1,n2,n3⟩:=agq (h.aF j aj).1;exact⟨(h.aF j aj).1.same (hk _ (h.bA.2.2.2 j aj) n1 n2 n3),(h.aF j aj).2⟩
 ·have hφ:Da (od d q) i (some (.slice (some ⟨gb,0,none⟩) d.size cb))=od {d with row:=d.row++ [(i,b)]} {q with rv:=.slice (some ⟨ga,0,none⟩) (d.row.length+1) ca,mn:=if(od d q i).isSome then q.mn else q.mn+1,wg:=cH q.wg d.row.length gb,wc:=cH q.wc d.row.length cb}:=by
   funext z;unfold Da od;by_cases ez:z=(i:Int)
   ·subst ez;rw[if_pos rfl,if_neg aj];show _=Option.map _ (fI (d.row++ [(i,b)]) _)
    rw[r9,if_pos (show i=(i:Int).toNat from dR)];simp[bM]
   rw[if_neg ez];by_cases z0:z<0
   ·rw[if_pos z0,if_pos z0]
   rw[if_neg z0,if_neg z0];show _=Option.map _ (fI (d.row++ [(i,b)]) _)
   rw[r9,if_neg (show ¬i=z.toNat from aj)];cases hx:fI d.row z.toNat with
   | none=>rfl
   | some j=>
    obtain⟨h1,_⟩:=lX hx;simp[bl _ _ (show j≠d.row.length from aj)]
  rw[←hφ];exact hm
 ·rcases List.mem_append.1 hx with hx|hx
  ·exact h.ok.aF x hx
  obtain rfl:=List.mem_singleton.1 hx;exact⟨hi,hl⟩
 ·have D7:j<d.row.length+1:=by simpa using hj
  show T (cH q.wg d.row.length gb j)
  by_cases e:j=d.row.length
  ·subst e;rw[bM];exact hgT
  rw[bl _ _ e];exact p9 _ (h.bA.2.2.2 j aj)
 ·have D7:j<d.row.length+1:=by simpa using hj
  show q.ad a≠cH q.wg d.row.length gb j
  by_cases e:j=d.row.length
  ·subst e;rw[bM];intro e2;exact akk (e2▸h.bA.2.2.1 a ha)
  rw[bl _ _ e];exact hap.2 a j ha aj
 ·show(if(od d q i).isSome then q.mn else q.mn+1)≤(d.row++ [(i,b)]).length
  have:=h.few;rw[hlen];split <;>omega
def aij(S:Nat→Prop)(p:Nat)(d:Dk)(w:World)(e:Ending)(w':World): Prop:=e= .returned (.int .i64 0)∧vg p d (Gr S w w') w'∧aI S w w'
theorem Xm{d:Dk}{q:EI}(h:eN S w p d q)(i:Nat)(hi:i<d.df.length)(b:By)(hl:b.length=d.size)(A:Option Addr)(c:Nat)(hB:Bs w A b)(hA:rh A)(hrow:d.row.length<1000000):
  Calls af 122 #[.pointer (some ⟨p,0,none⟩),.int .i64 i,.slice A b.length c] w (aij S p {d with row:=d.row++ [(i,b)]} w):=by
 obtain⟨i0,CT,hz0,hz1,hz2⟩:=info_parts K0;have hb:d.bad i=false:=by simp[Dk.bad];omega
 have HN:=aa (zL h i hb);have x0:w.cell? ⟨p,0,none⟩=some (.int .i64 b.length):=by rw[hl];exact h.own.cell 0
 have hne:b≠ []:=by rintro rfl;have:=h.ok.size;simp at hl;omega
 have HC:=aa (Oc.yA b A c w hB hA (by rw[hl];have:=h.ok.size;omega));have HH:=aa h;have kV:=aa hne;have HLB:=aa hl;have iY:=aa h.lt;have HWF:=aa (Hl (n:=(i:Int)) ⟨aj,by have:=h.ok.some;omega⟩);clear h hb hB hA hne hl;go_enter Tryz.func122,Tryz.ntmps122;go_wp2_with fail;refine ag HN.o ?_;go_wp2_with fail;refine HC.o.mono ?_;rintro e w1 ⟨B,cb,rfl,h1,h2,_,_,h3⟩;obtain⟨gb,rfl,hgb,hblk⟩:=h1 kV.o;have bz:=aa h3;have Sv:=aa hgb;have CB:=aa hblk;have HCB:=aa h2;clear h1 h2 h3 hgb hblk HC HN;go_wp2_with fail;obtain⟨vb,oh⟩:=ae w1.heap.size;obtain⟨w2,hw2⟩:=ae (w1.alloc (.cells #[.int .i64 i,.slice (some ⟨gb,0,none⟩) b.length cb] 338));have ae4:=aL hw2;have ha2:=aK hw2 oh;have agP:w2.heap.size=vb+1:=by rw[←hw2,←oh];simp
 have ya:Below w.heap.size w w2:=av bz.o ae4;have MG:eN S w2 p d q:=by
  have:=HH.o;have hz:=ya.size;have p8: ∀ k,S k→w2.heap[k]? =w.heap[k]?:=fun k hk=>ya.block k (this.lt k hk)
  exact⟨(p8 p this.bA.1).trans this.own,this.df.same fun g hg _=>p8 g hg,fun i hi=>⟨(this.each i hi).1.same (p8 _ (this.bA.2.2.1 i hi)),(this.each i hi).2⟩,this.row.same fun g hg _=>p8 g hg,fun i hi=>⟨(this.aF i hi).1.same (p8 _ (this.bA.2.2.2 i hi)),(this.aF i hi).2⟩,this.newest.same (p8 _ this.bA.2.1),this.ok,this.bA,this.apart,fun k hk=>aW (this.lt k hk) hz,this.few⟩
 have ac4:jN w2 5 gb b:=CB.o.same (ae4.block gb CB.o.lt);rw[hw2,oh];have Wz:w2.drew.cell? ⟨p,3,none⟩=some (.map (some q.mb))∧w2.drew.cell? ⟨vb,0,none⟩=some (.int .i64 i)∧w2.drew.cell? ⟨vb,1,none⟩=some (.slice (some ⟨gb,0,none⟩) b.length cb):=⟨MG.own.cell 3,ha2.cell 0,ha2.cell 1⟩;have z2:w2.drew.cell? ⟨p,2,none⟩=some q.rv:=MG.own.cell 2;have mh:Below w2.heap.size w2 (w2.drew.alloc (.cells #[.int .i64 i,.slice (some ⟨gb,0,none⟩) b.length cb] 338)):=ax (az (au _ _)) _;have aaf:p<w2.heap.size:=MG.own.lt;have Zb:(w2.drew.alloc (.cells #[.int .i64 i,.slice (some ⟨gb,0,none⟩) b.length cb] 338)).cell? ⟨p,3,none⟩=some (.map (some q.mb))∧(w2.drew.alloc (.cells #[.int .i64 i,.slice (some ⟨gb,0,none⟩) b.length cb] 338)).cell? ⟨vb,0,none⟩=some (.int .i64 i)∧(w2.drew.alloc (.cells #[.int .i64 i,.slice (some ⟨gb,0,none⟩) b.length cb] 338)).cell? ⟨vb,1,none⟩=some (.slice (some ⟨gb,0,none⟩) b.length cb):=⟨(mh.cell (p:=⟨p,3,none⟩) aaf).trans Wz.1,(mh.cell (p:=⟨vb,0,none⟩) (show vb<w2.heap.size from aj)).trans Wz.2.1,(mh.cell (p:=⟨vb,1,none⟩) (show vb<w2.heap.size from aj)).trans Wz.2.2⟩;have z3:(w2.drew.alloc (.cells #[.int .i64 i,.slice (some ⟨gb,0,none⟩) b.length cb] 338)).cell? ⟨p,2,none⟩=some q.rv:=(mh.cell (p:=⟨p,2,none⟩) aaf).trans z2;have z4:(w2.alloc (.cells #[.int .i64 i,.slice (some ⟨gb,0,none⟩) b.length cb] 338)).cell? ⟨p,2,none⟩=some q.rv:=z3;have hr3:aM S (w2.drew.alloc (.cells #[.int .i64 i,.slice (some ⟨gb,0,none⟩) b.length cb] 338)) 338 2 q.rv d.row.length (Dd d q):=MG.row.ai mh;have HS2:=aa Wz;have HS3:=aa Zb;have jG:=aa MG;have af0:=aa ya;have alE:=aa ac4;have zb:=aa agP;have gM:=aa hr3;have yr:=aa mh;have iZ:=aa ha2;have HGV:=aa (show gb<vb by rw[←oh];exact CB.o.lt);have HGW:=aa (show w.heap.size≤vb by rw[←oh];exact bz.o.size);clear Wz Zb MG ya ac4 agP ha2 ae4 hr3 mh aaf hw2 oh bz CB HH;refine ud (S:=(fun w'=>w'.cell? ⟨p,3,none⟩=some (.map (some q.mb))∧w'.cell? ⟨vb,0,none⟩=some (.int .i64 i)∧w'.cell? ⟨vb,1,none⟩=some (.slice (some ⟨gb,0,none⟩) b.length cb))) (by exact HS2.o) fun hHeld=>?_
 refine ov 0 1 2 3 4 5 6 7 ?_;refine lu 8 10 13 14 ?_;refine qp 9 11 (fun K hK=>?_) fun K hK=>?_
 ·go_simp;go_wp2_with fail;refine bW hK (by exact HS2.o) fun hHa=>?_
  clear hK K;refine cG 11 fun K hK=>?_
  exact agL
 ·go_simp;go_wp2_with fail;refine bW hK (by exact HS3.o) fun hHa=>?_
  clear hK K;refine cG 9 fun K hK=>?_
  exact agL
theorem Xn{d:Dk}(h:vg p d S w)(at_:Int)(b:By)(A:Option Addr)(c:Nat)(hB:Bs w A b)(hA:rh A)(hrow:d.row.length<1000000):
  Calls af 122 #[.pointer (some ⟨p,0,none⟩),.int .i64 at_,.slice A b.length c] w fun e w'=>e= .returned (.int .i64 (d.write at_ b).1)∧vg p (d.write at_ b).2 (Gr S w w') w'∧aI S w w':=by
 have L:=mf p d;have hS:=fun k hk=>L.lt h k hk
 have h0:=h;obtain⟨q,h⟩:=h;have same: ∀ e w',e=Ending.returned (.int .i64 50)∧w'=w→e= .returned (.int .i64 50)∧vg p d (Gr S w w') w'∧aI S w w':=by rintro e w' ⟨rfl,rfl⟩;exact⟨rfl,L.AB h0 hS (aQ _),aI.refl _ _⟩
 cases hb:d.bad at_ with
 | true=>rw[Dk.write,if_pos hb];exact(Rl h at_ hb _).mono same
 | false=>
  rw[Dk.write,if_neg (by rw[hb];simp)];obtain⟨i,rfl⟩: ∃ i:Nat,at_=i:=⟨at_.toNat,DG⟩;have hi:i<d.df.length:=DG;by_cases hl:b.length=d.size
  ·rw[if_pos hl];exact(Xm h i hi b hl A c hB hA hrow).mono fun e w' hh=>hh
  rw[if_neg hl];refine(MU h i hb A b.length c hl).mono ?_;rintro e w' ⟨rfl,rfl⟩;exact⟨rfl,L.AB h0 hS (aQ _),aI.refl _ _⟩
end En
end
section
namespace En
theorem vJ(of:Nat→Nat)(x:Nat × By): ∀ (l:List (Nat × By)) (df:List By) (i:Nat),e8 of df i (l++ [x])=(e8 of df i l).set x.1 (over ((e8 of df i l).getD x.1 []) x.2 (of (i+l.length)))
 | [],df,i=>by simp[e8]
 | y::r,df,i=>by rw[List.cons_append,e8,vJ of x r,e8,List.length_cons,Nat.add_assoc,Nat.add_comm 1]
theorem WI(l:List By)(a i:Nat)(x:By)(ha:a<l.length): (l.set a x).getD i []=if i=a then x else l.getD i []:=by
 rw[bN,List.getElem?_set];by_cases h:a=i
 ·subst h;rw[if_pos rfl,if_pos rfl,if_pos ha];rfl
 rw[if_neg h,if_neg (fun e=>h e.symm),bN]
theorem eN.lV{S:Nat→Prop}{w w':World}{p a:Nat}{d:Dk}{q:EI}{b:By}(h:eN S w p d q)(ha:a<d.df.length)(hb:b.length=d.size)(hblk:jN w' 5 (q.ad a) b)(hz:w.heap.size≤w'.heap.size)(hk: ∀ k,k<w.heap.size→k≠q.ad a→w'.heap[k]? =w.heap[k]?):
  eN S w' p {d with df:=d.df.set a b} q:=by
 obtain⟨cur,pU,_⟩:=(h.each a ha).1;have ne: ∀ {k:Nat} {o:Obj},w.heap[k]? =some o→(∀ c,o≠ .cells c 5 (0,0))→k≠q.ad a:=fun {k o} ho hne e=>by subst e;rw[pU] at ho;injection ho with ho;exact hne _ ho.symm
 have nb: ∀ {k:Nat} {t:TypeId} {cs:Array Value},aG w k t cs→t≠5→k≠q.ad a:=fun {k t cs} hA ht=>ne hA (fun c e=>by injection e with _ e2;exact ht e2)
 have hlen:(d.df.set a b).length=d.df.length:=List.length_set;have hrow: ∀ {e:TypeId} {sz n:Nat} {v:Value} {c:Nat→List Value},aM S w e sz v n c→e≠5→aM S w' e sz v n c:=fun {e sz n v c} hr he=>
  ⟨dY hr.own fun g hg=>hk g (dM hr.own hg).1 (by
   rcases hr.own.2 with⟨hv,_⟩|⟨g',cap',cc,hv,_,hh,_⟩
   ·subst hv;simp[gY] at hg
   subst hv;have e1:g'=g:=uE;subst e1;exact ne hh (fun c e2=>by injection e2 with _ e3;exact he e3)),hr.block⟩
 refine⟨?_,?_,fun i hi=>?_,hrow h.row aN,fun i hi=>?_,h.newest.same (hk _ h.newest.lt ?_),⟨h.ok.size,by rw[hlen];exact h.ok.some,fun x hx=>?_,fun x hx=>by rw[hlen];exact h.ok.aF x hx⟩,⟨h.bA.1,h.bA.2.1,fun i hi=>h.bA.2.2.1 i (by rwa [hlen] at hi),h.bA.2.2.2⟩,⟨fun i j hi hj=>h.apart.1 i j (by rwa [hlen] at hi) (by rwa [hlen] at hj),fun i j hi hj=>h.apart.2 i j (by rwa [hlen] at hi) hj⟩,fun k hk=>aW (h.lt k hk) hz,h.few⟩
 ·show aG w' p _ #[.int .i64 d.size,.slice (some ⟨q.gd,0,none⟩) (d.df.set a b).length q.cd,q.rv,.map (some q.mb)]
  rw[hlen];exact(hk p h.own.lt (nb h.own aN)).trans h.own
 ·show aM S w' _ 1 (.slice (some ⟨q.gd,0,none⟩) (d.df.set a b).length q.cd) (d.df.set a b).length _
  rw[hlen];exact hrow h.df aN
 ·show jN w' _ (q.ad i) ((d.df.set a b).getD i [])∧d.size≤q.cp i
  rw[hlen] at hi;rw[WI _ _ _ _ ha];by_cases e:i=a
  ·subst e;rw[if_pos rfl];exact⟨hblk,(h.each i hi).2⟩
  rw[if_neg e];exact⟨(h.each i hi).1.same (hk _ (h.each i hi).1.lt (fun e2=>e (h.apart.1 i a hi ha e2))),(h.each i hi).2⟩
 ·exact⟨(h.aF i hi).1.same (hk _ (h.aF i hi).1.lt (fun e=>h.apart.2 a i ha hi e.symm)),(h.aF i hi).2⟩
 ·obtain⟨es,c,hb'⟩:=h.newest.obj;exact ne hb' (fun c e=>uA)
 ·rcases List.mem_or_eq_of_mem_set hx with hx|hx
  ·exact h.ok.each x hx
  rw[hx];exact hb
theorem eN.dry{S:Nat→Prop}{w w':World}{p:Nat}{d:Dk}{q:EI}(h:eN S w p d q)(hk: ∀ k,S k→k≠p→k≠q.mb→w'.heap[k]? =w.heap[k]?)
  (hown:aG w' p 331 #[.int .i64 d.size,.slice (some ⟨q.gd,0,none⟩) d.df.length q.cd,.slice none 0 0,.map (some q.mb)]) (hm:fB af 3 .i64 w' q.mb 0 (fun _=>none)) (hz:w.heap.size≤w'.heap.size):eN S w' p {d with row:=[]} {q with rv:=.slice none 0 0,mn:=0}:=by
 have ne: ∀ {k:Nat} {t:TypeId} {cs:Array Value},aG w k t cs→t≠331→k≠p∧k≠q.mb:=fun {k t cs} hA ht=>⟨fun e=>by
  subst e;have h1:=h.own;rw[aG] at h1 hA;rw[h1] at hA;injection hA with hA
  injection hA with _ e2
  exact ht e2.symm,h.newest.mz hA⟩
 have nb: ∀ {k:Nat} {l:By},jN w 5 k l→k≠p∧k≠q.mb:=fun {k l} hb=>by obtain⟨cur,h1,_⟩:=hb;exact ne h1 aN
 refine⟨hown,⟨dY h.df.own fun g hg=>?_,h.df.block⟩,fun i hi=>⟨(h.each i hi).1.same (hk _ (h.bA.2.2.1 i hi) (nb (h.each i hi).1).1 (nb (h.each i hi).1).2),(h.each i hi).2⟩,aM.nil _ _ _ _ _,fun i hi=>absurd hi (kP i),?_,⟨h.ok.size,h.ok.some,h.ok.each,fun x hx=>by cases hx⟩,⟨h.bA.1,h.bA.2.1,h.bA.2.2.1,fun i hi=>absurd hi (kP i)⟩,⟨h.apart.1,fun i j _ hj=>absurd hj (kP j)⟩,fun k hk=>aW (h.lt k hk) hz,aQ _⟩
 ·have hS:=h.df.block g hg;rcases h.df.own.2 with⟨hv,_⟩|⟨g',cap',cc,hv,_,hh,_⟩
  ·cases hv
  have e1:q.gd=g:=uE;injection hv with e2 _ _
  injection e2 with e2
  injection e2 with e2
  subst e1;rw[←e2] at hh;exact hk _ hS (ne hh aN).1 (ne hh aN).2
 ·have:od {d with row:=[]} {q with rv:=.slice none 0 0,mn:=0}=fun _=>none:=by funext z;unfold od;split <;>rfl
  rw[this];exact hm
theorem SJ(w:World){o:Oper}{a:Act}{K:Act→World→Prop}{Q:Exit→Act→World→Prop}(x y:Operand)(hop:o.op=Op.call {callee:=Callee.builtin Builtin.copy,args:=#[x,y],argTypes:=#[34,34]})
  (g s cp k c2:Nat) (ad:Addr) (old b:By) (hx:a.eval x= .slice (some ⟨g,0,none⟩) s cp) (hy:a.eval y= .slice (some ad) k c2) (hg:jN w 5 g old) (ho:old.length=s) (hk:k≤s) (hB:Bs w (some ad) b) (cL:k≤b.length)
  (hK: ∀ w' v,jN w' 5 g (over old b k)→w.grownBy w' (some g)→w'.heap.size=w.heap.size→K (a.put o.dst v) w'):fc af o a w K Q:=by
 obtain⟨cur,pU,Dn⟩:=hg;have hcs:((aP b).take k).length=Nat.min k s:=by rw[gU,Oc.bu,qQ cL];exact(qQ hk).symm
 have zr:old.length≤cur.size:=by
  rcases Nat.eq_zero_or_pos old.length with h0|h0
  ·omega
  have:=Dn (old.length - 1) _ (Oc.nR (bs:=old) (i:=old.length - 1) aj);have:=(Array.getElem?_eq_some_iff.1 this).1;omega
 have hl:((aP b).take k).length=k:=by rw[hcs];exact qQ hk
 have hrun:=run_copy_row (P:=af) w 34 34 o.type 5 g 0 s cp ad k c2 cur 5 ((aP b).take k) Tryz.underlying34 br pU hcs (fun j v hj=>hB.read j v (by
  have:=(oa.1 hj).1;rw[List.getElem?_take] at hj;split at hj
  ·exact hj
  cases hj)) aj (fun v hv=>Oc.bQ b v (List.mem_of_mem_take hv))
 unfold fc execOp;simp only[hop,resolve,invoke,builtin,Hi,Hg,Hj,List.map_toArray,List.map_cons,List.map_nil,hx,hy,hrun];refine hK _ _ ⟨_,setRow_heap w g cur _ _ _ pU,fun j u hj=>?_⟩ ⟨rfl,rfl,rfl,by simp[Hc],fun i _ hi=>?_⟩ (by simp[Hc])
 ·have Y6:=(oa.1 hj).1;rw[Oc.bu,over,List.length_append,gU,List.length_drop] at Y6;unfold over at hj;rw[Oc.ed] at hj;simp only[List.take_zero,List.nil_append,Nat.zero_add,hl];rw[←ei];simp only[List.toList_toArray];have e1:aP (b.take k)=(aP b).take k:=by unfold aP;rw[List.map_take]
  rw[e1] at hj;rcases Nat.lt_or_ge j k with h1|h1
  ·rw[qT (by rw[hl];exact h1)] at hj ⊢;exact hj
  rw[wJ (by rw[hl];exact h1),hl] at hj ⊢;rw[List.getElem?_drop,show k+(j - k)=j from aj,ei];refine Dn j u ?_;have e2:aP (old.drop k)=(aP old).drop k:=by unfold aP;rw[List.map_drop]
  rw[e2,List.getElem?_drop,show k+(j - k)=j from aj] at hj;exact hj
 ·have hne:i≠g:=fun e=>hi mm
  simp[Hc,Array.getElem?_modify,Ne.symm hne]
end En
end
section
namespace En
theorem W7(s:Nat)(o:Int): (if(s:Int)<(if o<0 then 0 else o)then(s:Int)else(if o<0 then 0 else o))=((rD s o:Nat):Int):=by unfold rD;split <;>split <;>omega
theorem W6(s:Nat)(o:Int): rD s o≤s:=by unfold rD;omega
variable{S:Nat→Prop}{w:World}{p:Nat}
theorem IU{d:Dk}{q:EI}(h:eN S w p d q)(lb:Array Value)(oi:Nat→Int)(hrow:d.row.length≤1000000)
  (Hw: ∀ (W:World) (i:Nat),i<d.row.length→w.heap.size≤W.heap.size→(∀ k,k<w.heap.size→(∀ a,a<d.df.length→k≠q.ad a)→W.heap[k]? =w.heap[k]?)→Calls af 374 (#[.int .i64 i]++lb) W fun e W'=>e= .returned (.int .i64 (oi i))∧Below W.heap.size W W') :
  Calls af 373 #[.pointer (some ⟨p,0,none⟩),.func (.func 374) #[] lb] w fun e w'=>e= .returned (.int .i64 0)∧(∃ q',eN S w' p (d.settle fun i=>rD d.size (oi i)) q')∧aI S w w':=by
 obtain⟨A,c,hv⟩:=h.row.any;have x0:w.cell? ⟨p,0,none⟩=some (.int .i64 d.size):=h.own.cell 0;have x2:w.cell? ⟨p,2,none⟩=some (.slice A d.row.length c):=by rw[←hv];exact h.own.cell 2
 have hm:(d.row.length:Int)≤1000000:=aj;have HH:=aa h;have HV:=aa hv;have Cw:=aa Hw;have HS:=aa h.ok.size.1;clear h hv Hw;go_enter Tryz.func373,Tryz.ntmps373;go_wp2_with fail;refine ag (cV p d.size HS.o w x0) ?_;go_wp2_with fail;go_loopw [15] (fun i wr=>∃ j:Nat,j≤d.row.length∧i= .int .i64 j∧eN S wr p {d with df:=e8 (fun i=>rD d.size (oi i)) d.df 0 (d.row.take j)} q∧aI (fun k=>∃ a,a<d.df.length∧k=q.ad a) w wr) (fun i _=>(d.row.length - intOf i).toNat)
 case atStart=>exact⟨0,aj,rfl,by simpa[e8] using HH.o,aI.refl _ _⟩
 case round=>
  obtain⟨j,hj,rfl,hD,hT⟩:=hrel;obtain⟨df,aan⟩:=ae (e8 (fun i=>rD d.size (oi i)) d.df 0 (d.row.take j));have Dp:df.length=d.df.length:=by rw[←aan];exact oB _ _ _ _
  rw[aan] at hD;have HD:=aa hD;have HT:=aa hT;have ajm:=aa aan;have PB:=aa Dp;clear hD hT aan Dp;by_cases hlt:j<d.row.length
  ·have BP:(j:Int)<(d.row.length:Int):=by omega
   have Y7:(0:Int)≤(j:Int):=aj;obtain⟨gr,cr,hvr,_⟩:=HD.o.row.form (show 0<d.row.length from aj);have hA:A=some ⟨gr,0,none⟩∧c=cr:=by
    have:=HV.o.symm.trans hvr;injection this with a1 _ a2
    exact⟨a1,a2⟩
   obtain⟨rfl,rfl⟩:=hA;have hrow':=HD.o.row;rw[show q.rv=_ from hvr] at hrow';have nY:=aa hrow';clear hrow' hvr;obtain⟨at_,hat⟩:=ae ((d.row.getD j (0,[])).1);have ae5:at_<d.df.length:=by
    rw[←hat,←PB.o];exact(HD.o.ok.aF (d.row.getD j (0,[])) (by rw[bN,bY hlt];exact wL hlt)).1
   have Y2:Dd {d with df:=df} q j= [.int .i64 (at_:Nat),.slice (some ⟨q.wg j,0,none⟩) d.size (q.wc j)]:=by unfold Dd;rw[←hat]
   have HRC:=aa Y2;have HAT:=aa hat;clear Y2 hat;go_wp2_with (refine dQ rfl 338 _ rfl nY.o (fun _=>rfl) j hlt im _ Tryz.underlying338 rfl br ?_;rw[HRC.o]);obtain⟨vb,oh⟩:=ae wr.heap.size;obtain⟨w1,aZ⟩:=ae (wr.alloc (.cells #[.int .i64 (at_:Nat),.slice (some ⟨q.wg j,0,none⟩) d.size (q.wc j)] 338));have hb1:=aL aZ;have ha1:=aK aZ oh;rw[aZ,oh];have L:=mf p {d with df:=df};have y0:w1.drew.cell? ⟨p,0,none⟩=some (.int .i64 d.size):=(HD.o.own.ai hb1).cell 0;have y1:w1.drew.cell? ⟨p,1,none⟩=some (.slice (some ⟨q.gd,0,none⟩) d.df.length q.cd):=by have:=(HD.o.own.ai hb1).cell 1;rw[PB.o] at this;exact this
   have y4:w1.drew.cell? ⟨q.gd,at_,none⟩=some (.slice (some ⟨q.ad at_,0,none⟩) d.size (q.cp at_)):=(hb1.cell (p:=⟨q.gd,at_,none⟩) (HD.o.lt _ (HD.o.df.block q.gd rfl))).trans (DN HD.o.df (fun _=>rfl) (by rw[PB.o];exact ae5) rfl);have hS1:w1.drew.cell? ⟨p,0,none⟩=some (.int .i64 d.size)∧w1.drew.cell? ⟨p,1,none⟩=some (.slice (some ⟨q.gd,0,none⟩) d.df.length q.cd)∧w1.drew.cell? ⟨vb,0,none⟩=some (.int .i64 (at_:Nat))∧w1.drew.cell? ⟨vb,1,none⟩=some (.slice (some ⟨q.wg j,0,none⟩) d.size (q.wc j))∧w1.drew.cell? ⟨q.gd,at_,none⟩=some (.slice (some ⟨q.ad at_,0,none⟩) d.size (q.cp at_)):=⟨y0,y1,ha1.cell 0,ha1.cell 1,y4⟩;have amJ:(0:Int)≤(at_:Int):=aj;have amI:(at_:Int)<(d.df.length:Int):=aj;have Ig:=aa hS1;have bz:=aa hb1;have dz:=aa ha1;have zb:=aa oh;have ajA:=aa ae5;clear hS1 hb1 ha1 oh aZ y0 y1 y4 L ae5;refine ud (S:=(fun w'=>w'.cell? ⟨p,0,none⟩=some (.int .i64 d.size)∧w'.cell? ⟨p,1,none⟩=some (.slice (some ⟨q.gd,0,none⟩) d.df.length q.cd)∧w'.cell? ⟨vb,0,none⟩=some (.int .i64 (at_:Nat))∧w'.cell? ⟨vb,1,none⟩=some (.slice (some ⟨q.wg j,0,none⟩) d.size (q.wc j))∧w'.cell? ⟨q.gd,at_,none⟩=some (.slice (some ⟨q.ad at_,0,none⟩) d.size (q.cp at_)))) (by exact Ig.o) fun hHeld=>?_
   refine ov 0 1 2 3 4 5 6 7 ?_;refine ov 8 9 10 11 14 15 16 17 ?_;refine cG 12 fun K hK=>?_
   go_simp;refine(Cw.o w1.drew j hlt (by have:=HT.o.size;have:=bz.o.size;show w.heap.size≤w1.heap.size;omega) (fun k hk hne=>(bz.o.block k (aW hk HT.o.size)).trans (HT.o.block k hk (fun⟨a,ha,e⟩=>hne a ha e)))).mono ?_;rintro e w2 ⟨rfl,hb2⟩;have Wz:w2.cell? ⟨p,0,none⟩=some (.int .i64 d.size)∧w2.cell? ⟨p,1,none⟩=some (.slice (some ⟨q.gd,0,none⟩) d.df.length q.cd)∧w2.cell? ⟨vb,0,none⟩=some (.int .i64 (at_:Nat))∧w2.cell? ⟨vb,1,none⟩=some (.slice (some ⟨q.wg j,0,none⟩) d.size (q.wc j))∧w2.cell? ⟨q.gd,at_,none⟩=some (.slice (some ⟨q.ad at_,0,none⟩) d.size (q.cp at_)):=by
    obtain⟨a0,a1,a2,a3,a4⟩:=Ig.o;exact⟨(hb2.cell (p:=⟨p,0,none⟩) (bD _ _ a0)).trans a0,(hb2.cell (p:=⟨p,1,none⟩) (bD _ _ a1)).trans a1,(hb2.cell (p:=⟨vb,0,none⟩) (bD _ _ a2)).trans a2,(hb2.cell (p:=⟨vb,1,none⟩) (bD _ _ a3)).trans a3,(hb2.cell (p:=⟨q.gd,at_,none⟩) (bD _ _ a4)).trans a4⟩
   have cu:=aa hb2;clear hb2;go_wp2_with fail;refine bW hK (by exact Wz) fun qC=>?_
   clear hK K;refine tX 13 18 ?_;rw[W7];obtain⟨kk,p8⟩:=ae (rD d.size (oi j));have hks:kk≤d.size:=by rw[←p8];exact W6 _ _
   have hkc:(kk:Int)≤(q.wc j:Int):=by have:=(HD.o.aF j hlt).2;simp only at this;omega
   have D6:(0:Int)≤(kk:Int):=aj;rw[p8];have HKK:=aa p8;have HKS:=aa hks;clear p8 hks;refine ty 19 ?_;refine cG 20 fun K hK=>?_
   have hblk:=(HD.o.each at_ rS).1.same ((cu.o.block _ (by have:=(HD.o.each at_ rS).1.lt;have:=bz.o.size;show q.ad at_<w1.heap.size;omega)).trans (bz.o.block _ (HD.o.each at_ rS).1.lt));have hwb:=(HD.o.aF j hlt).1.same ((cu.o.block _ (by have:=(HD.o.aF j hlt).1.lt;have:=bz.o.size;show q.wg j<w1.heap.size;omega)).trans (bz.o.block _ (HD.o.aF j hlt).1.lt));have Dp:(df.getD at_ []).length=d.size:=HD.o.ok.each _ (by rw[bN,bY rS];exact wL _);have Hu:(d.row.getD j (0,[])).2.length=d.size:=(HD.o.ok.aF (d.row.getD j (0,[])) (by rw[bN,bY hlt];exact wL hlt)).2;refine SJ w2 (.tmp 27) (.tmp 39) rfl (q.ad at_) d.size (q.cp at_) kk (q.wc j) ⟨q.wg j,0,none⟩ (df.getD at_ []) (d.row.getD j (0,[])).2 rfl rfl hblk Dp HKS.o hwb.bs (by rw[Hu];exact HKS.o) ?_;intro w3 v3 hb3 hg3 hz3;have ya:Below wr.heap.size wr w2:=av bz.o (av (az (au _ w1)) cu.o);have VS:vb≠q.ad at_:=fun e=>by have:=(HD.o.each at_ rS).1.lt;have:=zb.o;omega
   have aeR:p≠q.ad at_:=fun e=>by
    obtain⟨cur,h1,_⟩:=(HD.o.each at_ rS).1;have h2:=HD.o.own;rw[aG,e,h1] at h2;injection h2 with h2
    injection h2 with _ h3
    revert h3;decide
   have ahE:q.gd≠q.ad at_:=fun e=>by
    obtain⟨cur,h1,_⟩:=(HD.o.each at_ rS).1;rcases HD.o.df.own.2 with⟨hv,_⟩|⟨g',cap',cc,hv,_,hh,_⟩
    ·cases hv
    injection hv with e2 _ _
    injection e2 with e2
    injection e2 with e2
    rw[←e2,e,h1] at hh;injection hh with hh
    injection hh with _ h3
    revert h3;decide
   have hc3: ∀ (k o:Nat),k<w2.heap.size→k≠q.ad at_→w3.cell? ⟨k,o,none⟩=w2.cell? ⟨k,o,none⟩:=fun k o hk hne=>eO (a:=⟨k,o,none⟩) (hg3.block k hk (fun e=>hne uA))
   have Zb:w3.cell? ⟨p,0,none⟩=some (.int .i64 d.size)∧w3.cell? ⟨p,1,none⟩=some (.slice (some ⟨q.gd,0,none⟩) d.df.length q.cd)∧w3.cell? ⟨vb,0,none⟩=some (.int .i64 (at_:Nat))∧w3.cell? ⟨vb,1,none⟩=some (.slice (some ⟨q.wg j,0,none⟩) d.size (q.wc j))∧w3.cell? ⟨q.gd,at_,none⟩=some (.slice (some ⟨q.ad at_,0,none⟩) d.size (q.cp at_)):=by
    obtain⟨a0,a1,a2,a3,a4⟩:=qC;exact⟨(hc3 p 0 (bD _ _ a0) aeR).trans a0,(hc3 p 1 (bD _ _ a1) aeR).trans a1,(hc3 vb 0 (bD _ _ a2) VS).trans a2,(hc3 vb 1 (bD _ _ a3) VS).trans a3,(hc3 q.gd at_ (bD _ _ a4) ahE).trans a4⟩
   have O4:=HD.o.lV (w':=w3) (a:=at_) (b:=over (df.getD at_ []) (d.row.getD j (0,[])).2 kk) rS (by rw[I6 (by rw[Hu,Dp]),Dp]) hb3 (by have:=ya.size;omega) (fun k hk hne=>(hg3.block k (aW hk ya.size) (fun e=>hne uA)).trans (ya.block k hk));have kf:aI (fun k=>∃ a,a<d.df.length∧k=q.ad a) w w3:=(HT.o.ak ya).grown hg3 (fun k e=>.inl ⟨at_,ajA.o,AD⟩);have EF:=aa O4;have jF:=aa kf;clear hblk hwb Dp Hu hb3 hg3 hz3 ya VS aeR ahE hc3 O4 kf;refine bW hK (by exact Zb) fun ajO=>?_
   clear hK K;refine bO ?_;have D5:e8 (fun i=>rD d.size (oi i)) d.df 0 (d.row.take (j+1))=df.set at_ (over (df.getD at_ []) (d.row.getD j (0,[])).2 kk):=by
    have e1:d.row[j]=(at_,(d.row.getD j (0,[])).2):=by
     have e0:d.row.getD j (0,[])=d.row[j]:=by rw[bN,bY hlt];rfl
     rw[←HAT.o,e0]
    rw[List.take_add_one,bY hlt,Option.toList_some,vJ,ajm.o,e1,gU,qQ hj,Nat.zero_add,HKK.o]
   have CX:=aa D5;clear D5;go_wp2_with fail;go_roundw
   case rel=>exact⟨j+1,aj,by go_num,by rw[CX.o];exact EF.o,jF.o⟩
   case measure=>simp[intOf];omega
  have BP: ¬(j:Int)<(d.row.length:Int):=aj;have hjm:j=d.row.length:=aj;have mP:d.row.take j=d.row:=by rw[hjm];exact List.take_length
  have x0':wr.cell? ⟨p,0,none⟩=some (.int .i64 d.size):=HD.o.own.cell 0;have x2':wr.cell? ⟨p,2,none⟩=some q.rv:=HD.o.own.cell 2;have m2':=HD.o.own.mark 2;have BM:aG (wr.setCell ⟨p,2,none⟩ (.slice none 0 0)) p 331 #[.int .i64 d.size,.slice (some ⟨q.gd,0,none⟩) df.length q.cd,.slice none 0 0,.map (some q.mb)]:=by simpa using HD.o.own.put 2 (.slice none 0 0)
  have x3':(wr.setCell ⟨p,2,none⟩ (.slice none 0 0)).cell? ⟨p,3,none⟩=some (.map (some q.mb)):=BM.cell 3;have hmp:q.mb≠p:=fun e=>HD.o.newest.mz HD.o.own e.symm
  have vt:=HD.o.newest.same (w':=wr.setCell ⟨p,2,none⟩ (.slice none 0 0)) (dH wr ⟨p,2,none⟩ _ q.mb hmp);have Yf:=aa BM;have HM2:=aa vt;have Gp:=aa hmp;have ajf:=aa mP;clear BM vt hmp mP hjm;go_wp2_with (refine Ax rfl _ 329 rfl 3 34 .i64 Hk q.mb q.mn (od {d with df:=df} q) rfl HM2.o ?_;intro w4 xZ hg4;have Zr:=aa xZ;have ve:=aa hg4;clear xZ hg4);go_ret;have jJ:aI S w w4:=(((HT.o.mono (fun k _ ⟨a,ha,e⟩=>by rw[e];exact HH.o.bA.2.2.1 a ha)).put (p:=⟨p,2,none⟩) (.inl HH.o.bA.1) _).grown ve.o (fun k e=>.inl (by injection e with e;exact e▸HH.o.bA.2.1)));have ui:=Yf.o.bw ve.o (fun e=>DF);refine⟨rfl,⟨{q with rv:=.slice none 0 0,mn:=0},?_⟩,jJ⟩;have:=HD.o.dry (w':=w4) (fun k hk h1 h2=>(ve.o.block k (by rw[Hm];exact HD.o.lt k hk) (fun e=>h2 uA)).trans (dH wr ⟨p,2,none⟩ _ k h1)) ui Zr.o (by have:=ve.o.size;rw[Hm] at this;exact this);unfold Dk.settle;have e5:e8 (fun i=>rD d.size (oi i)) d.df 0 d.row=df:=by rw[←ajm.o,ajf.o]
  rw[e5];exact this
theorem eN.abY{d:Dk}{q:EI}(h:eN S w p d q){a:Nat}(ha:a<d.df.length){k:Nat}{t:TypeId}{cs:Array Value}(hA:aG w k t cs)(ht:t≠5): k≠q.ad a:=fun e=>by
 obtain⟨cur,h1,_⟩:=(h.each a ha).1;subst e;rw[aG,h1] at hA;injection hA with hA
 injection hA with _ e2
 exact ht e2.symm
theorem Xr(p bx i:Nat)(s:Nat)(w:World)(h0:w.cell? ⟨bx,0,none⟩=some (.pointer (some ⟨p,0,none⟩)))(h1:w.cell? ⟨p,0,none⟩=some (.int .i64 s)): Calls af 374 #[.int .i64 i,.pointer (some ⟨bx,0,none⟩)] w fun e w'=>e= .returned (.int .i64 s)∧w'=w:=by
 go_enter Tryz.func374,Tryz.ntmps374;go_wp2_with fail;go_ret;exact⟨rfl,rfl⟩
theorem aaV{d:Dk}(h:vg p d S w)(hrow:d.row.length≤1000000): Calls af 362 #[.pointer (some ⟨p,0,none⟩)] w fun e w'=>e= .returned (.int .i64 0)∧vg p (d.settle fun _=>d.size) (Gr S w w') w'∧aI S w w':=by
 have L:=mf p d;have L2:=mf p (d.settle fun _=>d.size);have hS:=fun k hk=>L.lt h k hk
 obtain⟨w1,aZ⟩:=ae (w.alloc (.cells #[.pointer (some ⟨p,0,none⟩)] 216));have hb1:=aL aZ;have ha1:aG w1 w.heap.size 216 #[.pointer (some ⟨p,0,none⟩)]:=by rw[←aZ];exact aG.fresh w _ _
 obtain⟨q,hD⟩:=L.ak h hb1;have Hw: ∀ (W:World) (i:Nat),i<d.row.length→w1.heap.size≤W.heap.size→(∀ k,k<w1.heap.size→(∀ a,a<d.df.length→k≠q.ad a)→W.heap[k]? =w1.heap[k]?)→Calls af 374 (#[.int .i64 i]++ #[.pointer (some ⟨w.heap.size,0,none⟩)]) W fun e W'=>e= .returned (.int .i64 ((fun _:Nat=>(d.size:Int)) i))∧Below W.heap.size W W':=fun W i _ _ hk=>by
  have k1:=hk w.heap.size ha1.lt (fun a ha=>hD.abY ha ha1 aN);have k2:=hk p hD.own.lt (fun a ha=>hD.abY ha hD.own aN);refine(Xr p w.heap.size i d.size W ?_ ?_).mono ?_
  ·exact(eO (a:=⟨w.heap.size,0,none⟩) k1).trans (ha1.cell 0)
  ·exact(eO (a:=⟨p,0,none⟩) k2).trans (hD.own.cell 0)
  rintro e W' ⟨rfl,rfl⟩;exact⟨rfl,au _ _⟩
 have HST:=aa (IU hD #[.pointer (some ⟨w.heap.size,0,none⟩)] (fun _=>(d.size:Int)) hrow Hw);have HX:=aa ha1;have HB:=aa hb1;have RD:=aa hS;have Ss:=aa L2;have sN:=aa aZ;clear hD Hw hb1 hS L L2 h aZ;have x0:w1.cell? ⟨w.heap.size,0,none⟩=some (.pointer (some ⟨p,0,none⟩)):=ha1.cell 0;clear ha1;go_enter Tryz.func362,Tryz.ntmps362;go_wp2_with fail;rw[sN.o];refine HST.o.mono ?_;rintro e w2 ⟨rfl,⟨q',hq⟩,hT⟩;have Dq:(fun i:Nat=>rD d.size ((fun _:Nat=>(d.size:Int)) i))=fun _=>d.size:=by funext i;simp[rD]
 rw[Dq] at hq;have jB:aI S w w2:=(aI.aU HB.o).trans hT;have Dn:vg p (d.settle fun _=>d.size) (Gr S w w2) w2:=Ss.o.AB ⟨q',hq⟩ RD.o jB.size;have HIN:=aa Dn;have gh:=aa jB;clear hq hT jB Dn HST;go_wp2_with fail;go_ret;exact⟨rfl,HIN.o,gh.o⟩
