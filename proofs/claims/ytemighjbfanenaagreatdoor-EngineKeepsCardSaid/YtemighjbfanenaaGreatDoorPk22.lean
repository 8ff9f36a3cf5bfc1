import Derived.Test.YtemighjbfanenaaGreatDoorPk17
import Derived.Test.YtemighjbfanenaaGreatDoorPk4
import Derived.Test.YtemighjbfanenaaGreatDoorPk21
import Derived.Test.YtemighjbfanenaaGreatDoorPk23
import Derived.Test.YtemighjbfanenaaGreatDoorPk7
import Derived.Test.YtemighjbfanenaaGreatDoorPk6
import Derived.Test.YtemighjbfanenaaGreatDoorPk5
import Derived.Test.YtemighjbfanenaaGreatDoorPk3
import Derived.Laws.IdiomStrings
import Derived.Test.YtemighjbfanenaaGreatDoorPk36
import Derived.Test.YtemighjbfanenaaGreatDoorPk30
import Derived.Deep.CutRange
import Derived.Test.YtemighjbfanenaaGreatDoorPk19
set_option linter.all false
set_option maxRecDepth 100000
set_option maxHeartbeats 16000000
namespace Go.Proofs.YtemighjbfanenaaGreatDoor
open RowKit
open En (By wk Ky Lg gF Rg ya Sl qz aF dw dc)
open Oc (Bs ZS ET kQ fJ aN bn sx le bM rU tk Vb qP IX dX val nh)
open Bk (bU B9 iu)
open Bool renaming false_eq_true→tC
open Go.IntKind renaming wrap_i64→nX
open Go.Value renaming ownBlock→gX,oneCell'→eA
open Int renaming reduceToNat→tD,eq_ofNat_of_zero_le→iL,reduceEq→ke,toNat_natCast→ia
open List renaming length_replicate→kT,replicate→dW,append_assoc→jq,length_append→dz,not_mem_nil→oM,getElem?_eq_none→gZ,append_nil→jo,mem_of_find?_eq_some→wC,getD_eq_getElem?_getD→bQ
open List.Pairwise renaming nil→Qw
open Nat renaming lt_of_lt_of_le→aP
open RowKit.Below renaming refl→aq
open Tryz renaming prog→af,results56→zS,results131→acm,underlying41→cq
theorem yE{p:Prop}(h:p:=by
 go_enter Tryz.func131,Tryz.ntmps131;go_wp2_with fail;first|go_ret|(refine bodyPost_ret (C9 acm _ _ _) rfl ?_)
 exact⟨rfl,rfl⟩):p:=h
theorem adA{p:Prop}(h:p:=by
 refine cD 8 fun K hK=>?_
 refine cT 41 _ _ rfl xt 41 _ #[.int .i64 (1+k0),.int .u32 a.tag,.int .u32 0,.int .i64 0,.int .i64 0] ZJ.o rfl rfl rfl aF ie ?_;intro v3 dE hg gL;have jT:=P1.o;have aef:=aa (show aD v3 xa 63 (jO a)from P0.o.bo hg (fun e=>aeN));have aj7:=aa (show aD v3 xr 41 #[.int .i64 0,.int .u32 0,.int .u32 0,.int .i64 0,.int .i64 0] from aeh.o.bo hg (fun e=>T4));have fe:=aa (show Below w.heap.size w v3 from fg.o.grown hg fg.o.size (fun k e=>lV));have ahh:=aa dE;clear dE hg gL jT;refine bW hK (by exact ic.o _ aef.o) fun K3=>?_
 clear hK K;refine bF ?_;go_wp2_with fail;go_meet;exact⟨xt,rfl,ahh.o,aef.o,aj7.o,fe.o,rE.o⟩):p:=h
theorem V3{p:Prop}(h:p:=by
 simp only[jq,jo] at hh;unfold bI kD lj;simp only[dw,ia,ke,if_true,if_false,tD,tC,jo,jq];rw[hh];simp[iQ,cw,Q9,vB,xn,jz,sx,v4']):p:=h
theorem V2{p:Prop}(h:p:=by
 simp only[jq,jo] at hh;unfold bI kD lj;simp only[dw,ia,ke,if_true,if_false,tD,tC,jo,jq];rw[hh];simp[iQ,cw,Q9,vB,xn,jz,sx]):p:=h
theorem VZ{p:Prop}(h:p:=by
 refine bodyPost_ret (dx zS _ iN (aI 41 pn.o _ cq rfl aF)) rfl ?_;exact⟨Fs,SE.o _ _ _ pn.o bu.o rp.o⟩):p:=h
theorem VY{p:Prop}(h:p:=by
 refine bodyPost_ret (dx zS _ iN (aI 41 pn.o _ cq rfl aF)) rfl ?_;exact⟨Fs,SE.o _ _ _ pn.o cx.o rp.o⟩):p:=h
theorem acQ{p:Prop}(h:p:=by
 split
 ·exact .inl rfl
 split
 ·exact .inl rfl
 split
 ·exact .inl rfl
 split
 ·exact .inl rfl
 split <;>exact .inl rfl):p:=h
theorem kf{p:Prop}(h:p:=by refine⟨?_,?_⟩ <;>simp[cy]):p:=h
theorem mR{p:Prop}(h:p:=by rw[←hwd];exact ay (aq _ _)):p:=h
theorem AL{p:Prop}(h:p:=by rw[←kA];exact HB.o.setCell (by have:=pS.o;have:=rE.o;show w.heap.size≤xt;omega) _):p:=h
theorem ahB{p:Prop}(h:p:=by have:=pS.o;have:=rE.o;show w.heap.size≤xt;omega):p:=h
theorem acH{p:Prop}(h:p:=by have:=pS.o;have:=rE.o;show xa≠xt;omega):p:=h
theorem rH{p:Prop}(h:p:=by injection e with e;have:=pS.o;omega):p:=h
theorem OL{p:Prop}(h:p:=by rw[←kA];exact HX.o.other (p:=⟨xt,2,none⟩) (by have:=pS.o;have:=rE.o;show xa≠xt;omega) _):p:=h
theorem OJ{p:Prop}(h:p:=by rw[←hv2];exact bu.o.setCell (by have:=pS.o;have:=rE.o;show w.heap.size≤xt;omega) _):p:=h
theorem acE{p:Prop}(h:p:=by have:=rE.o;show xr≠xt;omega):p:=h
theorem OH{p:Prop}(h:p:=by rw[←kA];exact HR.o.other (p:=⟨xt,2,none⟩) (by have:=rE.o;show xr≠xt;omega) _):p:=h
theorem IQ{p:Prop}(h:p:=by rw[←hw2,←aX];exact aw (aw (aq _ _) _) _):p:=h
theorem T5{p:Prop}(h:p:=by unfold bE;simp only[Bool.or_eq_true,Bool.and_eq_true,decide_eq_true_eq];omega):p:=h
theorem T4{p:Prop}(h:p:=by injection e with e;have:=rE.o;omega):p:=h
theorem U9{p:Prop}(h:p:=by rw[←hv2];exact Iq.o.other (p:=⟨xt,4,none⟩) (by have:=pS.o;have:=rE.o;show xa≠xt;omega) _):p:=h
theorem U8{p:Prop}(h:p:=by rw[←hv2];exact Iq.o.other (p:=⟨xt,3,none⟩) (by have:=pS.o;have:=rE.o;show xa≠xt;omega) _):p:=h
theorem U7{p:Prop}(h:p:=by rw[←kA];exact HX.o.other (p:=⟨xt,3,none⟩) (by have:=pS.o;have:=rE.o;show xa≠xt;omega) _):p:=h
theorem p4{p:Prop}(h:p:=by rw[c];decide):p:=h
theorem U0{p:Prop}(h:p:=by rw[←hv2];exact EK.o.other (p:=⟨xt,4,none⟩) (by have:=rE.o;show xr≠xt;omega) _):p:=h
theorem UZ{p:Prop}(h:p:=by rw[←hv2];exact EK.o.other (p:=⟨xt,3,none⟩) (by have:=rE.o;show xr≠xt;omega) _):p:=h
theorem UY{p:Prop}(h:p:=by rw[←kA];exact HR.o.other (p:=⟨xt,3,none⟩) (by have:=rE.o;show xr≠xt;omega) _):p:=h
theorem uy{p:Prop}(h:p:=by have:=f3 rfl;omega):p:=h
theorem UF{p:Prop}(h:p:=by rw[er] at hr;simp[Rec.ok,recKind,dK,within] at hr;omega):p:=h
theorem Fu{p:Prop}(h:p:=by rw[nX];omega):p:=h
theorem Fs{p:Prop}(h:p:=by rw[jC.o];rfl):p:=h
theorem Fp{p:Prop}(h:p:=by rw[←kA];exact HT.o.put 2 _):p:=h
theorem aeN{p:Prop}(h:p:=by injection e with e;have:=pS.o;have:=rE.o;omega):p:=h
theorem Fa{p:Prop}(h:p:=by unfold wrap64;omega):p:=h
theorem E'{p:Prop}(h:p:=by have:=f2 rfl;omega):p:=h
section
namespace Eg
open Bk
def im(w:World)(e:Nat)(up:Bool)(lg sl bk:Option Addr)(wt:Value)(mp:Value): Prop:=aD w e 68 #[.bool true,.bool up,.pointer lg,.pointer sl,.pointer bk,wt,mp]
theorem sH{w:World}{e:Nat}{up:Bool}{lg sl bk:Option Addr}{wt mp:Value}(h:im w e up lg sl bk wt mp): Calls af 23 #[.pointer (some ⟨e,0,none⟩)] w fun en w'=>en=.returned (.bool up)∧w'=w:=by
 have x1:w.cell? ⟨e,1,none⟩=some (.bool up):=h.cell 1;clear h;go_enter Tryz.func23,Tryz.ntmps23;go_wp2_with fail;go_ret;exact⟨rfl,rfl⟩
end Eg
end
section
namespace Eg
open Bk
def KW: List (Int × Value)→Int→Option Value
 | [],_=>none
 | x::r,i=>if i=x.1 then some x.2 else KW r i
def jB(w:World)(b:Nat)(l:List (Int × Value)): Prop:=fG af 38 .i64 w b l.length (KW l)
theorem jB.put{w':World}{b:Nat}{l:List (Int × Value)}{i:Int}{v:Value}(hl:KW l i=none)(h:fG af 38 .i64 w' b (if(KW l i).isSome then l.length else l.length+1) (CZ (KW l) i (some v))): jB w' b ((i,v)::l):=by
 rw[hl] at h;have e:CZ (KW l) i (some v)=KW ((i,v)::l):=funext fun j=>rfl
 rw[e] at h;exact h
theorem CX{w:World}{ops:Array Oper}{rest:List Oper}{o:Oper}{a:Act}{Q:Exit→Act→World→Prop}(hg:o.guard=none)(m x y:Operand)(hop:o.op=Op.insert 66 m x y)
  (b:Nat) (l:List (Int × Value)) (hm:a.eval m=.map (some b)) (h:jB w b l) (i:Int) (v:Value) (hx:a.eval x=.int .i64 i) (hy:a.eval y=v) (hi:(Lit.int .i64 i).wf=true) (hn:KW l i=none) (hlen:l.length<100)
  (hK:∀w',jB w' b ((i,v)::l)→w.grownBy w' (some b)→wpList af ops Q rest (a.put o.dst undef) w'):wpList af ops Q (o::rest) a w:=by
 refine wpList_plain hg fun K' hK'=>?_
 obtain⟨w',hrun,r1,r2⟩:=fG.put h Tryz.underlying38 Tryz.underlying66 iM hi (v:=v);unfold Oper.wp;simp[execOp,hop,hm,hx,hy,hrun,Result.andThen];exact hK' _ _ (hK w' (jB.put hn r1) r2)
def jM(e:Nat): List (Int × Value):=[(7,.func (.func 101) #[.pointer (some ⟨e,0,none⟩)] #[]),(4,.func (.func 101) #[.pointer (some ⟨e,0,none⟩)] #[]),(3,.func (.func 101) #[.pointer (some ⟨e,0,none⟩)] #[]),(2,.func (.func 101) #[.pointer (some ⟨e,0,none⟩)] #[]),(1,.func (.func 101) #[.pointer (some ⟨e,0,none⟩)] #[]),(9,.func (.func 100) #[.pointer (some ⟨e,0,none⟩)] #[]),(8,.func (.func 99) #[.pointer (some ⟨e,0,none⟩)] #[]),(10,.func (.func 98) #[.pointer (some ⟨e,0,none⟩)] #[]),(6,.func (.func 98) #[.pointer (some ⟨e,0,none⟩)] #[]),(5,.func (.func 98) #[.pointer (some ⟨e,0,none⟩)] #[])]
def ajN(q s b:Nat)(w:World)(en:Ending)(w':World): Prop:=∃e mb,en=.returned (.tuple #[.pointer (some ⟨e,0,none⟩),.int .i64 0])∧im w' e true (some ⟨q,0,none⟩) (some ⟨s,0,none⟩) (some ⟨b,0,none⟩) (.slice none 0 0) (.map (some mb))∧jB w' mb (jM e)∧w.heap.size≤e∧w.heap.size≤mb∧Below w.heap.size w w'
theorem PW{S T:Nat→Prop}{w:World}{q r p s ra rb p2 b n au:Nat}{l:Lg}{g:Rg}{size:Nat}{v:Value}{sl:Sl}{az next ak:Int}{len:Nat}{qq:bD}(hl:gF S w q r p l g size v)(hs:qz w s ra rb p2 sl size)(h:cA T w b n au az next ak len qq)(hn:1≤n∧n≤1024):
  Calls af 33 #[.pointer (some ⟨q,0,none⟩),.pointer (some ⟨s,0,none⟩),.pointer (some ⟨b,0,none⟩)] w (ajN q s b w):=by
 have hbl:=hl.rg.e8;have hb1:1≤g.bytes size:=by unfold Rg.bytes;exact Nat.mul_pos hl.rg.count.1 hl.rg.size.1
 have y6:=hl.fit;have k8:1≤sl.bytes size:=by
  have h1:=hs.two;have h2:=hs.a.size;have h3:2*size≤sl.a.count*size:=Nat.mul_le_mul_right _ h1;unfold Sl.bytes Rg.bytes;omega
 obtain⟨us,hus⟩:=ae l.used;obtain⟨rm,hrm⟩:=ae (g.bytes size-l.used);obtain⟨sb,ail⟩:=ae (sl.bytes size);have Sq:=aa (show ∀W,Below w.heap.size w W→Calls af 96 #[.pointer (some ⟨q,0,none⟩)] W (fun e w'=>e=.returned (.int .i64 (rm:Nat))∧Below W.heap.size W w')from fun W hW=>by
  have h1:=wk ((show En.gF S W q r p l g size v from⟨hl.own.keep hW,hl.rg.keep hW,dY hl.row fun k hk=>hW.block k (dP hl.row hk).1,hl.bt,fun k hk=>aP (hl.lt k hk) hW.size,hl.ok,hl.fit⟩))
  rwa [hrm] at h1)
 have P2:=aa (show ∀W,Below w.heap.size w W→Calls af 81 #[.pointer (some ⟨q,0,none⟩)] W (fun e w'=>e=.returned (.int .i64 (us:Nat))∧Below W.heap.size W w')from fun W hW=>by
  have h1:=Ky ((show En.gF S W q r p l g size v from⟨hl.own.keep hW,hl.rg.keep hW,dY hl.row fun k hk=>hW.block k (dP hl.row hk).1,hl.bt,fun k hk=>aP (hl.lt k hk) hW.size,hl.ok,hl.fit⟩))
  rwa [hus] at h1)
 have P6:=aa (show ∀W,Below w.heap.size w W→Calls af 97 #[.pointer (some ⟨s,0,none⟩)] W (fun e w'=>e=.returned (.int .i64 (sb:Nat))∧Below W.heap.size W w')from fun W hW=>by
  have h1:=ya (hs.keep hW)
  rwa [ail] at h1)
 have Ck:=aa (show ∀W,Below w.heap.size w W→Calls af 38 #[.pointer (some ⟨b,0,none⟩)] W (fun e w'=>e=.returned (.agg #[.int .i64 n,.int .i64 au,.int .i64 az])∧Below W.heap.size W w')from fun W hW=>fT (h.ai hW));have mA:rm+us=g.bytes size:=ag;have hz0:(((rm+us:Nat):Int)==0)=false:=DU;have hz1:(((rm:Int)+(us:Int))==0)=false:=DU;have hz2:((sb:Int)==0)=false:=DU;have hz3:((n:Int)==0)=false:=DU;have hz4:IntKind.i64.wrap ((rm:Int)+(us:Int))=(rm:Int)+(us:Int):=Fu;have hsm:rm+us≤268435456:=ag;have aoj:∀W,(Instr.field 80 (.agg #[.int .i64 n,.int .i64 au,.int .i64 az]) 0).run af W=.ok (.int .i64 n) W:=fun W=>aW
 have Xj:=@run_makeMap af;clear hl hs h hbl hb1 y6 k8 hus hrm ail mA;go_enter Tryz.func33,Tryz.ntmps33;go_wp2_with fail;refine(Sq.o w (aq _ _)).mono ?_;rintro e w1 ⟨rfl,hb1⟩;have bu:=aa hb1;clear hb1;go_wp2_with fail;refine(P2.o w1 bu.o).mono ?_;rintro e w2 ⟨rfl,hb2⟩;have cx:=bu.eo hb2;clear hb2;go_wp2_with fail;refine(P6.o w2 cx.o).mono ?_;rintro e w3 ⟨rfl,hb3⟩;have ek:=cx.eo hb3;clear hb3;go_wp2_with fail;refine(Ck.o w3 ek.o).mono ?_;rintro e w4 ⟨rfl,hb4⟩;obtain⟨eb,heb⟩:=ae w4.heap.size;obtain⟨w6,mM⟩:=ae ((w4.alloc (.cells #[.bool true,.bool true,.pointer (some ⟨q,0,none⟩),.pointer (some ⟨s,0,none⟩),.pointer (some ⟨b,0,none⟩),.slice none 0 0,.map none] 68)).alloc (.map #[] 0));have kB:Below w.heap.size w w6:=by rw[←mM];exact aw (aw (ar ek.o hb4) _) _
 have CM:jB w6 (eb+1) []:=by
  have h1:=fG.made af 38 .i64 (w4.alloc (.cells #[.bool true,.bool true,.pointer (some ⟨q,0,none⟩),.pointer (some ⟨s,0,none⟩),.pointer (some ⟨b,0,none⟩),.slice none 0 0,.map none] 68));rw[mM] at h1;simp only[World.size_alloc] at h1;rw[heb] at h1;exact h1
 have Nb:aD w6 eb 68 #[.bool true,.bool true,.pointer (some ⟨q,0,none⟩),.pointer (some ⟨s,0,none⟩),.pointer (some ⟨b,0,none⟩),.slice none 0 0,.map none]:=by rw[←mM,←heb];exact(aD.fresh w4 _ _).alloc _
 have HE:=aa (show w.heap.size≤eb by have:=(ar ek.o hb4).size;omega);have HM:=aa (show jB w6 (eb+1) []∧aD w6 eb 68 #[.bool true,.bool true,.pointer (some ⟨q,0,none⟩),.pointer (some ⟨s,0,none⟩),.pointer (some ⟨b,0,none⟩),.slice none 0 0,.map none]∧Below w.heap.size w w6 from⟨CM,Nb,kB⟩);have HEB:=aa heb;clear hb4 kB CM Nb bu cx ek;go_wp2_with (refine CX rfl _ _ _ rfl (eb+1) _ (by first|rfl|(rw[←HEB.o];rfl)) HM.o.1 _ _ rfl rfl aM iN dA ?_;intro wN hm hg;replace HM:=aa (show jB wN (eb+1) _∧aD wN eb 68 #[.bool true,.bool true,.pointer (some ⟨q,0,none⟩),.pointer (some ⟨s,0,none⟩),.pointer (some ⟨b,0,none⟩),.slice none 0 0,.map none]∧Below w.heap.size w wN from⟨hm,HM.o.2.1.bo hg (fun e=>lV),HM.o.2.2.grown hg HM.o.2.2.size (fun k e=>by injection e with e;have:=HE.o;omega)⟩);clear hm hg;have c6:wN.cell? ⟨eb,6,none⟩=some (.map none):=HM.o.2.1.cell 6;have f6:wN.frozen? ⟨eb,6,none⟩=false:=HM.o.2.1.mark 6);go_ret2;refine⟨eb,eb+1,rfl,?_,?_,HE.o,by have:=HE.o;omega,HM.o.2.2.setCell (by exact HE.o) _⟩
 ·exact HM.o.2.1.put 6 _
 ·exact fG.same HM.o.1 (Below.heap_setCell _ _ _ _ (by show eb+1≠eb;omega))
end Eg
end
section
namespace En
def Tl(w:World)(A:Option Addr)(l:List Rp): Prop:=l≠ []→∃g off,A=some ⟨g,off,none⟩∧g<w.heap.size∧∀i (h:i<l.length),w.rangeAt g (off+i*7) (pW l[i]).toList
theorem Tl.keep{w w':World}{A:Option Addr}{l:List Rp}(h:Tl w A l)(hb:Below w.heap.size w w'): Tl w' A l:=fun hne=>by
 obtain⟨g,off,h1,h2,h3⟩:=h hne;exact⟨g,off,h1,aP h2 hb.size,fun i hi j u hj=>(hb.cell (p:=⟨g,off+i*7+j,none⟩) h2).trans (h3 i hi j u hj)⟩
def cV(r:Rp): By:=tJ (zq r.ax r.err) r.tag.toNat r.ax.toNat r.err.toNat r.id.toNat r.av.toNat r.aR.toNat r.count.toNat
theorem rS(r:Rp): 7≤(cV r).length∧(cV r).length≤32:=by
 have hf:=Mp r.ax r.err;unfold cV;obtain⟨f,hfe⟩:=ae (zq r.ax r.err);rw[hfe] at hf ⊢;unfold tJ;rcases hf with rfl|rfl|rfl|rfl|rfl|rfl <;>simp[Oc.bM]
theorem YD(r:Rp)(w:World)(ht:gh w)(h:zb r (zq r.ax r.err)): Calls af 65 #[.agg (pW r)] w (yL (cV r) w):=by
 obtain⟨tg,kd,er,id,st,tl,ct⟩:=r;have h1:=h.tag;have h2:=h.ax;have h3:=h.err;have h4:=h.id;have h5:=h.aR;have h6:0≤st:=by rcases h.av with h|h <;>simp only at h <;>omega
 have h7:0≤ct:=by rcases h.count with h|h <;>simp only at h <;>omega
 simp only at h1 h2 h3 h4 h5;obtain⟨tg,rfl⟩:=iL h1.1;obtain⟨kd,rfl⟩:=iL h2.1;obtain⟨er,rfl⟩:=iL h3.1;obtain⟨id,rfl⟩:=iL h4.1;obtain⟨tl,rfl⟩:=iL h5.1;obtain⟨st,rfl⟩:=iL h6;obtain⟨ct,rfl⟩:=iL h7;exact YC tg kd er id st tl ct _ w ht h
structure cR(base:Nat)(w:World)(v:Value)(L:List By)(G C:Nat→Nat): Prop where
 row:aO (fun k=>v.ownBlock=some k) w 34 1 v L.length (fun i=>[.slice (some ⟨G i,0,none⟩) (L.getD i []).length (C i)])
 each:∀i,i<L.length→kQ w (G i) (L.getD i []) (C i)∧(L.getD i []).length≤C i∧base≤G i∧v.ownBlock≠some (G i)
 new:∀k,v.ownBlock=some k→base≤k
 J3:∀i j,i<L.length→j<L.length→G i=G j→i=j
theorem cR.keep{base:Nat}{w w':World}{v:Value}{L:List By}{G C:Nat→Nat}(h:cR base w v L G C)(hb:Below w.heap.size w w'): cR base w' v L G C:=
 ⟨h.row.keep hb,fun i hi=>⟨(h.each i hi).1.keep hb,(h.each i hi).2⟩,h.new,h.J3⟩
theorem cR.nil(base:Nat)(w:World): cR base w (.slice none 0 0) [] (fun _=>0) (fun _=>0):=
 ⟨⟨qd w 0 1 _,fun g h=>h⟩,fun i hi=>by simp at hi,fun k h=>mo,fun i j hi=>absurd hi (Nat.not_lt_zero _)⟩
theorem I0(L:List By)(x:By)(i:Nat): (L++[x]).getD i []=if i=L.length then x else L.getD i []:=by
 simp only[bQ];by_cases h:i=L.length
 ·subst h;simp
 rw[if_neg h];rcases Nat.lt_or_ge i L.length with h1|h1
 ·rw[List.getElem?_append_left h1]
 rw[gZ fH,gZ h1]
theorem cR.snoc{base:Nat}{wr w7 w8:World}{v:Value}{L:List By}{G C:Nat→Nat}{x:By}{g2 c2 ga ca:Nat}(h:cR base wr v L G C)(hb:Below wr.heap.size wr w7)(hx:kQ w7 g2 x c2)(hg2:wr.heap.size≤g2)(hbase:base≤wr.heap.size)(hc:x.length≤c2)
  (hr:aO (fun k=>v.ownBlock=some k∨k=w7.heap.size) w8 34 1 (.slice (some ⟨ga,0,none⟩) (L.length+1) ca) (L.length+1) (cO (fun i=>[.slice (some ⟨G i,0,none⟩) (L.getD i []).length (C i)]) L.length [.slice (some ⟨g2,0,none⟩) x.length c2])) (hg:w7.grownBy w8 v.ownBlock) :
  cR base w8 (.slice (some ⟨ga,0,none⟩) (L.length+1) ca) (L++[x]) (fun i=>if i=L.length then g2 else G i) (fun i=>if i=L.length then c2 else C i):=by
 have hlen:(L++[x]).length=L.length+1:=dA;have hgx:=hx.lt;have hz:=hb.size;have hown:∀k,v.ownBlock=some k→k<wr.heap.size:=fun k hk=>(dP h.row.own hk).1
 have Dn:v.ownBlock=some ga∨ga=w7.heap.size:=hr.block ga rfl;have amd:(fun i=>[Value.slice (some ⟨if i=L.length then g2 else G i,0,none⟩) ((L++[x]).getD i []).length (if i=L.length then c2 else C i)])=cO (fun i=>[.slice (some ⟨G i,0,none⟩) (L.getD i []).length (C i)]) L.length [.slice (some ⟨g2,0,none⟩) x.length c2]:=by
  funext i;rw[I0];unfold cO;by_cases hi:i=L.length
  ·simp[hi]
  simp[hi]
 refine⟨⟨by rw[hlen,amd];exact hr.own,fun g hg=>hg⟩,fun i hi=>?_,fun k hk=>?_,fun i j hi hj he=>?_⟩
 ·rw[I0];by_cases hi2:i=L.length
  ·simp only[if_pos hi2];refine⟨hx.same (hg.block g2 hgx (fun e=>by have:=hown g2 e.symm;omega)),hc,ag,fun e=>?_⟩;have e2:ga=g2:=LL;rcases Dn with h1|h1
   ·have:=hown ga h1;omega
   omega
  simp only[if_neg hi2];have hi3:i<L.length:=ag;obtain⟨b1,b2,b3,b4⟩:=h.each i hi3;have hbl:=b1.lt;refine⟨(b1.same (hb.block _ hbl)).same (hg.block (G i) ag (fun e=>b4 e.symm)),b2,b3,fun e=>?_⟩;have e2:ga=G i:=LL;rcases Dn with h1|h1
  ·exact b4 (by rw[h1,e2])
  omega
 ·have e2:ga=k:=by simpa[gX] using hk
  rcases Dn with h1|h1
  ·rw[←e2];exact h.new ga h1
  omega
 ·rw[hlen] at hi hj;by_cases a1:i=L.length
  ·by_cases a2:j=L.length
   ·omega
   rw[if_pos a1,if_neg a2] at he;have hq:=(h.each j ag).1.lt;omega
  by_cases a2:j=L.length
  ·rw[if_neg a1,if_pos a2] at he;have hq:=(h.each i ag).1.lt;omega
  rw[if_neg a1,if_neg a2] at he;exact h.J3 i j ag ag he
def ajD(l:List Rp)(R:World→Prop)(w:World)(e:Ending)(w':World): Prop:=∃A c,e=.returned (.slice A l.length c)∧Tl w' A l∧R w'
def N6(L:List By)(R:World→Prop)(w:World)(e:Ending)(w':World): Prop:=∃v G C wc,e=.returned v∧cR wc.heap.size w' v L G C∧w.heap.size≤wc.heap.size∧R wc∧Below wc.heap.size wc w'
theorem lz(q:Rq)(er:Int)(w:World): Calls af 64 #[.agg (dc q),.int .i64 er] w (ajD [⟨q.tag,q.ax,er,0,0,0,0⟩] (fun w'=>Below w.heap.size w w') w):=by
 obtain⟨xq,jw⟩:=ae w.heap.size;obtain⟨w1,aX⟩:=ae (w.alloc (.cells (dc q) 41));have bh:=aH aX jw;have bu:=aa (aJ aX);have c0:w1.cell? ⟨xq,0,none⟩=some (.int .i64 q.ax):=bh.cell 0;have c1:w1.cell? ⟨xq,1,none⟩=some (.int .u32 q.tag):=bh.cell 1;clear bh;go_enter Tryz.func64,Tryz.ntmps64;go_wp2_with fail;go_ret;refine⟨_,_,rfl,?_,aw bu.o _⟩;intro _;refine⟨w1.heap.size,0,rfl,dA,fun i hi j u hj=>?_⟩;have h0:i=0:=Au;subst h0;have:=(aD.fresh w1 108 (pW ⟨q.tag,q.ax,er,0,0,0,0⟩)).cell j;simp only[Nat.zero_mul,Nat.zero_add];refine this.trans ?_;simpa using hj
end En
end
section
namespace En
structure B5(base:Nat)(w:World)(v:Value)(L:List By)(A:Nat→Option Addr)(C:Nat→Nat): Prop where
 row:aO (fun k=>v.ownBlock=some k) w 34 1 v L.length (fun i=>[.slice (A i) (L.getD i []).length (C i)])
 amF:∀i,i<L.length→ET w (A i) (L.getD i []) (C i)
 each:∀i,i<L.length→L.getD i []≠ []→∀g,A i=some ⟨g,0,none⟩→base≤g∧v.ownBlock≠some g
 J3:∀i i',i<L.length→i'<L.length→L.getD i []≠ []→L.getD i' []≠ []→A i=A i'→i=i'
 new:∀k,v.ownBlock=some k→base≤k
end En
end
section
namespace Fl
theorem Yu(x:By)(A B:Option Addr)(c d:Nat)(w:World)(hA:Bs w A x)(hB:Bs w B x)(hl:x.length≤100000000): Calls af 75 #[.slice A x.length c,.slice B x.length d] w fun e w'=>e=.returned (.bool true)∧Below w.heap.size w w':=by
 have HA:=aa hA;have HB:=aa hB;clear hA hB;go_enter Tryz.func75,Tryz.ntmps75;go_wp2_with fail;go_loopw [5] (fun i wr=>∃j:Nat,j≤x.length∧i=.int .i64 j∧Below w.heap.size w wr) (fun i _=>(x.length-intOf i).toNat)
 case atStart=>exact⟨0,ag,rfl,aq _ _⟩
 case round=>
  obtain⟨j,hj,rfl,hb⟩:=hrel;have vd:=aa hb;by_cases h:j<x.length
  ·have hj1:(j:Int)<(x.length:Int):=by omega
   have Ta:(0:Int)≤(j:Int):=ag;have hne:x≠ []:=fun e=>by rw[e] at h;simp at h
   obtain⟨g,off,rfl,hg,hc⟩:=(HA.o.keep hb) hne;obtain⟨g2,ahI,rfl,hg2,hc2⟩:=(HB.o.keep hb) hne;obtain⟨y,hy⟩:∃y,(aN x)[j]? =some (.int .u8 y):=⟨_,Oc.nO h⟩;have y1:wr.cell? ⟨g,off+j,none⟩=some (.int .u8 y):=hc j _ hy;have y2:wr.cell? ⟨g2,ahI+j,none⟩=some (.int .u8 y):=hc2 j _ hy;have hyy:(y != y)=false:=dA;clear hc hc2 hy hb hne;go_wp2_with fail;refine wp_region_held_drew (S:=(fun w'=>w'.cell? ⟨g,off+j,none⟩=some (.int .u8 y)∧w'.cell? ⟨g2,ahI+j,none⟩=some (.int .u8 y))) aW (by exact⟨y1,y2⟩) (fun hHeld=>?_);refine nZ 0 1 2 3 4 5 6 7 ?_;refine ty 8 ?_;refine bF ?_;go_wp2_with fail;go_roundw
   case rel=>exact⟨j+1,ag,by go_num,ay vd.o⟩
   case measure=>simp[intOf];omega
  obtain rfl:j=x.length:=ag;clear hb;go_wp2_with fail;go_ret;exact⟨rfl,vd.o⟩
end Fl
end
section
namespace Fl
open En (B5)
def Yy(w:World)(v:Value)(L:List By): Prop:=∃A c,v=.slice A L.length c∧(L≠ []→∃g,A=some ⟨g,0,none⟩∧g<w.heap.size∧∀i,i<L.length→∃Ai ci,w.cell? ⟨g,i,none⟩=some (.slice Ai (L.getD i []).length ci)∧Bs w Ai (L.getD i []))
theorem Yy.keep{w w':World}{v:Value}{L:List By}(h:Yy w v L)(hb:Below w.heap.size w w'): Yy w' v L:=by
 obtain⟨A,c,h1,h2⟩:=h;refine⟨A,c,h1,fun hne=>?_⟩;obtain⟨g,e1,e2,e3⟩:=h2 hne;refine⟨g,e1,aP e2 hb.size,fun i hi=>?_⟩;obtain⟨Ai,ci,q1,q2⟩:=e3 i hi;exact⟨Ai,ci,(hb.cell (p:=⟨g,i,none⟩) e2).trans q1,q2.keep hb⟩
theorem _root_.Go.Proofs.YtemighjbfanenaaGreatDoor.En.B5.rws{base:Nat}{w:World}{v:Value}{L:List By}{A:Nat→Option Addr}{C:Nat→Nat}(h:B5 base w v L A C): Yy w v L:=by
 obtain⟨Av,cv,rfl⟩:=h.row.any;refine⟨Av,cv,rfl,fun hne=>?_⟩;have W7:0<L.length:=List.length_pos_iff.2 hne;obtain⟨g,cap,e,_,_,_,hg⟩:=h.row.form W7;injection e with e1 _ e2
 subst e1 e2;refine⟨g,rfl,hg,fun i hi=>⟨A i,C i,?_,?_⟩⟩
 ·have:=h.row.range (i:=i) (fun i=>rfl) hi 0 (.slice (A i) (L.getD i []).length (C i)) dA;simpa using this
 rcases h.amF i hi with⟨h0,_⟩|⟨_,g2,h1,h2⟩
 ·rw[h0];exact Bs.nil _ _
 rw[h1];exact h2.blk.bs
theorem Ki(L:List By)(va vb:Value)(w:World)(hA:Yy w va L)(hB:Yy w vb L)(hL:∀x∈L,x.length≤100000000)(hLn:L.length≤100000000): Calls af 17 #[va,vb] w fun e w'=>e=.returned (.bool true)∧Below w.heap.size w w':=by
 obtain⟨A,c,rfl,hA⟩:=hA;obtain⟨B,d,rfl,hB⟩:=hB;have HA:=aa (show Yy w (.slice A L.length c) L from⟨A,c,rfl,hA⟩);have HB:=aa (show Yy w (.slice B L.length d) L from⟨B,d,rfl,hB⟩);have HL:=aa hL;clear hA hB hL;go_enter Tryz.func17,Tryz.ntmps17;go_wp2_with fail;go_loopw [5] (fun i wr=>∃j:Nat,j≤L.length∧i=.int .i64 j∧Below w.heap.size w wr) (fun i _=>(L.length-intOf i).toNat)
 case atStart=>exact⟨0,ag,rfl,aq _ _⟩
 case round=>
  obtain⟨j,hj,rfl,hb⟩:=hrel;have vd:=aa hb;by_cases h:j<L.length
  ·have hj1:(j:Int)<(L.length:Int):=by omega
   have Ta:(0:Int)≤(j:Int):=ag;have hne:L≠ []:=fun e=>by rw[e] at h;simp at h
   obtain⟨A',c',e,hA⟩:=HA.o.keep hb;injection e with e1 _ e2
   subst e1 e2;obtain⟨B',d',e,hB⟩:=HB.o.keep hb;injection e with e1 _ e2
   subst e1 e2;obtain⟨g,rfl,hg,hA⟩:=hA hne;obtain⟨g2,rfl,hg2,hB⟩:=hB hne;obtain⟨Ai,ci,y1,hAi⟩:=hA j h;obtain⟨Bi,di,y2,hBi⟩:=hB j h;obtain⟨x,hx⟩:=ae (L.getD j []);rw[hx] at y1 y2 hAi hBi;have Ed:x.length≤100000000:=HL.o x (by rw[←hx,bQ,List.getElem?_eq_getElem h];exact List.getElem_mem h);have HC:=aa (show ∀W,Below wr.heap.size wr W→Calls af 75 #[.slice Ai x.length ci,.slice Bi x.length di] W (fun e w'=>e=.returned (.bool true)∧Below W.heap.size W w')from fun W hW=>Yu x Ai Bi ci di W (hAi.keep hW) (hBi.keep hW) Ed);have HS:=aa (show ∀W,Below wr.heap.size wr W→(W.cell? ⟨g,j,none⟩=some (.slice Ai x.length ci)∧W.cell? ⟨g2,j,none⟩=some (.slice Bi x.length di))∧Below wr.heap.size wr W from fun W hW=>⟨⟨(hW.cell (p:=⟨g,j,none⟩) hg).trans y1,(hW.cell (p:=⟨g2,j,none⟩) hg2).trans y2⟩,hW⟩);clear hA hB hAi hBi hx Ed hb hne y1 y2;go_wp2_with fail;refine sY (S:=(fun w'=>(w'.cell? ⟨g,j,none⟩=some (.slice Ai x.length ci)∧w'.cell? ⟨g2,j,none⟩=some (.slice Bi x.length di))∧Below wr.heap.size wr w')) (by exact HS.o _ (ay (aq _ _))) fun hHeld=>?_
   refine nZ 0 1 2 3 4 5 6 7 ?_;refine cD 8 fun K hK=>?_
   go_simp
   (go_at_call 75;refine(HC.o _ hHeld.2).mono ?_;rintro e w8 ⟨rfl,mC⟩;have ry:=ar hHeld.2 mC)
   go_wp2_with fail;refine bW hK (by exact HS.o _ ry) fun nJ=>?_
   clear hK K;refine ty 9 ?_;refine bF ?_;go_wp2_with fail;go_roundw
   case rel=>exact⟨j+1,ag,by go_num,ar vd.o nJ.2⟩
   case measure=>simp[intOf];omega
  obtain rfl:j=L.length:=ag;clear hb;go_wp2_with fail;go_ret;exact⟨rfl,vd.o⟩
end Fl
end
section
namespace Fl
end Fl
end
section
namespace En
structure Rq.sJ(q:Rq): Prop where
 good:q.Good
 Yf:q.bS<9223372036854775808
 idf:(dw q.ax).1=false→q.id=0
 I2:(dw q.ax).2.1=false→q.av=0
 TV:(dw q.ax).2.2=false→q.bS=0
theorem vB(n k:Nat)(r:By): tk (le n k++r) 0 k=(le n k,r,0):=by rw[qP (by rw[dz,bM];omega),List.take_left' (bM n k),List.drop_left' (bM n k)]
theorem xn(n k:Nat): tk (le n k) 0 k=(le n k,[],0):=by
 have:=vB n k []
 rwa [jo] at this
theorem xE{q:Rq}(h:q.sJ): bI (lj q)=(q,0):=by
 obtain⟨k,tg,id,av,bS⟩:=q;have hk:=h.good.ax;have ht:=h.good.tag;have hi:=h.good.id;have hs:=h.good.av;have hl:=h.good.bS;have hb:=h.Yf;simp only at hk ht hi hs hl hb;obtain⟨tg,rfl⟩:=iL ht.1;obtain⟨id,rfl⟩:=iL hi.1;obtain⟨av,rfl⟩:=iL hs.1;obtain⟨bS,rfl⟩:=iL hl;have v1:∀n:Nat,n<256→val (le n 1)=n:=fun n hn=>nh n 1 hn
 have v4:val (le tg 4)=tg:=nh tg 4 ag;have v4':val (le id 4)=id:=nh id 4 ag;have v2:val (le av 2)=av:=nh av 2 ag;have v8:val (le bS 8)=bS:=nh bS 8 ag;have w8:wrap64 (bS:Int)=(bS:Int):=Fa;have h0:∀(kk:Nat) (r:By),kk<256→OV (le kk 1++le tg 4++r)=(⟨kk,tg,0,0,0⟩,r,0):=fun kk r pX=>by
  unfold OV;rw[jq,vB,vB,v1 kk pX,v4]
 have f1:=h.idf;have f2:=h.I2;have f3:=h.TV;simp only at f1 f2 f3;clear h hi hs hl hb ht;have pX:k=1∨k=2∨k=3∨k=4∨k=5∨k=6∨k=7∨k=8∨k=9∨k=10:=ag;rcases pX with rfl|rfl|rfl|rfl|rfl|rfl|rfl|rfl|rfl|rfl
 ·have q1:id=0:=by have:=f1 rfl;omega
  clear f1 f2 f3;subst q1;have hh:=h0 1 (le av 2++le bS 8) aM;simp only[jq,jo] at hh;unfold bI kD lj;simp only[dw,ia,ke,if_true,if_false,tD,tC,jo,jq];rw[hh];simp[iQ,cw,Q9,vB,xn,jz,sx,v2,v8,w8]
 ·have q2:av=0:=by have:=f2 rfl;omega
  have q3:bS=0:=uy;clear f1 f2 f3;subst q2;subst q3;have hh:=h0 2 (le id 4) aM;exact V3
 ·have q2:av=0:=by have:=f2 rfl;omega
  have q3:bS=0:=uy;clear f1 f2 f3;subst q2;subst q3;have hh:=h0 3 (le id 4) aM;exact V3
 ·have q3:bS=0:=by have:=f3 rfl;omega
  clear f1 f2 f3;subst q3;have hh:=h0 4 (le id 4++le av 2) aM;simp only[jq,jo] at hh;unfold bI kD lj;simp only[dw,ia,ke,if_true,if_false,tD,tC,jo,jq];rw[hh];simp[iQ,cw,Q9,vB,xn,jz,sx,v4',v2]
 ·have q2:av=0:=by have:=f2 rfl;omega
  have q3:bS=0:=uy;clear f1 f2 f3;subst q2;subst q3;have hh:=h0 5 (le id 4) aM;exact V3
 ·have q1:id=0:=by have:=f1 rfl;omega
  have q3:bS=0:=uy;clear f1 f2 f3;subst q1;subst q3;have hh:=h0 6 (le av 2) aM;simp only[jq,jo] at hh;unfold bI kD lj;simp only[dw,ia,ke,if_true,if_false,tD,tC,jo,jq];rw[hh];simp[iQ,cw,Q9,vB,xn,jz,sx,v2]
 ·have q1:id=0:=by have:=f1 rfl;omega
  have q2:av=0:=E';clear f1 f2 f3;subst q1;subst q2;have hh:=h0 7 (le bS 8) aM;simp only[jq,jo] at hh;unfold bI kD lj;simp only[dw,ia,ke,if_true,if_false,tD,tC,jo,jq];rw[hh];simp[iQ,cw,Q9,vB,xn,jz,sx,v8,w8]
 ·have q1:id=0:=by have:=f1 rfl;omega
  have q2:av=0:=E';have q3:bS=0:=uy;clear f1 f2 f3;subst q1;subst q2;subst q3;have hh:=h0 8 ([]) aM;exact V2
 ·have q1:id=0:=by have:=f1 rfl;omega
  have q2:av=0:=E';have q3:bS=0:=uy;clear f1 f2 f3;subst q1;subst q2;subst q3;have hh:=h0 9 ([]) aM;exact V2
 have q1:id=0:=by have:=f1 rfl;omega
 have q2:av=0:=E';have q3:bS=0:=uy;clear f1 f2 f3;subst q1;subst q2;subst q3;have hh:=h0 10 ([]) aM;exact V2
theorem sX{q:Rq}: 5≤(lj q).length∧(lj q).length≤19:=by
 unfold lj;simp only[dz,bM];constructor
 ·omega
 split <;>split <;>split <;>simp[bM]
abbrev Rp.sJ(r:Rp): Prop:=zb r (zq r.ax r.err)
theorem kr{q:Rq}(hq:q.Good){er:Int}(h0:er≠0)(h1:0≤er∧er≤65535): (cy q er).sJ:=by
 have hk:=hq.ax;have hf:zq (cy q er).ax (cy q er).err=0:=by unfold zq;exact if_pos h0
 show zb (cy q er) _
 rw[hf];exact⟨hf,⟨by show 0≤q.ax;omega,hk.2⟩,h1,fun h=>by have h':q.ax=0:=h;omega,hq.tag,kf,.inl rfl,kf,.inl rfl,.inl rfl,.inl rfl⟩
theorem oQ{k:Int}{f:Nat}(h:Q0.getD k.toNat 0=f): zq k 0=f:=by unfold zq;rw[if_neg aM];exact h
theorem J5{b:dJ}(hb:b.Ok){q:Rq}(hq:q.Good)(hc:bE q.ax=true)(hr:(bp b q).ok=true): (bN q (bp b q)).sJ:=by
 have hn:=hb.next;have PD:=hb.ak;have ht:=hq.tag;have hs:=hq.av;have hl:=hq.bS;have e0:=BU q (bp b q);have hwt:∀n:Int,within true n 1 1099511627776=true→1≤n∧n≤1099511627776:=fun n h=>by simpa[within] using h
 show zb _ _
 rcases dg hc with h|h|h|h|h
 ·have er:bp b q=⟨1,b.next,q.av,b.ak+q.bS,0⟩:=by unfold bp;rw[if_pos h]
  have hr2:1≤b.ak+q.bS∧b.ak+q.bS≤1099511627776:=UF;have e:bN q (bp b q)=⟨q.tag,1,0,b.next,0,b.ak+q.bS,0⟩:=by rw[er];unfold bN;rw[if_pos h,h]
  rw[e];exact⟨rfl,kf,kf,fun h=>absurd h (by show ¬(1:Int)=0;decide),ht,⟨by show 0≤b.next;omega,hn.2⟩,.inr (oQ rfl),⟨by show 0≤b.ak+q.bS;omega,by show b.ak+q.bS<9223372036854775808;omega⟩,.inr (.inr (.inl (oQ rfl))),.inl rfl,.inl rfl⟩
 ·have e:bN q (bp b q)=⟨q.tag,2,0,0,0,0,0⟩:=by unfold bN;rw[if_neg ag,if_neg ag,if_neg ag,h]
  rw[e];exact⟨rfl,kf,kf,fun h=>absurd h (by show ¬(2:Int)=0;decide),ht,kf,.inl rfl,kf,.inl rfl,.inl rfl,.inl rfl⟩
 ·have e:bN q (bp b q)=⟨q.tag,3,0,0,0,0,0⟩:=by unfold bN;rw[if_neg ag,if_neg ag,if_neg ag,h]
  rw[e];exact⟨rfl,kf,kf,fun h=>absurd h (by show ¬(3:Int)=0;decide),ht,kf,.inl rfl,kf,.inl rfl,.inl rfl,.inl rfl⟩
 ·have er:bp b q=⟨4,q.id,q.av,0,0⟩:=by unfold bp;rw[if_neg ag,if_neg ag,if_neg ag,if_pos h]
  have e:bN q (bp b q)=⟨q.tag,4,0,0,q.av,0,0⟩:=by rw[er];unfold bN;rw[if_neg ag,if_pos h,h]
  rw[e];refine⟨rfl,kf,kf,fun h=>absurd h (by show ¬(4:Int)=0;decide),ht,kf,.inl rfl,kf,.inl rfl,?_,.inl rfl⟩;by_cases c:q.av=0
  ·exact .inl c
  exact .inr ⟨by show 0<q.av;omega,hs.2,.inl (oQ rfl)⟩
 have er:bp b q=⟨5,0,0,0,b.ak+q.bS⟩:=by unfold bp;rw[if_neg ag,if_neg ag,if_neg ag,if_neg ag]
 have hr2:1≤b.ak+q.bS∧b.ak+q.bS≤1099511627776:=UF;have e:bN q (bp b q)=⟨q.tag,7,0,0,0,b.ak+q.bS,0⟩:=by rw[er];unfold bN;rw[if_neg ag,if_neg ag,if_pos h,h]
 rw[e];exact⟨rfl,kf,kf,fun h=>absurd h (by show ¬(7:Int)=0;decide),ht,kf,.inl rfl,⟨by show 0≤b.ak+q.bS;omega,by show b.ak+q.bS<9223372036854775808;omega⟩,.inr (.inl (oQ rfl)),.inl rfl,.inl rfl⟩
theorem RZ{b:dJ}{id:Int}{x:bU}(h:b.find id=some x): x∈b.L:=wC h
theorem aaz{b:dJ}{s:Int}{x:bU}(h:b.on s=some x): x∈b.L:=wC h
theorem Gs{b:dJ}(hb:b.Ok){q:Rq}(hq:q.Good)(hk:q.ax=5∨q.ax=6∨q.ax=10): (ed b q).sJ:=by
 have ht:=hq.tag;have hr:=@kr q hq;have MR:∀x∈b.L,0≤x.aR∧x.aR<9223372036854775808:=fun x hx=>by have:=hb.aR x hx;have:=hb.ak;omega
 unfold ed;by_cases h5:q.ax=5
 ·rw[if_pos h5];cases hf:b.find q.id with
  | none=>exact hr aM aM
  | some x=>
   have hx:=RZ hf;have hn:=hb.n;have hs:=hb.fZ x hx;simp only[h5];show zb _ _
   refine⟨rfl,kf,kf,fun h=>absurd h (by show ¬(5:Int)=0;decide),ht,kf,.inl rfl,MR x hx,.inr (.inr (.inr (oQ rfl))),?_,.inl rfl⟩;by_cases c:x.av=0
   ·left;show(x.av:Int)=0;omega
   right;exact⟨by show 0<(x.av:Int);omega,by show(x.av:Int)≤65535;omega,.inr (oQ rfl)⟩
 rw[if_neg h5];by_cases h6:q.ax=6
 ·rw[if_pos h6];by_cases c:(b.n:Int)≤q.av
  ·rw[if_pos c];exact hr aM aM
  rw[if_neg c];cases hf:b.on q.av with
  | none=>exact hr aM aM
  | some x=>
   have hx:=aaz hf;have hn:=hb.next;have hs:=hb.ids x hx;simp only[h6];show zb _ _
   exact⟨rfl,kf,kf,fun h=>absurd h (by show ¬(6:Int)=0;decide),ht,⟨by show 0≤x.id;omega,by show x.id<4294967296;omega⟩,.inr (oQ rfl),MR x hx,.inr (.inr (.inl (oQ rfl))),.inl rfl,.inl rfl⟩
 rw[if_neg h6];have h10:q.ax=10:=ag;have hl:=hb.len;have hc:=hb.au;simp only[h10];show zb _ _
 refine⟨rfl,kf,kf,fun h=>absurd h (by show ¬(10:Int)=0;decide),ht,kf,.inl rfl,kf,.inl rfl,.inl rfl,?_⟩;by_cases c:b.L.length=0
 ·left;show(b.L.length:Int)=0;omega
 right;exact⟨by show 0<(b.L.length:Int);omega,by show(b.L.length:Int)≤65535;omega,oQ rfl⟩
theorem EB{q:Rq}(hq:q.Good)(hk:q.ax=8∨q.ax=9){n:Nat}(hn:n≤65535): (⟨q.tag,q.ax,0,0,0,0,n⟩:Rp).sJ:=by
 have ht:=hq.tag;have hf:zq q.ax 0=8:=by rcases hk with h|h <;>rw[h] <;>exact oQ rfl
 show zb _ (zq q.ax 0)
 rw[hf];refine⟨hf,⟨by show 0≤q.ax;omega,by show q.ax≤10;omega⟩,kf,fun h=>by have h':q.ax=0:=h;omega,ht,kf,.inl rfl,kf,.inl rfl,.inl rfl,?_⟩;by_cases c:n=0
 ·left;show(n:Int)=0;omega
 right;exact⟨by show 0<(n:Int);omega,by show(n:Int)≤65535;omega,rfl⟩
theorem J6(b:dJ)(a8:Int)(q:Rq): 0≤bB b a8 q∧bB b a8 q≤65535:=by
 unfold bB;repeat' split
 all_goals omega
theorem Es.Inv.OY{e:Es}(h:e.Inv)(hf:∀r∈e.aK,r.sJ){q:Rq}(hq:q.Good): (∀r∈(e.rep q).1,r.sJ)∧∀r∈(e.rep q).2.aK,r.sJ:=by
 have hk:=hq.ax;have H9:e.aK.length≤65535:=by have:=h.full;have:=h.bk.az;omega
 have one:∀ {x:Rp},x.sJ→∀r∈ [x],r.sJ:=fun hx r hr=>by rw[List.mem_singleton] at hr;subst hr;exact hx
 have more:∀ {x:Rp},x.sJ→∀r∈e.aK++[x],r.sJ:=fun hx r hr=>by
  rcases List.mem_append.1 hr with hr|hr
  ·exact hf r hr
  exact one hx r hr
 unfold Es.rep;rw[if_neg Aw];by_cases c1:q.ax=5∨q.ax=6∨q.ax=10
 ·rw[if_pos c1];exact⟨one (Gs h.bk hq c1),hf⟩
 rw[if_neg c1];by_cases c2:q.ax=8
 ·rw[if_pos c2];unfold Es.flush;split
  ·exact⟨one (kr hq aM aM),fun r hr=>by cases hr⟩
  exact⟨more (EB hq (.inl c2) H9),fun r hr=>by cases hr⟩
 rw[if_neg c2];by_cases c3:q.ax=9
 ·rw[if_pos c3];obtain⟨s1,s2,s3⟩:=Sl.xC h.dev h.sl h.row h.size (kh e.bk) e.log.last;unfold Es.save;rcases s1 with c|c|c
  ·rw[if_pos c];exact⟨more (EB hq (.inr c3) H9),fun r hr=>by cases hr⟩
  ·rw[if_neg p4,if_neg p4,c];exact⟨one (kr hq aM aM),hf⟩
  rw[if_neg p4,if_neg p4,c];exact⟨one (kr hq aM aM),hf⟩
 rw[if_neg c3];have hc:bE q.ax=true:=T5;unfold Es.change;by_cases c0:bB e.bk e.a8 q=0
 ·rw[if_neg (by rw[c0];decide)];by_cases c4:e.log.last=18446744073709551615
  ·rw[if_pos c4];exact⟨one (kr hq aM aM),hf⟩
  rw[if_neg c4];obtain⟨h1,h2,h3,h4⟩:=h.OP hq hc c0;have hm:=more (J5 h.bk hq hc h1);simp only;split
  ·exact⟨fun r hr=>absurd hr (oM),hm⟩
  split
  ·exact⟨fun r hr=>absurd hr (oM),fun r hr=>absurd hr (oM)⟩
  exact⟨hm,fun r hr=>absurd hr (oM)⟩
 rw[if_pos c0];have:=J6 e.bk e.a8 q;exact⟨one (kr hq c0 this),hf⟩
end En
end
section
namespace Rf
open En (Rq)
theorem C9{fn:Func}{p q r:Tmp}(h:fn.results= #[.tmp p,.tmp q,.tmp r])(tmps:Array Value)(Q:Program)(w:World): (results fn tmps).run Q w=.ok (.tuple #[tmps.getD p undef,tmps.getD q undef,tmps.getD r undef]) w:=by simp[results,h]
theorem oY(k:Int)(w:World): Calls af 131 #[.int .i64 k] w fun e w'=>e=.returned (.tuple #[.bool (dw k).1,.bool (dw k).2.1,.bool (dw k).2.2])∧w'=w:=by
 by_cases hk:k=1
 ·have hh:dw k=dw 1:=by rw[hk]
  rw[hh];have t1:(k==1)=true:=beq_iff_eq.2 hk;exact yE
 have n1:=hk;clear hk;by_cases hk:k=2
 ·have hh:dw k=dw 2:=by rw[hk]
  rw[hh];have t1:(k==1)=false:=cf;have t2:(k==2)=true:=beq_iff_eq.2 hk;exact yE
 have n2:=hk;clear hk;by_cases hk:k=3
 ·have hh:dw k=dw 3:=by rw[hk]
  rw[hh];have t1:(k==1)=false:=cf;have t2:(k==2)=false:=cf;have t3:(k==3)=true:=beq_iff_eq.2 hk;exact yE
 have n3:=hk;clear hk;by_cases hk:k=4
 ·have hh:dw k=dw 4:=by rw[hk]
  rw[hh];have t1:(k==1)=false:=cf;have t2:(k==2)=false:=cf;have t3:(k==3)=false:=cf;have t5:(k==5)=false:=cf;have t4:(k==4)=true:=beq_iff_eq.2 hk;exact yE
 have n4:=hk;clear hk;by_cases hk:k=5
 ·have hh:dw k=dw 5:=by rw[hk]
  rw[hh];have t1:(k==1)=false:=cf;have t2:(k==2)=false:=cf;have t3:(k==3)=false:=cf;have t5:(k==5)=true:=beq_iff_eq.2 hk;exact yE
 have n5:=hk;clear hk;by_cases hk:k=6
 ·have hh:dw k=dw 6:=by rw[hk]
  rw[hh];have t1:(k==1)=false:=cf;have t2:(k==2)=false:=cf;have t3:(k==3)=false:=cf;have t5:(k==5)=false:=cf;have t4:(k==4)=false:=cf;have t6:(k==6)=true:=beq_iff_eq.2 hk;exact yE
 have n6:=hk;clear hk;by_cases hk:k=7
 ·have hh:dw k=dw 7:=by rw[hk]
  rw[hh];have t1:(k==1)=false:=cf;have t2:(k==2)=false:=cf;have t3:(k==3)=false:=cf;have t5:(k==5)=false:=cf;have t4:(k==4)=false:=cf;have t6:(k==6)=false:=cf;have t7:(k==7)=true:=beq_iff_eq.2 hk;exact yE
 have n7:=hk;clear hk;have hh:dw k=(false,false,false):=by unfold dw;simp only[if_neg n1,if_neg n2,if_neg n3,if_neg n4,if_neg n5,if_neg n6,if_neg n7]
 rw[hh];have t1:(k==1)=false:=cf;have t2:(k==2)=false:=cf;have t3:(k==3)=false:=cf;have t5:(k==5)=false:=cf;have t4:(k==4)=false:=cf;have t6:(k==6)=false:=cf;have t7:(k==7)=false:=cf;exact yE
structure iX where
 ax:Int
 id:Int
 av:Int
 bS:Int
 tag:Int
def jO(a:iX): Array Value:=#[.int .i64 a.ax,.int .i64 a.id,.int .i64 a.av,.int .i64 a.bS,.int .u32 a.tag]
structure iX.Ok(a:iX): Prop where
 ax: -9223372036854775808≤a.ax∧a.ax≤9223372036854775807
 id: -9223372036854775808≤a.id∧a.id≤9223372036854775807
 av: -9223372036854775808≤a.av∧a.av≤9223372036854775807
 bS: -9223372036854775808≤a.bS∧a.bS≤9223372036854775807
 tag:0≤a.tag∧a.tag<4294967296
def iX.rq(a:iX): Rq:=⟨1+a.ax%10,a.tag,if(dw (1+a.ax%10)).1=true then a.id%12 else 0,if(dw (1+a.ax%10)).2.1=true then a.av%14 else 0,if(dw (1+a.ax%10)).2.2=true then a.bS%9 else 0⟩
theorem iX.Ok.may{a:iX}(h:a.Ok): a.rq.sJ:=by
 have ht:=h.tag;refine⟨⟨?_,ht,?_,?_,?_⟩,?_,fun h=>?_,fun h=>?_,fun h=>?_⟩
 ·show 1≤1+a.ax%10∧1+a.ax%10≤10;omega
 ·unfold iX.rq;dsimp only;constructor <;>split <;>omega
 ·unfold iX.rq;dsimp only;constructor <;>split <;>omega
 ·unfold iX.rq;dsimp only;split <;>omega
 ·unfold iX.rq;dsimp only;split <;>omega
 ·have h':(dw (1+a.ax%10)).1=false:=h;unfold iX.rq;dsimp only;rw[h'];rfl
 ·have h':(dw (1+a.ax%10)).2.1=false:=h;unfold iX.rq;dsimp only;rw[h'];rfl
 have h':(dw (1+a.ax%10)).2.2=false:=h;unfold iX.rq;dsimp only;rw[h'];rfl
theorem ask_size: (af.info? 63).map (·.size)=some 5:=aW
theorem B7(a:iX)(ha:a.Ok)(w:World): Calls af 56 #[.agg (jO a)] w fun e w'=>e=.returned (.agg (dc a.rq))∧Below w.heap.size w w':=by
 have agY:=aa (fun W=>oD a.ax 10 ha.ax aM W);have Zk:=aa (fun W=>oD a.id 12 ha.id aM W);have Zj:=aa (fun W=>oD a.av 14 ha.av aM W);have HP9:=aa (fun W=>oD a.bS 9 ha.bS aM W);obtain⟨k0,Eh⟩:=ae (a.ax%10);obtain⟨i0,yZ⟩:=ae (a.id%12);obtain⟨s0,hs0⟩:=ae (a.av%14);obtain⟨t0,ht0⟩:=ae (a.bS%9);have hkr:0≤k0∧k0≤9:=ag;have hir:0≤i0∧i0<12:=ag;rw[Eh] at agY;rw[yZ] at Zk;rw[hs0] at Zj;rw[ht0] at HP9;obtain⟨b1,b2,b3,hb⟩:∃x y z,dw (1+k0)=(x,y,z):=⟨_,_,_,rfl⟩;have GB:=aa (show a.rq=⟨1+k0,a.tag,if b1=true then i0 else 0,if b2=true then s0 else 0,if b3=true then t0 else 0⟩from by unfold iX.rq;rw[Eh,yZ,hs0,ht0,hb]);have HHS:=aa (fun W=>oY (1+k0) W);rw[hb] at HHS;have hwk:IntKind.i64.wrap (1+k0)=1+k0:=Fu;have anM:wrap64 (1+k0)=1+k0:=Fa;have hwi:IntKind.u32.wrap i0=i0:=by rw[IntKind.wrap_u32];omega
 clear Eh yZ hs0 ht0 hb ha;obtain⟨xa,jb⟩:=ae w.heap.size;obtain⟨w1,aX⟩:=ae (w.alloc (.cells (jO a) 63));obtain⟨xr,oc⟩:=ae w1.heap.size;obtain⟨w2,hw2⟩:=ae (w1.alloc (.cells #[.int .i64 0,.int .u32 0,.int .u32 0,.int .i64 0,.int .i64 0] 41));have Ip:=aa (show aD w2 xa 63 (jO a)by rw[←hw2,←aX,←jb];exact(aD.fresh w _ _).alloc _);have pU:=aa (aH hw2 oc);have cx:=aa (show Below w.heap.size w w2 from IQ);have pS:=aa (show w.heap.size≤xa∧xr=xa+1 from⟨ag,by rw[←oc,←aX,←jb];simp⟩);go_enter Tryz.func56,Tryz.ntmps56;go_upto_region 1 with fail
 clear aX hw2 jb oc;go_cut [3] from 7 to 13 (fun s3 wc=>∃xt,s3=.pointer (some ⟨xt,0,none⟩)∧aD wc xt 41 #[.int .i64 (1+k0),.int .u32 a.tag,.int .u32 0,.int .i64 0,.int .i64 0]∧aD wc xa 63 (jO a)∧aD wc xr 41 #[.int .i64 0,.int .u32 0,.int .u32 0,.int .i64 0,.int .i64 0]∧Below w.heap.size w wc∧xr<xt)
 case first=>
  have ic:=aa (show ∀W,aD W xa 63 (jO a)→(W.cell? ⟨xa,0,none⟩=some (.int .i64 a.ax)∧W.cell? ⟨xa,4,none⟩=some (.int .u32 a.tag))from fun W h=>⟨h.cell 0,h.cell 4⟩);obtain⟨wd,hwd⟩:=ae w2.drew;have gQ:Below w2.heap.size w2 wd:=mR;have Y0:=Ip.jS gQ;have wu:=pU.jS gQ;have kz:=cx.eo gQ;clear gQ;refine wp_region_held_drew (S:=(fun W=>W.cell? ⟨xa,0,none⟩=some (.int .i64 a.ax)∧W.cell? ⟨xa,4,none⟩=some (.int .u32 a.tag))) aW (by rw[hwd];exact ic.o _ Y0.o) (fun hHeld=>?_);rw[hwd] at hHeld ⊢;clear hwd Ip pU cx;refine kW 0 1 4 5 ?_;refine qc 2 7 (fun K hK=>?_) fun K hK=>?_
  ·go_simp;refine ah (agY.o wd) ?_;go_wp2_with fail;have KB:=Y0;have P7:=wu;have iJ:=kz;refine bW hK (by exact ic.o _ KB.o) fun hh1=>?_
   clear hK K;refine uw 3 6 ?_;refine cD 7 fun K hK=>?_
   obtain⟨v2,hv2⟩:=ae (wd.alloc (.cells #[.int .i64 0,.int .u32 0,.int .u32 0,.int .i64 0,.int .i64 0] 41));obtain⟨xt,WO⟩:=ae wd.heap.size;have hb:=aJ hv2;have P0:=aa (show aD v2 xa 63 (jO a)from KB.o.keep hb);have aeh:=aa (show aD v2 xr 41 #[.int .i64 0,.int .u32 0,.int .u32 0,.int .i64 0,.int .i64 0] from P7.o.keep hb);have fg:=aa (show Below w.heap.size w v2 from ar iJ.o hb);have ZJ:=aa (aH hv2 WO);have P1:=aa (show w.heap.size≤xt from by rw[←WO];exact iJ.o.size);have rE:=aa (show xr<xt from by have:=P7.o.lt;omega);clear hb;go_simp;go_wp2_with fail;try rw[hv2]
   try rw[WO]
   clear hv2 WO;refine bW hK (by exact ic.o _ P0.o) fun RQ=>?_
   exact adA
  obtain⟨v1,kA⟩:=ae (wd.alloc (.cells #[.int .i64 0,.int .u32 0,.int .u32 0,.int .i64 0,.int .i64 0] 41));obtain⟨xt,WO⟩:=ae wd.heap.size;have hb:=aJ kA;have KB:=aa (show aD v1 xa 63 (jO a)from Y0.o.keep hb);have P7:=aa (show aD v1 xr 41 #[.int .i64 0,.int .u32 0,.int .u32 0,.int .i64 0,.int .i64 0] from wu.o.keep hb);have iJ:=aa (show Below w.heap.size w v1 from ar kz.o hb);have ahi:=aa (aH kA WO);have P1:=aa (show w.heap.size≤xt from by rw[←WO];exact kz.o.size);have rE:=aa (show xr<xt from by have:=wu.o.lt;omega);clear hb;go_simp;go_wp2_with fail;try rw[kA]
  try rw[WO]
  clear kA WO;refine bW hK (by exact ic.o _ KB.o) fun hh1=>?_
  clear hK K;refine cD 2 fun K hK=>?_
  go_simp;refine ah (agY.o v1) ?_;go_wp2_with fail;have P0:=KB;have aeh:=P7;have fg:=iJ;have ZJ:=ahi;refine bW hK (by exact ic.o _ P0.o) fun RQ=>?_
  clear hK K;refine uw 3 6 ?_;exact adA
 case rest=>
  obtain⟨xt,rfl,hT,hX,hR,hB,hlt⟩:=hcut;have HT:=aa hT;have HX:=aa hX;have HR:=aa hR;have HB:=aa hB;have rE:=aa hlt;have c0:=hT.cl 0;clear hT hX hR hB hlt Ip pU cx;go_wp2_with fail;refine ah (HHS.o wc) ?_;clear c0;have SE:=aa (show ∀(W9 W:World) (cs:Array Value),aD W9 xr 41 cs→Below w.heap.size w W→W.grownBy W9 (some xr)→Below w.heap.size w W9 from fun W9 W cs _ hb hg=>hb.grown hg hb.size (fun k e=>rH));cases b1 <;>cases b2 <;>cases b3
  ·have jC:=aa (show a.rq=⟨1+k0,a.tag,0,0,0⟩from GB.o);go_wp2_with (first|(refine aB rfl 41 (.tmp 3) rfl xt 41 _ HT.o rfl _ cq rfl aF ?_)|(refine aj rfl 41 (.tmp 2) _ rfl xr 41 _ #[.int .i64 (1+k0),.int .u32 a.tag,.int .u32 0,.int .i64 0,.int .i64 0] HR.o rfl rfl rfl aF ie ?_;intro w9 dE dL gL;have pn:=aa dE;have rp:=aa dL;clear dE dL gL));refine bodyPost_ret (dx zS _ iN (aI 41 pn.o _ cq rfl aF)) rfl ?_;exact⟨Fs,SE.o _ _ _ pn.o HB.o rp.o⟩
  ·have jC:=aa (show a.rq=⟨1+k0,a.tag,0,0,t0⟩from GB.o);have d1:wc.cell? ⟨xa,3,none⟩=some (.int .i64 a.bS):=HX.o.cell 3;go_wp2_with fail;refine ah (HP9.o wc) ?_;clear d1;have o1:wc.cell? ⟨xt,4,none⟩=some (.int .i64 0):=HT.o.cell 4;have m1:=HT.o.mark 4;obtain⟨v1,kA⟩:=ae (wc.setCell ⟨xt,4,none⟩ (.int .i64 t0));have jx:=aa (show aD v1 xt 41 #[.int .i64 (1+k0),.int .u32 a.tag,.int .u32 0,.int .i64 0,.int .i64 t0] by rw[←kA];exact HT.o.put 4 _);have Iq:=aa (show aD v1 xa 63 (jO a)by rw[←kA];exact HX.o.other (p:=⟨xt,4,none⟩) acH _);have EK:=aa (show aD v1 xr 41 #[.int .i64 0,.int .u32 0,.int .u32 0,.int .i64 0,.int .i64 0] by rw[←kA];exact HR.o.other (p:=⟨xt,4,none⟩) acE _);have bu:=aa (show Below w.heap.size w v1 from AL);go_upto_region 9 with fail
   try rw[kA]
   clear kA o1 m1;go_wp2_with (first|(refine aB rfl 41 (.tmp 3) rfl xt 41 _ jx.o rfl _ cq rfl aF ?_)|(refine aj rfl 41 (.tmp 2) _ rfl xr 41 _ #[.int .i64 (1+k0),.int .u32 a.tag,.int .u32 0,.int .i64 0,.int .i64 t0] EK.o rfl rfl rfl aF ie ?_;intro w9 dE dL gL;have pn:=aa dE;have rp:=aa dL;clear dE dL gL));exact VZ
  ·have jC:=aa (show a.rq=⟨1+k0,a.tag,0,s0,0⟩from GB.o);have d1:wc.cell? ⟨xa,2,none⟩=some (.int .i64 a.av):=HX.o.cell 2;go_wp2_with fail;refine ah (Zj.o wc) ?_;clear d1;have o1:wc.cell? ⟨xt,3,none⟩=some (.int .i64 0):=HT.o.cell 3;have m1:=HT.o.mark 3;obtain⟨v1,kA⟩:=ae (wc.setCell ⟨xt,3,none⟩ (.int .i64 s0));have jx:=aa (show aD v1 xt 41 #[.int .i64 (1+k0),.int .u32 a.tag,.int .u32 0,.int .i64 s0,.int .i64 0] by rw[←kA];exact HT.o.put 3 _);have Iq:=aa (show aD v1 xa 63 (jO a) from U7);have EK:=aa (show aD v1 xr 41 #[.int .i64 0,.int .u32 0,.int .u32 0,.int .i64 0,.int .i64 0] from UY);have bu:=aa (show Below w.heap.size w v1 from AL);go_upto_region 7 with fail
   try rw[kA]
   clear kA o1 m1;go_wp2_with (first|(refine aB rfl 41 (.tmp 3) rfl xt 41 _ jx.o rfl _ cq rfl aF ?_)|(refine aj rfl 41 (.tmp 2) _ rfl xr 41 _ #[.int .i64 (1+k0),.int .u32 a.tag,.int .u32 0,.int .i64 s0,.int .i64 0] EK.o rfl rfl rfl aF ie ?_;intro w9 dE dL gL;have pn:=aa dE;have rp:=aa dL;clear dE dL gL));exact VZ
  ·have jC:=aa (show a.rq=⟨1+k0,a.tag,0,s0,t0⟩from GB.o);have d1:wc.cell? ⟨xa,2,none⟩=some (.int .i64 a.av):=HX.o.cell 2;go_wp2_with fail;refine ah (Zj.o wc) ?_;clear d1;have o1:wc.cell? ⟨xt,3,none⟩=some (.int .i64 0):=HT.o.cell 3;have m1:=HT.o.mark 3;obtain⟨v1,kA⟩:=ae (wc.setCell ⟨xt,3,none⟩ (.int .i64 s0));have jx:=aa (show aD v1 xt 41 #[.int .i64 (1+k0),.int .u32 a.tag,.int .u32 0,.int .i64 s0,.int .i64 0] by rw[←kA];exact HT.o.put 3 _);have Iq:=aa (show aD v1 xa 63 (jO a) from U7);have EK:=aa (show aD v1 xr 41 #[.int .i64 0,.int .u32 0,.int .u32 0,.int .i64 0,.int .i64 0] from UY);have bu:=aa (show Below w.heap.size w v1 from AL);go_upto_region 7 with fail
   try rw[kA]
   clear kA o1 m1;have d2:v1.cell? ⟨xa,3,none⟩=some (.int .i64 a.bS):=Iq.o.cell 3;go_wp2_with fail;refine ah (HP9.o v1) ?_;clear d2;have o2:v1.cell? ⟨xt,4,none⟩=some (.int .i64 0):=jx.o.cell 4;have m2:=jx.o.mark 4;obtain⟨v2,hv2⟩:=ae (v1.setCell ⟨xt,4,none⟩ (.int .i64 t0));have gV:=aa (show aD v2 xt 41 #[.int .i64 (1+k0),.int .u32 a.tag,.int .u32 0,.int .i64 s0,.int .i64 t0] by rw[←hv2];exact jx.o.put 4 _);have Ip:=aa (show aD v2 xa 63 (jO a) from U9);have pU:=aa (show aD v2 xr 41 #[.int .i64 0,.int .u32 0,.int .u32 0,.int .i64 0,.int .i64 0] from U0);have cx:=aa (show Below w.heap.size w v2 from OJ);go_upto_region 9 with fail
   try rw[hv2]
   clear hv2 o2 m2;go_wp2_with (first|(refine aB rfl 41 (.tmp 3) rfl xt 41 _ gV.o rfl _ cq rfl aF ?_)|(refine aj rfl 41 (.tmp 2) _ rfl xr 41 _ #[.int .i64 (1+k0),.int .u32 a.tag,.int .u32 0,.int .i64 s0,.int .i64 t0] pU.o rfl rfl rfl aF ie ?_;intro w9 dE dL gL;have pn:=aa dE;have rp:=aa dL;clear dE dL gL));exact VY
  ·have jC:=aa (show a.rq=⟨1+k0,a.tag,i0,0,0⟩from GB.o);have d1:wc.cell? ⟨xa,1,none⟩=some (.int .i64 a.id):=HX.o.cell 1;go_wp2_with fail;refine ah (Zk.o wc) ?_;clear d1;have o1:wc.cell? ⟨xt,2,none⟩=some (.int .u32 0):=HT.o.cell 2;have m1:=HT.o.mark 2;obtain⟨v1,kA⟩:=ae (wc.setCell ⟨xt,2,none⟩ (.int .u32 i0));have jx:=aa (show aD v1 xt 41 #[.int .i64 (1+k0),.int .u32 a.tag,.int .u32 i0,.int .i64 0,.int .i64 0] from Fp);have Iq:=aa (show aD v1 xa 63 (jO a) from OL);have EK:=aa (show aD v1 xr 41 #[.int .i64 0,.int .u32 0,.int .u32 0,.int .i64 0,.int .i64 0] from OH);have bu:=aa (show Below w.heap.size w v1 from AL);go_upto_region 5 with fail
   try rw[kA]
   clear kA o1 m1;go_wp2_with (first|(refine aB rfl 41 (.tmp 3) rfl xt 41 _ jx.o rfl _ cq rfl aF ?_)|(refine aj rfl 41 (.tmp 2) _ rfl xr 41 _ #[.int .i64 (1+k0),.int .u32 a.tag,.int .u32 i0,.int .i64 0,.int .i64 0] EK.o rfl rfl rfl aF ie ?_;intro w9 dE dL gL;have pn:=aa dE;have rp:=aa dL;clear dE dL gL));exact VZ
  ·have jC:=aa (show a.rq=⟨1+k0,a.tag,i0,0,t0⟩from GB.o);have d1:wc.cell? ⟨xa,1,none⟩=some (.int .i64 a.id):=HX.o.cell 1;go_wp2_with fail;refine ah (Zk.o wc) ?_;clear d1;have o1:wc.cell? ⟨xt,2,none⟩=some (.int .u32 0):=HT.o.cell 2;have m1:=HT.o.mark 2;obtain⟨v1,kA⟩:=ae (wc.setCell ⟨xt,2,none⟩ (.int .u32 i0));have jx:=aa (show aD v1 xt 41 #[.int .i64 (1+k0),.int .u32 a.tag,.int .u32 i0,.int .i64 0,.int .i64 0] from Fp);have Iq:=aa (show aD v1 xa 63 (jO a) from OL);have EK:=aa (show aD v1 xr 41 #[.int .i64 0,.int .u32 0,.int .u32 0,.int .i64 0,.int .i64 0] from OH);have bu:=aa (show Below w.heap.size w v1 from AL);go_upto_region 5 with fail
   try rw[kA]
   clear kA o1 m1;have d2:v1.cell? ⟨xa,3,none⟩=some (.int .i64 a.bS):=Iq.o.cell 3;go_wp2_with fail;refine ah (HP9.o v1) ?_;clear d2;have o2:v1.cell? ⟨xt,4,none⟩=some (.int .i64 0):=jx.o.cell 4;have m2:=jx.o.mark 4;obtain⟨v2,hv2⟩:=ae (v1.setCell ⟨xt,4,none⟩ (.int .i64 t0));have gV:=aa (show aD v2 xt 41 #[.int .i64 (1+k0),.int .u32 a.tag,.int .u32 i0,.int .i64 0,.int .i64 t0] by rw[←hv2];exact jx.o.put 4 _);have Ip:=aa (show aD v2 xa 63 (jO a) from U9);have pU:=aa (show aD v2 xr 41 #[.int .i64 0,.int .u32 0,.int .u32 0,.int .i64 0,.int .i64 0] from U0);have cx:=aa (show Below w.heap.size w v2 from OJ);go_upto_region 9 with fail
   try rw[hv2]
   clear hv2 o2 m2;go_wp2_with (first|(refine aB rfl 41 (.tmp 3) rfl xt 41 _ gV.o rfl _ cq rfl aF ?_)|(refine aj rfl 41 (.tmp 2) _ rfl xr 41 _ #[.int .i64 (1+k0),.int .u32 a.tag,.int .u32 i0,.int .i64 0,.int .i64 t0] pU.o rfl rfl rfl aF ie ?_;intro w9 dE dL gL;have pn:=aa dE;have rp:=aa dL;clear dE dL gL));exact VY
  ·have jC:=aa (show a.rq=⟨1+k0,a.tag,i0,s0,0⟩from GB.o);have d1:wc.cell? ⟨xa,1,none⟩=some (.int .i64 a.id):=HX.o.cell 1;go_wp2_with fail;refine ah (Zk.o wc) ?_;clear d1;have o1:wc.cell? ⟨xt,2,none⟩=some (.int .u32 0):=HT.o.cell 2;have m1:=HT.o.mark 2;obtain⟨v1,kA⟩:=ae (wc.setCell ⟨xt,2,none⟩ (.int .u32 i0));have jx:=aa (show aD v1 xt 41 #[.int .i64 (1+k0),.int .u32 a.tag,.int .u32 i0,.int .i64 0,.int .i64 0] from Fp);have Iq:=aa (show aD v1 xa 63 (jO a) from OL);have EK:=aa (show aD v1 xr 41 #[.int .i64 0,.int .u32 0,.int .u32 0,.int .i64 0,.int .i64 0] from OH);have bu:=aa (show Below w.heap.size w v1 from AL);go_upto_region 5 with fail
   try rw[kA]
   clear kA o1 m1;have d2:v1.cell? ⟨xa,2,none⟩=some (.int .i64 a.av):=Iq.o.cell 2;go_wp2_with fail;refine ah (Zj.o v1) ?_;clear d2;have o2:v1.cell? ⟨xt,3,none⟩=some (.int .i64 0):=jx.o.cell 3;have m2:=jx.o.mark 3;obtain⟨v2,hv2⟩:=ae (v1.setCell ⟨xt,3,none⟩ (.int .i64 s0));have gV:=aa (show aD v2 xt 41 #[.int .i64 (1+k0),.int .u32 a.tag,.int .u32 i0,.int .i64 s0,.int .i64 0] by rw[←hv2];exact jx.o.put 3 _);have Ip:=aa (show aD v2 xa 63 (jO a) from U8);have pU:=aa (show aD v2 xr 41 #[.int .i64 0,.int .u32 0,.int .u32 0,.int .i64 0,.int .i64 0] from UZ);have cx:=aa (show Below w.heap.size w v2 from OJ);go_upto_region 7 with fail
   try rw[hv2]
   clear hv2 o2 m2;go_wp2_with (first|(refine aB rfl 41 (.tmp 3) rfl xt 41 _ gV.o rfl _ cq rfl aF ?_)|(refine aj rfl 41 (.tmp 2) _ rfl xr 41 _ #[.int .i64 (1+k0),.int .u32 a.tag,.int .u32 i0,.int .i64 s0,.int .i64 0] pU.o rfl rfl rfl aF ie ?_;intro w9 dE dL gL;have pn:=aa dE;have rp:=aa dL;clear dE dL gL));exact VY
  have jC:=aa (show a.rq=⟨1+k0,a.tag,i0,s0,t0⟩from GB.o);have d1:wc.cell? ⟨xa,1,none⟩=some (.int .i64 a.id):=HX.o.cell 1;go_wp2_with fail;refine ah (Zk.o wc) ?_;clear d1;have o1:wc.cell? ⟨xt,2,none⟩=some (.int .u32 0):=HT.o.cell 2;have m1:=HT.o.mark 2;obtain⟨v1,kA⟩:=ae (wc.setCell ⟨xt,2,none⟩ (.int .u32 i0));have jx:=aa (show aD v1 xt 41 #[.int .i64 (1+k0),.int .u32 a.tag,.int .u32 i0,.int .i64 0,.int .i64 0] from Fp);have Iq:=aa (show aD v1 xa 63 (jO a) from OL);have EK:=aa (show aD v1 xr 41 #[.int .i64 0,.int .u32 0,.int .u32 0,.int .i64 0,.int .i64 0] from OH);have bu:=aa (show Below w.heap.size w v1 from AL);go_upto_region 5 with fail
  try rw[kA]
  clear kA o1 m1;have d2:v1.cell? ⟨xa,2,none⟩=some (.int .i64 a.av):=Iq.o.cell 2;go_wp2_with fail;refine ah (Zj.o v1) ?_;clear d2;have o2:v1.cell? ⟨xt,3,none⟩=some (.int .i64 0):=jx.o.cell 3;have m2:=jx.o.mark 3;obtain⟨v2,hv2⟩:=ae (v1.setCell ⟨xt,3,none⟩ (.int .i64 s0));have gV:=aa (show aD v2 xt 41 #[.int .i64 (1+k0),.int .u32 a.tag,.int .u32 i0,.int .i64 s0,.int .i64 0] by rw[←hv2];exact jx.o.put 3 _);have Ip:=aa (show aD v2 xa 63 (jO a) from U8);have pU:=aa (show aD v2 xr 41 #[.int .i64 0,.int .u32 0,.int .u32 0,.int .i64 0,.int .i64 0] from UZ);have cx:=aa (show Below w.heap.size w v2 from OJ);go_upto_region 7 with fail
  try rw[hv2]
  clear hv2 o2 m2;have d3:v2.cell? ⟨xa,3,none⟩=some (.int .i64 a.bS):=Ip.o.cell 3;go_wp2_with fail;refine ah (HP9.o v2) ?_;clear d3;have o3:v2.cell? ⟨xt,4,none⟩=some (.int .i64 0):=gV.o.cell 4;have m3:=gV.o.mark 4;obtain⟨v3,hv3⟩:=ae (v2.setCell ⟨xt,4,none⟩ (.int .i64 t0));have jR:=aa (show aD v3 xt 41 #[.int .i64 (1+k0),.int .u32 a.tag,.int .u32 i0,.int .i64 s0,.int .i64 t0] by rw[←hv3];exact gV.o.put 4 _);have NL:=aa (show aD v3 xa 63 (jO a)by rw[←hv3];exact Ip.o.other (p:=⟨xt,4,none⟩) acH _);have iO:=aa (show aD v3 xr 41 #[.int .i64 0,.int .u32 0,.int .u32 0,.int .i64 0,.int .i64 0] by rw[←hv3];exact pU.o.other (p:=⟨xt,4,none⟩) acE _);have ek:=aa (show Below w.heap.size w v3 by rw[←hv3];exact cx.o.setCell ahB _);go_upto_region 9 with fail
  try rw[hv3]
  clear hv3 o3 m3;go_wp2_with (first|(refine aB rfl 41 (.tmp 3) rfl xt 41 _ jR.o rfl _ cq rfl aF ?_)|(refine aj rfl 41 (.tmp 2) _ rfl xr 41 _ #[.int .i64 (1+k0),.int .u32 a.tag,.int .u32 i0,.int .i64 s0,.int .i64 t0] iO.o rfl rfl rfl aF ie ?_;intro w9 dE dL gL;have pn:=aa dE;have rp:=aa dL;clear dE dL gL));refine bodyPost_ret (dx zS _ iN (aI 41 pn.o _ cq rfl aF)) rfl ?_;exact⟨Fs,SE.o _ _ _ pn.o ek.o rp.o⟩
end Rf
end
section
namespace En
theorem agn{n m:Nat}(hn:1≤n∧n≤65536)(hm:1≤m∧m≤4096): (J2 n m).Ok:=
 ⟨hm,by show 1≤(dW n (dW m (0:UInt8))).length∧(dW n (dW m (0:UInt8))).length≤65536;rw[kT];exact hn,fun b hb=>by rw[List.eq_of_mem_replicate hb,kT];rfl,fun x hx=>by cases hx⟩
def yI(a b c n m k ep sq:Nat): Es:=⟨true,⟨J2 n m,false,-1,0⟩,⟨2*k,n-2*k⟩,⟨ep,sq,[],0⟩,⟨⟨0,k⟩,⟨k,k⟩⟩,⟨a,b,c,1,0,[]⟩,[]⟩
theorem tu{a b c n m k ep sq:Nat}(h1:1≤a∧a≤1024)(h2:1≤b∧b≤4096)(h3:1≤c∧c≤64)(hn:n≤65536)(hm:32≤m∧m≤4096)(hk:2≤k)(M0:2*k+1≤n)(he:ep<18446744073709551616)(hs:sq<18446744073709551616): (yI a b c n m k ep sq).Inv:=by
 have hl:(yI a b c n m k ep sq).dev.dk.dr.length=n:=kT;refine⟨rfl,⟨rfl,rfl,agn ⟨ag,hn⟩ ⟨ag,hm.2⟩⟩,rfl,hm.1,⟨?_,?_⟩,⟨⟨?_,?_⟩,⟨?_,?_⟩,rfl,hk⟩,⟨Nat.le_refl _,hs,he,fun b hb=>absurd hb oM⟩,Nat.zero_le _,⟨h1,h2,h3,⟨by show(1:Int)≤1;decide,by show(1:Int)<4294967296;decide⟩,⟨by show(0:Int)≤0;decide,by show(0:Int)≤1099511627776;decide⟩,Nat.zero_le _,Qw,fun x hx=>(absurd hx oM),fun x hx=>(absurd hx oM),Qw,fun x hx=>absurd hx oM⟩,?_,fun r hr=>by cases hr⟩
 ·show 1≤n-2*k;omega
 ·rw[hl];show 2*k+(n-2*k)≤n;omega
 ·show 1≤k;omega
 ·rw[hl];show 0+k≤n;omega
 ·show 1≤k;omega
 ·rw[hl];show k+k≤n;omega
 show 0<c;omega
structure Es.Kin(e e':Es): Prop where
 size:e'.dev.dk.size=e.dev.dk.size
 rg:e'.rg=e.rg
 sl:e'.sl=e.sl
 n:e'.bk.n=e.bk.n
 au:e'.bk.au=e.bk.au
 az:e'.bk.az=e.bk.az
theorem Es.Kin.refl(e:Es): e.Kin e:=⟨rfl,rfl,rfl,rfl,rfl,rfl⟩
theorem Es.Inv.kin{e:Es}(h:e.Inv){q:Rq}(hq:q.Good): e.Kin (e.rep q).2:=by
 have hk:=hq.ax;unfold Es.rep;rw[if_neg Aw];by_cases c1:q.ax=5∨q.ax=6∨q.ax=10
 ·rw[if_pos c1];exact Es.Kin.refl e
 rw[if_neg c1];by_cases c2:q.ax=8
 ·rw[if_pos c2];obtain⟨h1,h2,h3,h4⟩:=Lg.nM h.dev h.rg h.log.done h.fit h.row;unfold Es.flush;rw[if_neg (by rw[h1];decide)];exact⟨h3.size,rfl,rfl,rfl,rfl,rfl⟩
 rw[if_neg c2];by_cases c3:q.ax=9
 ·rw[if_pos c3];obtain⟨s1,s2,s3⟩:=Sl.xC h.dev h.sl h.row h.size (kh e.bk) e.log.last;unfold Es.save;rcases s1 with c|c|c
  ·rw[if_pos c];exact⟨s2.size,rfl,rfl,rfl,rfl,rfl⟩
  ·rw[if_neg p4,if_neg p4];exact⟨s2.size,rfl,rfl,rfl,rfl,rfl⟩
  rw[if_neg p4,if_neg p4];exact⟨s2.size,rfl,rfl,rfl,rfl,rfl⟩
 rw[if_neg c3];have hc:bE q.ax=true:=T5;unfold Es.change;by_cases c0:bB e.bk e.a8 q=0
 ·rw[if_neg (by rw[c0];decide)];by_cases c4:e.log.last=18446744073709551615
  ·rw[if_pos c4];exact Es.Kin.refl e
  rw[if_neg c4];obtain⟨h1,h2,h3,h4⟩:=h.OP hq hc c0;obtain⟨g1,g2,g3⟩:=sB e.bk (bp e.bk q);simp only;by_cases c5:(e.aK++[bN q (bp e.bk q)]).length<e.bk.az
  ·rw[if_pos c5];exact⟨rfl,rfl,rfl,g2,g3,g1⟩
  rw[if_neg c5];obtain⟨a1,a2,a3,a4,a5,a6⟩:=e.log.sD (jf (bp e.bk q)) h.log.done;obtain⟨f1,f2,f3,f4⟩:=Lg.nM (l:=e.log.append (jf (bp e.bk q))) h.dev h.rg (by show e.log.done≤(e.log.eD++[_]).length;rw[dz];have:=h.log.done;omega) (by rw[a6];omega) h.row;rw[if_neg (by rw[f1];decide)];exact⟨f3.size,rfl,rfl,g2,g3,g1⟩
 rw[if_pos c0];exact Es.Kin.refl e
theorem Kg(b:dJ)(r:Rec): (b.apply r).2.ak=b.ak∨(r.ax=5∧(b.apply r).2.ak=r.ak):=by
 unfold dJ.apply;split
 ·exact .inl rfl
 split
 ·unfold dJ.hold;exact acQ
 split
 ·rename_i hk;unfold dJ.tick;split
  ·exact .inl rfl
  exact .inr ⟨hk,rfl⟩
 split
 ·exact .inl rfl
 exact acQ
theorem Es.Inv.X8{e:Es}(h:e.Inv){q:Rq}(hq:q.Good): (e.rep q).2.bk.ak≤e.bk.ak+q.bS:=by
 have hk:=hq.ax;have hl:=hq.bS;have h0:e.bk.ak≤e.bk.ak+q.bS:=ag;by_cases c2:q.ax=8∨q.ax=9
 ·rw[(h.abn hq).aao c2];exact h0
 rcases h.owns hq (fun x=>c2 (.inl x)) (fun x=>c2 (.inr x))with e1|e1
 ·rw[e1];exact h0
 rw[e1.bk];unfold Da;split
 ·split
  ·exact h0
  rename_i hc c;rcases Kg e.bk (bp e.bk q)with e2|⟨e2,e3⟩
  ·show(e.bk.apply (bp e.bk q)).2.ak≤_
   rw[e2];exact h0
  show(e.bk.apply (bp e.bk q)).2.ak≤_
  rw[e3];unfold bp at e2 ⊢;split
  ·rename_i x;rw[if_pos x] at e2;exact absurd e2 dA
  split
  ·rename_i y x;rw[if_neg y,if_pos x] at e2;exact absurd e2 dA
  split
  ·rename_i z y x;rw[if_neg z,if_neg y,if_pos x] at e2;exact absurd e2 dA
  split
  ·rename_i u z y x;rw[if_neg u,if_neg z,if_neg y,if_pos x] at e2;exact absurd e2 dA
  exact Int.le_refl _
 exact h0
end En
end
section
namespace Rf
open En (Rq Rp Es yI tu)
def Yj: iX:=⟨0,0,0,8,5⟩
def aby: iX:=⟨0,0,1,5,8⟩
theorem PM: Yj.Ok:=⟨aM,aM,aM,aM,aM⟩
theorem PL: aby.Ok:=⟨aM,aM,aM,aM,aM⟩
def Nu: Es:=yI 3 2 2 9 64 2 1 0
def abx: Es:=(Nu.rep Yj.rq).2
def Dr: Es:=(abx.rep aby.rq).2
theorem agA: (Nu.rep Yj.rq).1.length=0:=aW
theorem abt: abx.aK.length=1:=aW
theorem agz: (abx.rep aby.rq).1.length=2:=aW
theorem agC: Dr.log.dO=2:=aW
theorem abr: Dr.aK.length=0:=aW
theorem agB: Dr.bk.L.length=2:=aW
theorem agy: abx.up=true:=aW
theorem Gu: Dr.up=true:=aW
theorem Yi: Nu.rg.bytes Nu.dev.dk.size≤900000:=aM
theorem abu: Nu.Inv:=tu aM aM aM aM aM aM aM aM aM
