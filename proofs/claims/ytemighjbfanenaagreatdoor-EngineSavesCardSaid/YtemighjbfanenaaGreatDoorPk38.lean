import Derived.Test.YtemighjbfanenaaGreatDoorPk37
import Derived.Test.YtemighjbfanenaaGreatDoorPk43
import Derived.Test.YtemighjbfanenaaGreatDoorPk44
set_option linter.all false
set_option maxRecDepth 100000
set_option maxHeartbeats 16000000
namespace Go.Proofs.YtemighjbfanenaaGreatDoor
open RowKit
open Cr (cj)
open Rf (gK)
open En (yz dK sR Ku sQ Live Ez kD Rec Rp fk Rq J9 tx uP fA aR aH cJ yP oY iW kW sY cZ tagged)
open Oc (Bs aP rh eP cI)
open Bk (fK)
open Classical renaming byContradiction→ni
open Go.Proofs.Tryz renaming underlying108→dJ,underlying24→GX,prog→af
open Go.Value renaming oneCell'→fw
open List renaming getElem?_eq_getElem→bY,getD_eq_getElem?_getD→bN,length_append→dh,append_nil→fz
open Nat renaming zero_le→cm,le_trans→aT,le_refl→aQ,lt_irrefl→GY
theorem abZ{p:Prop}(h:p:=by
 go_wp2_with fail;go_roundw
 case rel=>exact⟨j+1,hlt,by go_num,HB.o⟩
 case measure=>simp[intOf];omega):p:=h
theorem Vn{p:Prop}(h:p:=by
 go_wp2_with fail;go_ret;exact⟨rfl,HBZ.o _ (vB.o.rest.trans (aI.aU HBb.o))⟩):p:=h
theorem Bf{p:Prop}(h:p:=by have:=RK.o;have:=H65.o;omega):p:=h
theorem LG{p:Prop}(h:p:=by rw[dh];have:=RK.o;have:=H65.o;omega):p:=h
section
namespace En
theorem Of(l:List Rp): ∀ n,∀ u∈flat (oY l) n,u.oneCell'=true
 | 0,u,hu=>by simp[flat] at hu
 | n+1,u,hu=>by
  rw[flat] at hu;rcases List.mem_append.1 hu with hu|hu
  ·exact Of l n u hu
  simp only[oY,iW,List.mem_cons,List.not_mem_nil,or_false] at hu;rcases hu with rfl|rfl|rfl|rfl|rfl|rfl|rfl <;>rfl
theorem ZO(l m:List Rp): flat (oY (l++m)) (l.length+m.length)=flat (oY l) l.length++flat (oY m) m.length:=by
 rw[uP];congr 1
 ·exact iQ fun i hi=>by unfold oY;rw[bN,bN,List.getElem?_append_left hi]
 exact iQ fun i hi=>by unfold oY;rw[bN,bN,List.getElem?_append_right aj,Nat.add_sub_cancel_left]
theorem lj(w:World){ops:Array Oper}{rest:List Oper}{o:Oper}{a:Act}{Q:Exit→Act→World→Prop}(hgd:o.guard=none)(s x:Operand)
  (ho:o.op= .call {callee:=.builtin .append,args:=#[s,x],argTypes:=#[65,65]}) {S T:Nat→Prop} {v v':Value} {l m:List Rp} (h:aM S w 108 7 v l.length (oY l)) (hs:a.eval s=v)
  (h':aM T w 108 7 v' m.length (oY m)) (hx:a.eval x=v') (hl:l.length+m.length≤100000)
  (hK: ∀ v2 w',aM (fun k=>S k∨k=w.heap.size) w' 108 7 v2 (l++m).length (oY (l++m))→w.grownBy w' v.ownBlock→(v2.ownBlock=v.ownBlock∨v2.ownBlock=some w.heap.size)→wpList af ops Q rest (a.put o.dst v2) w'):wpList af ops Q (o::rest) a w:=by
 obtain⟨i0,hi,hz0,hz1,hz2⟩:=info_parts qo;rcases h'.own.2 with⟨hv,h0⟩|⟨g,cap,cur,hv,_⟩
 ·subst hv;obtain rfl:m= []:=List.eq_nil_of_length_eq_zero h0;refine wpList_append_own_none hgd s x 65 ho 0 108 i0 7 Tryz.underlying65 hi v l.length _ hs h.own hx ?_;refine hK v w ?_ ⟨rfl,rfl,rfl,aQ _,fun k _ _=>rfl⟩ (.inl rfl);rw[fz];exact h.mono fun k hk _=>.inl hk
 ·subst hv;refine wpList_append_own_at w hgd s x 65 ho 0 108 i0 (.agg #[.int .u32 0,.int .i64 0,.int .i64 0,.int .u32 0,.int .i64 0,.int .i64 0,.int .i64 0]) 7 56 Tryz.underlying65 hi hz0 hz1 hz2 rfl aN v l.length _ hs h.own ⟨g,0,none⟩ m.length cap (flat (oY m) m.length) hx (cf (zJ m) _) (World.ownsRow.cells h'.own (g:=g) rfl) (Of m _) km aj (cm _) fun v2 w' h1 h2 _ h4=>hK v2 w' ⟨?_,fun k hk=>?_⟩ h2 h4
  ·rw[dh,ZO];exact h1
  rcases h4 with h4|h4
  ·exact .inl (h.block k (h4.symm.trans hk))
  rw[h4] at hk;injection hk with hk;exact .inr hk.symm
theorem aM.Uj{S T:Nat→Prop}{w w':World}{e:TypeId}{sz n:Nat}{v:Value}{c:Nat→List Value}(h:aM S w e sz v n c)(ht:aI T w w')(hd: ∀ k,S k→¬T k): aM S w' e sz v n c:=h.same fun g hg hl=>ht.block g hl (hd g hg)
def DW(l:List Rp): Rp:=l.getLastD Rp.none
def adQ(tg:Int)(l:List Rp)(w:World)(e:Ending)(w':World): Prop:=e= .returned (.tuple #[.agg (iW (DW (tagged tg l))),.int .i64 (tagged tg l).length])∧Below w.heap.size w w'
theorem IM(tg:Int)(l:List Rp){j:Nat}(h:j<l.length): tagged tg (l.take (j+1))=tagged tg (l.take j)++(if l[j].tag=tg then [l[j]] else []):=by
 rw[List.take_add_one,bY h,gO];congr 1;exact qm tg _
theorem sK{S:Nat→Prop}{w:World}{v:Value}{l:List Rp}(tg:Int)(h:aM S w 108 7 v l.length (oY l))(hl:l.length≤100000): Calls af 36 #[v,.int .u32 tg] w (adQ tg l w):=by
 obtain⟨A,c,rfl⟩:=h.any;obtain⟨xr,mO⟩:=ae w.heap.size;obtain⟨w0,hw0⟩:=ae (w.alloc (.cells #[.int .u32 0,.int .i64 0,.int .i64 0,.int .u32 0,.int .i64 0,.int .i64 0,.int .i64 0] 108));obtain⟨xs,yT⟩:=ae w0.heap.size;obtain⟨w1,aZ⟩:=ae (w0.alloc (.cells #[.int .u32 0,.int .i64 0,.int .i64 0,.int .u32 0,.int .i64 0,.int .i64 0,.int .i64 0] 108));have HR0:=aa (show aG w1 xr 108 (iW Rp.none)by rw[←aZ,←hw0,←mO];exact(aG.fresh w _ _).alloc _);have Zj:=aa (show aG w1 xs 108 (iW Rp.none)by rw[←aZ,←yT];exact aG.fresh w0 _ _);have Kt:=aa (show Below w.heap.size w w1 by rw[←aZ,←hw0];exact ax (ax (Below.refl _ _) _) _);have HX:=aa (show w.heap.size≤xr∧xr<xs by rw[←yT,←hw0,←mO];simp);have HH:=aa h;have HL:=aa hl;clear h hl;go_enter Tryz.func36,Tryz.ntmps36;go_wp2_with fail;clear hw0 aZ mO yT;go_loopw [7,8] (fun n i wr=>∃ j:Nat,j≤l.length∧i= .int .i64 j∧n= .int .i64 (tagged tg (l.take j)).length∧aG wr xr 108 (iW Rp.none)∧aG wr xs 108 (iW (DW (tagged tg (l.take j))))∧Below w.heap.size w wr) (fun _ i _=>(l.length - intOf i).toNat)
 case atStart=>exact⟨0,cm _,rfl,rfl,HR0.o,Zj.o,Kt.o⟩
 case round=>
  obtain⟨j,hj,rfl,rfl,hr,hs,hb⟩:=hrel;clear HR0 Zj Kt;have oZ:=HL.o;by_cases h2:j<l.length
  ·have Q8:(j:Int)<(l.length:Int):=by omega
   obtain⟨g,cap,hv,_⟩:=HH.o.form aj;injection hv with e1 _ e2
   subst e1 e2;obtain⟨r,QY⟩:=ae (l[j]);have HRC:=aa (show oY l j= [.int .u32 r.tag,.int .i64 r.ay,.int .i64 r.err,.int .u32 r.id,.int .i64 r.aw,.int .i64 r.aS,.int .i64 r.count] by unfold oY;rw[bN,bY h2];show(iW l[j]).toList=_;rw[QY];rfl);have nY:=aa (HH.o.ai hb);have c0:wr.cell? ⟨g,j*7,none⟩=some (.int .u32 r.tag):=nY.o.range (zJ l) h2 0 _ (by rw[HRC.o];rfl);have ht:=IM tg l h2;rw[QY] at ht;have hlt:(tagged tg (l.take j)).length≤l.length:=aT (List.length_filter_le _ _) Bb;have HT:=aa ht;have HR:=aa hr;have HS:=aa hs;have HB:=aa hb;obtain⟨n,hn⟩:=ae ((tagged tg (l.take j)).length);rw[hn] at hlt ⊢;have hn9:n≤100000:=aT hlt HL.o;have HN:=aa hn;clear hr hs hb ht QY hn hlt;by_cases h3:r.tag=tg
   ·subst h3;have gh:=aa (show tagged r.tag (l.take (j+1))=tagged r.tag (l.take j)++ [r] by rw[HT.o,if_pos rfl]);go_wp2_with (first|(refine dQ rfl 108 _ rfl nY.o (zJ l) j h2 im _ dJ rfl aR ?_;rw[HRC.o])|(refine ah rfl 108 (.tmp 6) _ rfl xs 108 _ (iW r) HS.o rfl rfl rfl aR pH ?_;intro w5 fX ft hs5;have ou:=aa fX;have oP:=aa ft;clear fX ft hs5));go_roundw
    case rel=>exact⟨j+1,h2,by go_num,by rw[gh.o,dh,HN.o];rfl,HR.o.grown oP.o (by have:=HX.o;omega),by rw[gh.o,DW,List.getLastD_concat];exact ou.o,bn HB.o oP.o (by have:=HX.o;omega)⟩
    case measure=>simp[intOf];omega
   have h3':(r.tag==tg)=false:=beq_eq_false_iff_ne.2 h3;have gh:=aa (show tagged tg (l.take (j+1))=tagged tg (l.take j)by rw[HT.o,if_neg h3,fz]);go_wp2_with fail;go_roundw
   case rel=>exact⟨j+1,h2,by go_num,by rw[gh.o,HN.o],HR.o,by rw[gh.o];exact HS.o,HB.o⟩
   case measure=>simp[intOf];omega
  obtain rfl:j=l.length:=aj;rw[List.take_length] at hs ⊢;have HR:=aa hr;have HS:=aa hs;have HB:=aa hb;clear hr hs hb;go_wp2_with (first|(refine aC rfl 108 (.tmp 6) rfl xs 108 _ HS.o rfl _ dJ rfl aR ?_)|(refine ah rfl 108 (.tmp 4) _ rfl xr 108 _ (iW _) HR.o rfl rfl rfl aR pH ?_;intro wz gz eC hsz;have kH:=aa gz;have iw:=aa eC;clear gz eC hsz));refine bodyPost_ret (results_cell_tmp Tryz.results36 _ im (aJ 108 kH.o _ dJ rfl aR)) rfl ⟨rfl,bn HB.o iw.o HX.o.1⟩
end En
end
section
namespace En
theorem bC.else{S:Nat→Prop}{aB:Nat→Nat}{w w':World}{e:Nat}{q:sQ}{wt:Value}{es:Es}(h:bC aB w e q wt es)(ht:aI S w w')(hS: ∀ k,S k→aB k=0)(hc:cj w')(hr:fk w'): bC aB w' e q wt es:=by
 have no: ∀ {k r:Nat},aB k=r→r≠0→¬S k:=fun hk hr hs=>hr (hk.symm.trans (hS _ hs))
 have r:=h.rest;exact⟨⟨r.does.same (ht.block _ r.does.lt (no r.r6 aN)),(cE ..).cO r.log ht (fun k hk=>no hk aN),(aD ..).cO r.dev ht (fun k hk=>no hk aN),iJ r.book ht (fun k hk=>no hk aN),r.slots.cO ht (no r.r7.1 aN) (no r.r7.2.1 aN) (no r.r7.2.2 aN),r.r5,r.r6,r.r7,fun k hk=>Nat.lt_of_lt_of_le (r.lt k hk) ht.size,hc,hr,r.kT⟩,
  ht.arr h.own (no r.r5 aN),h.aF.same fun g hg hl=>ht.block g hl (no hg aN)⟩
end En
end
section
namespace Rf
open En (Es bC)
theorem ZZ(sh lg:Int)(wide:Bool)(ep sq:Nat)(he:ep<18446744073709551616)(hs:sq<18446744073709551616): (Df sh lg wide ep sq).Inv∧(Df sh lg wide ep sq).rg.bytes (Df sh lg wide ep sq).dev.dk.size≤900000:=by
 obtain⟨h1,h2,h3,h4⟩:=Uq sh;have hm:QF wide=64∨QF wide=128:=by cases wide;exact .inl rfl;exact .inr rfl
 obtain⟨k,hk,hk2,hk4,_⟩:=Bo h1 h2 hm;have p8:mdK sh (QF wide)=k:=by unfold mdK;rw[hk];rfl
 have hlg:(lg % 8).toNat≤7:=aj;have hn:mdN sh lg (QF wide)=2*k+1+(lg % 8).toNat:=by unfold mdN;rw[p8]
 refine⟨?_,?_⟩
 ·unfold Df;refine tx aj aj aj (by rw[hn];omega) aj (by rw[p8];omega) (by rw[hn,p8];omega) he hs
 unfold Df;show(mdN sh lg (QF wide) - 2*mdK sh (QF wide))*QF wide≤900000
 rw[hn,p8];rcases hm with h|h <;>rw[h] <;>omega
theorem Xi{l:List iD}(h: ∀ a∈l,a.Ok){j:Nat}(hj:j<min l.length 40): (uT l j).qc∧(uT l j).bT≤8:=by
 have hl:j<l.length:=aj;have e:l.getD j ⟨0,0,0,0,0⟩=l[j]:=by rw[bN,bY hl];rfl
 have fq:=Oa (h l[j] (List.getElem_mem hl)) (i:=j) aj;refine⟨by unfold uT;rw[e];exact fq.may,?_⟩;unfold uT iD.rq;dsimp only;split
 ·omega
 decide
end Rf
end
section
namespace En
structure Duo(b0 b1 e f:Nat)(q p:sQ)(r0 s0:Nat→Nat)(w5:World)(r s:Nat→Nat)(wt wu:Value)(x y:Es)(v1 v2:Value)(one two:List Rp)(W:World): Prop where
 lx:Live b0 r W e q wt x
 ly:Live b1 s W f p wu y
 ap: ∀ k,r k≠0→s k=0
 gx: ∀ k,r k≠0→r0 k≠0∨w5.heap.size≤k
 gy: ∀ k,s k≠0→s0 k≠0∨w5.heap.size≤k
 rest:aI (fun k=>r0 k≠0∨s0 k≠0) w5 W
 o1:aM (fun k=>w5.heap.size≤k∧r k=0∧s k=0) W 108 7 v1 one.length (oY one)
 o2:aM (fun k=>w5.heap.size≤k∧r k=0∧s k=0) W 108 7 v2 two.length (oY two)
 ne: ∀ g,v1.ownBlock=some g→v2.ownBlock≠some g
 tab:cj w5∧fk w5
section
variable {b0 b1 e f:Nat}{q p:sQ}{r0 s0:Nat→Nat}{w5:World}{r s:Nat→Nat}{wt wu:Value}{x y:Es}{v1 v2:Value}{one two:List Rp}{W W':World}
theorem Duo.swap(h:Duo b0 b1 e f q p r0 s0 w5 r s wt wu x y v1 v2 one two W): Duo b1 b0 f e p q s0 r0 w5 s r wu wt y x v2 v1 two one W:=
 ⟨h.ly,h.lx,fun k hk=>ni fun hne=>hk (h.ap k hne),h.gy,h.gx,h.rest.mono fun k _ hk=>hk.symm,h.o2.mono fun k hk _=>⟨hk.1,hk.2.2,hk.2.1⟩,h.o1.mono fun k hk _=>⟨hk.1,hk.2.2,hk.2.1⟩,fun g hg e=>h.ne g e hg,h.tab⟩
theorem Duo.ai(h:Duo b0 b1 e f q p r0 s0 w5 r s wt wu x y v1 v2 one two W)(hb:Below W.heap.size W W'): Duo b0 b1 e f q p r0 s0 w5 r s wt wu x y v1 v2 one two W':=
 ⟨h.lx.ak hb,h.ly.ak hb,h.ap,h.gx,h.gy,h.rest.trans (aI.aU hb),h.o1.ai hb,h.o2.ai hb,h.ne,h.tab⟩
theorem Duo.done{r':Nat→Nat}{vC:Value}{x':Es}(h:Duo b0 b1 e f q p r0 s0 w5 r s wt wu x y v1 v2 one two W)(hL:Live b0 r' W' e q vC x')(hr: ∀ k,r' k≠0→r k≠0∨W.heap.size≤k)(ht:aI (fun k=>r k≠0) W W'): Duo b0 b1 e f q p r0 s0 w5 r' s vC wu x' y v1 v2 one two W':=by
 have hz:=h.rest.size;have old: ∀ k,k<W.heap.size→r k=0→r' k=0:=fun k hk h0=>ni fun hne=>by
  rcases hr k hne with a|a
  ·exact a h0
  omega
 have row: ∀ {v:Value} {l:List Rp},aM (fun k=>w5.heap.size≤k∧r k=0∧s k=0) W 108 7 v l.length (oY l)→aM (fun k=>w5.heap.size≤k∧r' k=0∧s k=0) W' 108 7 v l.length (oY l):=fun {v l} h9=>
  ⟨dY h9.own fun g hg=>ht.block g (dM h9.own hg).1 fun hne=>hne (h9.block g hg).2.1,fun g hg=>⟨(h9.block g hg).1,old g (dM h9.own hg).1 (h9.block g hg).2.1,(h9.block g hg).2.2⟩⟩
 refine⟨hL,⟨h.ly.cQ.else ht (fun k hk=>h.ap k hk) hL.cQ.rest.ic hL.cQ.rest.rep,h.ly.inv,h.ly.may,h.ly.bytes,h.ly.news⟩,fun k hk=>?_,fun k hk=>?_,h.gy,h.rest.new (ht.mono fun k _ hk=>?_),row h.o1,row h.o2,h.ne,h.tab⟩
 ·rcases hr k hk with a|a
  ·exact h.ap k a
  exact ni fun hne=>by have:=h.ly.cQ.rest.lt k hne;omega
 ·rcases hr k hk with a|a
  ·exact h.gx k a
  exact .inr aj
 rcases h.gx k hk with a|a
 ·exact .inl (.inl a)
 exact .inr a
theorem tv{v:Value}(hg:W.grownBy W' v.ownBlock): aI (fun j=>v.ownBlock=some j) W W':=⟨hg.os,hg.tape,hg.output,hg.size,fun j hj hne=>hg.block j hj (fun e=>hne e.symm)⟩
theorem Duo.app{m:List Rp}{v':Value}(h:Duo b0 b1 e f q p r0 s0 w5 r s wt wu x y v1 v2 one two W)(h2:aM (fun k=>(w5.heap.size≤k∧r k=0∧s k=0)∨k=W.heap.size) W' 108 7 v' (one++m).length (oY (one++m)))(hg:W.grownBy W' v1.ownBlock)(hat:v'.ownBlock=v1.ownBlock∨v'.ownBlock=some W.heap.size): Duo b0 b1 e f q p r0 s0 w5 r s wt wu x y v' v2 (one++m) two W':=by
 have hz:=h.rest.size;have ht:=tv hg;have hv:=fun j (hj:v1.ownBlock=some j)=>h.o1.block j hj
 have hR:=h.rest.new (ht.mono fun k _ hk=>.inr (hv k hk).1);have h0: ∀ k,k<w5.heap.size→¬v1.ownBlock=some k:=fun k hk he=>by have:=(hv k he).1;omega
 have hc:cj W':=h.lx.cQ.rest.ic.cO ht (h0 _ h.tab.1.lt);have hp:fk W':=h.lx.cQ.rest.rep.cO ht (h0 _ h.tab.2.lt);refine⟨⟨h.lx.cQ.else ht (fun k hk=>(hv k hk).2.1) hc hp,h.lx.inv,h.lx.may,h.lx.bytes,h.lx.news⟩,⟨h.ly.cQ.else ht (fun k hk=>(hv k hk).2.2) hc hp,h.ly.inv,h.ly.may,h.ly.bytes,h.ly.news⟩,h.ap,h.gx,h.gy,hR,h2.mono fun k hk _=>?_,⟨dY h.o2.own fun g e=>ht.block g (dM h.o2.own e).1 fun e1=>h.ne g e1 e,h.o2.block⟩,fun g e1 e2=>?_,h.tab⟩
 ·rcases hk with hk|rfl
  ·exact hk
  exact⟨hz,ni fun hne=>GY _ (h.lx.cQ.rest.lt _ hne),ni fun hne=>GY _ (h.ly.cQ.rest.lt _ hne)⟩
 rcases hat with a|a
 ·exact h.ne g (a.symm.trans e1) e2
 rw[a] at e1;injection e1 with e1;subst e1;exact GY _ (dM h.o2.own e2).1
end
theorem Es.DR{e:Es}(h:e.Inv){q:Rq}(hk:q.ay=8): (e.rep q).2.aF= []∧(e.rep q).2.bk=e.bk:=by
 have hc:=h.flush hk;have hr:e.rep q=e.flush q:=by
  unfold Es.rep;rw[if_neg xy,if_neg aj,if_pos hk]
 rw[hr];generalize e.flush q=R at hc;cases hc with
 | told x e' h1 h2 h3 h4 h5 h6=>exact absurd hk h6
 | aF x e' h1=>have:=cx h1;omega
 | full x e' h1=>have:=cx h1;omega
 | all x e' h1 h2 h3 h4 h5 h6 h7 h8 h9=>exact⟨h9,h6⟩
theorem tS.fin{n:Nat}{ks:Nat→Int}{one two:List Rp}{x y:Es}(h:tS n ks one two x y)(hx:x.aF= [])(hy:y.aF= []): ∃ M,M≤n∧(∀ i:Nat,i<M→ks i≠8→ks i≠9→∃ r,tagged ((i:Int)+1) one= [r]∧tagged ((i:Int)+1) two= [r])∧
  (M=n∧x.bk=y.bk∨M<n∧ks M≠8∧ks M≠9∧((∃ r,tagged ((M:Int)+1) one= [r]∧r.err=220)∨∃ r,tagged ((M:Int)+1) two= [r]∧r.err=220)):=by
 rcases h.say with⟨h1,h2⟩|⟨m,h1,h2,h3,h4,h5⟩
 ·rw[hx,hy] at h2;simp only[fz] at h2;exact⟨n,aQ _,h2,.inl ⟨rfl,h1⟩⟩
 ·rw[hx,hy] at h4 h5;simp only[fz] at h4 h5;exact⟨m,Nat.le_of_lt h1,h4,.inr ⟨h1,h2,h3,h5⟩⟩
theorem xW{k t:Int}(hk:k=8∨k=9)(ht:0≤t∧t<4294967296): (⟨k,t,0,0,0⟩:Rq).qc:=
 ⟨⟨by show 1≤k∧k≤10;omega,ht,by show(0:Int)≤0∧(0:Int)<4294967296;decide,by show(0:Int)≤0∧(0:Int)≤65535;decide,by show(0:Int)≤0;decide⟩,by show(0:Int)<9223372036854775808;decide,fun _=>rfl,fun _=>rfl,fun _=>rfl⟩
end En
end
section
namespace Rf
open En (Es Duo tS lj sK DW xW tv)
def afx(w:World)(e:Ending)(w':World): Prop:=e= .returned (.bool true)∧Below w.heap.size w w'
def Eu(P P2:MdP)(ba bb:Nat)(wz:World)(ks:Nat→Int)(j m:Nat)(v1 v2:Value)(W:World): Prop:=
 ∃ r s wt wu x y one two,Duo ba bb P.e P2.e P.q P2.q P.aB P2.aB wz r s wt wu x y v1 v2 one two W∧tS j ks one two x y∧one.length≤65*j∧two.length≤m
theorem abV{r0 r:Nat→Nat}{z k:Nat}(h: ∀ k,r k≠0→r0 k≠0∨z≤k)(h0:r0 k=0)(hk:k<z): r k=0:=ni fun hne=>by
 rcases h k hne with a|a
 ·exact a h0
 omega
theorem IZ{e:Es}(h:e.Inv){q:Rq}(hq:q.Good): (e.rep q).1.length≤65:=(h.zu hq).short (by have:=h.full;have:=h.bk.aA;omega)
theorem abU{W:World}{g:Nat}{t:TypeId}{r:Rp}(h:aG W g t (iW r)): W.cell? ⟨g,0,none⟩=some (.int .u32 r.tag)∧W.cell? ⟨g,1,none⟩=some (.int .i64 r.ay)∧W.cell? ⟨g,2,none⟩=some (.int .i64 r.err)∧W.cell? ⟨g,3,none⟩=some (.int .u32 r.id)∧W.cell? ⟨g,4,none⟩=some (.int .i64 r.aw)∧W.cell? ⟨g,5,none⟩=some (.int .i64 r.aS)∧W.cell? ⟨g,6,none⟩=some (.int .i64 r.count):=
 ⟨h.cell 0,h.cell 1,h.cell 2,h.cell 3,h.cell 4,h.cell 5,h.cell 6⟩
theorem Us(s:StN)(hs:s.Ok)(l:List iD)(fq: ∀ a∈l,a.Ok)(pl:Int)(hpl: -9223372036854775808≤pl∧pl≤9223372036854775807)(A:Option Addr)(c:Nat)(w:World)(hA:Ny w A l)(hl:l.length≤70368744177664)(Eh:cj w)(hrt:fk w):
  Calls af 5 #[.agg (FC s),.slice A l.length c,.int .i64 pl] w (afx w):=by
 obtain⟨xs,yT⟩:=ae w.heap.size;obtain⟨w1,aZ⟩:=ae (w.alloc (.cells (FC s) 24));have Dv:=aa (aK aZ yT);have bz:=aa (aL aZ);have HXS:=aa (show w.heap.size≤xs from Nat.le_of_eq yT);have HA:=aa hA;have ur:=aa fq;have CY:=aa Eh;have Zk:=aa hrt;have HS:=aa hs;have HLL:=aa hl;obtain⟨n,hn⟩:=ae (min l.length 40);have amf:n≤40:=aj;have HN:=aa hn;have HPK:=aa (fun W=>nc pl ((n:Int)+1) hpl aj W);obtain⟨at_,hat⟩: ∃ a:Nat,pl % ((n:Int)+1)=a:=⟨(pl % ((n:Int)+1)).toNat,by have:=Int.emod_nonneg pl (show(n:Int)+1≠0 from aj);omega⟩;have amH:at_≤n:=by have:=Int.emod_lt_of_pos pl (show(0:Int)<(n:Int)+1 from aj);omega
 rw[hat] at HPK;clear hA fq Eh hrt hs hl hn hpl hat;go_enter Tryz.func5,Tryz.ntmps5;go_wp2_with fail;clear aZ yT;refine(Xf w1 (CY.o.ai bz.o) (Zk.o.ai bz.o)).mono ?_;rintro en w2 ⟨rfl,hb⟩;have CW:=Dv.js hb;have cu:=bz.dP hb;clear hb Dv bz;go_wp2_with (refine aC rfl 24 (.tmp 3) rfl xs 24 (FC s) CW.o rfl _ GX rfl jR ?_);refine(SQ s w2).mono ?_;rintro en w3 ⟨rfl,hb⟩;have Ie:=CW.js hb;have dV:=cu.dP hb;clear hb CW cu;go_upto_region 4 with(refine ah rfl 24 (.tmp 3) _ rfl xs 24 _ (FC (stU s)) Ie.o rfl rfl rfl jR (by simp[FC,fw]) ?_;intro w4 mZ hg4 sr;have Ze:=aa mZ;have gH:=aa (show Below w.heap.size w w4 from bn dV.o hg4 HXS.o);clear mZ hg4 sr)
 have y1:w4.cell? ⟨xs,1,none⟩=some (.int .i64 s.log):=Ze.o.cell 1;have m1:=Ze.o.mark 1;obtain⟨w5,iX⟩:=ae (w4.setCell ⟨xs,1,none⟩ (.int .i64 7));have M4:=aa (show aG w5 xs 24 (FC ⟨s.shape,7,s.wide,0,0,0⟩)by rw[←iX];exact Ze.o.put 1 _);have eA:=aa (show Below w.heap.size w w5 by rw[←iX];exact gH.o.setCell HXS.o _);go_upto_region 5 with fail
 try rw[iX]
 clear iX y1 m1 Ie Ze dV gH;go_wp2_with (refine aC rfl 24 (.tmp 3) rfl xs 24 (FC ⟨s.shape,7,s.wide,0,0,0⟩) M4.o rfl _ GX rfl jR ?_);refine(xX s.shape 7 s.wide 0 0 HS.o.shape aN aN aN w5 (CY.o.ai eA.o) (Zk.o.ai eA.o)).mono ?_;rintro en w6 ⟨P,rfl,hM⟩;have HM:=aa hM;have ij:=aa (av eA.o hM.ak);have EA:=M4.js hM.ak;clear hM M4;go_wp2_with (refine aC rfl 24 (.tmp 3) rfl xs 24 (FC ⟨s.shape,7,s.wide,0,0,0⟩) EA.o rfl _ GX rfl jR ?_);refine(xX s.shape 7 s.wide 0 0 HS.o.shape aN aN aN w6 (CY.o.ai ij.o) (Zk.o.ai ij.o)).mono ?_;rintro en w7 ⟨P2,rfl,hM⟩;have HM2:=aa hM;have lI:=aa (av ij.o hM.ak);clear hM EA;go_wp2_with fail;refine(aaS l ur.o A c w7 (HA.o.ai lI.o) HLL.o).mono ?_;rintro en wz ⟨v7,rfl,hR,hb⟩;rw[HN.o] at hR;obtain⟨A7,c7,rfl⟩:=hR.any;obtain⟨cs,hcs⟩: ∃ cs:Array Value,cs= #[.pointer (some ⟨P.q.p,0,none⟩),.pointer (some ⟨P.e,0,none⟩),.pointer (some ⟨P.q.rl,0,none⟩),.pointer (some ⟨P.q.sl,0,none⟩),.pointer (some ⟨P.m,0,none⟩),.pointer (some ⟨P.v,0,none⟩)]:=⟨_,rfl⟩;have kR:=aa (show cs[1]? =some (.pointer (some ⟨P.e,0,none⟩))by rw[hcs];rfl);obtain⟨ds,Sd⟩: ∃ cs:Array Value,cs= #[.pointer (some ⟨P2.q.p,0,none⟩),.pointer (some ⟨P2.e,0,none⟩),.pointer (some ⟨P2.q.rl,0,none⟩),.pointer (some ⟨P2.q.sl,0,none⟩),.pointer (some ⟨P2.m,0,none⟩),.pointer (some ⟨P2.v,0,none⟩)]:=⟨_,rfl⟩;have zB:=aa (show ds[1]? =some (.pointer (some ⟨P2.e,0,none⟩))by rw[Sd];rfl);have hm:=HM.o;have vt:=HM2.o;obtain⟨m1,m2⟩:=ZZ s.shape 7 s.wide 0 0 aN aN;have hz:=hm.ak.size;have hz2:=vt.ak.size;have hz3:=hb.size;have iz:aG w6 P.x gK cs:=by rw[hcs];exact hm.own
 have hya:aG w7 P2.x gK ds:=by rw[Sd];exact vt.own
 have ae1:=av vt.ak hb;have r1: ∀ k,P.aB k≠0→k<w6.heap.size:=hm.eng.rest.lt;have r2: ∀ k,P2.aB k≠0→w6.heap.size≤k:=vt.news;have r3: ∀ k,P2.aB k≠0→k<w7.heap.size:=vt.eng.rest.lt;have zx:P2.aB P.x=0:=ni fun hne=>by have:=r2 _ hne;have:=iz.lt;omega
 have zy:P.aB P2.x=0:=ni fun hne=>by have:=r1 _ hne;have:=vt.ajQ;omega
 have HD0:=aa (show Duo w5.heap.size w6.heap.size P.e P2.e P.q P2.q P.aB P2.aB wz P.aB P2.aB (.slice none 0 0) (.slice none 0 0) (Df s.shape 7 s.wide 0 0) (Df s.shape 7 s.wide 0 0) (.slice none 0 0) (.slice none 0 0) [] [] wz from
  ⟨⟨hm.eng.ak ae1,m1,(fun r hr=>ux),m2,hm.news⟩,⟨vt.eng.ak hb,m1,(fun r hr=>ux),m2,vt.news⟩,fun k hk=>ni fun hne=>by have:=r1 k hk;have:=r2 k hne;omega,fun k hk=>.inl hk,fun k hk=>.inl hk,aI.refl _ _,aM.nil _ _ _ _ _,aM.nil _ _ _ _ _,(fun g hg=>by cases hg),CY.o.ai (av lI.o hb),Zk.o.ai (av lI.o hb)⟩)
 have HI0:=aa (show Eu P P2 w5.heap.size w6.heap.size wz (fun i=>(uT l i).ay) 0 0 (.slice none 0 0) (.slice none 0 0) wz from
  ⟨_,_,_,_,_,_,[],[],HD0.o,tS.start m1 m1 rfl rfl rfl,aQ _,aQ _⟩)
 have Yl:=aa (show ∀ W,aI (fun k=>P.aB k≠0∨P2.aB k≠0) wz W→aG W P.x gK cs∧aG W P2.x gK ds∧aM (fun k=>w7.heap.size≤k) W 41 5 (.slice A7 n c7) n (Cc l)from fun W ht=>
  ⟨ht.arr (iz.ai ae1) (fun hh=>hh.elim (fun a=>a hm.xno) (fun a=>a zx)),ht.arr (hya.ai hb) (fun hh=>hh.elim (fun a=>a zy) (fun a=>a vt.xno)),En.aM.Uj hR ht fun k hk hh=>by
   rcases hh with a|a
   ·have:=r1 k a;omega
   have:=r3 k a;omega⟩)
 have zZ:=aa (show ∀ r:Nat→Nat,(∀ k,r k≠0→P.aB k≠0∨wz.heap.size≤k)→r P.x=0 from fun r hr=>abV hr hm.xno (by have:=iz.lt;omega));have HRY:=aa (show ∀ r:Nat→Nat,(∀ k,r k≠0→P2.aB k≠0∨wz.heap.size≤k)→r P2.x=0 from fun r hr=>abV hr vt.xno (by have:=hya.lt;omega));have HZZ:=aa (show w5.heap.size≤wz.heap.size∧w6.heap.size≤wz.heap.size from aj);have HBZ:=aa (show ∀ W,aI (fun k=>P.aB k≠0∨P2.aB k≠0) wz W→Below w.heap.size w W from fun W ht=>aI.fresh ht (av lI.o hb) fun k hk=>by
  have h5:=eA.o.size;rcases hk with a|a
  ·have:=hm.news k a;omega
  have:=vt.news k a;omega)
 clear hm vt m1 m2 hz hz2 hz3 iz hya ae1 r1 r2 r3 zx zy hR hb HM HM2 hcs Sd ij lI HA HS HD0;go_wp2_with fail;refine ag (HPK.o wz) ?_;go_wp2_with fail;go_loopw [13,14,15] (fun v1 v2 i wr=>∃ j:Nat,j≤n∧i= .int .i64 j∧Eu P P2 w5.heap.size w6.heap.size wz (fun i=>(uT l i).ay) j (130*j) v1 v2 wr) (fun _ _ i _=>(n+1 - intOf i).toNat)
 case atStart=>exact⟨0,cm _,rfl,HI0.o⟩
 case round=>
  obtain⟨j,hj,rfl,hI⟩:=hrel;clear HI0;have HI:=aa hI;have amq:j≤40:=aj;have Q8:(j:Int)≤(n:Int):=aj;clear hI;obtain⟨bb,vw⟩:=ae (((j:Int)==(at_:Int)):Bool);go_upto_if 68 with fail
  clear vw;go_cut [14,16,17] from 69 to 79 (fun v2' _ _ wc=>Eu P P2 w5.heap.size w6.heap.size wz (fun i=>(uT l i).ay) j (130*j+65) u13 v2' wc)
  case first=>
   cases bb
   case true=>
    obtain⟨r,s,wt,wu,x,y,one,two,hD,hB,oZ,hl2⟩:=HI.o;have HD:=aa hD;have ie:=aa hB;have RK:=aa (show one.length≤65*j∧two.length≤130*j from⟨oZ,hl2⟩);clear hD hB oZ hl2;go_wp2_with fail;refine(yz HD.o.ly (aT HZZ.o.2 HD.o.rest.size) (Yl.o _ HD.o.rest).2.1 (HRY.o _ HD.o.gy) zB.o (xW (k:=9) (t:=1048576) (.inr rfl) aN)).mono ?_;rintro en w2 ⟨vw2,rw2,tw2,rfl,hR,hL,hr,ht⟩;have jG:=aa ((HD.o.swap.done hL hr ht).swap);have kU:=aa hR;have cu:=aa (ie.o.right (q:=⟨9,1048576,0,0,0⟩) aN aj (ie.o.iy.zu (xW (k:=9) (t:=1048576) (.inr rfl) aN).good) ((ie.o.iy.zu (xW (k:=9) (t:=1048576) (.inr rfl) aN).good).vM (.inr rfl)));have H65:=aa (IZ ie.o.iy (xW (k:=9) (t:=1048576) (.inr rfl) aN).good);clear hR hL hr ht;go_wp2_with (refine lj _ rfl (.tmp 75) (.tmp 76) rfl jG.o.o2 rfl kU.o rfl Bf ?_;intro v3 w3 h1 h2 h3;have EF:=aa ((jG.o.swap.app (h1.mono fun k hk _=>hk.imp_left fun a=>⟨a.1,a.2.2,a.2.1⟩) h2 h3).swap);clear h1 h2 h3);go_meet;exact⟨_,_,_,_,_,_,_,_,EF.o,cu.o,RK.o.1,LG⟩
   case false=>
    go_wp2_with fail;go_meet;obtain⟨r,s,wt,wu,x,y,one,two,hD,hB,oZ,hl2⟩:=HI.o;exact⟨r,s,wt,wu,x,y,one,two,hD,hB,oZ,aT hl2 (Nat.le_add_right _ _)⟩
  case rest=>
   obtain⟨r,s,wt,wu,x,y,one,two,hD,hB,oZ,hl2⟩:=hcut;have HD:=aa hD;have ie:=aa hB;have RK:=aa (show one.length≤65*j∧two.length≤130*j+65 from⟨oZ,hl2⟩);clear hD hB oZ hl2 HI;by_cases Y5:j<n
   ·have amo:((j:Int)==(n:Int))=false:=beq_eq_false_iff_ne.2 aj;obtain⟨hqm,hqt⟩:=Xi ur.o (j:=j) (by rw[HN.o];exact Y5);obtain⟨g7,cap,hv,_,_,_,_⟩:=(Yl.o _ HD.o.rest).2.2.form aj;injection hv with e1 _ e2
    subst e1 e2;obtain⟨q,hq⟩:=ae (uT l j);have sO:=aa (show Cc l j= [.int .i64 q.ay,.int .u32 q.tag,.int .u32 q.id,.int .i64 q.aw,.int .i64 q.bT] by unfold Cc;rw[hq];rfl);have HQE:=aa (show q.ay=(uT l j).ay∧q.tag=(j:Int)+1 from⟨by rw[hq],by rw[←hq];unfold uT iD.rq Fz;rfl⟩);rw[hq] at hqm;have HQM:=aa hqm;clear hqm hqt hq;have nY:=aa (Yl.o _ HD.o.rest).2.2;go_wp2_with (refine dQ rfl 41 _ rfl nY.o (fun _=>rfl) j Y5 im _ Tryz.underlying41 rfl aH ?_;rw[sO.o]);refine(yz HD.o.lx (aT HZZ.o.1 HD.o.rest.size) (Yl.o _ HD.o.rest).1 (zZ.o _ HD.o.gx) kR.o HQM.o).mono ?_;rintro en w2 ⟨vw2,rw2,tw2,rfl,hR,hL,hr,ht⟩;have jG:=aa (HD.o.done hL hr ht);have kU:=aa hR;have nY:=aa (Yl.o _ jG.o.rest).2.2;have Sr:=aa (show ∀ k,s k≠0→k<wc.heap.size from HD.o.ly.cQ.rest.lt);clear hR hL hr ht HD;go_wp2_with (refine dQ rfl 41 _ rfl nY.o (fun _=>rfl) j Y5 im _ Tryz.underlying41 rfl aH ?_;rw[sO.o]);refine(yz jG.o.ly (aT HZZ.o.2 jG.o.rest.size) (Yl.o _ jG.o.rest).2.1 (HRY.o _ jG.o.gy) zB.o HQM.o).mono ?_;rintro en w3 ⟨vw3,rw3,tw3,rfl,hR,hL,hr,ht⟩;have kU:=aa (show aM (fun k=>wc.heap.size≤k∧k<w2.heap.size) w3 108 7 vw2 (x.rep q).1.length (oY (x.rep q).1)from En.aM.Uj (kU.o.mono fun k hk Hx=>⟨hk.1,Hx⟩) (ht.mono (T:=fun k=>s k≠0) fun k _ hk=>hk) fun k hk hne=>by have:=Sr.o k hne;omega);have EF:=aa ((jG.o.swap.done hL hr ht).swap);have gM:=aa hR;have dV:=aa (ie.o.step HQM.o.good HQE.o.2 HQE.o.1 aj);have H65:=aa (show(x.rep q).1.length≤65∧(y.rep q).1.length≤65 from⟨IZ ie.o.ix HQM.o.good,IZ ie.o.iy HQM.o.good⟩);have HLO:=aa (show ∀ k,u13.ownBlock=some k→k<w2.heap.size from fun k hk=>(dM jG.o.o1.own hk).1);clear hR hL hr ht jG nY;go_upto_region 26 with(refine lj _ rfl (.tmp 108) (.tmp 109) rfl EF.o.o1 rfl kU.o rfl Bf ?_;intro v4 w4 h1 h2 h3;have mj:=aa (En.aM.Uj gM.o (tv h2) fun k hk he=>by have:=HLO.o k he;omega);have HD4:=aa (EF.o.app h1 h2 h3);clear h1 h2 h3)
    go_wp2_with (refine lj _ rfl (.tmp 111) (.tmp 112) rfl HD4.o.o2 rfl mj.o rfl Bf ?_;intro v5 w5 h1 h2 h3;have vB:=aa ((HD4.o.swap.app (h1.mono fun k hk _=>hk.imp_left fun a=>⟨a.1,a.2.2,a.2.1⟩) h2 h3).swap);clear h1 h2 h3);go_roundw
    case rel=>exact⟨j+1,aj,by go_num,_,_,_,_,_,_,_,_,vB.o,dV.o,LG,LG⟩
    case measure=>simp[intOf];omega
   obtain rfl:n=j:=aj;have O6:(⟨8,2097152,0,0,0⟩:Rq).qc:=xW (.inl rfl) aN;have HM8:=aa O6;clear O6;go_wp2_with fail;refine(yz HD.o.lx (aT HZZ.o.1 HD.o.rest.size) (Yl.o _ HD.o.rest).1 (zZ.o _ HD.o.gx) kR.o HM8.o).mono ?_;rintro en w2 ⟨vw2,rw2,tw2,rfl,hR,hL,hr,ht⟩;have jG:=aa (HD.o.done hL hr ht);have kU:=aa hR;have Sr:=aa (show ∀ k,s k≠0→k<wc.heap.size from HD.o.ly.cQ.rest.lt);clear hR hL hr ht HD;go_wp2_with fail;refine(yz jG.o.ly (aT HZZ.o.2 jG.o.rest.size) (Yl.o _ jG.o.rest).2.1 (HRY.o _ jG.o.gy) zB.o HM8.o).mono ?_;rintro en w3 ⟨vw3,rw3,tw3,rfl,hR,hL,hr,ht⟩;have kU:=aa (show aM (fun k=>wc.heap.size≤k∧k<w2.heap.size) w3 108 7 vw2 (x.rep ⟨8,2097152,0,0,0⟩).1.length (oY (x.rep ⟨8,2097152,0,0,0⟩).1)from En.aM.Uj (kU.o.mono fun k hk Hx=>⟨hk.1,Hx⟩) (ht.mono (T:=fun k=>s k≠0) fun k _ hk=>hk) fun k hk hne=>by have:=Sr.o k hne;omega);have EF:=aa ((jG.o.swap.done hL hr ht).swap);have gM:=aa hR;have dV:=aa ((ie.o.left (q:=⟨8,2097152,0,0,0⟩) aN aj (ie.o.ix.zu HM8.o.good) ((ie.o.ix.zu HM8.o.good).vM (.inl rfl))).right (q:=⟨8,2097152,0,0,0⟩) aN aj (ie.o.iy.zu HM8.o.good) ((ie.o.iy.zu HM8.o.good).vM (.inl rfl)));have HWW:=aa (show(x.rep ⟨8,2097152,0,0,0⟩).2.aF= []∧(y.rep ⟨8,2097152,0,0,0⟩).2.aF= [] from⟨(En.Es.DR ie.o.ix rfl).1,(En.Es.DR ie.o.iy rfl).1⟩);have H65:=aa (show(x.rep ⟨8,2097152,0,0,0⟩).1.length≤65∧(y.rep ⟨8,2097152,0,0,0⟩).1.length≤65 from⟨IZ ie.o.ix HM8.o.good,IZ ie.o.iy HM8.o.good⟩);have HLO:=aa (show ∀ k,u13.ownBlock=some k→k<w2.heap.size from fun k hk=>(dM jG.o.o1.own hk).1);clear hR hL hr ht jG;go_upto_region 30 with(first|(refine lj _ rfl (.tmp 126) (.tmp 127) rfl EF.o.o1 rfl kU.o rfl Bf ?_;intro v4 w4 h1 h2 h3;have mj:=aa (En.aM.Uj gM.o (tv h2) fun k hk he=>by have:=HLO.o k he;omega);have HD4:=aa (EF.o.app h1 h2 h3);clear h1 h2 h3)|(refine lj _ rfl (.tmp 129) (.tmp 130) rfl HD4.o.o2 rfl mj.o rfl Bf ?_;intro v5 w5 h1 h2 h3;have vB:=aa ((HD4.o.swap.app (h1.mono fun k hk _=>hk.imp_left fun a=>⟨a.1,a.2.2,a.2.1⟩) h2 h3).swap);clear h1 h2 h3))
   obtain⟨x',hx'⟩:=ae ((x.rep ⟨8,2097152,0,0,0⟩).2);obtain⟨y',hy'⟩:=ae ((y.rep ⟨8,2097152,0,0,0⟩).2);have afS:=aa (show(one++(x.rep ⟨8,2097152,0,0,0⟩).1).length≤100000∧(two++(y.rep ⟨8,2097152,0,0,0⟩).1).length≤100000 from by rw[dh,dh];have:=RK.o;have:=H65.o;omega);obtain⟨ol,hol⟩:=ae (one++(x.rep ⟨8,2097152,0,0,0⟩).1);obtain⟨tl,OW⟩:=ae (two++(y.rep ⟨8,2097152,0,0,0⟩).1);rw[hx',hy'] at vB dV HWW;rw[hol,OW] at vB dV afS;have HFN:=aa (dV.o.fin HWW.o.1 HWW.o.2);clear hx' hy' hol OW EF HD4 kU gM mj ie HLO H65 RK Sr HM8 dV HWW;obtain⟨M,hM,OX,hend⟩:=HFN.o;have HSA:=aa OX;have HEN:=aa hend;have HMN:=aa hM;clear OX hend hM HFN;have zz:=aa (fun W (hW:Below w5.heap.size w5 W)=>(Yl.o _ (vB.o.rest.trans (aI.aU hW))).2.2);go_wp2_with fail;go_loopw [26] (fun i wr=>∃ j:Nat,j≤M∧i= .int .i64 j∧Below w5.heap.size w5 wr) (fun i _=>(n - intOf i).toNat)
   case atStart=>exact⟨0,cm _,rfl,Below.refl _ _⟩
   case round=>
    clear Q8;obtain⟨j,hj,rfl,hb⟩:=hrel;have HB:=aa hb;have amn:j≤n:=aT hj HMN.o;clear hb;by_cases Y5:j<n
    ·have Q8:(j:Int)<(n:Int):=by omega
     obtain⟨g7,cap,hv,_,_,_,_⟩:=(zz.o _ HB.o).form aj;injection hv with e1 _ e2
     subst e1 e2;obtain⟨q,hq⟩:=ae (uT l j);have sO:=aa (show Cc l j= [.int .i64 q.ay,.int .u32 q.tag,.int .u32 q.id,.int .i64 q.aw,.int .i64 q.bT] by unfold Cc;rw[hq];rfl);have HQE:=aa (show(uT l j).ay=q.ay∧q.tag=(j:Int)+1 from⟨by rw[hq],by rw[←hq];unfold uT iD.rq Fz;rfl⟩);have c0:wr.cell? ⟨g7,j*5,none⟩=some (.int .i64 q.ay):=(zz.o _ HB.o).range (fun _=>rfl) Y5 0 _ (by rw[sO.o];rfl);have c1:wr.cell? ⟨g7,j*5+1,none⟩=some (.int .u32 q.tag):=(zz.o _ HB.o).range (fun _=>rfl) Y5 1 _ (by rw[sO.o];rfl);clear hq;have next:(q.ay=8∨q.ay=9)→j<M:=fun hk=>by
      rcases Nat.lt_or_ge j M with h|h
      ·exact h
      obtain rfl:j=M:=aj;rcases HEN.o with⟨h1,_⟩|⟨_,h8,h9,_⟩
      ·omega
      rw[HQE.o.1] at h8 h9;rcases hk with hk|hk
      ·exact absurd hk h8
      exact absurd hk h9
     have CX:=aa next;clear next;by_cases k8:q.ay=8
     ·have hlt:=CX.o (.inl k8);rw[k8] at c0;exact abZ
     by_cases k9:q.ay=9
     ·have hlt:=CX.o (.inr k9);rw[k9] at c0;exact abZ
     have b8:(q.ay==8)=false:=beq_eq_false_iff_ne.2 k8;have b9:(q.ay==9)=false:=beq_eq_false_iff_ne.2 k9;obtain⟨pa,Jy⟩:=ae (DW (tagged q.tag ol));obtain⟨pb,hpb⟩:=ae (DW (tagged q.tag tl));obtain⟨na,hna⟩:=ae ((tagged q.tag ol).length);obtain⟨nb,hnb⟩:=ae ((tagged q.tag tl).length);have HQ:=aa (show(pa=pb∧na=1∧nb=1∧j<M)∨pa.err=220∨pb.err=220 from by
      rw[HQE.o.2] at Jy hpb hna hnb;rcases Nat.lt_or_ge j M with h|h
      ·obtain⟨r,h1,h2⟩:=HSA.o j h (by rw[HQE.o.1];exact k8) (by rw[HQE.o.1];exact k9);rw[h1] at Jy hna;rw[h2] at hpb hnb;exact .inl ⟨by rw[←Jy,←hpb],hna.symm,hnb.symm,h⟩
      obtain rfl:j=M:=aj;rcases HEN.o with⟨h1,_⟩|⟨_,_,_,⟨r,h1,h2⟩|⟨r,h1,h2⟩⟩
      ·omega
      ·rw[h1] at Jy;rw[←Jy];exact .inr (.inl h2)
      rw[h1] at hpb;rw[←hpb];exact .inr (.inr h2))
     have dz:=aa (fun W (hW:Below w5.heap.size w5 W)=>sK q.tag (vB.o.o1.ai hW) afS.o.1);have iZ:=aa (fun W (hW:Below w5.heap.size w5 W)=>sK q.tag (vB.o.o2.ai hW) afS.o.2);unfold En.adQ at dz iZ;rw[Jy,hna] at dz;rw[hpb,hnb] at iZ;clear Jy hpb hna hnb k8 k9;go_wp2_with fail;refine(dz.o _ HB.o).mono ?_;rintro en w6 ⟨rfl,hb⟩;have ij:=HB.dP hb;have c1:w6.cell? ⟨g7,j*5+1,none⟩=some (.int .u32 q.tag):=(zz.o _ ij.o).range (fun _=>rfl) Y5 1 _ (by rw[sO.o];rfl);clear hb c0;obtain⟨xp,lF⟩:=ae w6.heap.size;obtain⟨w7',wQ⟩:=ae (w6.alloc (.cells #[.int .u32 0,.int .i64 0,.int .i64 0,.int .u32 0,.int .i64 0,.int .i64 0,.int .i64 0] 108));have HP7:=aa (show aG w7' xp 108 (iW En.Rp.none)by rw[←wQ,←lF];exact aG.fresh w6 _ _);have lI:=aa (dU ij.o wQ);have HXP:=aa (show w5.heap.size≤xp by rw[←lF];exact ij.o.size);go_upto_region 36 with(refine ah rfl 108 (.tmp 28) _ rfl xp 108 _ (iW pa) HP7.o rfl rfl rfl aR pH ?_;intro w8 O5 Wj hs8;have HP8:=aa O5;have py:=aa (show Below w5.heap.size w5 w8 from bn lI.o Wj HXP.o);clear O5 Wj hs8)
     clear wQ lF c1 HP7 lI;have c1:w8.cell? ⟨g7,j*5+1,none⟩=some (.int .u32 q.tag):=(zz.o _ py.o).range (fun _=>rfl) Y5 1 _ (by rw[sO.o];rfl);go_wp2_with fail;refine(iZ.o _ py.o).mono ?_;rintro en w9 ⟨rfl,hb⟩;have zD:=py.dP hb;have HP9:=aa (HP8.o.ai hb);clear hb c1 HP8;obtain⟨xo,hxo⟩:=ae w9.heap.size;obtain⟨wa,KF⟩:=ae (w9.alloc (.cells #[.int .u32 0,.int .i64 0,.int .i64 0,.int .u32 0,.int .i64 0,.int .i64 0,.int .i64 0] 108));have HOa:=aa (show aG wa xo 108 (iW En.Rp.none)by rw[←KF,←hxo];exact aG.fresh w9 _ _);have HPa:=aa (show aG wa xp 108 (iW pa)by rw[←KF];exact HP9.o.alloc _);have Nk:=aa (dU zD.o KF);have HXO:=aa (show w5.heap.size≤xo∧xp≠xo by rw[←hxo];exact⟨zD.o.size,by have:=HP9.o.lt;omega⟩);go_upto_region 37 with(refine ah rfl 108 (.tmp 30) _ rfl xo 108 _ (iW pb) HOa.o rfl rfl rfl aR pH ?_;intro wb hAb hgb ky;have HPb:=aa (HPa.o.grown hgb HXO.o.2);have HOb:=aa hAb;have HBb:=aa (show Below w5.heap.size w5 wb from bn Nk.o hgb HXO.o.1);clear hAb hgb ky)
     clear KF hxo HOa HPa Nk HP9;obtain⟨p0,p1,p2,p3,p4,p5,p6⟩:=abU HPb.o;obtain⟨o0,o1,o2,o3,o4,o5,o6⟩:=abU HOb.o;by_cases ea:pa.err=220
     ·rw[ea] at p2;exact Vn
     have fa:(pa.err==220)=false:=beq_eq_false_iff_ne.2 ea;by_cases eb:pb.err=220
     ·rw[eb] at o2;exact Vn
     obtain⟨rfl,rfl,rfl,hlt⟩:pa=pb∧na=1∧nb=1∧j<M:=by
      rcases HQ.o with h|h|h
      ·exact h
      ·exact absurd h ea
      exact absurd h eb
     clear eb ea;go_wp2_with fail;go_roundw
     case rel=>exact⟨j+1,hlt,by go_num,HBb.o⟩
     case measure=>simp[intOf];omega
    obtain rfl:n=j:=aj;have cL:x'.bk=y'.bk:=by
     rcases HEN.o with⟨_,h⟩|⟨h,_⟩
     ·exact h
     omega
    have fC:=aa cL;clear cL;have gi:=aa (show ∀ W,Below w5.heap.size w5 W→(W.cell? ⟨P.x,1,none⟩=some (.pointer (some ⟨P.e,0,none⟩))∧W.cell? ⟨P2.x,1,none⟩=some (.pointer (some ⟨P2.e,0,none⟩)))from fun W hW=>⟨((Yl.o _ (vB.o.rest.trans (aI.aU hW))).1.cell 1).trans kR.o,((Yl.o _ (vB.o.rest.trans (aI.aU hW))).2.1.cell 1).trans zB.o⟩);go_upto_region 41 with fail
    refine ud (S:=(fun W=>W.cell? ⟨P.x,1,none⟩=some (.pointer (some ⟨P.e,0,none⟩))∧W.cell? ⟨P2.x,1,none⟩=some (.pointer (some ⟨P2.e,0,none⟩)))) (by exact gi.o _ (az HB.o)) fun hHeld=>?_
    have jz:=aa (show Below w5.heap.size w5 wr.drew from az HB.o);refine ov 0 1 2 3 5 6 7 8 ?_;refine cG 4 fun K hK=>?_
    go_simp;refine(sR (vB.o.lx.cQ.ak jz.o) vB.o.lx.inv.up vB.o.lx.inv.bk).mono ?_;rintro e wp ⟨bp,Sp,rfl,cL,hS,hb⟩;have HBP:=aa cL;have jz:=jz.dP hb;clear cL hS hb;go_wp2_with fail;refine bW hK N7 fun mC=>?_
    clear hK K;refine cG 9 fun K hK=>?_
    go_simp;refine(sR (vB.o.ly.cQ.ak jz.o) vB.o.ly.inv.up vB.o.ly.inv.bk).mono ?_;rintro e wo ⟨bo,So,rfl,cL,hS,hb⟩;have HBP:=aa (lH HBP.o hb);have oo:=aa (show Bk.fK So wo bo x'.bk from by rw[fC.o];exact cL);have jz:=jz.dP hb;clear cL hS hb;go_wp2_with fail;refine bW hK N7 fun F9=>?_
    clear hK K;refine cG 10 fun K hK=>?_
    go_simp;refine(Bk.aa0 HBP.o oo.o vB.o.lx.inv.bk.afq).mono ?_;rintro e wn ⟨rfl,hb⟩;have jz:=jz.dP hb;clear hb;go_wp2_with fail;refine bW hK N7 fun Gd=>?_
    clear hK K;refine ty 11 ?_;refine bO ?_;go_wp2_with fail;go_ret;exact⟨rfl,HBZ.o _ (vB.o.rest.trans (aI.aU jz.o))⟩
