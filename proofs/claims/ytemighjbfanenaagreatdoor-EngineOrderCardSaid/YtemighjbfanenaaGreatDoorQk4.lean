import Derived.Test.YtemighjbfanenaaGreatDoorQk1
import Derived.Lib.SliceRun
import Derived.OrdersHeld
import Derived.Deep.RegionHeld
import Derived.OrdersIn
import Derived.RangeFuncCalls
set_option linter.all false
set_option maxRecDepth 100000
set_option maxHeartbeats 16000000
namespace Go.Proofs.YtemighjbfanenaaGreatDoor
open RowKit
open Go.Builtin renaming zeroCells→fN,clear_→yn
open Go.Fence renaming wide→sN
open Go.Oper renaming wp→iG
open Go.Result renaming andThen→iY
open List renaming getElem?_eq_none→gW,getElem?_take_of_lt→YG
open Nat renaming mod_lt→uZ,eq_zero_or_pos→Nk,mul_le_mul_right→gX,le_refl→aY,add_zero→Nl
open _root_.Array renaming getElem?_toList→dK,getElem?_eq_getElem→mO
theorem P4{p:Prop}(h:p:=by unfold maxLen;omega):p:=h
theorem Tr{p:Prop}(h:p:=by rw[hlen] at hj;rw[Nl,hg.cell,mO (by omega)];rfl):p:=h
theorem EN{p:Prop}(h:p:=by rw[List.length_take];omega):p:=h
theorem Ak{p:Prop}(h:p:=by simpa using hi):p:=h
section
variable{S:Nat→Prop}{w:World}{e:TypeId}{sz n g cap:Nat}{c:Nat→List Value}
theorem aP.acZ{w':World} {i:Nat} (h:aP S w e sz (.slice (some ⟨g,0,none⟩) n cap) n c)(hc: ∀ i,(c i).length=sz)(hi:i≤n)
  (hw: ∀ cur,w.heap[g]? =some (.cells cur e (0,0))→∃ cs',w'.heap[g]? =some (.cells cs' e (0,0))∧cs'.size=cur.size∧∀ j,j<i*sz→cs'[j]? =cur[j]?):aP S w' e sz (.slice (some ⟨g,0,none⟩) i cap) i c:=by
 refine⟨?_,fun g' hg=>h.block g' hg⟩;obtain⟨ho1,ho⟩:=h.own;rcases ho with⟨hv,_⟩|⟨g',cap',cur,hv,hb,hh,h1,h2,h3,h4⟩
 ·cases hv
 ·injection hv with e1 _ e2
  injection e1 with e1
  injection e1 with e1
  subst e1 e2;obtain⟨cs',k1,k2,k3⟩:=hw cur hh;refine⟨cy hc i,.inr ⟨g,cap,cs',rfl,hb,k1,ai,h2,k2.trans h3,?_⟩⟩;apply List.ext_getElem?;intro j;have hfn:=cy hc n;have hfi:=cy hc i;rcases Nat.lt_or_ge j (i*sz)with hj|hj
  ·rw[YG hj,dK,k3 j hj];have hjn:j<n*sz:=Nat.lt_of_lt_of_le hj (gX _ hi);have h5:(cur.toList.take (n*sz))[j]? =(flat c n)[j]?:=by rw[h4]
   rw[YG hjn,dK] at h5;rw[h5];have hsz:0<sz:=by rcases Nk sz with h0|h0;rw[h0] at hj;simp at hj;exact h0
   have a1:j / sz<i:=(Nat.div_lt_iff_lt_mul hsz).2 hj;have a2:j % sz<sz:=uZ _ hsz;have a3:j / sz*sz+j % sz=j:=by rw[Nat.mul_comm];exact Nat.div_add_mod j sz
   rw[←a3,gC hc ai a2,gC hc a1 a2]
  rw[gW EN,gW ai]
theorem aP.head{i:Nat} (h:aP S w e sz (.slice (some ⟨g,0,none⟩) n cap) n c)(hc: ∀ i,(c i).length=sz)(hi:i≤n): aP S w e sz (.slice (some ⟨g,0,none⟩) i cap) i c:=
 h.acZ hc hi fun cur hh=>⟨cur,hh,rfl,fun _ _=>rfl⟩
theorem aP.JI(h:aP S w e sz (.slice (some ⟨g,0,none⟩) n cap) n c): ∃ cur,w.heap[g]? =some (.cells cur e (0,0))∧n*sz≤cur.size:=by
 rcases h.own.2 with⟨hv,_⟩|⟨g',cap',cur,hv,hb,hh,h1,h2,h3,h4⟩
 ·cases hv
 injection hv with e1 _ e2
 injection e1 with e1
 injection e1 with e1
 subst e1 e2;exact⟨cur,hh,by rw[h3];exact gX _ h1⟩
theorem tS(z:Array Value)(n:Nat): (fN z n).toList.length=n*z.size:=by simp[fN]
theorem tR{z:Array Value}(h1: ∀ v∈z.toList,v.oneCell'=true): ∀ v∈(fN z n).toList,v.oneCell'=true:=fun v hv=>by
 rw[fN,Array.toList_map,List.mem_map] at hv;obtain⟨i,hi,rfl⟩:=hv;have hlt:i<n*z.size:=Ak;have hz:0<z.size:=by rcases Nk z.size with h0|h0;rw[h0] at hlt;simp at hlt;exact h0
 have hm:i % z.size<z.size:=uZ _ hz;rw[getElem!_pos z (i % z.size) hm];exact h1 _ dM
theorem vr{P:Program}{ops:Array Oper}{rest:List Oper}{o:Oper}{a:Act}{Q:Exit→Act→World→Prop}(hgd:o.guard=none)(s:Operand)(t:TypeId)(ho:o.op= .call {callee:=.builtin .clear,args:=#[s],argTypes:=#[t]})
  {S:Nat→Prop} (e:TypeId) (z:Value) (sz n i g cap:Nat) (c:Nat→List Value) (ht:P.underlying t=some (.slice e)) (hz: ∀ w,(zeroValue e).run P w= .ok z w) (hzs:z.cells.size=sz) (h1: ∀ v∈z.cells.toList,v.oneCell'=true)
  (A:Option Addr) (m c':Nat) (hx:a.eval s= .slice A m c') (hm:m=n - i) (hA:m≠0→A=some ⟨g,i*sz,none⟩) (hR:aP S w e sz (.slice (some ⟨g,0,none⟩) n cap) n c) (hc: ∀ i,(c i).length=sz) (hi:i≤n)
  (h: ∀ w',aP S w' e sz (.slice (some ⟨g,0,none⟩) i cap) i c→w.grownBy w' (some g)→w'.heap.size=w.heap.size→wpList P ops Q rest (a.put o.dst (.tuple #[])) w'):wpList P ops Q (o::rest) a w:=by
 refine wpList_plain hgd fun K hK=>?_
 by_cases hm0:m=0
 ·have hrun:(yn #[t] o.type #[.slice A m c']).run P w= .ok (.tuple #[]) w:=by
   rw[hm0];cases A <;>simp[yn,run_underlying ht]
  unfold iG;simp[execOp,ho,resolve,invoke,builtin,hx,hrun,iY];exact hK _ _ (h w (hR.head hc hi) ⟨rfl,rfl,rfl,aY _,fun _ _ _=>rfl⟩ rfl)
 ·obtain rfl:=hA hm0;obtain⟨cur,pV,hsz⟩:=hR.JI;have hlen:(fN z.cells m).toList.length=m*sz:=by rw[tS,hzs]
  have hle:i*sz+m*sz≤cur.size:=by rw[←Nat.add_mul,hm,Nat.add_sub_cancel' hi];exact hsz
  have hg:aG w g e cur:=pV;have hst:=run_storeCells_cells (P:=P) g (i*sz) (fN z.cells m).toList 0 w
   (fun j hj=>Tr)
   (fun j _=>hg.mark _) (tR h1)
  simp only[Nl] at hst;obtain⟨k,rfl⟩: ∃ k,m=k+1:=⟨m - 1,ai⟩;have hrun:(yn #[t] o.type #[.slice (some ⟨g,i*sz,none⟩) (k+1) c']).run P w= .ok (.tuple #[]) (w.setCells g (i*sz) (fN z.cells (k+1)).toList):=by simp[yn,run_underlying ht,hz,hst]
  unfold iG;simp[execOp,ho,resolve,invoke,builtin,hx,hrun,iY];obtain⟨h2,h3⟩:=dw g (fN z.cells (k+1)).toList (i*sz) w;refine hK _ _ (h _ (hR.acZ hc hi fun cur' DY=>?_) h2 h3);rw[pV] at DY;injection DY with DY
  injection DY with DY _ _
  subst DY;obtain⟨cs',k1,k2,_,k4⟩:=fR g e (fN z.cells (k+1)).toList (i*sz) w cur hg (by rw[hlen];exact hle);exact⟨cs',k1,k2,fun j hj=>k4 j (.inl hj)⟩
theorem Ql(w:World)(e:TypeId)(sz:Nat): (w.alloc (.cells #[] e)).ownsRow w.heap.size e sz (.slice (some ⟨w.heap.size,0,none⟩) 0 0) 0 []:=
 ⟨dM,.inr ⟨w.heap.size,0,#[],rfl,aY _,World.alloc_heap_new w _,aY _,P4,dM,dM⟩⟩
end
section
section
variable {P:Program}{md:Region.Mode}{ops:Array Oper}{Q:Exit→Act→World→Prop}{l n:Nat}
variable{a:Act}{w:World}
theorem Eu{i:Nat}{K K':Act→World→Prop}(hq: ¬LetsOut Q)(hs: ∀ o,ops[i]? =some o→∀ c,o.op≠ .defer c)(hK: ∀ a w,K a w→K' a w)
  (h:wpOp P ops Q i K a w):wpOpIn (sN.inRound l) n P ops Q i K' a w:=by
 unfold wpOp at h;unfold wpOpIn;split at h
 ·rename_i ho;simp only[ho];exact hK _ _ h
 ·rename_i o ho;simp only[ho];split at h
  ·rename_i hw;rw[if_pos hw];rcases h with h|h
   ·refine⟨fun f _=>trivial,?_⟩;rw[Oper.semAt_eq _ _ _ (hs o ho)];unfold iG at h;generalize(execOp a.eval o).run P w=r at h ⊢;cases r with
    | ok x w'=>
     cases x <;>simp only[Oper.upon,Oper.uponIn] at h ⊢
     case value=>exact hK _ _ h
     case skip=>exact hK _ _ h
     case defer=>exact hK _ _ h
     case enter=>
      refine⟨fun hd=>(nomatch hd),CallsIn.mono (CallsIn.inRound l (callsIn_wide.2 h)) ?_⟩;intro e w'' he;cases e
      ·exact hK _ _ he
      ·exact he
      exact he
     case row=>
      refine⟨fun hd=>(nomatch hd),fun c cs _=>?_⟩;obtain⟨v,w'',r,s⟩:=h c cs;exact⟨v,w'',hK _ _ r,stepsIn_wide.2 s⟩
    | halt x w'=>cases x <;>simp only[Oper.upon,Oper.uponIn] at h ⊢ <;>exact h
   exact absurd h.2 hq
  rename_i hw;rw[if_neg hw];exact⟨fun f _=>trivial,hK _ _ h⟩
theorem tT(hq: ¬LetsOut Q)(hs: ∀ (i:Nat) (o:Oper),ops[i]? =some o→∀ c,o.op≠ .defer c): ∀ (fuel:Nat) (listed:Array Bool) (a:Act) (w:World),wpAny P md ops Q fuel listed a w→wpAnyIn (sN.inRound l) n P md ops Q fuel listed a w
 | 0,_,_,_,h=>h
 | fuel+1,listed,a,w,h=>⟨h.1,fun i hi=>Eu hq (hs i) (fun a w=>tT hq hs fuel _ a w) (h.2 i hi)⟩
theorem yS{S:World→Prop}{id:Nat}(hq: ¬LetsOut Q)(hs:ops.toList.all (fun o=>match o.op with| .defer _=>false|_=>true)=true)(hm:P.follows .mixedOrders=true)(hS:S w.drew)
  (h:S w.drew→wpAnyH P .any ops Q S ops.size (Array.replicate ops.size false) a w.drew):(Code.region id ops true).wpIn (sN.inRound l) n P Q a w:=
 wpIn_region_any hm (tT hq (fun i o ho c hc=>by
  have h1:=List.all_eq_true.1 hs o (by rw[Array.mem_toList_iff];exact Array.mem_of_getElem? ho);rw[hc] at h1;cases h1) _ _ _ _ (wpAny_of_held _ _ _ _ (h hS)))
theorem fc{S:World→Prop}{fuel:Nat}{listed:Array Bool}{oi:Oper}(i:Nat)(d:Option Tmp)(hS:S w)(ty:TypeId)(x:Operand)(b o:Nat)(cs:List Value)(ds:TypeDesc)(hR: ∀ w,S w→w.rangeAt b o cs)
  (hu:P.underlying ty=some ds) (hdr:ds.isRow=true) (hsz:(P.info? ty).map (·.size)=some cs.length)
  (h:wpAnyH P md ops Q S fuel (listed.setIfInBounds i true) (a.put d (.agg cs.toArray)) w)
  (hi:ops[i]? =some oi:=by(simp only[nL];exact rfl)) (ho:oi.op= .load ty x:=by rfl) (hx:a.eval x= .pointer (some ⟨b,o,none⟩):=by rfl)
  (hs:Region.noSelect ops=true:=by kernel_rfl) (hf:Region.free md ops listed i=true:=by kernel_rfl) (hr:(Region.ready md ops listed).contains i=true:=by kernel_rfl)
  (hQ: ∀ c a w,Q (.panic c) (a.put d (.agg cs.toArray)) w→Q (.panic c) a w:=by exact(fun _ _ _ h=>h)) (hd:oi.dst=d:=by rfl) (hw:Region.wanted oi (yielded ops a.tmps)=true:=by rfl) :
  wpAnyH P md ops Q S (fuel+1) listed a w:=by
 subst hd;exact wpAnyH_take hi hs hf hr hQ (yieldsIf_load_mid hw ty x ho b o hx cs ds hR hu hdr hsz) hS h
end
end
section
theorem CH{z:Array Value}{n j:Nat}(hj:j<n*z.size): (fN z n).toList[j]? =z[j % z.size]?:=by
 have hz:0<z.size:=by rcases Nk z.size with h0|h0;rw[h0] at hj;simp at hj;exact h0
 have hm:j % z.size<z.size:=uZ _ hz;rw[fN,Array.toList_map,List.getElem?_map];simp only[Array.toList_range,List.getElem?_range hj,Option.map_some];rw[getElem!_pos z (j % z.size) hm,mO hm]
theorem wP{P:Program}{w:World}{ops:Array Oper}{rest:List Oper}{o:Oper}{a:Act}{Q:Exit→Act→World→Prop}(hgd:o.guard=none)(s:Operand)(t:TypeId)(ho:o.op= .call {callee:=.builtin .clear,args:=#[s],argTypes:=#[t]})
  (e:TypeId) (z:Value) (sz n g:Nat) (ht:P.underlying t=some (.slice e)) (hz: ∀ w,(zeroValue e).run P w= .ok z w) (hzs:z.cells.size=sz) (h1: ∀ v∈z.cells.toList,v.oneCell'=true)
  (c':Nat) (cur:Array Value) (hx:a.eval s= .slice (some ⟨g,0,none⟩) n c') (hn:1≤n) (hg:aG w g e cur) (hle:n*sz≤cur.size)
  (h: ∀ w' cs',aG w' g e cs'→(∀ j,j<n*sz→cs'[j]? =z.cells[j % sz]?)→w.grownBy w' (some g)→w'.heap.size=w.heap.size→wpList P ops Q rest (a.put o.dst (.tuple #[])) w'):wpList P ops Q (o::rest) a w:=by
 refine wpList_plain hgd fun K hK=>?_
 have hlen:(fN z.cells n).toList.length=n*sz:=by rw[tS,hzs]
 have hst:=run_storeCells_cells (P:=P) g 0 (fN z.cells n).toList 0 w
  (fun j hj=>Tr)
  (fun j _=>hg.mark _) (tR h1)
 simp only[Nl] at hst;obtain⟨k,rfl⟩: ∃ k,n=k+1:=⟨n - 1,ai⟩;have hrun:(yn #[t] o.type #[.slice (some ⟨g,0,none⟩) (k+1) c']).run P w= .ok (.tuple #[]) (w.setCells g 0 (fN z.cells (k+1)).toList):=by simp[yn,run_underlying ht,hz,hst]
 unfold iG;simp[execOp,ho,resolve,invoke,builtin,hx,hrun,iY];obtain⟨h2,h3⟩:=dw g (fN z.cells (k+1)).toList 0 w;obtain⟨cs',k1,k2,k3,k4⟩:=fR g e (fN z.cells (k+1)).toList 0 w cur hg (by rw[hlen];omega);refine hK _ _ (h _ cs' k1 (fun j hj=>?_) h2 h3);have h9:=World.cell?_setCells_in g (fN z.cells (k+1)).toList 0 w (fun i hi=>by rw[hlen] at hi;rw[hg.cell,mO ai];rfl) j (by rw[hlen];exact hj);rw[Nat.zero_add,k1.cell j] at h9;rw[h9,←List.getElem?_eq_getElem (by rw[hlen];exact hj),CH (by rw[hzs];exact hj),hzs]
theorem j8{P:Program}{fn:Func}{p q r:Tmp}{ty:TypeId}(h:fn.results= #[.cell p ty,.tmp q,.tmp r])(tmps:Array Value){w:World}{ad:Addr}{v:Value}
  (hp:tmps.getD p undef= .pointer (some ad)) (hl:(loadVar ty ad).run P w= .ok v w):(results fn tmps).run P w= .ok (.tuple #[v,tmps.getD q undef,tmps.getD r undef]) w:=by
 exact Oi
