import Derived.WalkKit
import Derived.WalkSpells
import Derived.WalkLawsBesides
import Derived.Deep.QuietTactic
import Derived.BigQuiet
import Derived.Deep.RegionHeld3
import Derived.Deep.DrawnRows
import Derived.Deep.AppendLies
import Derived.Outline
import Derived.Lib.Hide
import Derived.Laws.IdiomStrings
import Derived.Deep.MidRow
import Derived.Laws.Rows
import Derived.Laws.AppendOwn
import Derived.Maps.OwnSet
import Derived.Maps.OwnOps
import Derived.Maps.AppendAt
import Derived.StillTail
import Derived.OwnWalk
import Derived.RangeFuncNested
import Derived.RangeFuncBound
import Derived.RangeFuncLeaves
import Derived.OwnWalkIn
import Derived.TacticsInMore
import Derived.LoopNIn
import Derived.LoopIn
set_option linter.all false
set_option maxRecDepth 100000
set_option maxHeartbeats 16000000
namespace Go.Proofs.YtemighjbfanenaaGreatDoor
open RowKit
open Go.AllReadyH renaming cons→po
open Go.ChangeMaps renaming setBlock→YP
open Go.DataW.held renaming injEq→YS
open Go.Instr renaming lookup→NK
open Go.Lit renaming int→jA
open Go.Maps renaming size→sU,atKey_put_same→agk,atKey_put_other→YQ
open Go.Oper renaming wp→fc
open Go.Region renaming noSelect_spec→NM,free→KE,waitsFor→YU,waitsFor_spec→YO,wanted→qR,Mode→qU,noSelect→CK,free_spec→NN,ready→p7,binds→zh
open Go.Result renaming andThen→iV
open Go.Value renaming ownBlock→gY
open Go.World renaming ownsMap_made→YR
open List renaming getElem?_append_left→qT,length_append→dh,getElem?_toArray→YW,getElem?_eq_none→gW,getElem?_take→mL,getElem?_append_right→wJ
open Nat renaming succ_mul→uv,div_lt_iff_lt_mul→adV,le_refl→aQ,lt_or_ge→lf,zero_add→gX,le_trans→aT,mul_le_mul_right→gV,lt_of_lt_of_le→aW,zero_le→cm
open Ne renaming symm→GJ
open Option.some renaming injEq→adU
open Prod.mk renaming injEq→NL
open RowKit.Below renaming heap_setCell→dH
open True renaming intro→YT
open _root_.Array renaming ext_getElem?→YV,getElem?_eq_getElem→mK,getElem?_eq_none→CJ,getElem?_eq_some_iff→eK,setIfInBounds_comm→Ho,size_setIfInBounds→adT,getElem?_setIfInBounds→yE,getElem?_toList→ei
theorem acv{p:Prop}(h:p:=by
 obtain⟨cs',h4,h5,h6,_⟩:=fQ g t cells.toList 0 w cs hg fV;refine h _ ?_ h2 h3;have e:cs'=cells:=by
  apply YV;intro j;rcases lf j cells.size with hj|hj
  ·have:=h6 j AL;rw[gX] at this;rw[this];simp
  rw[CJ aj,CJ hj]
 rw[e] at h4;exact h4):p:=h
theorem OC{p:Prop}(h:p:=by
 have hp':tmps[p]?.getD undef= .pointer (some ad):=Td;simp[results,h,hp',asAddr,hl]):p:=h
theorem acb{p:Prop}(h:p:=by
 refine⟨fun h=>A9,fun j hj=>?_⟩;by_cases e:j=i
 ·subst e;exact hy.wpOp hi hS Bh
 have h0:=ready_mono hj e;rw[H.1] at h0;cases h0):p:=h
theorem Vm{p:Prop}(h:p:=by
 exact⟨Maps.has_put_same ho.isMap (k:=.int q j) YT _,agk ho.isMap (k:=.int q j) YT _ _⟩):p:=h
theorem Vl{p:Prop}(h:p:=by
 rcases lf i listed.size with h1|h1
 ·simp[h1] at QS ⊢;exact QS
 simp[CJ h1] at QS):p:=h
theorem Vj{p:Prop}(h:p:=by
 subst e1;rw[aG] at ha;rw[ha] at hh;injection hh with hh
 injection hh with _ h2
 exact ht h2):p:=h
theorem Vi{p:Prop}(h:p:=by
 obtain⟨es,aq,hb,F,hs,rfl⟩:=h;exact⟨es,aq,hb,F,by simp[sU,length_sorted],rfl⟩):p:=h
theorem fV{p:Prop}(h:p:=by simp;omega):p:=h
theorem Bh{p:Prop}(h:p:=by rw[if_neg hit];exact⟨hS,H⟩):p:=h
theorem uE{p:Prop}(h:p:=by simpa[gY] using hg):p:=h
theorem uA{p:Prop}(h:p:=by injection e):p:=h
theorem A9{p:Prop}(h:p:=by rw[h] at hr;cases hr):p:=h
theorem AL{p:Prop}(h:p:=by simpa using hj):p:=h
theorem Le{p:Prop}(h:p:=by unfold image;omega):p:=h
theorem Td{p:Prop}(h:p:=by simpa using hp):p:=h
theorem mm{p:Prop}(h:p:=by rw[e]):p:=h
section
section
variable{p:Prop}{a w v:World}{g:Nat}{t:TypeId}{cs:Array Value}
theorem aj(h:p:=by omega): p:=h
theorem aN(h:p:=by decide): p:=h
theorem br(h:p:=by kernel_rfl): p:=h
theorem dR(h:p:=by simp): p:=h
theorem im(h:p:=by rfl): p:=h
theorem ZP{k:IntKind}{a b:Int}(h:a=b): Ending.returned (.int k a)= .returned (.int k b):=by rw[h]
theorem kv{a b:Bool}(h:a=b): Ending.returned (.bool a)= .returned (.bool b):=by rw[h]
theorem Ca{W w1:World}(hb:Below W.heap.size W w1): (∀ b o,b<W.heap.size→w1.cell? ⟨b,o,none⟩=W.cell? ⟨b,o,none⟩)∧(∀ b o,b<W.heap.size→w1.frozen? ⟨b,o,none⟩=W.frozen? ⟨b,o,none⟩):=
 ⟨fun b o h=>hb.cell (p:=⟨b,o,none⟩) h,fun b o h=>hb.frozen (p:=⟨b,o,none⟩) h⟩
theorem av{b c:World} (h:Below a.heap.size a b)(k:Below b.heap.size b c): Below a.heap.size a c:=h.trans (k.mono h.size)
theorem ax(h:Below a.heap.size a w)(o:Obj): Below a.heap.size a (w.alloc o):=h.alloc h.size o
theorem az(h:Below a.heap.size a w): Below a.heap.size a w.drew:=h.drew
theorem bJ(h:Below a.heap.size a w)(n:Nat): Below a.heap.size a (w.drewN n):=⟨h.os,h.tape,h.output,h.size,h.block⟩
theorem eF(h:Below a.heap.size a w){p:Addr}(hp:a.heap.size≤p.block)(u:Value): Below a.heap.size a (w.setCell p u):=h.setCell hp u
def aG(w:World)(g:Nat)(t:TypeId)(cs:Array Value): Prop:=w.heap[g]? =some (.cells cs t (0,0))
theorem aG.lt(h:aG w g t cs): g<w.heap.size:=by
 rcases lf g w.heap.size with h1|h1
 ·exact h1
 rw[aG,CJ h1] at h;cases h
theorem aG.cell(h:aG w g t cs)(i:Nat): w.cell? ⟨g,i,none⟩=cs[i]?:=by rw[aG] at h;simp[World.cell?,h]
theorem aG.mark(h:aG w g t cs)(i:Nat): w.frozen? ⟨g,i,none⟩=false:=by rw[aG] at h;simp[World.frozen?,h]
theorem aG.fresh(w:World)(t:TypeId)(cs:Array Value): aG (w.alloc (.cells cs t)) w.heap.size t cs:=by exact heap_alloc_new w _
theorem aG.new(h:g=w.heap.size): aG (w.alloc (.cells cs t)) g t cs:=by subst h;exact aG.fresh w t cs
theorem aG.drew(h:aG w g t cs): aG w.drew g t cs:=h
theorem aG.drewN(h:aG w g t cs)(n:Nat): aG (w.drewN n) g t cs:=h
theorem aG.alloc(h:aG w g t cs)(o:Obj): aG (w.alloc o) g t cs:=
 (Below.heap_alloc w o g h.lt).trans h
theorem aG.put(h:aG w g t cs)(i:Nat)(u:Value): aG (w.setCell ⟨g,i,none⟩ u) g t (cs.setIfInBounds i u):=by rw[aG] at h;simp[aG,World.setCell,Array.getElem?_modify,h]
theorem aG.other(h:aG w g t cs){p:Addr}(hp:g≠p.block)(u:Value): aG (w.setCell p u) g t cs:=
 (dH w p u g hp).trans h
theorem aG.ai{w':World} (h:aG w g t cs)(hb:Below w.heap.size w w'): aG w' g t cs:=
 (hb.block g h.lt).trans h
theorem pO{base:Nat}{e:TypeId}{size n:Nat}{v:Value}{xs:List Value}(h:w.ownsRow base e size v n xs): ∀ k,v.ownBlock=some k→base≤k:=by
 intro k hk;rcases h.2 with⟨rfl,_⟩|⟨g,cap,cur,rfl,hb,_⟩
 ·simp[gY] at hk
 simp[gY] at hk;omega
theorem ae{α:Sort _}(a:α): ∃ x,a=x:=⟨a,rfl⟩
theorem aK{b:Nat}(h:w.alloc (.cells cs t)=v)(hb:w.heap.size=b): aG v b t cs:=by rw[←h,←hb];exact aG.fresh w t cs
theorem aL{o:Obj}(h:w.alloc o=v): Below w.heap.size w v:=by rw[←h];exact ax (Below.refl _ _) _
theorem dU{o:Obj}(hw:Below a.heap.size a w)(h:w.alloc o=v): Below a.heap.size a v:=by rw[←h];exact ax hw _
theorem gT[Decidable p](h: ¬p:=by omega): decide p=false:=decide_eq_false h
theorem zU[Decidable p](h:p:=by omega): decide p=true:=decide_eq_true h
theorem cg{a b:Int}(h:a≠b:=by omega): (a==b)=false:=beq_eq_false_iff_ne.2 h
def Hx_(p:Prop): Prop:=p
theorem aa(h:p): Hx_ p:=h
theorem Hx_.o(h:Hx_ p): p:=h
theorem Hx_.js{w':World} (h:Hx_ (aG w g t cs))(hb:Below w.heap.size w w'): Hx_ (aG w' g t cs):=aG.ai h hb
theorem Hx_.dP{b c:World} (h:Hx_ (Below a.heap.size a b))(hb:Below b.heap.size b c): Hx_ (Below a.heap.size a c):=av h hb
theorem ag{P:Program}{f:FuncId}{args:Array Value}{R:Ending→World→Prop}{e:Ending}(h:Calls P f args w fun e' w'=>e'=e∧w'=w)(k:R e w): Calls P f args w R:=
 h.mono fun _ _ h=>by obtain⟨rfl,rfl⟩:=h;exact k
theorem aG.cl(h:aG w g t cs)(i:Nat){v:Value}(hv:cs[i]? =some v:=by(simp only[List.getElem?_toArray,List.getElem?_cons_zero,List.getElem?_cons_succ];exact rfl)): w.cell? ⟨g,i,none⟩=some v:=(h.cell i).trans hv
end
section
theorem qF(g j:Nat): (⟨g,0,none⟩:Addr).add j=⟨g,j,none⟩:=by
 unfold Addr.add;split
 ·subst_vars;rfl
 simp
end
section
variable{w:World}{g:Nat}{P:Program}
theorem aG.grown{w':World} {g':Nat} {t:TypeId}{cs:Array Value}(h:aG w g t cs)(hg:w.grownBy w' (some g'))(hne:g≠g'): aG w' g t cs:=
 (hg.block g h.lt (by simpa using hne)).trans h
theorem bn{a w':World} (h:Below a.heap.size a w)(hg:w.grownBy w' (some g))(hb:a.heap.size≤g): Below a.heap.size a w':=
 h.grown hg h.size (fun k hk=>by injection hk with hk;omega)
theorem dr(g:Nat): ∀ (vs:List Value) (o:Nat) (w:World),w.grownBy (w.setCells g o vs) (some g)∧(w.setCells g o vs).heap.size=w.heap.size
 | [],_,w=>⟨⟨rfl,rfl,rfl,aQ _,fun _ _ _=>rfl⟩,rfl⟩
 | v::r,o,w=>by
  obtain⟨h1,h2⟩:=dr g r (o+1) (w.setCell ⟨g,o,none⟩ v);have hs:(w.setCell ⟨g,o,none⟩ v).heap.size=w.heap.size:=by simp[World.setCell]
  refine⟨⟨h1.os.trans rfl,h1.tape.trans rfl,h1.output.trans rfl,by have:=h1.size;show w.heap.size≤((w.setCell ⟨g,o,none⟩ v).setCells g (o+1) r).heap.size;omega,fun k hk hne=>?_⟩,h2.trans hs⟩;have hkg:k≠g:=fun e=>hne mm
  exact(h1.block k aj hne).trans (dH w ⟨g,o,none⟩ v k hkg)
theorem fQ(g:Nat)(t:TypeId): ∀ (vs:List Value) (o:Nat) (w:World) (cs:Array Value),aG w g t cs→o+vs.length≤cs.size→
  ∃ cs',aG (w.setCells g o vs) g t cs'∧cs'.size=cs.size∧(∀ j,j<vs.length→cs'[o+j]? =vs[j]?)∧(∀ j,j<o∨o+vs.length≤j→cs'[j]? =cs[j]?)
 | [],_,_,cs,h,_=>⟨cs,h,rfl,fun j hj=>absurd hj dR,fun _ _=>rfl⟩
 | v::r,o,w,cs,h,hl=>by
  have hl':o+(r.length+1)≤cs.size:=by simpa using hl
  obtain⟨cs',h1,h2,h3,h4⟩:=fQ g t r (o+1) (w.setCell ⟨g,o,none⟩ v) _ (h.put o v) (by rw[adT];omega);rw[adT] at h2;refine⟨cs',h1,h2,fun j hj=>?_,fun j hj=>?_⟩
  ·match j with
   | 0=>
    have:=h4 o (.inl aj);rw[Nat.add_zero,this,yE,if_pos rfl,if_pos aj];rfl
   | j+1=>
    have:=h3 j AL;rw[show o+(j+1)=o+1+j from aj,this];rfl
  have D7:j<o∨o+(r.length+1)≤j:=AL;rw[h4 j aj,yE,if_neg aj]
theorem aC{ops:Array Oper}{rest:List Oper}{o:Oper}{a:Act}{Q:Exit→Act→World→Prop}(hgd:o.guard=none)(ty:TypeId)(x:Operand)(ho:o.op= .load ty x)
  (g:Nat) (t:TypeId) (cs:Array Value) (hg:aG w g t cs) (hx:a.eval x= .pointer (some ⟨g,0,none⟩)) (d:TypeDesc)
  (hu:P.underlying ty=some d) (hd:(match d with| .struct _| .array _ _=>true|_=>false)=true) (hi:(P.info? ty).map (·.size)=some cs.size)
  (h:wpList P ops Q rest (a.put o.dst (.agg cs)) w):wpList P ops Q (o::rest) a w:=
 wpList_load_row hgd ty x ho g hx t cs (0,0) d hg hu hd hi h
theorem ah{ops:Array Oper}{rest:List Oper}{o:Oper}{a:Act}{Q:Exit→Act→World→Prop}(hgd:o.guard=none)(ty:TypeId)(x y:Operand)(ho:o.op= .store ty x y)
  (g:Nat) (t:TypeId) (cs cells:Array Value) (hg:aG w g t cs) (hx:a.eval x= .pointer (some ⟨g,0,none⟩)) (hy:a.eval y= .agg cells) (hsz:cells.size=cs.size)
  (hi:(P.info? ty).map (·.size)=some cells.size) (h1:cells.all (·.oneCell')=true)
  (h: ∀ w',aG w' g t cells→w.grownBy w' (some g)→w'.heap.size=w.heap.size→wpList P ops Q rest (a.put o.dst undef) w'):wpList P ops Q (o::rest) a w:=by
 refine wpList_store_mid hgd ty x y ho g 0 cells hx hy (fun j hj=>?_) hi h1 ?_
 ·rw[gX,hg.cell j,hg.mark j];rw[mK aj];exact⟨rfl,rfl⟩
 ·obtain⟨h2,h3⟩:=dr g cells.toList 0 w;exact acv
theorem aJ{t:TypeId}{cs:Array Value}(ty:TypeId)(hg:aG w g t cs)(d:TypeDesc)
 (hu:P.underlying ty=some d) (hd:(match d with| .struct _| .array _ _=>true|_=>false)=true) (hi:(P.info? ty).map (·.size)=some cs.size) :
 (loadVar ty ⟨g,0,none⟩).run P w= .ok (.agg cs) w:=run_loadVar_row w g t ty cs (0,0) d hg hu hd hi
theorem results_cell_tmp{fn:Func}{p q:Tmp}{ty:TypeId}(h:fn.results= #[.cell p ty,.tmp q])(tmps:Array Value){ad:Addr}{v:Value}
  (hp:tmps.getD p undef= .pointer (some ad)) (hl:(loadVar ty ad).run P w= .ok v w):(results fn tmps).run P w= .ok (.tuple #[v,tmps.getD q undef]) w:=by
 exact OC
theorem dw{fn:Func}{p:Tmp}{ty:TypeId}(h:fn.results= #[.cell p ty])(tmps:Array Value){ad:Addr}{v:Value}
  (hp:tmps.getD p undef= .pointer (some ad)) (hl:(loadVar ty ad).run P w= .ok v w):(results fn tmps).run P w= .ok v w:=by
 exact OC
end
section
theorem pJ{P:Program}{ops:Array Oper}{Q:Exit→Act→World→Prop}{md:qU}{S:World→Prop}{i:Nat}{oi:Oper}{d:Option Tmp}{v:Value}{fuel:Nat}{listed:Array Bool}{a:Act}{w:World}
  (hi:ops[i]? =some oi) (hs:CK ops=true) (hf:KE md ops listed i=true) (hr:(p7 md ops listed).contains i=true)
  (hQ: ∀ c a w,Q (.panic c) (a.put d v) w→Q (.panic c) a w) (hd:oi.dst=d) (hw:qR oi (yielded ops a.tmps)=true)
  (hy: ∀ w,S w→(execOp a.eval oi).run P w= .ok (.value v) w) (hS:S w)
  (h:wpAnyH P md ops Q S fuel (listed.setIfInBounds i true) (a.put d v) w):wpAnyH P md ops Q S (fuel+1) listed a w:=by
 subst hd;exact wpAnyH_take hi hs hf hr hQ (.inl ⟨hw,hy⟩) hS h
theorem N9{P:Program}{ops:Array Oper}{Q:Exit→Act→World→Prop}{md:qU}{S:World→Prop}{i:Nat}{oi:Oper}{d:Option Tmp}{fuel:Nat}{listed:Array Bool}{a:Act}{w:World}
  (hi:ops[i]? =some oi) (hs:CK ops=true) (hf:KE md ops listed i=true) (hr:(p7 md ops listed).contains i=true)
  (hQ: ∀ c a w,Q (.panic c) (a.put d undef) w→Q (.panic c) a w) (hd:oi.dst=d) (hw:qR oi (yielded ops a.tmps)=false) (hS:S w)
  (h:wpAnyH P md ops Q S fuel (listed.setIfInBounds i true) (a.put d undef) w):wpAnyH P md ops Q S (fuel+1) listed a w:=by
 subst hd;exact wpAnyH_take hi hs hf hr hQ (.inr ⟨hw,rfl⟩) hS h
end
section
variable{w w':World}{n size:Nat}{e:TypeId}{v:Value}{xs:List Value}
theorem dM{base g:Nat} (h:w.ownsRow base e size v n xs)(hg:v.ownBlock=some g): g<w.heap.size∧base≤g:=by
 rcases h.2 with⟨rfl,_⟩|⟨g',cap,cur,rfl,hb,hh,_⟩
 ·simp[gY] at hg
 have:g'=g:=uE;subst this;exact⟨(eK.1 hh).1,hb⟩
theorem cy{base:Nat} (h:w.ownsRow base e size v n xs): ∃ A c,v= .slice A n c:=by
 rcases h.2 with⟨rfl,rfl⟩|⟨g',cap,cur,rfl,_⟩
 ·exact⟨_,_,rfl⟩
 exact⟨_,_,rfl⟩
theorem I4{base:Nat} (h:w.ownsRow base e size v (n+1) xs): ∃ g cap,v= .slice (some ⟨g,0,none⟩) (n+1) cap:=by
 rcases h.2 with⟨_,h0⟩|⟨g,cap,_,rfl,_⟩
 ·omega
 exact⟨g,cap,rfl⟩
theorem xV{base:Nat} (h:w.ownsRow base e size v n xs)(hv:v≠ .slice none 0 0): ∃ g cap,v= .slice (some ⟨g,0,none⟩) n cap:=by
 rcases h.2 with⟨h0,_⟩|⟨g,cap,_,rfl,_⟩
 ·exact absurd h0 hv
 exact⟨g,cap,rfl⟩
theorem dY{base:Nat} (h:w.ownsRow base e size v n xs)(hk: ∀ g,v.ownBlock=some g→w'.heap[g]? =w.heap[g]?): w'.ownsRow base e size v n xs:=by
 refine⟨h.1,?_⟩;rcases h.2 with h0|⟨g,cap,cur,hv,hb,hh,hr⟩
 ·exact .inl h0
 exact .inr ⟨g,cap,cur,hv,hb,(hk g (by rw[hv];rfl)).trans hh,hr⟩
theorem fO{base:Nat} (h:w.ownsRow base e size v n xs)(hb:Below w.heap.size w w'): w'.ownsRow base e size v n xs:=
 dY h fun g hg=>hb.block g (dM h hg).1
theorem fg{base base':Nat} (h:w.ownsRow base e size v n xs)(hb:base'≤base): w.ownsRow base' e size v n xs:=by
 refine⟨h.1,?_⟩;rcases h.2 with h0|⟨g,cap,cur,hv,hg,hr⟩
 ·exact .inl h0
 exact .inr ⟨g,cap,cur,hv,aT hb hg,hr⟩
theorem td(w:World)(base size:Nat)(e:TypeId): w.ownsRow base e size (.slice none 0 0) 0 []:=⟨dR,.inl ⟨rfl,rfl⟩⟩
theorem aG.app{g:Nat}{t:TypeId}{cs:Array Value}{base:Nat} (h:aG w g t cs)(ho:w.ownsRow base e size v n xs)(hg:w.grownBy w' v.ownBlock)(hb:g<base): aG w' g t cs:=
 (hg.block g h.lt (fun e=>by have:=dM ho e.symm;omega)).trans h
theorem iI{a:World} {base:Nat} (h:Below a.heap.size a w)(ho:w.ownsRow base e size v n xs)(hg:w.grownBy w' v.ownBlock)(hb:a.heap.size≤base): Below a.heap.size a w':=
 h.grown hg h.size (fun k hk=>by have:=dM ho hk;omega)
end
section
structure aI(S:Nat→Prop)(w w':World): Prop where
 os:w'.os=w.os
 tape:w'.tape=w.tape
 output:w'.output=w.output
 size:w.heap.size≤w'.heap.size
 block: ∀ k,k<w.heap.size→¬S k→w'.heap[k]? =w.heap[k]?
theorem aI.refl(S:Nat→Prop)(w:World): aI S w w:=⟨rfl,rfl,rfl,aQ _,fun _ _ _=>rfl⟩
variable{S:Nat→Prop}{a w w':World}
theorem aI.alloc(h:aI S a w)(o:Obj): aI S a (w.alloc o):=
 ⟨h.os,h.tape,h.output,by have:=h.size;simp;omega,fun k hk hS=>(heap_alloc_old w o (aW hk h.size)).trans (h.block k hk hS)⟩
theorem aI.put(h:aI S a w){p:Addr}(hp:S p.block∨a.heap.size≤p.block)(u:Value): aI S a (w.setCell p u):=
 ⟨h.os,h.tape,h.output,by have:=h.size;simp;omega,fun k hk hS=>(dH w p u k (fun e=>by rcases hp with hp|hp;exact hS (e▸hp);omega)).trans (h.block k hk hS)⟩
theorem aI.ak(h:aI S a w)(hb:Below w.heap.size w w'): aI S a w':=
 ⟨hb.os.trans h.os,hb.tape.trans h.tape,hb.output.trans h.output,aT h.size hb.size,fun k hk hS=>(hb.block k (aW hk h.size)).trans (h.block k hk hS)⟩
theorem aI.grown{r:Option Nat}(h:aI S a w)(hg:w.grownBy w' r)(hr: ∀ k,r=some k→S k∨a.heap.size≤k): aI S a w':=
 ⟨hg.os.trans h.os,hg.tape.trans h.tape,hg.output.trans h.output,aT h.size hg.size,fun k hk hS=>(hg.block k (aW hk h.size) (fun e=>by rcases hr k e.symm with h1|h1;exact hS h1;omega)).trans (h.block k hk hS)⟩
theorem aI.trans{b c:World} (h:aI S a b)(k:aI S b c): aI S a c:=
 ⟨k.os.trans h.os,k.tape.trans h.tape,k.output.trans h.output,aT h.size k.size,fun j hj hS=>(k.block j (aW hj h.size) hS).trans (h.block j hj hS)⟩
theorem aI.mono{T:Nat→Prop} {b:World} (h:aI S a b)(p9: ∀ k,k<a.heap.size→S k→T k): aI T a b:=
 ⟨h.os,h.tape,h.output,h.size,fun j hj hT=>h.block j hj (fun hS=>hT (p9 j hj hS))⟩
theorem aI.nD(hb:Below a.heap.size a w)(h:aI S w w')(hS: ∀ k,S k→a.heap.size≤k): Below a.heap.size a w':=
 ⟨h.os.trans hb.os,h.tape.trans hb.tape,h.output.trans hb.output,aT hb.size h.size,fun k hk=>(h.block k (aW hk hb.size) (fun hs=>by have:=hS k hs;omega)).trans (hb.block k hk)⟩
theorem aI.arr{g:Nat}{t:TypeId}{cs:Array Value}(h:aI S w w')(ha:aG w g t cs)(hg: ¬S g): aG w' g t cs:=
 (h.block g ha.lt hg).trans ha
theorem aI.own{base n size:Nat}{e:TypeId}{v:Value}{xs:List Value}(h:aI S w w')(ho:w.ownsRow base e size v n xs)(hg: ∀ g,v.ownBlock=some g→¬S g): w'.ownsRow base e size v n xs:=
 dY ho fun g e=>h.block g (dM ho e).1 (hg g e)
end
section
open Go.RowKit Go.Maps
def dp(P:Program)(k e:TypeId)(q:IntKind)(w:World)(b n:Nat)(φ:Int→Option Int): Prop:=
 ∃ D:DataW Unit,w.ownsMap P k (plainElem P e) b n D∧sU D=n∧∀ i,Maps.has D (.int q i)=(φ i).isSome∧D.atKey (.int q i) (.lit (.int .i64 0))= .lit (.int .i64 ((φ i).getD 0))
def tN(φ:Int→Option Int)(i:Int)(v:Option Int): Int→Option Int:=fun j=>if j=i then v else φ j
theorem fo(φ:Int→Option Int)(i:Int)(v:Option Int): tN φ i v i=v:=if_pos rfl
variable{i:Int}{P:Program}{k e t:TypeId}{w:World}{b n:Nat}{φ:Int→Option Int}
theorem cP(φ:Int→Option Int){j:Int} (v:Option Int)(h:j≠i): tN φ i v j=φ j:=if_neg h
theorem uf{H:Type}{R:Value→Option (DataW H × List MemPlace)}{D:DataW H}(h:w.ownsMap P k R b n D): w.ownsMap P k R b (sU D) D:=by
 exact Vi
theorem dp.made(P:Program)(k e:TypeId)(q:IntKind)(w:World): dp P k e q (w.alloc (.map #[] 0)) w.heap.size 0 (fun _=>none):=
 ⟨.map [],YR w P k _,rfl,fun i=>⟨rfl,rfl⟩⟩
theorem dp.lt{q:IntKind}(h:dp P k e q w b n φ): b<w.heap.size:=by obtain⟨D,ho,_⟩:=h;exact ho.lt
theorem dp.same{q:IntKind}{w':World} (h:dp P k e q w b n φ)(hk:w'.heap[b]? =w.heap[b]?): dp P k e q w' b n φ:=by
 obtain⟨D,⟨es,aq,hb,r⟩,hs,hf⟩:=h;exact⟨D,⟨es,aq,hk.trans hb,r⟩,hs,hf⟩
theorem dp.alloc{q:IntKind}(h:dp P k e q w b n φ)(o:Obj): dp P k e q (w.alloc o) b n φ:=h.same (heap_alloc_old w o h.lt)
theorem FU{q:IntKind}{j:Int} (h:j≠i): jA q j≠jA q i:=fun e=>h uA
theorem dp.put{q:IntKind}(h:dp P k e q w b n φ)(hk:P.underlying k=some (.int q))(he:P.underlying e=some (.int .i64))(ht:P.underlying t=some (.map k e))(hn:n<maxLen){v:Int} (hi:(jA q i).wf=true)(hv:(jA .i64 v).wf=true):
  ∃ w',(Instr.mapUpdate t (.map (some b)) (.int q i) (.int .i64 v)).run P w= .ok () w'∧dp P k e q w' b (if(φ i).isSome then n else n+1) (tN φ i (some v))∧w.grownBy w' (some b):=by
 obtain⟨D,ho,hs,hf⟩:=h;obtain⟨w',hrun,h1,h2⟩:=ho.update (int_keyed hk) ht hn (keyOf_int_mk hk hi) (plainElem_int he hv);have hsz:sU (D.put (.int q i) (.lit (.int .i64 v)))=if(φ i).isSome then n else n+1:=by rw[Maps.size_put (ho.tidy (int_keyed hk)),(hf i).1,hs]
 refine⟨w',hrun,⟨_,hsz▸uf h1,hsz,fun j=>?_⟩,h2⟩;by_cases e1:j=i
 ·subst e1;rw[fo];exact Vm
 ·rw[cP _ _ e1,Maps.has_put_other (FU e1),YQ (FU e1)];exact hf j
theorem dp.look{q:IntKind}(h:dp P k e q w b n φ)(hk:P.underlying k=some (.int q))(he:P.underlying e=some (.int .i64))(ht:P.underlying t=some (.map k e))(hz:(zeroValue e).run P w= .ok (.int .i64 0) w)(hi:(jA q i).wf=true):
  (NK t (.map (some b)) (.int q i) true).run P w= .ok (.tuple #[.int .i64 ((φ i).getD 0),.bool (φ i).isSome]) w:=by
 obtain⟨D,ho,hs,hf⟩:=h;have hw0:(jA .i64 0).wf=true:=aN;obtain⟨v,ps,hrun,hv⟩:=ho.look_ok (int_keyed hk) ht hz (plainElem_int he hw0) (keyOf_int_mk hk hi);obtain⟨c,rfl,hc,hwc⟩:=plainElem_int_inv he hv;rw[hrun,(hf i).1];rw[(hf i).2] at hc;simp only[NL] at hc;have hc1:=hc.1;injection hc1 with hc1
 injection hc1 with _ hc1
 rw[hc1]
theorem dp.drop{q:IntKind}(h:dp P k e q w b n φ)(hk:P.underlying k=some (.int q))(ht:P.underlying t=some (.map k e))(hi:(jA q i).wf=true)(ty:TypeId):
  ∃ w',(Builtin.delete_ #[t,k] ty #[.map (some b),.int q i]).run P w= .ok (.tuple #[]) w'∧dp P k e q w' b (if(φ i).isSome then n - 1 else n) (tN φ i none)∧w.grownBy w' (some b):=by
 obtain⟨D,ho,hs,hf⟩:=h;obtain⟨w',hrun,h1,h2⟩:=ho.drop (int_keyed hk) ht (keyOf_int_mk hk hi) ty;have hsz:sU (D.del (.int q i))=if(φ i).isSome then n - 1 else n:=by
  have:=Maps.size_del (k:=.int q i) (ho.tidy (int_keyed hk));rw[(hf i).1,hs] at this;split at this <;>split <;>first|omega|(exfalso;simp_all)
 refine⟨w',hrun,⟨_,hsz▸uf h1,hsz,fun j=>?_⟩,h2.grown⟩;by_cases e1:j=i
 ·subst e1;rw[fo];exact⟨Maps.has_del_same,Maps.atKey_del_same _⟩
 ·rw[cP _ _ e1,Maps.has_del_other (FU e1),Maps.atKey_del_other (FU e1)];exact hf j
theorem gj{ops:Array Oper}{rest:List Oper}{o:Oper}{a:Act}{Q:Exit→Act→World→Prop}
  (hg:o.guard=none) (m x y:Operand) (t:TypeId) (hop:o.op=Op.mapUpdate t m x y) (k e:TypeId) (q:IntKind) (hk:P.underlying k=some (.int q)) (he:P.underlying e=some (.int .i64)) (ht:P.underlying t=some (.map k e))
  (b n:Nat) (φ:Int→Option Int) (hm:a.eval m= .map (some b)) (h:dp P k e q w b n φ) (hn:n<maxLen) (i v:Int) (hx:a.eval x= .int q i) (hy:a.eval y= .int .i64 v) (hi:(jA q i).wf=true) (hv:(jA .i64 v).wf=true)
  (hK: ∀ w',dp P k e q w' b (if(φ i).isSome then n else n+1) (tN φ i (some v))→w.grownBy w' (some b)→wpList P ops Q rest (a.put o.dst undef) w') :
  wpList P ops Q (o::rest) a w:=by
 refine wpList_plain hg fun K' hK'=>?_
 obtain⟨w',hrun,r1,r2⟩:=h.put hk he ht hn hi hv;unfold fc;simp[execOp,hop,hm,hx,hy,hrun,iV];exact hK' _ _ (hK w' r1 r2)
theorem ll{ops:Array Oper}{rest:List Oper}{o:Oper}{a:Act}{Q:Exit→Act→World→Prop}
  (hg:o.guard=none) (m x:Operand) (t:TypeId) (hop:o.op=Op.lookup t m x true) (k e:TypeId) (q:IntKind) (hk:P.underlying k=some (.int q)) (he:P.underlying e=some (.int .i64)) (ht:P.underlying t=some (.map k e)) (hz:(zeroValue e).run P w= .ok (.int .i64 0) w)
  (b n:Nat) (φ:Int→Option Int) (hm:a.eval m= .map (some b)) (h:dp P k e q w b n φ) (i:Int) (hx:a.eval x= .int q i) (hi:(jA q i).wf=true)
  (hK:wpList P ops Q rest (a.put o.dst (.tuple #[.int .i64 ((φ i).getD 0),.bool (φ i).isSome])) w) :
  wpList P ops Q (o::rest) a w:=by
 refine wpList_plain hg fun K' hK'=>?_
 have hrun:=h.look hk he ht hz hi;unfold fc;simp[execOp,hop,hm,hx,hrun,iV];exact hK' _ _ hK
end
section
def flat(c:Nat→List Value): Nat→List Value
 | 0=>[]
 | n+1=>flat c n++c n
variable{c:Nat→List Value}{sz i n g cap:Nat}{S:Nat→Prop}{w w':World}{e:TypeId}{v:Value}
theorem cf(h: ∀ i,(c i).length=sz): ∀ n,(flat c n).length=n*sz
 | 0=>by simp[flat]
 | n+1=>by rw[flat,dh,cf h n,h n,uv]
theorem gA(h: ∀ i,(c i).length=sz): ∀ {n i j:Nat},i<n→j<sz→(flat c n)[i*sz+j]? =(c i)[j]?
 | 0,_,_,hi,_=>aj
 | n+1,i,j,hi,hj=>by
  rw[flat];rcases lf i n with h1|h1
  ·have:i*sz+j<n*sz:=by
    have:=gV sz (show i+1≤n from h1);rw[uv] at this;omega
   rw[qT (by rw[cf h n];exact this)];exact gA h h1 hj
  obtain rfl:i=n:=aj;rw[wJ (by rw[cf h i];omega),cf h i];congr 1;omega
theorem iQ{d:Nat→List Value} : ∀ {n},(∀ i,i<n→c i=d i)→flat c n=flat d n
 | 0,_=>rfl
 | n+1,h=>by rw[flat,flat,iQ (fun i hi=>h i aj),h n aj]
def cH{α:Type}(c:Nat→α)(i:Nat)(x:α): Nat→α:=fun j=>if j=i then x else c j
theorem bM{α:Type}(c:Nat→α)(i:Nat)(x:α): cH c i x i=x:=if_pos rfl
theorem bl{α:Type}(c:Nat→α){j:Nat} (x:α)(h:j≠i): cH c i x j=c j:=if_neg h
theorem Ra(c:Nat→List Value)(n:Nat)(x:List Value): flat (cH c n x) (n+1)=flat c n++x:=by rw[flat,bM,iQ (fun i hi=>bl c x aj)]
structure aM(S:Nat→Prop)(w:World)(e:TypeId)(sz:Nat)(v:Value)(n:Nat)(c:Nat→List Value): Prop where
 own:w.ownsRow 0 e sz v n (flat c n)
 block: ∀ g,v.ownBlock=some g→S g
theorem aM.same(h:aM S w e sz v n c)(hk: ∀ g,S g→g<w.heap.size→w'.heap[g]? =w.heap[g]?): aM S w' e sz v n c:=
 ⟨dY h.own fun g hg=>hk g (h.block g hg) (dM h.own hg).1,h.block⟩
theorem aM.ai(h:aM S w e sz v n c)(hk:Below w.heap.size w w'): aM S w' e sz v n c:=
 h.same fun g _ hg=>hk.block g hg
theorem aM.mono{T:Nat→Prop} (h:aM S w e sz v n c)(p9: ∀ g,S g→g<w.heap.size→T g): aM T w e sz v n c:=
 ⟨h.own,fun g hg=>p9 g (h.block g hg) (dM h.own hg).1⟩
theorem aM.nil(S:Nat→Prop)(w:World)(e:TypeId)(sz:Nat)(c:Nat→List Value): aM S w e sz (.slice none 0 0) 0 c:=
 ⟨td w 0 sz e,fun g hg=>by simp[gY] at hg⟩
theorem aM.form(h:aM S w e sz v n c)(hn:0<n): ∃ g cap,v= .slice (some ⟨g,0,none⟩) n cap∧S g∧n≤cap∧cap≤maxLen∧g<w.heap.size:=by
 rcases h.own.2 with⟨_,h0⟩|⟨g,cap,cur,hv,_,hh,h1,h2,_⟩
 ·omega
 subst hv;exact⟨g,cap,rfl,h.block g rfl,h1,h2,(eK.1 hh).1⟩
theorem aM.any(h:aM S w e sz v n c): ∃ A cap,v= .slice A n cap:=by
 rcases h.own.2 with⟨hv,h0⟩|⟨g,cap,cur,hv,_⟩
 ·subst h0;exact⟨_,_,hv⟩
 exact⟨_,_,hv⟩
theorem aM.range(h:aM S w e sz (.slice (some ⟨g,0,none⟩) n cap) n c)(hc: ∀ i,(c i).length=sz)(hi:i<n): w.rangeAt g (i*sz) (c i):=by
 rcases h.own.2 with⟨hv,_⟩|⟨g',cap',cur,hv,_,hh,h1,h2,h3,h4⟩
 ·cases hv
 injection hv with e1 _ e2
 injection e1 with e1
 injection e1 with e1
 subst e1 e2;intro j u hj;have hjs:j<sz:=by rw[←hc i];exact(List.getElem?_eq_some_iff.1 hj).1
 have hlt:i*sz+j<n*sz:=by
  have:=gV sz (show i+1≤n from hi);rw[uv] at this;omega
 have hx:cur[i*sz+j]? =(c i)[j]?:=by rw[←gA hc hi hjs,←h4,mL,if_pos hlt,ei]
 simp only[World.cell?,hh];rw[←hj];exact hx
theorem aM.there(h:aM S w e sz (.slice (some ⟨g,0,none⟩) n cap) n c)(hc: ∀ i,(c i).length=sz)(hi:i<n): w.there g (i*sz) sz:=by
 intro j hj;have hr:=h.range hc hi;have h5:=hr j _ (List.getElem?_eq_getElem (by rw[hc i];exact hj));refine⟨by rw[h5];rfl,?_⟩;rcases h.own.2 with⟨hv,_⟩|⟨g',cap',cur,hv,_,hh,_⟩
 ·cases hv
 injection hv with e1 _ e2
 injection e1 with e1
 injection e1 with e1
 subst e1;simp[World.frozen?,hh]
theorem aM.store(h:aM S w e sz (.slice (some ⟨g,0,none⟩) n cap) n c)(hc: ∀ i,(c i).length=sz)(hi:i<n){vs:List Value}(hv:vs.length=sz):
  aM S (w.setCells g (i*sz) vs) e sz (.slice (some ⟨g,0,none⟩) n cap) n (cH c i vs):=by
 refine⟨?_,h.block⟩;rcases h.own.2 with⟨hv',_⟩|⟨g',cap',cur,hv',_,hh,h1,h2,h3,h4⟩
 ·cases hv'
 ·injection hv' with e1 _ e2
  injection e1 with e1
  injection e1 with e1
  subst e1 e2;have hmul:(i+1)*sz≤cap*sz:=gV sz aj;have ahm:(i+1)*sz≤n*sz:=gV sz aj;have ahl:n*sz≤cap*sz:=gV sz h1;rw[uv] at hmul ahm;obtain⟨cs',r1,r2,r3,r4⟩:=fQ g e vs (i*sz) w cur hh aj;have hc': ∀ j,(cH c i vs j).length=sz:=fun j=>by unfold cH;split;exact hv;exact hc j
  refine⟨cf hc' n,.inr ⟨g,cap,cs',rfl,cm _,r1,h1,h2,aj,?_⟩⟩;apply List.ext_getElem?;intro k;rcases lf k (n*sz)with hk|hk
  ·have hsz:0<sz:=by rcases Nat.eq_zero_or_pos sz with h0|h0;· subst h0;omega
                     exact h0
   have Hy:k / sz<n:=(adV hsz).2 hk;have Mt:k % sz<sz:=Nat.mod_lt _ hsz;have hke:k / sz*sz+k % sz=k:=by rw[Nat.mul_comm];exact Nat.div_add_mod k sz
   rw[mL,if_pos hk,ei,←hke,gA hc' Hy Mt];obtain⟨a,ha⟩:=ae (k / sz);obtain⟨b,hb⟩:=ae (k % sz);rw[ha,hb] at hke ⊢;rw[hb] at Mt;rw[ha] at Hy;by_cases hai:a=i
   ·subst hai;rw[r3 b aj,bM]
   have hout:a*sz+b<i*sz∨i*sz+vs.length≤a*sz+b:=by
    rcases lf a i with h5|h5
    ·have:=gV sz (show a+1≤i from h5);rw[uv] at this;omega
    have:=gV sz (show i+1≤a from aj);rw[uv] at this;omega
   rw[r4 _ hout,bl c vs hai,←gA hc Hy Mt,←h4,mL,if_pos aj,ei]
  rw[mL,if_neg aj,gW (by rw[cf hc' n];exact hk)]
theorem aM.snoc{v':Value} {x:List Value}(h:aM S w e sz v n c)(ho:w'.ownsRow 0 e sz v' (n+1) (flat c n++x))(hl:v'.ownBlock=v.ownBlock∨v'.ownBlock=some w.heap.size):
  aM (fun g=>S g∨g=w.heap.size) w' e sz v' (n+1) (cH c n x):=
 ⟨by rw[Ra];exact ho,fun g hg=>by
  rcases hl with hl|hl
  ·exact .inl (h.block g (by rw[←hl];exact hg))
  rw[hg] at hl;injection hl with hl;exact .inr hl⟩
theorem dQ{P:Program}{ops:Array Oper}{rest:List Oper}{o:Oper}{a:Act}{Q:Exit→Act→World→Prop}(hgd:o.guard=none)(ty:TypeId)(x:Operand)(ho:o.op= .load ty x)
  {S:Nat→Prop} {e:TypeId} {sz n g cap:Nat} {c:Nat→List Value} (h:aM S w e sz (.slice (some ⟨g,0,none⟩) n cap) n c) (hc: ∀ i,(c i).length=sz) (i:Nat) (hi:i<n) (hx:a.eval x= .pointer (some ⟨g,i*sz,none⟩)) (d:TypeDesc)
  (hu:P.underlying ty=some d) (hd:d.isRow=true) (hsz:(P.info? ty).map (·.size)=some sz)
  (hK:wpList P ops Q rest (a.put o.dst (.agg (c i).toArray)) w):wpList P ops Q (o::rest) a w:=
 wpList_load_mid hgd ty x ho g (i*sz) hx (c i) d (h.range hc hi) hu hd (by rw[hc i];exact hsz) hK
theorem cU{P:Program}{ops:Array Oper}{rest:List Oper}{o:Oper}{a:Act}{Q:Exit→Act→World→Prop}(hgd:o.guard=none)(ty:TypeId)(x y:Operand)(ho:o.op= .store ty x y)
  {S:Nat→Prop} {e:TypeId} {sz n g cap:Nat} {c:Nat→List Value} (h:aM S w e sz (.slice (some ⟨g,0,none⟩) n cap) n c) (hc: ∀ i,(c i).length=sz) (i:Nat) (hi:i<n) (hx:a.eval x= .pointer (some ⟨g,i*sz,none⟩)) (vs:List Value) (hy:a.eval y= .agg vs.toArray)
  (hv:vs.length=sz) (h1: ∀ u∈vs,u.oneCell'=true) (hsz:(P.info? ty).map (·.size)=some sz)
  (hK: ∀ w',aM S w' e sz (.slice (some ⟨g,0,none⟩) n cap) n (cH c i vs)→w.grownBy w' (some g)→w'.heap.size=w.heap.size→wpList P ops Q rest (a.put o.dst undef) w'):wpList P ops Q (o::rest) a w:=by
 refine wpList_store_mid hgd ty x y ho g (i*sz) vs.toArray hx hy (by have:=h.there hc hi;simpa[hv] using this) (by rw[hsz];simp[hv]) (all_oneCell_toArray h1) ?_;obtain⟨h2,h3⟩:=dr g vs (i*sz) w;exact hK _ (h.store hc hi hv) h2 h3
end
section
section
variable {P:Program}{ops:Array Oper}{md:qU}{Q:Exit→Act→World→Prop}{S:World→Prop}{t:Nat}
def bj(P:Program)(md:qU)(ops:Array Oper)(Q:Exit→Act→World→Prop)(S:World→Prop)(t:Nat): Nat→Array Bool→Act→World→Prop
 | 0,listed,a,w=>p7 md ops listed= []∧Q .normal a w
 | n+1,listed,a,w=>(p7 md ops listed= []→Q .normal a w)∧∀ i∈p7 md ops listed,wpOp P ops Q i (fun a' w'=>if i=t then wpAny P md ops Q n (listed.setIfInBounds i true) a' w' else S w'∧bj P md ops Q S t n (listed.setIfInBounds i true) a' w') a w
theorem bj.any: ∀ (n:Nat) (listed:Array Bool) (a:Act) (w:World),bj P md ops Q S t n listed a w→wpAny P md ops Q n listed a w
 | 0,_,_,_,h=>h
 | n+1,listed,a,w,h=>⟨h.1,fun i hi=>wpOp_mono (fun a' w' h'=>by
  split at h'
  ·exact h'
  exact bj.any n _ a' w' h'.2) (h.2 i hi)⟩
variable{n i:Nat}{listed:Array Bool}{a:Act}{w:World}{oi:Oper}{v:Value}
theorem bj.last(hr:p7 md ops listed= [t])(h:wpAny P md ops Q (n+1) listed a w): bj P md ops Q S t (n+1) listed a w:=
 ⟨h.1,fun i hi=>by
  have e:i=t:=by rw[hr] at hi;simpa using hi
  subst e;exact wpOp_mono (fun a' w' h'=>by rw[if_pos rfl];exact h') (h.2 i hi)⟩
theorem bj.first{ot:Oper} (hi:ops[i]? =some oi)(ht:ops[t]? =some ot)(hw: ∃ e∈ot.after,zh md e=true∧e.on=i)(hit:i≠t)
  (FZ: ∀ (j:Nat) (o:Oper) cs b,ops[j]? =some o→o.op≠ .select cs b) (hQ: ∀ c a w,Q (.panic c) (a.put oi.dst v) w→Q (.panic c) a w) :
  ∀ (n:Nat) (listed:Array Bool) (a:Act) (w:World),
   (∀ j oj,ops[j]? =some oj→j≠i→listed.getD j true=false→(∀ e∈oj.after,zh md e=true→e.on≠i)→oi.apart ops oj=true)→
   i∈p7 md ops listed→YieldsIf P ops S oi v a→S w→
   bj P md ops Q S t n (listed.setIfInBounds i true) (a.put oi.dst v) w→bj P md ops Q S t (n+1) listed a w:=by
 intro n
 induction n with
 | zero=>
  intro listed a w _ hr hy hS H;exact acb
 | succ n ih=>
  intro listed a w kA hr hy hS H;have QS:listed.getD i true=false:=(mem_ready.1 hr).1;have aac:listed.getD i false=false:=by
   exact Vl
  refine⟨fun h=>A9,fun j hj=>?_⟩;by_cases e:j=i
  ·subst e;exact hy.wpOp hi hS Bh
  obtain⟨hju,oj,KH,hall⟩:=mem_ready.1 hj;have hjt:j≠t:=fun ejt=>by
   subst ejt;obtain⟨x,hx,hb,hx2⟩:=hw;rw[ht] at KH;injection KH with KH
   subst KH;have:=hall x hx hb;rw[hx2,aac] at this;cases this
  have hno: ∀ x∈oj.after,zh md x=true→x.on≠i:=fun x hx hb ex=>by
   have:=hall x hx hb;rw[ex,aac] at this;cases this
  have h1:=wpOp_mono (K':=fun a' w'=>S w'∧bj P md ops Q S t n ((listed.setIfInBounds i true).setIfInBounds j true) a' w') (fun a' w' h'=>by rw[if_neg hjt] at h';exact h') (H.2 j (ready_mono hj e));have h2:=wpOp_putIf KH (kA j oj KH e hju hno) (fun cs b=>FZ i oi cs b hi) (fun cs b=>FZ j oj cs b KH) hQ hy h1;refine wpOp_mono (fun a' w' h3=>?_) h2;rw[if_neg hjt];refine⟨h3.2.1,ih (listed.setIfInBounds j true) a' w' (fun k ok hk hki hku Ms=>kA k ok hk hki ?_ Ms) (ready_mono hr (GJ e)) h3.1 h3.2.1 ?_⟩
  ·by_cases hjk:j=k
   ·subst hjk;exact hju
   rw[getD_set_ne true hjk] at hku;exact hku
  rw[Ho _ _ e];exact h3.2.2
theorem bj.pure(hi:ops[i]? =some oi)(hit:i≠t)
  (FZ: ∀ (j:Nat) (o:Oper) cs b,ops[j]? =some o→o.op≠ .select cs b) (hQ: ∀ c a w,Q (.panic c) (a.put oi.dst v) w→Q (.panic c) a w) :
  ∀ (n:Nat) (listed:Array Bool) (a:Act) (w:World),
   (∀ j oj,ops[j]? =some oj→j≠i→listed.getD j true=false→(∀ e∈oj.after,zh md e=true→e.on≠i)→oi.apart ops oj=true)→
   i∈p7 md ops listed→YieldsIf P ops (fun _=>True) oi v a→S w→
   bj P md ops Q S t n (listed.setIfInBounds i true) (a.put oi.dst v) w→bj P md ops Q S t (n+1) listed a w:=by
 intro n
 induction n with
 | zero=>
  intro listed a w _ hr hy hS H;refine⟨fun h=>A9,fun j hj=>?_⟩;by_cases e:j=i
  ·subst e;exact hy.wpOp hi trivial Bh
  have h0:=ready_mono hj e;rw[H.1] at h0;cases h0
 | succ n ih=>
  intro listed a w kA hr hy hS H;have QS:listed.getD i true=false:=(mem_ready.1 hr).1;have aac:listed.getD i false=false:=by
   exact Vl
  refine⟨fun h=>A9,fun j hj=>?_⟩;by_cases e:j=i
  ·subst e;exact hy.wpOp hi trivial Bh
  obtain⟨hju,oj,KH,hall⟩:=mem_ready.1 hj;have hno: ∀ x∈oj.after,zh md x=true→x.on≠i:=fun x hx hb ex=>by
   have:=hall x hx hb;rw[ex,aac] at this;cases this
  have Wk: ∀ k ok,ops[k]? =some ok→k≠i→(listed.setIfInBounds j true).getD k true=false→(∀ x∈ok.after,zh md x=true→x.on≠i)→oi.apart ops ok=true:=fun k ok hk hki hku Ms=>by
   refine kA k ok hk hki ?_ Ms;by_cases hjk:j=k
   ·subst hjk;exact hju
   rw[getD_set_ne true hjk] at hku;exact hku
  have h2:=wpOp_putIf KH (kA j oj KH e hju hno) (fun cs b=>FZ i oi cs b hi) (fun cs b=>FZ j oj cs b KH) hQ hy (H.2 j (ready_mono hj e));by_cases hjt:j=t
  ·refine wpOp_mono (fun a' w' h3=>?_) h2;rw[if_pos hjt] at h3 ⊢;refine wpAny_first hi FZ hQ n (listed.setIfInBounds j true) a' w' Wk (ready_mono hr (GJ e)) (h3.1.imp (fun⟨x,y⟩=>⟨x,fun w=>y w trivial⟩) id) ?_;rw[Ho _ _ e];exact h3.2
  refine wpOp_mono (fun a' w' h3=>?_) h2;rw[if_neg hjt] at h3 ⊢;refine⟨h3.2.1,ih (listed.setIfInBounds j true) a' w' Wk (ready_mono hr (GJ e)) h3.1 h3.2.1 ?_⟩;rw[Ho _ _ e];exact h3.2.2
theorem Qh{d:Option Tmp}(hi:ops[i]? =some oi)(hit:decide (i=t)=false)
  (hs:CK ops=true) (hf:KE md ops listed i=true) (hr:(p7 md ops listed).contains i=true) (hQ: ∀ c a w,Q (.panic c) (a.put d v) w→Q (.panic c) a w) (hd:oi.dst=d)
  (hwt:qR oi (yielded ops a.tmps)=true) (hy: ∀ w,(execOp a.eval oi).run P w= .ok (.value v) w) (hS:S w)
  (h:bj P md ops Q S t n (listed.setIfInBounds i true) (a.put d v) w):bj P md ops Q S t (n+1) listed a w:=by
 subst hd;exact bj.pure hi (of_decide_eq_false hit) (NM hs) hQ n listed a w (NN hi hf) (by simpa using hr) (.inl ⟨hwt,fun w _=>hy w⟩) hS h
theorem Qg{d:Option Tmp}(hi:ops[i]? =some oi)(hw:YU md ops t i=true)(hit:decide (i=t)=false)
  (hs:CK ops=true) (hf:KE md ops listed i=true) (hr:(p7 md ops listed).contains i=true) (hQ: ∀ c a w,Q (.panic c) (a.put d v) w→Q (.panic c) a w) (hd:oi.dst=d)
  (hwt:qR oi (yielded ops a.tmps)=true) (hy: ∀ w,S w→(execOp a.eval oi).run P w= .ok (.value v) w) (hS:S w)
  (h:bj P md ops Q S t n (listed.setIfInBounds i true) (a.put d v) w):bj P md ops Q S t (n+1) listed a w:=by
 subst hd;obtain⟨ot,ht,e,he,hb,heq⟩:=YO hw;exact bj.first hi ht ⟨e,he,hb,heq⟩ (of_decide_eq_false hit) (NM hs) hQ n listed a w (NN hi hf) (by simpa using hr) (.inl ⟨hwt,hy⟩) hS h
theorem dI{id:Nat}(hm:P.follows .mixedOrders=true)(h:wpAny P .any ops Q ops.size (Array.replicate ops.size false) a w.drew): (Code.region id ops true).wp P Q a w:=wp_region_any hm h
theorem kB(k:Nat)(hl:ops.size=k+n)(hB:Region.seqB md ops n k listed=true)(h:wpList P ops Q (ops.toList.drop k) a w): wpAny P md ops Q n listed a w:=by
 have hn:(ops.toList.drop k).length=n:=fV;have:=wpAny_of_seq (P:=P) (md:=md) (Q':=Q) (ops:=ops) (ops.toList.drop k) k listed a w (fun j=>by simp[List.getElem?_drop]) (by rw[hn];exact hB) h
 rwa [hn] at this
end
end
section
variable{S:Nat→Prop}{w:World}{e:TypeId}{sz n:Nat}{v:Value}{c:Nat→List Value}{P:Program}
theorem aI.new{a b:World} (h:aI S w a)(k:aI (fun j=>S j∨w.heap.size≤j) a b): aI S w b:=
 ⟨k.os.trans h.os,k.tape.trans h.tape,k.output.trans h.output,aT h.size k.size,fun j hj hS=>(k.block j (aW hj h.size) (fun e=>by rcases e with e|e;exact hS e;omega)).trans (h.block j hj hS)⟩
theorem iN(w:World)(xs:List Value)(t:TypeId): ∀ j u,xs[j]? =some u→(w.alloc (.cells xs.toArray t)).cell? ((⟨w.heap.size,0,none⟩:Addr).add j)=some u:=by
 intro j u hj;rw[qF,(aG.fresh w t xs.toArray).cell j];simpa using hj
theorem aM.mz{t:TypeId} {p g:Nat} {cs:Array Value}(h:aM S w e sz v n c)(hg:v.ownBlock=some g)(ha:aG w p t cs)(ht:t≠e): p≠g:=by
 rintro rfl;rcases h.own.2 with⟨hv,_⟩|⟨g',cap',cur,hv,_,hh,_⟩
 ·subst hv;simp[gY] at hg
 subst hv;have e1:g'=p:=uE;exact Vj
theorem aM.Mc{k:TypeId} {q:IntKind}{t:TypeId}{b m g:Nat} {φ:Int→Option Int}(h:aM S w t sz v n c)(hg:v.ownBlock=some g)(hm:dp P k e q w b m φ): b≠g:=by
 rintro rfl;obtain⟨D,⟨es,aq,hb,_⟩,_⟩:=hm;rcases h.own.2 with⟨hv,_⟩|⟨g',cap',cur,hv,_,hh,_⟩
 ·subst hv;simp[gY] at hg
 subst hv;have e1:g'=b:=uE;subst e1;rw[hh] at hb;injection hb with hb
 cases hb
theorem aM.put(h:aM S w e sz v n c){q:Addr}(hq: ∀ g,v.ownBlock=some g→q.block≠g)(u:Value): aM S (w.setCell q u) e sz v n c:=
 ⟨dY h.own fun g hg=>dH w q u g (fun e=>hq g hg e.symm),h.block⟩
theorem fp(w:World){o:Oper}{a:Act}{K:Act→World→Prop}{Q:Exit→Act→World→Prop}(s x:Operand)(t:TypeId)
  (ho:o.op= .call {callee:=.builtin .append,args:=#[s,x],argTypes:=#[t,t]})
  (e:TypeId) (i:TypeInfo) (z:Value) (size bytes:Nat) (ht:P.underlying t=some (.slice e)) (hi:P.info? e=some i) (hz:i.zero=some z)
  (hsize:i.size=size) (hby:i.bytes=bytes) (hzs:z.cells.size=size) (hsz:0<size)
  {S:Nat→Prop} (v:Value) (n:Nat) (c:Nat→List Value) (hs:a.eval s=v) (h:aM S w e size v n c)
  (ad:Addr) (cp:Nat) (xs:List Value) (hx:a.eval x= .slice (some ad) 1 cp) (hl:xs.length=size) (hnews: ∀ j u,xs[j]? =some u→w.cell? (ad.add j)=some u) (h1: ∀ u∈xs,u.oneCell'=true)
  (h63:n+1≤maxLen) (hbytes:(n+1)*bytes≤140737488355328)
  (hK: ∀ g cap w',aM (fun k=>S k∨k=w.heap.size) w' e size (.slice (some ⟨g,0,none⟩) (n+1) cap) (n+1) (cH c n xs)→w.grownBy w' v.ownBlock→K (a.put o.dst (.slice (some ⟨g,0,none⟩) (n+1) cap)) w') :
  fc P o a w K Q:=by
 obtain⟨v',w',hr,hown,hg,_,hloc⟩:=run_append_own_at (P:=P) w 0 t o.type e i z size bytes ht hi hz hsize hby hzs hsz v n _ h.own ad 1 cp xs (by rw[hl,Nat.one_mul]) hnews h1 h63 hbytes (cm _);unfold fc execOp;simp only[ho,resolve,invoke,builtin,Sem.run_bind,Sem.run_pure,Result.andThen_ok,List.map_toArray,List.map_cons,List.map_nil,hs,hx,hr];obtain⟨g,cap,rfl⟩:=I4 hown;exact hK g cap w' (h.snoc hown hloc) hg
theorem gN(w:World){ops:Array Oper}{rest:List Oper}{o:Oper}{a:Act}{Q:Exit→Act→World→Prop}(hgd:o.guard=none)(s x:Operand)(t:TypeId)
  (ho:o.op= .call {callee:=.builtin .append,args:=#[s,x],argTypes:=#[t,t]})
  (e:TypeId) (i:TypeInfo) (z:Value) (size bytes:Nat) (ht:P.underlying t=some (.slice e)) (hi:P.info? e=some i) (hz:i.zero=some z)
  (hsize:i.size=size) (hby:i.bytes=bytes) (hzs:z.cells.size=size) (hsz:0<size)
  {S:Nat→Prop} (v:Value) (n:Nat) (c:Nat→List Value) (hs:a.eval s=v) (h:aM S w e size v n c)
  (ad:Addr) (cp:Nat) (xs:List Value) (hx:a.eval x= .slice (some ad) 1 cp) (hl:xs.length=size) (hnews: ∀ j u,xs[j]? =some u→w.cell? (ad.add j)=some u) (h1: ∀ u∈xs,u.oneCell'=true)
  (h63:n+1≤maxLen) (hbytes:(n+1)*bytes≤140737488355328)
  (hK: ∀ g cap w',aM (fun k=>S k∨k=w.heap.size) w' e size (.slice (some ⟨g,0,none⟩) (n+1) cap) (n+1) (cH c n xs)→w.grownBy w' v.ownBlock→wpList P ops Q rest (a.put o.dst (.slice (some ⟨g,0,none⟩) (n+1) cap)) w') :
  wpList P ops Q (o::rest) a w:=
 wpList_plain hgd fun _ hKK=>fp w s x t ho e i z size bytes ht hi hz hsize hby hzs hsz v n c hs h ad cp xs hx hl hnews h1 h63 hbytes fun g cap w' a b=>hKK _ _ (hK g cap w' a b)
section
variable {P:Program}{ops:Array Oper}{md:qU}{Q:Exit→Act→World→Prop}{S:World→Prop}{t:Nat}
theorem bj.step{i n:Nat}{o:Oper}{listed:Array Bool}{a:Act}{w:World}(hr:p7 md ops listed= [i])(hit:decide (i=t)=false)(ho:ops[i]? =some o)
  (h: ∀ K':Act→World→Prop,Shut (∀ a w,S w→(S w→bj P md ops Q S t n (listed.setIfInBounds i true) a w)→K' a w)→if qR o (yielded ops a.tmps)=true then fc P o a w K' Q else K' (a.put o.dst undef) w):bj P md ops Q S t (n+1) listed a w:=by
 refine⟨fun h0=>(by rw[hr] at h0;cases h0),fun j hj=>?_⟩;have e:j=i:=by rw[hr] at hj;simpa using hj
 subst e;refine wpOp_step ho fun K' hK=>h K' fun a w hS hW=>hK a w ?_
 rw[if_neg (of_decide_eq_false hit)];exact⟨hS,hW hS⟩
end
end
section
variable{w:World}
theorem iB{p q:Nat}{t t':TypeId}{cs cs':Array Value}(h:aG w p t cs)(h':aG w q t' cs')(ht:t≠t'): p≠q:=by
 rintro rfl;rw[aG] at h h';rw[h] at h';injection h' with h'
 injection h' with _ h2
 exact ht h2
theorem aM.arr{S:Nat→Prop}{e:TypeId}{sz n g cap:Nat}{c:Nat→List Value}(h:aM S w e sz (.slice (some ⟨g,0,none⟩) n cap) n c): ∃ cs,aG w g e cs:=by
 rcases h.own.2 with⟨hv,_⟩|⟨g',cap',cur,hv,_,hh,_⟩
 ·cases hv
 injection hv with e1
 injection e1 with e1
 injection e1 with e1
 subst e1;exact⟨cur,hh⟩
theorem aM.Od{S:Nat→Prop}{w':World} {e:TypeId}{sz n g cap:Nat}{c:Nat→List Value}(h:aM S w e sz (.slice (some ⟨g,0,none⟩) n cap) n c)(hk:w'.heap[g]? =w.heap[g]?): aM S w' e sz (.slice (some ⟨g,0,none⟩) n cap) n c:=
 ⟨dY h.own fun q hq=>by
  have e1:g=q:=by simpa[gY] using hq
  subst e1;exact hk,h.block⟩
theorem QJ(z:Array Value)(hz:0<z.size)(n:Nat): (madeCells z (n*z.size)).toList=flat (fun _=>z.toList) n:=by
 apply List.ext_getElem?;intro k;rcases lf k (n*z.size)with hk|hk
 ·have h1:k / z.size<n:=(adV hz).2 hk;have h2:k % z.size<z.size:=Nat.mod_lt _ hz;have h3:k / z.size*z.size+k % z.size=k:=by rw[Nat.mul_comm];exact Nat.div_add_mod k z.size
  have h4:(flat (fun _=>z.toList) n)[k]? =z.toList[k % z.size]?:=by rw[←gA (c:=fun _=>z.toList) (sz:=z.size) (fun _=>dR) h1 h2,h3]
  rw[h4];unfold madeCells;rw[ei,Array.getElem?_map,Array.getElem?_range,if_pos hk,ei];simp[Array.getElem!_eq_getD,Array.getD,h2]
 rw[gW (by simp[size_madeCells];exact hk),gW (by rw[cf (sz:=z.size) (fun _=>dR)];exact hk)]
theorem mR{P:Program}(w:World){o:Oper}{a:Act}{K:Act→World→Prop}{Q:Exit→Act→World→Prop}(l c:Operand)(t:TypeId)(hop:o.op=Op.makeSlice t l c)
  (e:TypeId) (i:TypeInfo) (z:Value) (size:Nat) (h1:P.underlying t=some (.slice e)) (h2:P.info? e=some i) (h3:i.zero=some z) (h4:i.size=size) (h5:z.cells.size=size) (h6:0<size)
  (n:Nat) (hl:a.eval l= .int .i64 (n:Int)) (hc:a.eval c= .int .i64 (n:Int)) (b2:i.bytes*n≤281474976710656) (b3:n≤maxLen)
  (hK: ∀ w',aM (· =w.heap.size) w' e size (.slice (some ⟨w.heap.size,0,none⟩) n n) n (fun _=>z.cells.toList)→w.grownBy w' none→K (a.put o.dst (.slice (some ⟨w.heap.size,0,none⟩) n n)) w') :
  fc P o a w K Q:=by
 obtain⟨w',hrun,r1,r2⟩:=run_make_full (P:=P) w 0 t e i z size h1 h2 h3 h4 .i64 .i64 n b2 b3 (cm _);unfold fc;simp[execOp,hop,hl,hc,hrun,iV];refine hK w' ⟨?_,fun g hg=>by simpa[gY] using hg.symm⟩ r2;subst h5;rw[←QJ z.cells h6 n];exact r1
end
section
end
section
variable {F:Fence}{n:Nat}{P:Program}{w:World}
end
section
theorem Below.tj{W W':World}(h:Below W.heap.size W W')(B:Nat): KeepsFrom B W W':=
 ⟨h.size,fun k _ _ hk _=>(h.block k (eK.1 hk).1).trans hk⟩
theorem aG.bw{w w':World}{g:Nat}{t:TypeId}{cs:Array Value}{row:Option Nat}(h:aG w g t cs)(hg:w.grownBy w' row)(hne:row≠some g): aG w' g t cs:=
 (hg.block g h.lt (fun e=>hne e.symm)).trans h
theorem oI{β:Type}(B g:Nat)(t:TypeId)(f:β→Array Value): OwnFrom B (fun s W=>aG W g t (f s)):=fun s W W' row hs hg hr=>
 hs.bw hg (fun e=>by
  obtain⟨_,o,ho,hc⟩:=hr g e;rw[show W.heap[g]? =_ from hs] at ho;cases ho;cases hc)
theorem yQ{β:Type}(B:Nat)(S:Nat→Prop)(e:TypeId)(sz:Nat)(v:β→Value)(n:β→Nat)(c:β→Nat→List Value): OwnFrom B (fun s W=>aM S W e sz (v s) (n s) (c s)):=fun s W W' row hs hg hr=>
 ⟨dY hs.own fun g hgb=>hg.block g (dM hs.own hgb).1 (fun e=>by
  obtain⟨_,o,ho,hc⟩:=hr g e.symm;rcases hs.own.2 with⟨hv,_⟩|⟨g',cap',cur,hv,_,hh,_⟩
  ·rw[hv] at hgb;simp[gY] at hgb
  rw[hv] at hgb;have e1:g'=g:=by simpa[gY] using hgb
  subst e1;rw[hh] at ho;cases ho;cases hc),hs.block⟩
theorem aM.cells{S:Nat→Prop}{w:World}{e:TypeId}{sz n j:Nat}{v:Value}{c:Nat→List Value}{o:Obj}(h:aM S w e sz v n c)(hj:v.ownBlock=some j)(ho:w.heap[j]? =some o): o.isCells=true:=by
 rcases h.own.2 with⟨hv,_⟩|⟨g',cap',cur,hv,_,hh,_⟩
 ·rw[hv] at hj;simp[gY] at hj
 rw[hv] at hj;have e1:g'=j:=by simpa[gY] using hj
 subst e1;rw[hh] at ho;cases ho;rfl
end
end
section
open Go.RowKit Go.Maps
def Ri(v:Value): Option (DataW Value × List MemPlace):=some (.held v,[])
def fB(P:Program)(k:TypeId)(q:IntKind)(w:World)(b n:Nat)(φ:Int→Option Value): Prop:=
 ∃ D:DataW Value,w.ownsMap P k Ri b n D∧sU D=n∧∀ i (z:Value),Maps.has D (.int q i)=(φ i).isSome∧D.atKey (.int q i) (.held z)= .held ((φ i).getD z)
def Da(φ:Int→Option Value)(i:Int)(v:Option Value): Int→Option Value:=fun j=>if j=i then v else φ j
theorem Qb(φ:Int→Option Value)(i:Int)(v:Option Value): Da φ i v i=v:=if_pos rfl
variable{i:Int}{P:Program}{k e t:TypeId}{w:World}{b n:Nat}{φ:Int→Option Value}
theorem K1(φ:Int→Option Value){j:Int} (v:Option Value)(h:j≠i): Da φ i v j=φ j:=if_neg h
theorem Bw{R:Value→Option (DataW Value × List MemPlace)}{D:DataW Value}(h:w.ownsMap P k R b n D): w.ownsMap P k R b (sU D) D:=by
 exact Vi
theorem fB.made(P:Program)(k:TypeId)(q:IntKind)(w:World): fB P k q (w.alloc (.map #[] 0)) w.heap.size 0 (fun _=>none):=
 ⟨.map [],YR w P k _,rfl,fun i z=>⟨rfl,rfl⟩⟩
theorem fB.lt{q:IntKind}(h:fB P k q w b n φ): b<w.heap.size:=by obtain⟨D,ho,_⟩:=h;exact ho.lt
theorem fB.same{q:IntKind}{w':World} (h:fB P k q w b n φ)(hk:w'.heap[b]? =w.heap[b]?): fB P k q w' b n φ:=by
 obtain⟨D,⟨es,aq,hb,r⟩,hs,hf⟩:=h;exact⟨D,⟨es,aq,hk.trans hb,r⟩,hs,hf⟩
theorem fB.ai{q:IntKind}{w':World} (h:fB P k q w b n φ)(hb:Below w.heap.size w w'): fB P k q w' b n φ:=h.same (hb.block b h.lt)
theorem OK{q:IntKind}{j:Int} (h:j≠i): jA q j≠jA q i:=fun e=>h uA
theorem fB.put{q:IntKind}(h:fB P k q w b n φ)(hk:P.underlying k=some (.int q))(ht:P.underlying t=some (.map k e))(hn:n<maxLen){v:Value}(hi:(jA q i).wf=true):
  ∃ w',(Instr.mapUpdate t (.map (some b)) (.int q i) v).run P w= .ok () w'∧fB P k q w' b (if(φ i).isSome then n else n+1) (Da φ i (some v))∧w.grownBy w' (some b):=by
 obtain⟨D,ho,hs,hf⟩:=h;obtain⟨w',hrun,h1,h2⟩:=ho.update (int_keyed hk) ht hn (keyOf_int_mk hk hi) (show Ri v=some (.held v,[])from rfl);have hsz:sU (D.put (.int q i) (.held v))=if(φ i).isSome then n else n+1:=by rw[Maps.size_put (ho.tidy (int_keyed hk)),(hf i v).1,hs]
 refine⟨w',hrun,⟨_,hsz▸Bw h1,hsz,fun j z=>?_⟩,h2⟩;by_cases e1:j=i
 ·subst e1;rw[Qb];exact Vm
 ·rw[K1 _ _ e1,Maps.has_put_other (OK e1),YQ (OK e1)];exact hf j z
theorem fB.look{q:IntKind}(h:fB P k q w b n φ)(hk:P.underlying k=some (.int q))(ht:P.underlying t=some (.map k e)){z:Value}(hz:(zeroValue e).run P w= .ok z w)(hi:(jA q i).wf=true):
  (NK t (.map (some b)) (.int q i) true).run P w= .ok (.tuple #[(φ i).getD z,.bool (φ i).isSome]) w:=by
 obtain⟨D,ho,hs,hf⟩:=h;obtain⟨v,ps,hrun,hv⟩:=ho.look_ok (int_keyed hk) ht hz (show Ri z=some (.held z,[])from rfl) (keyOf_int_mk hk hi);rw[hrun,(hf i z).1];rw[(hf i z).2] at hv;unfold Ri at hv;simp only[adU,NL,YS] at hv;rw[hv.1]
theorem zi{ops:Array Oper}{rest:List Oper}{o:Oper}{a:Act}{Q:Exit→Act→World→Prop}
  (hg:o.guard=none) (m x:Operand) (t:TypeId) (hop:o.op=Op.lookup t m x true) (k e:TypeId) (q:IntKind) (hk:P.underlying k=some (.int q)) (ht:P.underlying t=some (.map k e)) (z:Value) (hz:(zeroValue e).run P w= .ok z w)
  (b n:Nat) (φ:Int→Option Value) (hm:a.eval m= .map (some b)) (h:fB P k q w b n φ) (i:Int) (hx:a.eval x= .int q i) (hi:(jA q i).wf=true)
  (hK:wpList P ops Q rest (a.put o.dst (.tuple #[(φ i).getD z,.bool (φ i).isSome])) w) :
  wpList P ops Q (o::rest) a w:=by
 refine wpList_plain hg fun K' hK'=>?_
 have hrun:=h.look hk ht hz hi;unfold fc;simp[execOp,hop,hm,hx,hrun,iV];exact hK' _ _ hK
theorem fB.agM{q:IntKind}(h:fB P k q w b n φ)(hk:P.underlying k=some (.int q))(ht:P.underlying t=some (.map k e)){z:Value}(hz:(zeroValue e).run P w= .ok z w)(hi:(jA q i).wf=true):
  (NK t (.map (some b)) (.int q i) false).run P w= .ok ((φ i).getD z) w:=by
 obtain⟨D,ho,hs,hf⟩:=h;obtain⟨v,ps,hrun,hv⟩:=ho.lookup (int_keyed hk) ht hz (show Ri z=some (.held z,[])from rfl) (keyOf_int_mk hk hi);rw[hrun];rw[(hf i z).2] at hv;unfold Ri at hv;simp only[adU,NL,YS] at hv;rw[hv.1]
theorem fB.clear{q:IntKind}(h:fB P k q w b n φ)(ht:P.underlying t=some (.map k e))(ty:TypeId):
  ∃ w',(Builtin.clear_ #[t] ty #[.map (some b)]).run P w= .ok (.tuple #[]) w'∧fB P k q w' b 0 (fun _=>none)∧w.grownBy w' (some b):=by
 obtain⟨D,⟨es,aq,hb,F,hs,rfl⟩,_⟩:=h;refine⟨YP w b (.map #[] aq),?_,⟨.map [],⟨#[],aq,Go.ChangeMaps.heap_setBlock_same hb _,⟨dR,Go.MapKept.stamped_empty aq,dR⟩,aQ _,rfl⟩,rfl,fun i z=>⟨rfl,rfl⟩⟩,?_⟩
 ·simp[Builtin.clear_,run_underlying ht,Go.MapKept.run_getObj_map hb,Go.MapKept.run_setObj_map _ hb,iV,YP]
 ·exact World.mapTurned.grown ⟨es,aq,#[],aq,hb,rfl⟩
theorem Ax{ops:Array Oper}{rest:List Oper}{o:Oper}{a:Act}{Q:Exit→Act→World→Prop}
  (hg:o.guard=none) (m:Operand) (t:TypeId) (hop:o.op=Op.call {callee:=Callee.builtin Builtin.clear,args:=#[m],argTypes:=#[t]}) (k e:TypeId) (q:IntKind) (ht:P.underlying t=some (.map k e))
  (b n:Nat) (φ:Int→Option Value) (hm:a.eval m= .map (some b)) (h:fB P k q w b n φ)
  (hK: ∀ w',fB P k q w' b 0 (fun _=>none)→w.grownBy w' (some b)→wpList P ops Q rest (a.put o.dst (.tuple #[])) w') :
  wpList P ops Q (o::rest) a w:=by
 refine wpList_plain hg fun K' hK'=>?_
 obtain⟨w',hrun,r1,r2⟩:=h.clear ht o.type;unfold fc;simp[execOp,hop,resolve,invoke,builtin,hm,hrun,iV];exact hK' _ _ (hK w' r1 r2)
end
section
section
variable {P:Program}{ops:Array Oper}{md:qU}{Q:Exit→Act→World→Prop}{S:World→Prop}{t:Nat}
theorem AA{listed:Array Bool}{k:Nat}(h:listed.getD k true=false): listed.getD k false=false:=by
 rcases lf k listed.size with h1|h1
 ·simp[h1] at h ⊢;exact h
 simp[CJ h1] at h
theorem bj.chain{i:Nat}{oi:Oper}{v:Value}{J:List Nat}(hi:ops[i]? =some oi)(hw: ∀ j,j=t∨j∈J→∃ k,(k=i∨k∈J)∧YU md ops j k=true)(hit:i≠t)
  (FZ: ∀ (j:Nat) (o:Oper) cs b,ops[j]? =some o→o.op≠ .select cs b) (hQ: ∀ c a w,Q (.panic c) (a.put oi.dst v) w→Q (.panic c) a w) :
  ∀ (n:Nat) (listed:Array Bool) (a:Act) (w:World),
   (∀ j oj,ops[j]? =some oj→j≠i→listed.getD j true=false→(∀ e∈oj.after,zh md e=true→e.on≠i)→oi.apart ops oj=true)→
   i∈p7 md ops listed→(∀ j∈J,listed.getD j true=false)→YieldsIf P ops S oi v a→S w→
   bj P md ops Q S t n (listed.setIfInBounds i true) (a.put oi.dst v) w→bj P md ops Q S t (n+1) listed a w:=by
 intro n
 induction n with
 | zero=>
  intro listed a w _ hr _ hy hS H;exact acb
 | succ n ih=>
  intro listed a w kA hr hJ hy hS H;have QS:listed.getD i true=false:=(mem_ready.1 hr).1;refine⟨fun h=>A9,fun j hj=>?_⟩;by_cases e:j=i
  ·subst e;exact hy.wpOp hi hS Bh
  obtain⟨hju,oj,KH,hall⟩:=mem_ready.1 hj;have ahi: ¬(j=t∨j∈J):=fun h=>by
   obtain⟨k,hk,hwk⟩:=hw j h;obtain⟨oj',aai,x,hx,hb,hx2⟩:=YO hwk;rw[KH] at aai;injection aai with aai
   subst aai;have h1:=hall x hx hb;rw[hx2] at h1;rcases hk with rfl|hk
   ·rw[AA QS] at h1;cases h1
   rw[AA (hJ k hk)] at h1;cases h1
  have hjt:j≠t:=fun h=>ahi (.inl h)
  have hjJ:j ∉ J:=fun h=>ahi (.inr h)
  have hno: ∀ x∈oj.after,zh md x=true→x.on≠i:=fun x hx hb ex=>by
   have:=hall x hx hb;rw[ex,AA QS] at this;cases this
  have h1:=wpOp_mono (K':=fun a' w'=>S w'∧bj P md ops Q S t n ((listed.setIfInBounds i true).setIfInBounds j true) a' w') (fun a' w' h'=>by rw[if_neg hjt] at h';exact h') (H.2 j (ready_mono hj e));have h2:=wpOp_putIf KH (kA j oj KH e hju hno) (fun cs b=>FZ i oi cs b hi) (fun cs b=>FZ j oj cs b KH) hQ hy h1;refine wpOp_mono (fun a' w' h3=>?_) h2;rw[if_neg hjt];refine⟨h3.2.1,ih (listed.setIfInBounds j true) a' w' (fun k ok hk hki hku Ms=>kA k ok hk hki ?_ Ms) (ready_mono hr (GJ e)) (fun k hk=>?_) h3.1 h3.2.1 ?_⟩
  ·by_cases hjk:j=k
   ·subst hjk;exact hju
   rw[getD_set_ne true hjk] at hku;exact hku
  ·rw[getD_set_ne true (show j≠k from fun ejk=>hjJ (by rw[ejk];exact hk))];exact hJ k hk
  rw[Ho _ _ e];exact h3.2.2
theorem Bl{i:Nat}(J:List Nat){oi:Oper}{d:Option Tmp}{v:Value}{n:Nat}{listed:Array Bool}{a:Act}{w:World}(hi:ops[i]? =some oi)(hw:((t::J).all fun j=>(i::J).any fun k=>YU md ops j k)=true)(hu:(J.all fun j=>!listed.getD j true)=true)(hit:decide (i=t)=false)
  (hs:CK ops=true) (hf:KE md ops listed i=true) (hr:(p7 md ops listed).contains i=true) (hQ: ∀ c a w,Q (.panic c) (a.put d v) w→Q (.panic c) a w) (hd:oi.dst=d)
  (hwt:qR oi (yielded ops a.tmps)=true) (hy: ∀ w,S w→(execOp a.eval oi).run P w= .ok (.value v) w) (hS:S w)
  (h:bj P md ops Q S t n (listed.setIfInBounds i true) (a.put d v) w):bj P md ops Q S t (n+1) listed a w:=by
 subst hd;refine bj.chain (J:=J) hi (fun j hj=>?_) (of_decide_eq_false hit) (NM hs) hQ n listed a w (NN hi hf) (by simpa using hr) (fun j hj=>?_) (.inl ⟨hwt,hy⟩) hS h
 ·have h1:=(List.all_eq_true.1 hw) j (by rcases hj with rfl|hj;exact List.mem_cons_self ..;exact List.mem_cons_of_mem _ hj);obtain⟨k,hk,h2⟩:=List.any_eq_true.1 h1;exact⟨k,List.mem_cons.1 hk,h2⟩
 ·simpa using(List.all_eq_true.1 hu) j hj
end
end
section
section
variable {P:Program}{ops:Array Oper}{Q:Exit→Act→World→Prop}{md:qU}{S:World→Prop}{fuel:Nat}{listed:Array Bool}{a:Act}{w:World}{oi:Oper}{v:Value}
theorem cS(i:Nat)(d:Option Tmp)(hS:S w)
 (h:wpAnyH P md ops Q S fuel (listed.setIfInBounds i true) (a.put d v) w)
 (hi:ops[i]? =some oi:=by(simp only[List.getElem?_toArray,List.getElem?_cons_zero,List.getElem?_cons_succ];exact rfl))
 (hs:Region.noSelect ops=true:=by kernel_rfl) (hf:Region.free md ops listed i=true:=by kernel_rfl) (hr:(Region.ready md ops listed).contains i=true:=by kernel_rfl)
 (hQ: ∀ c a w,Q (.panic c) (a.put d v) w→Q (.panic c) a w:=by exact(fun _ _ _ h=>h)) (hd:oi.dst=d:=by rfl) (hw:Region.wanted oi (yielded ops a.tmps)=true:=by rfl)
 (hy: ∀ w,S w→(execOp a.eval oi).run P w= .ok (.value v) w:=by(intro w hSw;(try dsimp only at hSw);(try(have hSa:=hSw.1;have Za:=hSw.2;clear hSw));(try(have hSc:=Za.1;have hSd:=Za.2;clear Za));(try(have hSe:=hSd.1;have hSf:=hSd.2;clear hSd));(try(have hSg:=hSf.1;have hSh:=hSf.2;clear hSf));go_simp;try with_reducible rfl)) :
 wpAnyH P md ops Q S (fuel+1) listed a w:=pJ hi hs hf hr hQ hd hw hy hS h
theorem tkn(i:Nat)(d:Option Tmp)(hS:S w)
 (h:wpAnyH P md ops Q S fuel (listed.setIfInBounds i true) (a.put d undef) w)
 (hi:ops[i]? =some oi:=by(simp only[List.getElem?_toArray,List.getElem?_cons_zero,List.getElem?_cons_succ];exact rfl))
 (hs:Region.noSelect ops=true:=by kernel_rfl) (hf:Region.free md ops listed i=true:=by kernel_rfl) (hr:(Region.ready md ops listed).contains i=true:=by kernel_rfl)
 (hQ: ∀ c a w,Q (.panic c) (a.put d undef) w→Q (.panic c) a w:=by exact(fun _ _ _ h=>h)) (hd:oi.dst=d:=by rfl) (hw:Region.wanted oi (yielded ops a.tmps)=false:=by rfl) :
 wpAnyH P md ops Q S (fuel+1) listed a w:=N9 hi hs hf hr hQ hd hw hS h
end
theorem aY: (∀ (a:Act) (d:Tmp) (v:Value),a.put (some d) v= {a with tmps:=a.tmps.setIfInBounds d v})∧(∀ (a:Act) (v:Value),a.put none v=a)∧
  (∀ {α:Type} (l:List α) (i:Nat) (a:α),l.toArray.setIfInBounds i a=(l.set i a).toArray)∧(∀ {α:Type} (x:α) (l:List α) (a:α),(x::l).set 0 a=a::l)∧
  (∀ {α:Type} (x:α) (l:List α) (i:Nat) (a:α),(x::l).set (i+1) a=x::l.set i a):=
 ⟨fun _ _ _=>rfl,fun _ _=>rfl,fun _ _ _=>List.setIfInBounds_toArray ..,fun _ _ _=>rfl,fun _ _ _ _=>rfl⟩
theorem nO: (∀ {α:Type} (l:List α) (i:Nat),l.toArray[i]? =l[i]?)∧(∀ {α:Type} (x:α) (l:List α),(x::l)[0]? =some x)∧(∀ {α:Type} (x:α) (l:List α) (i:Nat),(x::l)[i+1]? =l[i]?):=
 ⟨fun _ _=>YW,fun _ _=>List.getElem?_cons_zero,fun _ _ _=>List.getElem?_cons_succ⟩
section
variable {P:Program}{ops:Array Oper}{Q:Exit→Act→World→Prop}{md:qU}{S:World→Prop}{fuel:Nat}{listed l':Array Bool}{a a':Act}{w:World}{oi:Oper}{v:Value}{d:Option Tmp}
def gL(P:Program)(md:qU)(ops:Array Oper)(Q:Exit→Act→World→Prop)(S:World→Prop)(l:Array Bool)(a:Act)(i:Nat)(l':Array Bool)(a':Act): Prop:=
 ∀ (fuel:Nat) (w:World),S w→wpAnyH P md ops Q S fuel l' a' w→wpAnyH P md ops Q S (fuel+1) l a w
theorem zF(i:Nat)
  (hi:ops[i]? =some oi:=by(simp only[List.getElem?_toArray,List.getElem?_cons_zero,List.getElem?_cons_succ];exact rfl))
  (hs:Region.noSelect ops=true:=by kernel_rfl) (hf:Region.free md ops listed i=true:=by kernel_rfl) (hr:(Region.ready md ops listed).contains i=true:=by kernel_rfl)
  (hd:oi.dst=d:=by rfl) (hw:Region.wanted oi (yielded ops a.tmps)=true:=by rfl)
  (hy: ∀ w,S w→(execOp a.eval oi).run P w= .ok (.value v) w:=by(intro w hSw;(try dsimp only at hSw);(try(have hSa:=hSw.1;have Za:=hSw.2;clear hSw));(try(have hSc:=Za.1;have hSd:=Za.2;clear Za));(try(have hSe:=hSd.1;have hSf:=hSd.2;clear hSd));(try(have hSg:=hSf.1;have hSh:=hSf.2;clear hSf));go_simp;try with_reducible rfl))
  (hl:listed.setIfInBounds i true=l':=by(try simp only[aY]);rfl) (ha:a.put d v=a':=by(try simp only[aY]);rfl)
  (hQ: ∀ c a w,Q (.panic c) (a.put d v) w→Q (.panic c) a w:=by exact(fun _ _ _ h=>h)):gL P md ops Q S listed a i l' a':=by
 intro fuel w hS h;subst hl ha;exact pJ hi hs hf hr hQ hd hw hy hS h
theorem zG(i:Nat)
  (hi:ops[i]? =some oi:=by(simp only[List.getElem?_toArray,List.getElem?_cons_zero,List.getElem?_cons_succ];exact rfl))
  (hs:Region.noSelect ops=true:=by kernel_rfl) (hf:Region.free md ops listed i=true:=by kernel_rfl) (hr:(Region.ready md ops listed).contains i=true:=by kernel_rfl)
  (hd:oi.dst=d:=by rfl) (hw:Region.wanted oi (yielded ops a.tmps)=false:=by rfl)
  (hl:listed.setIfInBounds i true=l':=by(try simp only[aY]);rfl) (ha:a.put d undef=a':=by(try simp only[aY]);rfl)
  (hQ: ∀ c a w,Q (.panic c) (a.put d undef) w→Q (.panic c) a w:=by exact(fun _ _ _ h=>h)):gL P md ops Q S listed a i l' a':=by
 intro fuel w hS h;subst hl ha;exact N9 hi hs hf hr hQ hd hw hS h
variable {l1 l2 l3 l4 l5 l6 l7:Array Bool}{a1 a2 a3 a4 a5 a6 a7:Act}
theorem ty(i:Nat)(h:wpAnyH P md ops Q S fuel l' a' w)(hS:S w:=by assumption)(s:gL P md ops Q S listed a i l' a':=by first|exact zF _|exact zG _): wpAnyH P md ops Q S (fuel+1) listed a w:=s _ _ hS h
theorem tX(j0 j1:Nat)(h:wpAnyH P md ops Q S fuel l' a' w)(hS:S w:=by assumption)(s0:gL P md ops Q S listed a j0 l1 a1:=by first|exact zF _|exact zG _)(s1:gL P md ops Q S l1 a1 j1 l' a':=by first|exact zF _|exact zG _): wpAnyH P md ops Q S (fuel+1+1) listed a w:=s0 _ _ hS (s1 _ _ hS (h))
theorem SX(j0 j1 j2:Nat)(h:wpAnyH P md ops Q S fuel l' a' w)(hS:S w:=by assumption)(s0:gL P md ops Q S listed a j0 l1 a1:=by first|exact zF _|exact zG _)(s1:gL P md ops Q S l1 a1 j1 l2 a2:=by first|exact zF _|exact zG _)(s2:gL P md ops Q S l2 a2 j2 l' a':=by first|exact zF _|exact zG _): wpAnyH P md ops Q S (fuel+1+1+1) listed a w:=s0 _ _ hS (s1 _ _ hS (s2 _ _ hS (h)))
theorem lu(j0 j1 j2 j3:Nat)(h:wpAnyH P md ops Q S fuel l' a' w)(hS:S w:=by assumption)(s0:gL P md ops Q S listed a j0 l1 a1:=by first|exact zF _|exact zG _)(s1:gL P md ops Q S l1 a1 j1 l2 a2:=by first|exact zF _|exact zG _)(s2:gL P md ops Q S l2 a2 j2 l3 a3:=by first|exact zF _|exact zG _)(s3:gL P md ops Q S l3 a3 j3 l' a':=by first|exact zF _|exact zG _): wpAnyH P md ops Q S (fuel+1+1+1+1) listed a w:=s0 _ _ hS (s1 _ _ hS (s2 _ _ hS (s3 _ _ hS (h))))
theorem Qd(j0 j1 j2 j3 j4 j5:Nat)(h:wpAnyH P md ops Q S fuel l' a' w)(hS:S w:=by assumption)(s0:gL P md ops Q S listed a j0 l1 a1:=by first|exact zF _|exact zG _)(s1:gL P md ops Q S l1 a1 j1 l2 a2:=by first|exact zF _|exact zG _)(s2:gL P md ops Q S l2 a2 j2 l3 a3:=by first|exact zF _|exact zG _)(s3:gL P md ops Q S l3 a3 j3 l4 a4:=by first|exact zF _|exact zG _)(s4:gL P md ops Q S l4 a4 j4 l5 a5:=by first|exact zF _|exact zG _)(s5:gL P md ops Q S l5 a5 j5 l' a':=by first|exact zF _|exact zG _): wpAnyH P md ops Q S (fuel+1+1+1+1+1+1) listed a w:=s0 _ _ hS (s1 _ _ hS (s2 _ _ hS (s3 _ _ hS (s4 _ _ hS (s5 _ _ hS (h))))))
theorem ov(j0 j1 j2 j3 j4 j5 j6 j7:Nat)(h:wpAnyH P md ops Q S fuel l' a' w)(hS:S w:=by assumption)(s0:gL P md ops Q S listed a j0 l1 a1:=by first|exact zF _|exact zG _)(s1:gL P md ops Q S l1 a1 j1 l2 a2:=by first|exact zF _|exact zG _)(s2:gL P md ops Q S l2 a2 j2 l3 a3:=by first|exact zF _|exact zG _)(s3:gL P md ops Q S l3 a3 j3 l4 a4:=by first|exact zF _|exact zG _)(s4:gL P md ops Q S l4 a4 j4 l5 a5:=by first|exact zF _|exact zG _)(s5:gL P md ops Q S l5 a5 j5 l6 a6:=by first|exact zF _|exact zG _)(s6:gL P md ops Q S l6 a6 j6 l7 a7:=by first|exact zF _|exact zG _)(s7:gL P md ops Q S l7 a7 j7 l' a':=by first|exact zF _|exact zG _): wpAnyH P md ops Q S (fuel+1+1+1+1+1+1+1+1) listed a w:=s0 _ _ hS (s1 _ _ hS (s2 _ _ hS (s3 _ _ hS (s4 _ _ hS (s5 _ _ hS (s6 _ _ hS (s7 _ _ hS (h))))))))
theorem tt{t n:Nat}(i:Nat)(h:bj P md ops Q S t n l' a' w)(hS:S w:=by assumption)
  (hi:ops[i]? =some oi:=by(simp only[List.getElem?_toArray,List.getElem?_cons_zero,List.getElem?_cons_succ];exact rfl))
  (hw:Region.waitsFor md ops t i=true:=by kernel_rfl) (hit:decide (i=t)=false:=by kernel_rfl)
  (hs:Region.noSelect ops=true:=by kernel_rfl) (hf:Region.free md ops listed i=true:=by kernel_rfl) (hr:(Region.ready md ops listed).contains i=true:=by kernel_rfl)
  (hd:oi.dst=d:=by rfl) (hwt:Region.wanted oi (yielded ops a.tmps)=true:=by rfl)
  (hy: ∀ w,S w→(execOp a.eval oi).run P w= .ok (.value v) w:=by(intro w hSw;(try dsimp only at hSw);(try(have hSa:=hSw.1;have Za:=hSw.2;clear hSw));go_simp;try with_reducible rfl))
  (hl:listed.setIfInBounds i true=l':=by(try simp only[aY]);rfl) (ha:a.put d v=a':=by(try simp only[aY]);rfl)
  (hQ: ∀ c a w,Q (.panic c) (a.put d v) w→Q (.panic c) a w:=by exact(fun _ _ _ h=>h)) :
  bj P md ops Q S t (n+1) listed a w:=by
 subst hl ha;exact Qg hi hw hit hs hf hr hQ hd hwt hy hS h
theorem tp{t n:Nat}(i:Nat)(h:bj P md ops Q S t n l' a' w)(hS:S w:=by assumption)
  (hi:ops[i]? =some oi:=by(simp only[List.getElem?_toArray,List.getElem?_cons_zero,List.getElem?_cons_succ];exact rfl)) (hit:decide (i=t)=false:=by kernel_rfl)
  (hs:Region.noSelect ops=true:=by kernel_rfl) (hf:Region.free md ops listed i=true:=by kernel_rfl) (hr:(Region.ready md ops listed).contains i=true:=by kernel_rfl)
  (hd:oi.dst=d:=by rfl) (hwt:Region.wanted oi (yielded ops a.tmps)=true:=by rfl)
  (hy: ∀ w,(execOp a.eval oi).run P w= .ok (.value v) w:=by(intro w;go_simp;try with_reducible rfl))
  (hl:listed.setIfInBounds i true=l':=by(try simp only[aY]);rfl) (ha:a.put d v=a':=by(try simp only[aY]);rfl)
  (hQ: ∀ c a w,Q (.panic c) (a.put d v) w→Q (.panic c) a w:=by exact(fun _ _ _ h=>h)) :
  bj P md ops Q S t (n+1) listed a w:=by
 subst hl ha;exact Qh hi hit hs hf hr hQ hd hwt hy hS h
theorem cG{o:Oper}(i:Nat)(h: ∀ K':Act→World→Prop,Shut (∀ a w,S w→(S w→wpAnyH P md ops Q S fuel (listed.setIfInBounds i true) a w)→K' a w)→if qR o (yielded ops a.tmps)=true then fc P o a w K' Q else K' (a.put o.dst undef) w)
  (ho:ops[i]? =some o:=by rfl) (hr:Region.ready md ops listed= [i]:=by kernel_rfl):wpAnyH P md ops Q S (fuel+1) listed a w:=
 wpAnyH_ready hr dR (po ho h AllReadyH.nil)
theorem qp{o o2:Oper}(i j:Nat)(h: ∀ K':Act→World→Prop,Shut (∀ a w,S w→(S w→wpAnyH P md ops Q S fuel (listed.setIfInBounds i true) a w)→K' a w)→if qR o (yielded ops a.tmps)=true then fc P o a w K' Q else K' (a.put o.dst undef) w)
  (h2: ∀ K':Act→World→Prop,Shut (∀ a w,S w→(S w→wpAnyH P md ops Q S fuel (listed.setIfInBounds j true) a w)→K' a w)→if qR o2 (yielded ops a.tmps)=true then fc P o2 a w K' Q else K' (a.put o2.dst undef) w)
  (ho:ops[i]? =some o:=by rfl) (jo:ops[j]? =some o2:=by rfl) (hr:Region.ready md ops listed= [i,j]:=by kernel_rfl):wpAnyH P md ops Q S (fuel+1) listed a w:=
 wpAnyH_ready hr dR (po ho h (po jo h2 AllReadyH.nil))
theorem bW{K':Act→World→Prop}(hK:Shut (∀ a w,S w→(S w→wpAnyH P md ops Q S fuel listed a w)→K' a w))(hS:S w)(h:S w→wpAnyH P md ops Q S fuel l' a' w)
  (hl:listed=l':=by(try simp only[aY]);rfl) (ha:a=a':=by(try simp only[aY]);rfl):K' a w:=by
 subst hl ha;exact hK.out _ _ hS h
theorem ud{S:World→Prop}{ops:Array Oper}{id:Nat}(hS:S w.drew)(h:S w.drew→wpAnyH P .any ops Q S ops.size (Array.replicate ops.size false) a w.drew)(hm:P.follows .mixedOrders=true:=by kernel_rfl): (Code.region id ops true).wp P Q a w:=wp_region_held_drew hm hS h
theorem bO(h:Q .normal a w)(hr:Region.ready md ops listed= []:=by kernel_rfl): wpAnyH P md ops Q S fuel listed a w:=wpAnyH_done hr h fuel
end
end
section
def part(cs:Array Value)(o:Nat)(vs:List Value): Array Value:=(cs.toList.take o++vs++cs.toList.drop (o+vs.length)).toArray
variable{w:World}{P:Program}{a:Act}{Q:Exit→Act→World→Prop}
theorem Xj{g:Nat}{t:TypeId}{cs:Array Value}(hg:aG w g t cs)(o:Nat)(vs:List Value)(ho:o+vs.length≤cs.size): aG (w.setCells g o vs) g t (part cs o vs):=by
 obtain⟨cs',h1,h2,h3,h4⟩:=fQ g t vs o w cs hg ho;have e:cs'=part cs o vs:=by
  apply YV;intro j;refine Eq.trans (b:=(cs.toList.take o++vs++cs.toList.drop (o+vs.length))[j]?) ?_ (by unfold part;simp only[YW]);have hl:(cs.toList.take o).length=o:=by rw[List.length_take,Array.length_toList];omega
  rcases lf j o with hj|hj
  ·rw[h4 j (.inl hj),List.append_assoc,qT aj,List.getElem?_take_of_lt hj,ei]
  rcases lf j (o+vs.length)with Y6|Y6
  ·obtain⟨k,rfl⟩: ∃ k,j=o+k:=⟨j - o,aj⟩;rw[h3 k aj,List.append_assoc,wJ aj,hl,Nat.add_sub_cancel_left,qT aj]
  rw[h4 j (.inr Y6),wJ (by rw[dh];omega),dh,hl,List.getElem?_drop,ei];congr 1;omega
 rw[e] at h1;exact h1
theorem iF{ops:Array Oper}{rest:List Oper}{o:Oper}(hgd:o.guard=none)(ty:TypeId)(x y:Operand)(ho:o.op= .store ty x y)
  (g k:Nat) (t:TypeId) (cs cells:Array Value) (hg:aG w g t cs) (hx:a.eval x= .pointer (some ⟨g,k,none⟩)) (hy:a.eval y= .agg cells) (hsz:k+cells.size≤cs.size)
  (hi:(P.info? ty).map (·.size)=some cells.size) (h1:cells.all (·.oneCell')=true)
  (h: ∀ w',aG w' g t (part cs k cells.toList)→w.grownBy w' (some g)→w'.heap.size=w.heap.size→wpList P ops Q rest (a.put o.dst undef) w'):wpList P ops Q (o::rest) a w:=by
 refine wpList_store_mid hgd ty x y ho g k cells hx hy (fun j hj=>?_) hi h1 ?_
 ·rw[hg.cell (k+j),hg.mark (k+j)];rw[mK aj];exact⟨rfl,rfl⟩
 ·obtain⟨h2,h3⟩:=dr g cells.toList k w;exact h _ (Xj hg k cells.toList (by simpa using hsz)) h2 h3
theorem i'{ops:Array Oper}{rest:List Oper}{o:Oper}(hgd:o.guard=none)(ty:TypeId)(x:Operand)(ho:o.op= .load ty x)
  (g k:Nat) (t:TypeId) (cs:Array Value) (vs:List Value) (hg:aG w g t cs) (hx:a.eval x= .pointer (some ⟨g,k,none⟩)) (hv: ∀ j v,vs[j]? =some v→cs[k+j]? =some v) (d:TypeDesc)
  (hu:P.underlying ty=some d) (hd:d.isRow=true) (hi:(P.info? ty).map (·.size)=some vs.length)
  (h:wpList P ops Q rest (a.put o.dst (.agg vs.toArray)) w):wpList P ops Q (o::rest) a w:=
 wpList_load_mid hgd ty x ho g k hx vs d (fun j v hj=>by rw[hg.cell];exact hv j v hj) hu hd hi h
theorem cW{fn:Func}{p q r s:Tmp}{ty:TypeId}(h:fn.results= #[.cell p ty,.tmp q,.tmp r,.tmp s])(tmps:Array Value){ad:Addr}{v:Value}
  (hp:tmps.getD p undef= .pointer (some ad)) (hl:(loadVar ty ad).run P w= .ok v w):(results fn tmps).run P w= .ok (.tuple #[v,tmps.getD q undef,tmps.getD r undef,tmps.getD s undef]) w:=by
 exact OC
theorem cT{op:Oper}{K:Act→World→Prop}(ty:TypeId)(x y:Operand)(ho:op.op= .store ty x y)
  (g:Nat) (t:TypeId) (cs cells:Array Value) (hg:aG w g t cs) (hx:a.eval x= .pointer (some ⟨g,0,none⟩)) (hy:a.eval y= .agg cells) (hsz:cells.size=cs.size)
  (hi:(P.info? ty).map (·.size)=some cells.size) (h1:cells.all (·.oneCell')=true)
  (h: ∀ w',aG w' g t cells→w.grownBy w' (some g)→w'.heap.size=w.heap.size→K (a.put op.dst undef) w'):op.wp P a w K Q:=by
 refine wp_store_mid ty x y ho g 0 cells hx hy (fun j hj=>?_) hi h1 ?_
 ·rw[gX,hg.cell j,hg.mark j];rw[mK aj];exact⟨rfl,rfl⟩
 ·obtain⟨h2,h3⟩:=dr g cells.toList 0 w;exact acv
end
section
theorem _root_.Go.RowKit.Below.none{w W:World}(h:Below w.heap.size w W): w.grownBy W none:=⟨h.os,h.tape,h.output,h.size,fun k hk _=>h.block k hk⟩
end
section
section
namespace Hp
structure eJ where
 aS:Int
 id:Int
 bc:Int
def r8(x y:eJ): Bool:=decide (x.aS<y.aS)||(x.aS==y.aS && decide (x.id<y.id))
def iR(f:Nat→eJ)(i k:Nat): Bool:=r8 (f i) (f k)||(!r8 (f k) (f i) && decide ((f i).bc<(f k).bc))
def cN(f:Nat→eJ)(i k:Nat): Nat→eJ:=fun j=>if j=i then f k else if j=k then f i else f j
def up: Nat→(Nat→eJ)→Nat→(Nat→eJ) × Nat
 | 0,f,at_=>(f,at_)
 | k+1,f,at_=>if 0<at_∧iR f at_ ((at_ - 1) / 2)=true then up k (cN f at_ ((at_ - 1) / 2)) ((at_ - 1) / 2)else(f,at_)
def pk(f:Nat→eJ)(l at_:Nat): Nat→Nat
 | 0=>at_
 | r+1=>if 2*at_+1+r<l∧iR f (2*at_+1+r) (pk f l at_ r)=true then 2*at_+1+r else pk f l at_ r
def pick(f:Nat→eJ)(l at_:Nat): Nat:=pk f l at_ 2
variable{l at_ r k:Nat}
theorem Ou{f:Nat→eJ}(h:at_<l): ∀ r,pk f l at_ r<l
 | 0=>h
 | r+1=>by
  rw[pk];split
  ·rename_i h1;exact h1.1
  exact Ou h r
theorem UG{f:Nat→eJ}: ∀ r,pk f l at_ r=at_∨at_<pk f l at_ r
 | 0=>.inl rfl
 | r+1=>by
  rw[pk];split
  ·right;omega
  exact UG r
theorem Ot{f:Nat→eJ}(h:l≤2*at_+1+r): ∀ j,pk f l at_ (r+j)=pk f l at_ r
 | 0=>rfl
 | j+1=>by rw[←Nat.add_assoc,pk,if_neg aj,Ot h j]
theorem aew{f:Nat→eJ}(h:2*at_+1+r<l)(ha:iR f (2*at_+1+r) (pk f l at_ r)=true): pk f l at_ (r+1)=2*at_+1+r:=by rw[pk,if_pos ⟨h,ha⟩]
theorem agE{f:Nat→eJ}(ha:iR f (2*at_+1+r) (pk f l at_ r)=false): pk f l at_ (r+1)=pk f l at_ r:=by rw[pk,if_neg (by rw[ha];simp)]
def down(l:Nat): Nat→(Nat→eJ)→Nat→(Nat→eJ)
 | 0,f,_=>f
 | k+1,f,at_=>if pick f l at_=at_ then f else down l k (cN f at_ (pick f l at_)) (pick f l at_)
theorem EO{f:Nat→eJ}(h:at_=0∨iR f at_ ((at_ - 1) / 2)=false): up k f at_=(f,at_):=by
 cases k with
 | zero=>rfl
 | succ k=>
  rw[up,if_neg];rintro⟨h1,h2⟩;rcases h with h|h
  ·omega
  rw[h] at h2;cases h2
theorem NS{f:Nat→eJ}(h:0<at_)(h2:iR f at_ ((at_ - 1) / 2)=true): up (k+1) f at_=up k (cN f at_ ((at_ - 1) / 2)) ((at_ - 1) / 2):=by rw[up,if_pos ⟨h,h2⟩]
theorem yg{f:Nat→eJ}(h:pick f l at_=at_): down l k f at_=f:=by
 cases k with
 | zero=>rfl
 | succ k=>rw[down,if_pos h]
theorem yh{f:Nat→eJ}(h: ¬pick f l at_=at_): down l (k+1) f at_=down l k (cN f at_ (pick f l at_)) (pick f l at_):=by rw[down,if_neg h]
theorem SS(l:Nat): ∀ (k at_:Nat) (f:Nat→eJ),at_<l→(up k f at_).2<l
 | 0,_,_,h=>h
 | k+1,at_,f,h=>by
  rw[up];split
  ·exact SS l k _ _ aj
  exact h
def gl(f:Nat→eJ)(l at_:Nat): Nat→eJ:=down l l (up at_ f at_).1 (up at_ f at_).2
def jV(f:Nat→eJ)(l:Nat)(φ:Int→Option Int): Prop:=(∀ i,i<l→φ (f i).bc=some (i:Int))∧∀ h i,φ h=some i→∃ j:Nat,j<l∧i=(j:Int)∧(f j).bc=h
end Hp
end
section
namespace tR
def CL(a b c:Int): Bool:=decide (1≤a∧a≤1024∧1≤b∧b≤4096∧1≤c∧c≤64)
variable{a b c:Int}
theorem lL(h:CL a b c=true): 1≤a∧a≤1024∧1≤b∧b≤4096∧1≤c∧c≤64:=by simpa[CL] using h
theorem UN(h:CL a b c=false): a<1∨1024<a∨b<1∨4096<b∨c<1∨64<c:=by
 simp only[CL,decide_eq_false_iff_not] at h;omega
def Oz(n:Int): Bool:=n==64||n==128||n==256||n==512||n==1024||n==2048||n==4096
theorem vS{n:Int}: Oz n=true↔(n=64∨n=128∨n=256∨n=512∨n=1024∨n=2048∨n=4096):=by simp[Oz,or_assoc]
def up(n m:Int): Int:=(n+m - 1) / m
theorem VD{k n m:Int}(hm:1≤m): k<up n m↔k*m<n:=by
 unfold up;rw[Int.lt_iff_add_one_le,Int.le_ediv_iff_mul_le aj,Int.add_mul];omega
theorem agp{k n m:Int}(hm:1≤m): up n m≤k↔n≤k*m:=by
 have:=@VD k n m hm;omega
theorem SR{n m:Int}(hn:1≤n)(hm:1≤m): 1≤up n m:=by
 have:=(@VD 0 n m hm).2 aj;omega
theorem SU{n m:Int}(hn:0≤n)(hm:1≤m): up n m≤n:=by
 rw[agp hm];have:=Int.mul_le_mul_of_nonneg_left hm hn;omega
def image(a b:Int): Int:=20+14*min a b
theorem VM(h:1≤a)(h':1≤b): 34≤image a b:=Le
theorem VN{a b:Int}(h:a≤1024): image a b≤14356:=Le
def slot(a b m:Int): Int:=1+up (image a b) m
def QC(a b m:Int): Int:=2*slot a b m+up 54 m
structure ak3(a b c m:Int): Prop where
 a1:1≤a
 a2:a≤1024
 b1:1≤b
 b2:b≤4096
 c1:1≤c
 c2:c≤64
 m1:64≤m
 m2:m≤4096
 i1:34≤image a b
 i2:image a b≤14356
 s1:2≤slot a b m
 s2:slot a b m≤14357
 u1:1≤up 54 m
 u2:up 54 m≤54
theorem ZY{m:Int} (hs:CL a b c=true)(hz:Oz m=true): ak3 a b c m:=by
 obtain⟨h1,h2,h3,h4,h5,h6⟩:=lL hs;have hm:=vS.1 hz;have hi:=VM h1 h3;have hj:=@VN a b h2;have hu:=@SR (image a b) m aj aj;have hv:=@SU (image a b) m aj aj;have hw:=@SR 54 m aj aj;have hx:=@SU 54 m aj aj;exact⟨h1,h2,h3,h4,h5,h6,aj,aj,hi,hj,by unfold slot;omega,by unfold slot;omega,hw,hx⟩
def okD(n m:Int): Bool:=decide (1≤n) && (decide (n≤65536) && (Oz m && decide (n*m≤67108864)))
