import Derived.WalkKit
import Derived.WalkSpells
import Derived.WalkLawsBesides
import Derived.Deep.QuietTactic
import Derived.BigQuiet
import Derived.Deep.RegionHeld3
import Derived.Deep.DrawnRows
import Derived.Deep.AppendLies
import Derived.Outline
import Derived.Lib.Hide
import Derived.Laws.IdiomStrings
import Derived.Deep.MidRow
import Derived.Laws.Rows
import Derived.Laws.AppendOwn
import Derived.Maps.OwnSet
import Derived.Maps.OwnOps
import Derived.Maps.AppendAt
import Derived.StillTail
import Derived.OwnWalk
import Derived.RangeFuncNested
import Derived.RangeFuncBound
import Derived.RangeFuncLeaves
import Derived.OwnWalkIn
import Derived.TacticsInMore
import Derived.LoopNIn
import Derived.LoopIn
set_option linter.all false
set_option maxRecDepth 100000
set_option maxHeartbeats 16000000
namespace Go.Proofs.YtemighjbfanenaaGreatDoor
open RowKit
open Go.AllReadyH renaming cons→pw
open Go.ChangeMaps renaming setBlock→YJ
open Go.DataW.held renaming injEq→YM
open Go.Instr renaming lookup→Nt
open Go.Lit renaming int→jA
open Go.Maps renaming atKey_put_other→YK,atKey_put_same→aga,size→sP
open Go.Oper renaming wp→iG
open Go.Region renaming wanted→wy,waitsFor→Nu,free→Cs,ready→lO,noSelect_spec→Nw,waitsFor_spec→YQ,binds→sO,free_spec→YE,noSelect→Cq,Mode→qM
open Go.Result renaming andThen→iY
open Go.Value renaming ownBlock→gU
open Go.World renaming ownsMap_made→YR
open List renaming getElem?_eq_none→gW,getElem?_take→mP,length_append→bZ,getElem?_append_left→qN,getElem?_toArray→YN,getElem?_append_right→qO
open Nat renaming zero_le→cx,lt_or_ge→lp,succ_mul→pq,le_trans→aV,div_lt_iff_lt_mul→adJ,zero_add→gV,mul_le_mul_right→gX,lt_of_lt_of_le→aU,le_refl→aY
open Ne renaming symm→Pw
open Option.some renaming injEq→YO
open Prod.mk renaming injEq→Nv
open RowKit.Below renaming heap_setCell→dJ
open True renaming intro→adI
open _root_.Array renaming getElem?_eq_getElem→mO,getElem?_setIfInBounds→Ep,ext_getElem?→YL,getElem?_eq_some_iff→eL,getElem?_toList→dK,setIfInBounds_comm→GZ,size_setIfInBounds→YP,getElem?_eq_none→Kj
theorem acj{p:Prop}(h:p:=by
 obtain⟨cs',h4,h5,h6,_⟩:=fR g t cells.toList 0 w cs hg fZ;refine h _ ?_ h2 h3;have e:cs'=cells:=by
  apply YL;intro j;rcases lp j cells.size with hj|hj
  ·have:=h6 j Am;rw[gV] at this;rw[this];simp
  rw[Kj ai,Kj hj]
 rw[e] at h4;exact h4):p:=h
theorem Oi{p:Prop}(h:p:=by
 have hp':tmps[p]?.getD undef= .pointer (some ad):=S3;simp[results,h,hp',asAddr,hl]):p:=h
theorem ab3{p:Prop}(h:p:=by
 refine⟨fun h=>AB,fun j hj=>?_⟩;by_cases e:j=i
 ·subst e;exact hy.wpOp hi hS AJ
 have h0:=ready_mono hj e;rw[H.1] at h0;cases h0):p:=h
theorem Vc{p:Prop}(h:p:=by
 exact⟨Maps.has_put_same ho.isMap (k:=.int q j) adI _,aga ho.isMap (k:=.int q j) adI _ _⟩):p:=h
theorem Va{p:Prop}(h:p:=by
 rcases lp i listed.size with h1|h1
 ·simp[h1] at QG ⊢;exact QG
 simp[Kj h1] at QG):p:=h
theorem U'{p:Prop}(h:p:=by
 subst e1;rw[aG] at ha;rw[ha] at hh;injection hh with hh
 injection hh with _ h2
 exact ht h2):p:=h
theorem U9{p:Prop}(h:p:=by
 obtain⟨es,aq,hb,F,hs,rfl⟩:=h;exact⟨es,aq,hb,F,by simp[sP,length_sorted],rfl⟩):p:=h
theorem fZ{p:Prop}(h:p:=by simp;omega):p:=h
theorem AJ{p:Prop}(h:p:=by rw[if_neg hit];exact⟨hS,H⟩):p:=h
theorem uy{p:Prop}(h:p:=by simpa[gU] using hg):p:=h
theorem uu{p:Prop}(h:p:=by injection e):p:=h
theorem AB{p:Prop}(h:p:=by rw[h] at hr;cases hr):p:=h
theorem Am{p:Prop}(h:p:=by simpa using hj):p:=h
theorem KW{p:Prop}(h:p:=by unfold image;omega):p:=h
theorem S3{p:Prop}(h:p:=by simpa using hp):p:=h
theorem mA{p:Prop}(h:p:=by rw[e]):p:=h
section
section
variable{p:Prop}{a w v:World}{g:Nat}{t:TypeId}{cs:Array Value}
theorem ai(h:p:=by omega): p:=h
theorem aM(h:p:=by decide): p:=h
theorem bh(h:p:=by kernel_rfl): p:=h
theorem dM(h:p:=by simp): p:=h
theorem iI(h:p:=by rfl): p:=h
theorem ZF{k:IntKind}{a b:Int}(h:a=b): Ending.returned (.int k a)= .returned (.int k b):=by rw[h]
theorem ky{a b:Bool}(h:a=b): Ending.returned (.bool a)= .returned (.bool b):=by rw[h]
theorem BP{W w1:World}(hb:Below W.heap.size W w1): (∀ b o,b<W.heap.size→w1.cell? ⟨b,o,none⟩=W.cell? ⟨b,o,none⟩)∧(∀ b o,b<W.heap.size→w1.frozen? ⟨b,o,none⟩=W.frozen? ⟨b,o,none⟩):=
 ⟨fun b o h=>hb.cell (p:=⟨b,o,none⟩) h,fun b o h=>hb.frozen (p:=⟨b,o,none⟩) h⟩
theorem av{b c:World} (h:Below a.heap.size a b)(k:Below b.heap.size b c): Below a.heap.size a c:=h.trans (k.mono h.size)
theorem ay(h:Below a.heap.size a w)(o:Obj): Below a.heap.size a (w.alloc o):=h.alloc h.size o
theorem az(h:Below a.heap.size a w): Below a.heap.size a w.drew:=h.drew
theorem aQ(h:Below a.heap.size a w)(n:Nat): Below a.heap.size a (w.drewN n):=⟨h.os,h.tape,h.output,h.size,h.block⟩
theorem eD(h:Below a.heap.size a w){p:Addr}(hp:a.heap.size≤p.block)(u:Value): Below a.heap.size a (w.setCell p u):=h.setCell hp u
def aG(w:World)(g:Nat)(t:TypeId)(cs:Array Value): Prop:=w.heap[g]? =some (.cells cs t (0,0))
theorem aG.lt(h:aG w g t cs): g<w.heap.size:=by
 rcases lp g w.heap.size with h1|h1
 ·exact h1
 rw[aG,Kj h1] at h;cases h
theorem aG.cell(h:aG w g t cs)(i:Nat): w.cell? ⟨g,i,none⟩=cs[i]?:=by rw[aG] at h;simp[World.cell?,h]
theorem aG.mark(h:aG w g t cs)(i:Nat): w.frozen? ⟨g,i,none⟩=false:=by rw[aG] at h;simp[World.frozen?,h]
theorem aG.fresh(w:World)(t:TypeId)(cs:Array Value): aG (w.alloc (.cells cs t)) w.heap.size t cs:=by exact heap_alloc_new w _
theorem aG.new(h:g=w.heap.size): aG (w.alloc (.cells cs t)) g t cs:=by subst h;exact aG.fresh w t cs
theorem aG.drew(h:aG w g t cs): aG w.drew g t cs:=h
theorem aG.drewN(h:aG w g t cs)(n:Nat): aG (w.drewN n) g t cs:=h
theorem aG.alloc(h:aG w g t cs)(o:Obj): aG (w.alloc o) g t cs:=
 (Below.heap_alloc w o g h.lt).trans h
theorem aG.put(h:aG w g t cs)(i:Nat)(u:Value): aG (w.setCell ⟨g,i,none⟩ u) g t (cs.setIfInBounds i u):=by rw[aG] at h;simp[aG,World.setCell,Array.getElem?_modify,h]
theorem aG.other(h:aG w g t cs){p:Addr}(hp:g≠p.block)(u:Value): aG (w.setCell p u) g t cs:=
 (dJ w p u g hp).trans h
theorem aG.ah{w':World} (h:aG w g t cs)(hb:Below w.heap.size w w'): aG w' g t cs:=
 (hb.block g h.lt).trans h
theorem pO{base:Nat}{e:TypeId}{size n:Nat}{v:Value}{xs:List Value}(h:w.ownsRow base e size v n xs): ∀ k,v.ownBlock=some k→base≤k:=by
 intro k hk;rcases h.2 with⟨rfl,_⟩|⟨g,cap,cur,rfl,hb,_⟩
 ·simp[gU] at hk
 simp[gU] at hk;omega
theorem ae{α:Sort _}(a:α): ∃ x,a=x:=⟨a,rfl⟩
theorem aJ{b:Nat}(h:w.alloc (.cells cs t)=v)(hb:w.heap.size=b): aG v b t cs:=by rw[←h,←hb];exact aG.fresh w t cs
theorem aK{o:Obj}(h:w.alloc o=v): Below w.heap.size w v:=by rw[←h];exact ay (Below.refl _ _) _
theorem ek{o:Obj}(hw:Below a.heap.size a w)(h:w.alloc o=v): Below a.heap.size a v:=by rw[←h];exact ay hw _
theorem gR[Decidable p](h: ¬p:=by omega): decide p=false:=decide_eq_false h
theorem zA[Decidable p](h:p:=by omega): decide p=true:=decide_eq_true h
theorem bQ{a b:Int}(h:a≠b:=by omega): (a==b)=false:=beq_eq_false_iff_ne.2 h
def Hx_(p:Prop): Prop:=p
theorem aa(h:p): Hx_ p:=h
theorem Hx_.o(h:Hx_ p): p:=h
theorem Hx_.jC{w':World} (h:Hx_ (aG w g t cs))(hb:Below w.heap.size w w'): Hx_ (aG w' g t cs):=aG.ah h hb
theorem Hx_.dQ{b c:World} (h:Hx_ (Below a.heap.size a b))(hb:Below b.heap.size b c): Hx_ (Below a.heap.size a c):=av h hb
theorem ag{P:Program}{f:FuncId}{args:Array Value}{R:Ending→World→Prop}{e:Ending}(h:Calls P f args w fun e' w'=>e'=e∧w'=w)(k:R e w): Calls P f args w R:=
 h.mono fun _ _ h=>by obtain⟨rfl,rfl⟩:=h;exact k
theorem aG.cl(h:aG w g t cs)(i:Nat){v:Value}(hv:cs[i]? =some v:=by(simp only[List.getElem?_toArray,List.getElem?_cons_zero,List.getElem?_cons_succ];exact rfl)): w.cell? ⟨g,i,none⟩=some v:=(h.cell i).trans hv
end
section
theorem qA(g j:Nat): (⟨g,0,none⟩:Addr).add j=⟨g,j,none⟩:=by
 unfold Addr.add;split
 ·subst_vars;rfl
 simp
end
section
variable{w:World}{g:Nat}{P:Program}
theorem aG.grown{w':World} {g':Nat} {t:TypeId}{cs:Array Value}(h:aG w g t cs)(hg:w.grownBy w' (some g'))(hne:g≠g'): aG w' g t cs:=
 (hg.block g h.lt (by simpa using hne)).trans h
theorem br{a w':World} (h:Below a.heap.size a w)(hg:w.grownBy w' (some g))(hb:a.heap.size≤g): Below a.heap.size a w':=
 h.grown hg h.size (fun k hk=>by injection hk with hk;omega)
theorem dw(g:Nat): ∀ (vs:List Value) (o:Nat) (w:World),w.grownBy (w.setCells g o vs) (some g)∧(w.setCells g o vs).heap.size=w.heap.size
 | [],_,w=>⟨⟨rfl,rfl,rfl,aY _,fun _ _ _=>rfl⟩,rfl⟩
 | v::r,o,w=>by
  obtain⟨h1,h2⟩:=dw g r (o+1) (w.setCell ⟨g,o,none⟩ v);have hs:(w.setCell ⟨g,o,none⟩ v).heap.size=w.heap.size:=by simp[World.setCell]
  refine⟨⟨h1.os.trans rfl,h1.tape.trans rfl,h1.output.trans rfl,by have:=h1.size;show w.heap.size≤((w.setCell ⟨g,o,none⟩ v).setCells g (o+1) r).heap.size;omega,fun k hk hne=>?_⟩,h2.trans hs⟩;have hkg:k≠g:=fun e=>hne mA
  exact(h1.block k ai hne).trans (dJ w ⟨g,o,none⟩ v k hkg)
theorem fR(g:Nat)(t:TypeId): ∀ (vs:List Value) (o:Nat) (w:World) (cs:Array Value),aG w g t cs→o+vs.length≤cs.size→
  ∃ cs',aG (w.setCells g o vs) g t cs'∧cs'.size=cs.size∧(∀ j,j<vs.length→cs'[o+j]? =vs[j]?)∧(∀ j,j<o∨o+vs.length≤j→cs'[j]? =cs[j]?)
 | [],_,_,cs,h,_=>⟨cs,h,rfl,fun j hj=>absurd hj dM,fun _ _=>rfl⟩
 | v::r,o,w,cs,h,hl=>by
  have hl':o+(r.length+1)≤cs.size:=by simpa using hl
  obtain⟨cs',h1,h2,h3,h4⟩:=fR g t r (o+1) (w.setCell ⟨g,o,none⟩ v) _ (h.put o v) (by rw[YP];omega);rw[YP] at h2;refine⟨cs',h1,h2,fun j hj=>?_,fun j hj=>?_⟩
  ·match j with
   | 0=>
    have:=h4 o (.inl ai);rw[Nat.add_zero,this,Ep,if_pos rfl,if_pos ai];rfl
   | j+1=>
    have:=h3 j Am;rw[show o+(j+1)=o+1+j from ai,this];rfl
  have DO:j<o∨o+(r.length+1)≤j:=Am;rw[h4 j ai,Ep,if_neg ai]
theorem aC{ops:Array Oper}{rest:List Oper}{o:Oper}{a:Act}{Q:Exit→Act→World→Prop}(hgd:o.guard=none)(ty:TypeId)(x:Operand)(ho:o.op= .load ty x)
  (g:Nat) (t:TypeId) (cs:Array Value) (hg:aG w g t cs) (hx:a.eval x= .pointer (some ⟨g,0,none⟩)) (d:TypeDesc)
  (hu:P.underlying ty=some d) (hd:(match d with| .struct _| .array _ _=>true|_=>false)=true) (hi:(P.info? ty).map (·.size)=some cs.size)
  (h:wpList P ops Q rest (a.put o.dst (.agg cs)) w):wpList P ops Q (o::rest) a w:=
 wpList_load_row hgd ty x ho g hx t cs (0,0) d hg hu hd hi h
theorem aj{ops:Array Oper}{rest:List Oper}{o:Oper}{a:Act}{Q:Exit→Act→World→Prop}(hgd:o.guard=none)(ty:TypeId)(x y:Operand)(ho:o.op= .store ty x y)
  (g:Nat) (t:TypeId) (cs cells:Array Value) (hg:aG w g t cs) (hx:a.eval x= .pointer (some ⟨g,0,none⟩)) (hy:a.eval y= .agg cells) (hsz:cells.size=cs.size)
  (hi:(P.info? ty).map (·.size)=some cells.size) (h1:cells.all (·.oneCell')=true)
  (h: ∀ w',aG w' g t cells→w.grownBy w' (some g)→w'.heap.size=w.heap.size→wpList P ops Q rest (a.put o.dst undef) w'):wpList P ops Q (o::rest) a w:=by
 refine wpList_store_mid hgd ty x y ho g 0 cells hx hy (fun j hj=>?_) hi h1 ?_
 ·rw[gV,hg.cell j,hg.mark j];rw[mO ai];exact⟨rfl,rfl⟩
 ·obtain⟨h2,h3⟩:=dw g cells.toList 0 w;exact acj
theorem aL{t:TypeId}{cs:Array Value}(ty:TypeId)(hg:aG w g t cs)(d:TypeDesc)
 (hu:P.underlying ty=some d) (hd:(match d with| .struct _| .array _ _=>true|_=>false)=true) (hi:(P.info? ty).map (·.size)=some cs.size) :
 (loadVar ty ⟨g,0,none⟩).run P w= .ok (.agg cs) w:=run_loadVar_row w g t ty cs (0,0) d hg hu hd hi
theorem results_cell_tmp{fn:Func}{p q:Tmp}{ty:TypeId}(h:fn.results= #[.cell p ty,.tmp q])(tmps:Array Value){ad:Addr}{v:Value}
  (hp:tmps.getD p undef= .pointer (some ad)) (hl:(loadVar ty ad).run P w= .ok v w):(results fn tmps).run P w= .ok (.tuple #[v,tmps.getD q undef]) w:=by
 exact Oi
theorem dy{fn:Func}{p:Tmp}{ty:TypeId}(h:fn.results= #[.cell p ty])(tmps:Array Value){ad:Addr}{v:Value}
  (hp:tmps.getD p undef= .pointer (some ad)) (hl:(loadVar ty ad).run P w= .ok v w):(results fn tmps).run P w= .ok v w:=by
 exact Oi
end
section
theorem pJ{P:Program}{ops:Array Oper}{Q:Exit→Act→World→Prop}{md:qM}{S:World→Prop}{i:Nat}{oi:Oper}{d:Option Tmp}{v:Value}{fuel:Nat}{listed:Array Bool}{a:Act}{w:World}
  (hi:ops[i]? =some oi) (hs:Cq ops=true) (hf:Cs md ops listed i=true) (hr:(lO md ops listed).contains i=true)
  (hQ: ∀ c a w,Q (.panic c) (a.put d v) w→Q (.panic c) a w) (hd:oi.dst=d) (hw:wy oi (yielded ops a.tmps)=true)
  (hy: ∀ w,S w→(execOp a.eval oi).run P w= .ok (.value v) w) (hS:S w)
  (h:wpAnyH P md ops Q S fuel (listed.setIfInBounds i true) (a.put d v) w):wpAnyH P md ops Q S (fuel+1) listed a w:=by
 subst hd;exact wpAnyH_take hi hs hf hr hQ (.inl ⟨hw,hy⟩) hS h
theorem NP{P:Program}{ops:Array Oper}{Q:Exit→Act→World→Prop}{md:qM}{S:World→Prop}{i:Nat}{oi:Oper}{d:Option Tmp}{fuel:Nat}{listed:Array Bool}{a:Act}{w:World}
  (hi:ops[i]? =some oi) (hs:Cq ops=true) (hf:Cs md ops listed i=true) (hr:(lO md ops listed).contains i=true)
  (hQ: ∀ c a w,Q (.panic c) (a.put d undef) w→Q (.panic c) a w) (hd:oi.dst=d) (hw:wy oi (yielded ops a.tmps)=false) (hS:S w)
  (h:wpAnyH P md ops Q S fuel (listed.setIfInBounds i true) (a.put d undef) w):wpAnyH P md ops Q S (fuel+1) listed a w:=by
 subst hd;exact wpAnyH_take hi hs hf hr hQ (.inr ⟨hw,rfl⟩) hS h
end
section
variable{w w':World}{n size:Nat}{e:TypeId}{v:Value}{xs:List Value}
theorem eP{base g:Nat} (h:w.ownsRow base e size v n xs)(hg:v.ownBlock=some g): g<w.heap.size∧base≤g:=by
 rcases h.2 with⟨rfl,_⟩|⟨g',cap,cur,rfl,hb,hh,_⟩
 ·simp[gU] at hg
 have:g'=g:=uy;subst this;exact⟨(eL.1 hh).1,hb⟩
theorem cB{base:Nat} (h:w.ownsRow base e size v n xs): ∃ A c,v= .slice A n c:=by
 rcases h.2 with⟨rfl,rfl⟩|⟨g',cap,cur,rfl,_⟩
 ·exact⟨_,_,rfl⟩
 exact⟨_,_,rfl⟩
theorem IC{base:Nat} (h:w.ownsRow base e size v (n+1) xs): ∃ g cap,v= .slice (some ⟨g,0,none⟩) (n+1) cap:=by
 rcases h.2 with⟨_,h0⟩|⟨g,cap,_,rfl,_⟩
 ·omega
 exact⟨g,cap,rfl⟩
theorem xL{base:Nat} (h:w.ownsRow base e size v n xs)(hv:v≠ .slice none 0 0): ∃ g cap,v= .slice (some ⟨g,0,none⟩) n cap:=by
 rcases h.2 with⟨h0,_⟩|⟨g,cap,_,rfl,_⟩
 ·exact absurd h0 hv
 exact⟨g,cap,rfl⟩
theorem eB{base:Nat} (h:w.ownsRow base e size v n xs)(hk: ∀ g,v.ownBlock=some g→w'.heap[g]? =w.heap[g]?): w'.ownsRow base e size v n xs:=by
 refine⟨h.1,?_⟩;rcases h.2 with h0|⟨g,cap,cur,hv,hb,hh,hr⟩
 ·exact .inl h0
 exact .inr ⟨g,cap,cur,hv,hb,(hk g (by rw[hv];rfl)).trans hh,hr⟩
theorem fP{base:Nat} (h:w.ownsRow base e size v n xs)(hb:Below w.heap.size w w'): w'.ownsRow base e size v n xs:=
 eB h fun g hg=>hb.block g (eP h hg).1
theorem fj{base base':Nat} (h:w.ownsRow base e size v n xs)(hb:base'≤base): w.ownsRow base' e size v n xs:=by
 refine⟨h.1,?_⟩;rcases h.2 with h0|⟨g,cap,cur,hv,hg,hr⟩
 ·exact .inl h0
 exact .inr ⟨g,cap,cur,hv,aV hb hg,hr⟩
theorem sV(w:World)(base size:Nat)(e:TypeId): w.ownsRow base e size (.slice none 0 0) 0 []:=⟨dM,.inl ⟨rfl,rfl⟩⟩
theorem aG.app{g:Nat}{t:TypeId}{cs:Array Value}{base:Nat} (h:aG w g t cs)(ho:w.ownsRow base e size v n xs)(hg:w.grownBy w' v.ownBlock)(hb:g<base): aG w' g t cs:=
 (hg.block g h.lt (fun e=>by have:=eP ho e.symm;omega)).trans h
theorem iC{a:World} {base:Nat} (h:Below a.heap.size a w)(ho:w.ownsRow base e size v n xs)(hg:w.grownBy w' v.ownBlock)(hb:a.heap.size≤base): Below a.heap.size a w':=
 h.grown hg h.size (fun k hk=>by have:=eP ho hk;omega)
end
section
structure aI(S:Nat→Prop)(w w':World): Prop where
 os:w'.os=w.os
 tape:w'.tape=w.tape
 output:w'.output=w.output
 size:w.heap.size≤w'.heap.size
 block: ∀ k,k<w.heap.size→¬S k→w'.heap[k]? =w.heap[k]?
theorem aI.refl(S:Nat→Prop)(w:World): aI S w w:=⟨rfl,rfl,rfl,aY _,fun _ _ _=>rfl⟩
variable{S:Nat→Prop}{a w w':World}
theorem aI.alloc(h:aI S a w)(o:Obj): aI S a (w.alloc o):=
 ⟨h.os,h.tape,h.output,by have:=h.size;simp;omega,fun k hk hS=>(heap_alloc_old w o (aU hk h.size)).trans (h.block k hk hS)⟩
theorem aI.put(h:aI S a w){p:Addr}(hp:S p.block∨a.heap.size≤p.block)(u:Value): aI S a (w.setCell p u):=
 ⟨h.os,h.tape,h.output,by have:=h.size;simp;omega,fun k hk hS=>(dJ w p u k (fun e=>by rcases hp with hp|hp;exact hS (e▸hp);omega)).trans (h.block k hk hS)⟩
theorem aI.ak(h:aI S a w)(hb:Below w.heap.size w w'): aI S a w':=
 ⟨hb.os.trans h.os,hb.tape.trans h.tape,hb.output.trans h.output,aV h.size hb.size,fun k hk hS=>(hb.block k (aU hk h.size)).trans (h.block k hk hS)⟩
theorem aI.grown{r:Option Nat}(h:aI S a w)(hg:w.grownBy w' r)(hr: ∀ k,r=some k→S k∨a.heap.size≤k): aI S a w':=
 ⟨hg.os.trans h.os,hg.tape.trans h.tape,hg.output.trans h.output,aV h.size hg.size,fun k hk hS=>(hg.block k (aU hk h.size) (fun e=>by rcases hr k e.symm with h1|h1;exact hS h1;omega)).trans (h.block k hk hS)⟩
theorem aI.trans{b c:World} (h:aI S a b)(k:aI S b c): aI S a c:=
 ⟨k.os.trans h.os,k.tape.trans h.tape,k.output.trans h.output,aV h.size k.size,fun j hj hS=>(k.block j (aU hj h.size) hS).trans (h.block j hj hS)⟩
theorem aI.mono{T:Nat→Prop} {b:World} (h:aI S a b)(p7: ∀ k,k<a.heap.size→S k→T k): aI T a b:=
 ⟨h.os,h.tape,h.output,h.size,fun j hj hT=>h.block j hj (fun hS=>hT (p7 j hj hS))⟩
theorem aI.nz(hb:Below a.heap.size a w)(h:aI S w w')(hS: ∀ k,S k→a.heap.size≤k): Below a.heap.size a w':=
 ⟨h.os.trans hb.os,h.tape.trans hb.tape,h.output.trans hb.output,aV hb.size h.size,fun k hk=>(h.block k (aU hk hb.size) (fun hs=>by have:=hS k hs;omega)).trans (hb.block k hk)⟩
theorem aI.arr{g:Nat}{t:TypeId}{cs:Array Value}(h:aI S w w')(ha:aG w g t cs)(hg: ¬S g): aG w' g t cs:=
 (h.block g ha.lt hg).trans ha
theorem aI.own{base n size:Nat}{e:TypeId}{v:Value}{xs:List Value}(h:aI S w w')(ho:w.ownsRow base e size v n xs)(hg: ∀ g,v.ownBlock=some g→¬S g): w'.ownsRow base e size v n xs:=
 eB ho fun g e=>h.block g (eP ho e).1 (hg g e)
end
section
open Go.RowKit Go.Maps
def dt(P:Program)(k e:TypeId)(q:IntKind)(w:World)(b n:Nat)(φ:Int→Option Int): Prop:=
 ∃ D:DataW Unit,w.ownsMap P k (plainElem P e) b n D∧sP D=n∧∀ i,Maps.has D (.int q i)=(φ i).isSome∧D.atKey (.int q i) (.lit (.int .i64 0))= .lit (.int .i64 ((φ i).getD 0))
def tK(φ:Int→Option Int)(i:Int)(v:Option Int): Int→Option Int:=fun j=>if j=i then v else φ j
theorem ft(φ:Int→Option Int)(i:Int)(v:Option Int): tK φ i v i=v:=if_pos rfl
variable{i:Int}{P:Program}{k e t:TypeId}{w:World}{b n:Nat}{φ:Int→Option Int}
theorem cT(φ:Int→Option Int){j:Int} (v:Option Int)(h:j≠i): tK φ i v j=φ j:=if_neg h
theorem tY{H:Type}{R:Value→Option (DataW H × List MemPlace)}{D:DataW H}(h:w.ownsMap P k R b n D): w.ownsMap P k R b (sP D) D:=by
 exact U9
theorem dt.made(P:Program)(k e:TypeId)(q:IntKind)(w:World): dt P k e q (w.alloc (.map #[] 0)) w.heap.size 0 (fun _=>none):=
 ⟨.map [],YR w P k _,rfl,fun i=>⟨rfl,rfl⟩⟩
theorem dt.lt{q:IntKind}(h:dt P k e q w b n φ): b<w.heap.size:=by obtain⟨D,ho,_⟩:=h;exact ho.lt
theorem dt.same{q:IntKind}{w':World} (h:dt P k e q w b n φ)(hk:w'.heap[b]? =w.heap[b]?): dt P k e q w' b n φ:=by
 obtain⟨D,⟨es,aq,hb,r⟩,hs,hf⟩:=h;exact⟨D,⟨es,aq,hk.trans hb,r⟩,hs,hf⟩
theorem dt.alloc{q:IntKind}(h:dt P k e q w b n φ)(o:Obj): dt P k e q (w.alloc o) b n φ:=h.same (heap_alloc_old w o h.lt)
theorem FB{q:IntKind}{j:Int} (h:j≠i): jA q j≠jA q i:=fun e=>h uu
theorem dt.put{q:IntKind}(h:dt P k e q w b n φ)(hk:P.underlying k=some (.int q))(he:P.underlying e=some (.int .i64))(ht:P.underlying t=some (.map k e))(hn:n<maxLen){v:Int} (hi:(jA q i).wf=true)(hv:(jA .i64 v).wf=true):
  ∃ w',(Instr.mapUpdate t (.map (some b)) (.int q i) (.int .i64 v)).run P w= .ok () w'∧dt P k e q w' b (if(φ i).isSome then n else n+1) (tK φ i (some v))∧w.grownBy w' (some b):=by
 obtain⟨D,ho,hs,hf⟩:=h;obtain⟨w',hrun,h1,h2⟩:=ho.update (int_keyed hk) ht hn (keyOf_int_mk hk hi) (plainElem_int he hv);have hsz:sP (D.put (.int q i) (.lit (.int .i64 v)))=if(φ i).isSome then n else n+1:=by rw[Maps.size_put (ho.tidy (int_keyed hk)),(hf i).1,hs]
 refine⟨w',hrun,⟨_,hsz▸tY h1,hsz,fun j=>?_⟩,h2⟩;by_cases e1:j=i
 ·subst e1;rw[ft];exact Vc
 ·rw[cT _ _ e1,Maps.has_put_other (FB e1),YK (FB e1)];exact hf j
theorem dt.look{q:IntKind}(h:dt P k e q w b n φ)(hk:P.underlying k=some (.int q))(he:P.underlying e=some (.int .i64))(ht:P.underlying t=some (.map k e))(hz:(zeroValue e).run P w= .ok (.int .i64 0) w)(hi:(jA q i).wf=true):
  (Nt t (.map (some b)) (.int q i) true).run P w= .ok (.tuple #[.int .i64 ((φ i).getD 0),.bool (φ i).isSome]) w:=by
 obtain⟨D,ho,hs,hf⟩:=h;have hw0:(jA .i64 0).wf=true:=aM;obtain⟨v,ps,hrun,hv⟩:=ho.look_ok (int_keyed hk) ht hz (plainElem_int he hw0) (keyOf_int_mk hk hi);obtain⟨c,rfl,hc,hwc⟩:=plainElem_int_inv he hv;rw[hrun,(hf i).1];rw[(hf i).2] at hc;simp only[Nv] at hc;have hc1:=hc.1;injection hc1 with hc1
 injection hc1 with _ hc1
 rw[hc1]
theorem dt.drop{q:IntKind}(h:dt P k e q w b n φ)(hk:P.underlying k=some (.int q))(ht:P.underlying t=some (.map k e))(hi:(jA q i).wf=true)(ty:TypeId):
  ∃ w',(Builtin.delete_ #[t,k] ty #[.map (some b),.int q i]).run P w= .ok (.tuple #[]) w'∧dt P k e q w' b (if(φ i).isSome then n - 1 else n) (tK φ i none)∧w.grownBy w' (some b):=by
 obtain⟨D,ho,hs,hf⟩:=h;obtain⟨w',hrun,h1,h2⟩:=ho.drop (int_keyed hk) ht (keyOf_int_mk hk hi) ty;have hsz:sP (D.del (.int q i))=if(φ i).isSome then n - 1 else n:=by
  have:=Maps.size_del (k:=.int q i) (ho.tidy (int_keyed hk));rw[(hf i).1,hs] at this;split at this <;>split <;>first|omega|(exfalso;simp_all)
 refine⟨w',hrun,⟨_,hsz▸tY h1,hsz,fun j=>?_⟩,h2.grown⟩;by_cases e1:j=i
 ·subst e1;rw[ft];exact⟨Maps.has_del_same,Maps.atKey_del_same _⟩
 ·rw[cT _ _ e1,Maps.has_del_other (FB e1),Maps.atKey_del_other (FB e1)];exact hf j
theorem gm{ops:Array Oper}{rest:List Oper}{o:Oper}{a:Act}{Q:Exit→Act→World→Prop}
  (hg:o.guard=none) (m x y:Operand) (t:TypeId) (hop:o.op=Op.mapUpdate t m x y) (k e:TypeId) (q:IntKind) (hk:P.underlying k=some (.int q)) (he:P.underlying e=some (.int .i64)) (ht:P.underlying t=some (.map k e))
  (b n:Nat) (φ:Int→Option Int) (hm:a.eval m= .map (some b)) (h:dt P k e q w b n φ) (hn:n<maxLen) (i v:Int) (hx:a.eval x= .int q i) (hy:a.eval y= .int .i64 v) (hi:(jA q i).wf=true) (hv:(jA .i64 v).wf=true)
  (hK: ∀ w',dt P k e q w' b (if(φ i).isSome then n else n+1) (tK φ i (some v))→w.grownBy w' (some b)→wpList P ops Q rest (a.put o.dst undef) w') :
  wpList P ops Q (o::rest) a w:=by
 refine wpList_plain hg fun K' hK'=>?_
 obtain⟨w',hrun,r1,r2⟩:=h.put hk he ht hn hi hv;unfold iG;simp[execOp,hop,hm,hx,hy,hrun,iY];exact hK' _ _ (hK w' r1 r2)
theorem lu{ops:Array Oper}{rest:List Oper}{o:Oper}{a:Act}{Q:Exit→Act→World→Prop}
  (hg:o.guard=none) (m x:Operand) (t:TypeId) (hop:o.op=Op.lookup t m x true) (k e:TypeId) (q:IntKind) (hk:P.underlying k=some (.int q)) (he:P.underlying e=some (.int .i64)) (ht:P.underlying t=some (.map k e)) (hz:(zeroValue e).run P w= .ok (.int .i64 0) w)
  (b n:Nat) (φ:Int→Option Int) (hm:a.eval m= .map (some b)) (h:dt P k e q w b n φ) (i:Int) (hx:a.eval x= .int q i) (hi:(jA q i).wf=true)
  (hK:wpList P ops Q rest (a.put o.dst (.tuple #[.int .i64 ((φ i).getD 0),.bool (φ i).isSome])) w) :
  wpList P ops Q (o::rest) a w:=by
 refine wpList_plain hg fun K' hK'=>?_
 have hrun:=h.look hk he ht hz hi;unfold iG;simp[execOp,hop,hm,hx,hrun,iY];exact hK' _ _ hK
end
section
def flat(c:Nat→List Value): Nat→List Value
 | 0=>[]
 | n+1=>flat c n++c n
variable{c:Nat→List Value}{sz i n g cap:Nat}{S:Nat→Prop}{w w':World}{e:TypeId}{v:Value}
theorem cy(h: ∀ i,(c i).length=sz): ∀ n,(flat c n).length=n*sz
 | 0=>by simp[flat]
 | n+1=>by rw[flat,bZ,cy h n,h n,pq]
theorem gC(h: ∀ i,(c i).length=sz): ∀ {n i j:Nat},i<n→j<sz→(flat c n)[i*sz+j]? =(c i)[j]?
 | 0,_,_,hi,_=>ai
 | n+1,i,j,hi,hj=>by
  rw[flat];rcases lp i n with h1|h1
  ·have:i*sz+j<n*sz:=by
    have:=gX sz (show i+1≤n from h1);rw[pq] at this;omega
   rw[qN (by rw[cy h n];exact this)];exact gC h h1 hj
  obtain rfl:i=n:=ai;rw[qO (by rw[cy h i];omega),cy h i];congr 1;omega
theorem lJ{d:Nat→List Value} : ∀ {n},(∀ i,i<n→c i=d i)→flat c n=flat d n
 | 0,_=>rfl
 | n+1,h=>by rw[flat,flat,lJ (fun i hi=>h i ai),h n ai]
def cK{α:Type}(c:Nat→α)(i:Nat)(x:α): Nat→α:=fun j=>if j=i then x else c j
theorem bL{α:Type}(c:Nat→α)(i:Nat)(x:α): cK c i x i=x:=if_pos rfl
theorem bn{α:Type}(c:Nat→α){j:Nat} (x:α)(h:j≠i): cK c i x j=c j:=if_neg h
theorem QS(c:Nat→List Value)(n:Nat)(x:List Value): flat (cK c n x) (n+1)=flat c n++x:=by rw[flat,bL,lJ (fun i hi=>bn c x ai)]
structure aP(S:Nat→Prop)(w:World)(e:TypeId)(sz:Nat)(v:Value)(n:Nat)(c:Nat→List Value): Prop where
 own:w.ownsRow 0 e sz v n (flat c n)
 block: ∀ g,v.ownBlock=some g→S g
theorem aP.same(h:aP S w e sz v n c)(hk: ∀ g,S g→g<w.heap.size→w'.heap[g]? =w.heap[g]?): aP S w' e sz v n c:=
 ⟨eB h.own fun g hg=>hk g (h.block g hg) (eP h.own hg).1,h.block⟩
theorem aP.ah(h:aP S w e sz v n c)(hk:Below w.heap.size w w'): aP S w' e sz v n c:=
 h.same fun g _ hg=>hk.block g hg
theorem aP.mono{T:Nat→Prop} (h:aP S w e sz v n c)(p7: ∀ g,S g→g<w.heap.size→T g): aP T w e sz v n c:=
 ⟨h.own,fun g hg=>p7 g (h.block g hg) (eP h.own hg).1⟩
theorem aP.nil(S:Nat→Prop)(w:World)(e:TypeId)(sz:Nat)(c:Nat→List Value): aP S w e sz (.slice none 0 0) 0 c:=
 ⟨sV w 0 sz e,fun g hg=>by simp[gU] at hg⟩
theorem aP.form(h:aP S w e sz v n c)(hn:0<n): ∃ g cap,v= .slice (some ⟨g,0,none⟩) n cap∧S g∧n≤cap∧cap≤maxLen∧g<w.heap.size:=by
 rcases h.own.2 with⟨_,h0⟩|⟨g,cap,cur,hv,_,hh,h1,h2,_⟩
 ·omega
 subst hv;exact⟨g,cap,rfl,h.block g rfl,h1,h2,(eL.1 hh).1⟩
theorem aP.any(h:aP S w e sz v n c): ∃ A cap,v= .slice A n cap:=by
 rcases h.own.2 with⟨hv,h0⟩|⟨g,cap,cur,hv,_⟩
 ·subst h0;exact⟨_,_,hv⟩
 exact⟨_,_,hv⟩
theorem aP.range(h:aP S w e sz (.slice (some ⟨g,0,none⟩) n cap) n c)(hc: ∀ i,(c i).length=sz)(hi:i<n): w.rangeAt g (i*sz) (c i):=by
 rcases h.own.2 with⟨hv,_⟩|⟨g',cap',cur,hv,_,hh,h1,h2,h3,h4⟩
 ·cases hv
 injection hv with e1 _ e2
 injection e1 with e1
 injection e1 with e1
 subst e1 e2;intro j u hj;have hjs:j<sz:=by rw[←hc i];exact(List.getElem?_eq_some_iff.1 hj).1
 have hlt:i*sz+j<n*sz:=by
  have:=gX sz (show i+1≤n from hi);rw[pq] at this;omega
 have hx:cur[i*sz+j]? =(c i)[j]?:=by rw[←gC hc hi hjs,←h4,mP,if_pos hlt,dK]
 simp only[World.cell?,hh];rw[←hj];exact hx
theorem aP.there(h:aP S w e sz (.slice (some ⟨g,0,none⟩) n cap) n c)(hc: ∀ i,(c i).length=sz)(hi:i<n): w.there g (i*sz) sz:=by
 intro j hj;have hr:=h.range hc hi;have h5:=hr j _ (List.getElem?_eq_getElem (by rw[hc i];exact hj));refine⟨by rw[h5];rfl,?_⟩;rcases h.own.2 with⟨hv,_⟩|⟨g',cap',cur,hv,_,hh,_⟩
 ·cases hv
 injection hv with e1 _ e2
 injection e1 with e1
 injection e1 with e1
 subst e1;simp[World.frozen?,hh]
theorem aP.store(h:aP S w e sz (.slice (some ⟨g,0,none⟩) n cap) n c)(hc: ∀ i,(c i).length=sz)(hi:i<n){vs:List Value}(hv:vs.length=sz):
  aP S (w.setCells g (i*sz) vs) e sz (.slice (some ⟨g,0,none⟩) n cap) n (cK c i vs):=by
 refine⟨?_,h.block⟩;rcases h.own.2 with⟨hv',_⟩|⟨g',cap',cur,hv',_,hh,h1,h2,h3,h4⟩
 ·cases hv'
 ·injection hv' with e1 _ e2
  injection e1 with e1
  injection e1 with e1
  subst e1 e2;have hmul:(i+1)*sz≤cap*sz:=gX sz ai;have ahf:(i+1)*sz≤n*sz:=gX sz ai;have ahe:n*sz≤cap*sz:=gX sz h1;rw[pq] at hmul ahf;obtain⟨cs',r1,r2,r3,r4⟩:=fR g e vs (i*sz) w cur hh ai;have hc': ∀ j,(cK c i vs j).length=sz:=fun j=>by unfold cK;split;exact hv;exact hc j
  refine⟨cy hc' n,.inr ⟨g,cap,cs',rfl,cx _,r1,h1,h2,ai,?_⟩⟩;apply List.ext_getElem?;intro k;rcases lp k (n*sz)with hk|hk
  ·have hsz:0<sz:=by rcases Nat.eq_zero_or_pos sz with h0|h0;· subst h0;omega
                     exact h0
   have DM:k / sz<n:=(adJ hsz).2 hk;have Mb:k % sz<sz:=Nat.mod_lt _ hsz;have hke:k / sz*sz+k % sz=k:=by rw[Nat.mul_comm];exact Nat.div_add_mod k sz
   rw[mP,if_pos hk,dK,←hke,gC hc' DM Mb];obtain⟨a,ha⟩:=ae (k / sz);obtain⟨b,hb⟩:=ae (k % sz);rw[ha,hb] at hke ⊢;rw[hb] at Mb;rw[ha] at DM;by_cases hai:a=i
   ·subst hai;rw[r3 b ai,bL]
   have hout:a*sz+b<i*sz∨i*sz+vs.length≤a*sz+b:=by
    rcases lp a i with h5|h5
    ·have:=gX sz (show a+1≤i from h5);rw[pq] at this;omega
    have:=gX sz (show i+1≤a from ai);rw[pq] at this;omega
   rw[r4 _ hout,bn c vs hai,←gC hc DM Mb,←h4,mP,if_pos ai,dK]
  rw[mP,if_neg ai,gW (by rw[cy hc' n];exact hk)]
theorem aP.snoc{v':Value} {x:List Value}(h:aP S w e sz v n c)(ho:w'.ownsRow 0 e sz v' (n+1) (flat c n++x))(hl:v'.ownBlock=v.ownBlock∨v'.ownBlock=some w.heap.size):
  aP (fun g=>S g∨g=w.heap.size) w' e sz v' (n+1) (cK c n x):=
 ⟨by rw[QS];exact ho,fun g hg=>by
  rcases hl with hl|hl
  ·exact .inl (h.block g (by rw[←hl];exact hg))
  rw[hg] at hl;injection hl with hl;exact .inr hl⟩
theorem fq{P:Program}{ops:Array Oper}{rest:List Oper}{o:Oper}{a:Act}{Q:Exit→Act→World→Prop}(hgd:o.guard=none)(ty:TypeId)(x:Operand)(ho:o.op= .load ty x)
  {S:Nat→Prop} {e:TypeId} {sz n g cap:Nat} {c:Nat→List Value} (h:aP S w e sz (.slice (some ⟨g,0,none⟩) n cap) n c) (hc: ∀ i,(c i).length=sz) (i:Nat) (hi:i<n) (hx:a.eval x= .pointer (some ⟨g,i*sz,none⟩)) (d:TypeDesc)
  (hu:P.underlying ty=some d) (hd:d.isRow=true) (hsz:(P.info? ty).map (·.size)=some sz)
  (hK:wpList P ops Q rest (a.put o.dst (.agg (c i).toArray)) w):wpList P ops Q (o::rest) a w:=
 wpList_load_mid hgd ty x ho g (i*sz) hx (c i) d (h.range hc hi) hu hd (by rw[hc i];exact hsz) hK
theorem cX{P:Program}{ops:Array Oper}{rest:List Oper}{o:Oper}{a:Act}{Q:Exit→Act→World→Prop}(hgd:o.guard=none)(ty:TypeId)(x y:Operand)(ho:o.op= .store ty x y)
  {S:Nat→Prop} {e:TypeId} {sz n g cap:Nat} {c:Nat→List Value} (h:aP S w e sz (.slice (some ⟨g,0,none⟩) n cap) n c) (hc: ∀ i,(c i).length=sz) (i:Nat) (hi:i<n) (hx:a.eval x= .pointer (some ⟨g,i*sz,none⟩)) (vs:List Value) (hy:a.eval y= .agg vs.toArray)
  (hv:vs.length=sz) (h1: ∀ u∈vs,u.oneCell'=true) (hsz:(P.info? ty).map (·.size)=some sz)
  (hK: ∀ w',aP S w' e sz (.slice (some ⟨g,0,none⟩) n cap) n (cK c i vs)→w.grownBy w' (some g)→w'.heap.size=w.heap.size→wpList P ops Q rest (a.put o.dst undef) w'):wpList P ops Q (o::rest) a w:=by
 refine wpList_store_mid hgd ty x y ho g (i*sz) vs.toArray hx hy (by have:=h.there hc hi;simpa[hv] using this) (by rw[hsz];simp[hv]) (all_oneCell_toArray h1) ?_;obtain⟨h2,h3⟩:=dw g vs (i*sz) w;exact hK _ (h.store hc hi hv) h2 h3
end
section
section
variable {P:Program}{ops:Array Oper}{md:qM}{Q:Exit→Act→World→Prop}{S:World→Prop}{t:Nat}
def bm(P:Program)(md:qM)(ops:Array Oper)(Q:Exit→Act→World→Prop)(S:World→Prop)(t:Nat): Nat→Array Bool→Act→World→Prop
 | 0,listed,a,w=>lO md ops listed= []∧Q .normal a w
 | n+1,listed,a,w=>(lO md ops listed= []→Q .normal a w)∧∀ i∈lO md ops listed,wpOp P ops Q i (fun a' w'=>if i=t then wpAny P md ops Q n (listed.setIfInBounds i true) a' w' else S w'∧bm P md ops Q S t n (listed.setIfInBounds i true) a' w') a w
theorem bm.any: ∀ (n:Nat) (listed:Array Bool) (a:Act) (w:World),bm P md ops Q S t n listed a w→wpAny P md ops Q n listed a w
 | 0,_,_,_,h=>h
 | n+1,listed,a,w,h=>⟨h.1,fun i hi=>wpOp_mono (fun a' w' h'=>by
  split at h'
  ·exact h'
  exact bm.any n _ a' w' h'.2) (h.2 i hi)⟩
variable{n i:Nat}{listed:Array Bool}{a:Act}{w:World}{oi:Oper}{v:Value}
theorem bm.last(hr:lO md ops listed= [t])(h:wpAny P md ops Q (n+1) listed a w): bm P md ops Q S t (n+1) listed a w:=
 ⟨h.1,fun i hi=>by
  have e:i=t:=by rw[hr] at hi;simpa using hi
  subst e;exact wpOp_mono (fun a' w' h'=>by rw[if_pos rfl];exact h') (h.2 i hi)⟩
theorem bm.first{ot:Oper} (hi:ops[i]? =some oi)(ht:ops[t]? =some ot)(hw: ∃ e∈ot.after,sO md e=true∧e.on=i)(hit:i≠t)
  (FH: ∀ (j:Nat) (o:Oper) cs b,ops[j]? =some o→o.op≠ .select cs b) (hQ: ∀ c a w,Q (.panic c) (a.put oi.dst v) w→Q (.panic c) a w) :
  ∀ (n:Nat) (listed:Array Bool) (a:Act) (w:World),
   (∀ j oj,ops[j]? =some oj→j≠i→listed.getD j true=false→(∀ e∈oj.after,sO md e=true→e.on≠i)→oi.apart ops oj=true)→
   i∈lO md ops listed→YieldsIf P ops S oi v a→S w→
   bm P md ops Q S t n (listed.setIfInBounds i true) (a.put oi.dst v) w→bm P md ops Q S t (n+1) listed a w:=by
 intro n
 induction n with
 | zero=>
  intro listed a w _ hr hy hS H;exact ab3
 | succ n ih=>
  intro listed a w kC hr hy hS H;have QG:listed.getD i true=false:=(mem_ready.1 hr).1;have Z3:listed.getD i false=false:=by
   exact Va
  refine⟨fun h=>AB,fun j hj=>?_⟩;by_cases e:j=i
  ·subst e;exact hy.wpOp hi hS AJ
  obtain⟨hju,oj,Kl,hall⟩:=mem_ready.1 hj;have hjt:j≠t:=fun ejt=>by
   subst ejt;obtain⟨x,hx,hb,hx2⟩:=hw;rw[ht] at Kl;injection Kl with Kl
   subst Kl;have:=hall x hx hb;rw[hx2,Z3] at this;cases this
  have hno: ∀ x∈oj.after,sO md x=true→x.on≠i:=fun x hx hb ex=>by
   have:=hall x hx hb;rw[ex,Z3] at this;cases this
  have h1:=wpOp_mono (K':=fun a' w'=>S w'∧bm P md ops Q S t n ((listed.setIfInBounds i true).setIfInBounds j true) a' w') (fun a' w' h'=>by rw[if_neg hjt] at h';exact h') (H.2 j (ready_mono hj e));have h2:=wpOp_putIf Kl (kC j oj Kl e hju hno) (fun cs b=>FH i oi cs b hi) (fun cs b=>FH j oj cs b Kl) hQ hy h1;refine wpOp_mono (fun a' w' h3=>?_) h2;rw[if_neg hjt];refine⟨h3.2.1,ih (listed.setIfInBounds j true) a' w' (fun k ok hk hki hku Ma=>kC k ok hk hki ?_ Ma) (ready_mono hr (Pw e)) h3.1 h3.2.1 ?_⟩
  ·by_cases hjk:j=k
   ·subst hjk;exact hju
   rw[getD_set_ne true hjk] at hku;exact hku
  rw[GZ _ _ e];exact h3.2.2
theorem bm.pure(hi:ops[i]? =some oi)(hit:i≠t)
  (FH: ∀ (j:Nat) (o:Oper) cs b,ops[j]? =some o→o.op≠ .select cs b) (hQ: ∀ c a w,Q (.panic c) (a.put oi.dst v) w→Q (.panic c) a w) :
  ∀ (n:Nat) (listed:Array Bool) (a:Act) (w:World),
   (∀ j oj,ops[j]? =some oj→j≠i→listed.getD j true=false→(∀ e∈oj.after,sO md e=true→e.on≠i)→oi.apart ops oj=true)→
   i∈lO md ops listed→YieldsIf P ops (fun _=>True) oi v a→S w→
   bm P md ops Q S t n (listed.setIfInBounds i true) (a.put oi.dst v) w→bm P md ops Q S t (n+1) listed a w:=by
 intro n
 induction n with
 | zero=>
  intro listed a w _ hr hy hS H;refine⟨fun h=>AB,fun j hj=>?_⟩;by_cases e:j=i
  ·subst e;exact hy.wpOp hi trivial AJ
  have h0:=ready_mono hj e;rw[H.1] at h0;cases h0
 | succ n ih=>
  intro listed a w kC hr hy hS H;have QG:listed.getD i true=false:=(mem_ready.1 hr).1;have Z3:listed.getD i false=false:=by
   exact Va
  refine⟨fun h=>AB,fun j hj=>?_⟩;by_cases e:j=i
  ·subst e;exact hy.wpOp hi trivial AJ
  obtain⟨hju,oj,Kl,hall⟩:=mem_ready.1 hj;have hno: ∀ x∈oj.after,sO md x=true→x.on≠i:=fun x hx hb ex=>by
   have:=hall x hx hb;rw[ex,Z3] at this;cases this
  have V7: ∀ k ok,ops[k]? =some ok→k≠i→(listed.setIfInBounds j true).getD k true=false→(∀ x∈ok.after,sO md x=true→x.on≠i)→oi.apart ops ok=true:=fun k ok hk hki hku Ma=>by
   refine kC k ok hk hki ?_ Ma;by_cases hjk:j=k
   ·subst hjk;exact hju
   rw[getD_set_ne true hjk] at hku;exact hku
  have h2:=wpOp_putIf Kl (kC j oj Kl e hju hno) (fun cs b=>FH i oi cs b hi) (fun cs b=>FH j oj cs b Kl) hQ hy (H.2 j (ready_mono hj e));by_cases hjt:j=t
  ·refine wpOp_mono (fun a' w' h3=>?_) h2;rw[if_pos hjt] at h3 ⊢;refine wpAny_first hi FH hQ n (listed.setIfInBounds j true) a' w' V7 (ready_mono hr (Pw e)) (h3.1.imp (fun⟨x,y⟩=>⟨x,fun w=>y w trivial⟩) id) ?_;rw[GZ _ _ e];exact h3.2
  refine wpOp_mono (fun a' w' h3=>?_) h2;rw[if_neg hjt] at h3 ⊢;refine⟨h3.2.1,ih (listed.setIfInBounds j true) a' w' V7 (ready_mono hr (Pw e)) h3.1 h3.2.1 ?_⟩;rw[GZ _ _ e];exact h3.2.2
theorem P6{d:Option Tmp}(hi:ops[i]? =some oi)(hit:decide (i=t)=false)
  (hs:Cq ops=true) (hf:Cs md ops listed i=true) (hr:(lO md ops listed).contains i=true) (hQ: ∀ c a w,Q (.panic c) (a.put d v) w→Q (.panic c) a w) (hd:oi.dst=d)
  (hwt:wy oi (yielded ops a.tmps)=true) (hy: ∀ w,(execOp a.eval oi).run P w= .ok (.value v) w) (hS:S w)
  (h:bm P md ops Q S t n (listed.setIfInBounds i true) (a.put d v) w):bm P md ops Q S t (n+1) listed a w:=by
 subst hd;exact bm.pure hi (of_decide_eq_false hit) (Nw hs) hQ n listed a w (YE hi hf) (by simpa using hr) (.inl ⟨hwt,fun w _=>hy w⟩) hS h
theorem P5{d:Option Tmp}(hi:ops[i]? =some oi)(hw:Nu md ops t i=true)(hit:decide (i=t)=false)
  (hs:Cq ops=true) (hf:Cs md ops listed i=true) (hr:(lO md ops listed).contains i=true) (hQ: ∀ c a w,Q (.panic c) (a.put d v) w→Q (.panic c) a w) (hd:oi.dst=d)
  (hwt:wy oi (yielded ops a.tmps)=true) (hy: ∀ w,S w→(execOp a.eval oi).run P w= .ok (.value v) w) (hS:S w)
  (h:bm P md ops Q S t n (listed.setIfInBounds i true) (a.put d v) w):bm P md ops Q S t (n+1) listed a w:=by
 subst hd;obtain⟨ot,ht,e,he,hb,heq⟩:=YQ hw;exact bm.first hi ht ⟨e,he,hb,heq⟩ (of_decide_eq_false hit) (Nw hs) hQ n listed a w (YE hi hf) (by simpa using hr) (.inl ⟨hwt,hy⟩) hS h
theorem dL{id:Nat}(hm:P.follows .mixedOrders=true)(h:wpAny P .any ops Q ops.size (Array.replicate ops.size false) a w.drew): (Code.region id ops true).wp P Q a w:=wp_region_any hm h
theorem kD(k:Nat)(hl:ops.size=k+n)(hB:Region.seqB md ops n k listed=true)(h:wpList P ops Q (ops.toList.drop k) a w): wpAny P md ops Q n listed a w:=by
 have hn:(ops.toList.drop k).length=n:=fZ;have:=wpAny_of_seq (P:=P) (md:=md) (Q':=Q) (ops:=ops) (ops.toList.drop k) k listed a w (fun j=>by simp[List.getElem?_drop]) (by rw[hn];exact hB) h
 rwa [hn] at this
end
end
section
variable{S:Nat→Prop}{w:World}{e:TypeId}{sz n:Nat}{v:Value}{c:Nat→List Value}{P:Program}
theorem aI.new{a b:World} (h:aI S w a)(k:aI (fun j=>S j∨w.heap.size≤j) a b): aI S w b:=
 ⟨k.os.trans h.os,k.tape.trans h.tape,k.output.trans h.output,aV h.size k.size,fun j hj hS=>(k.block j (aU hj h.size) (fun e=>by rcases e with e|e;exact hS e;omega)).trans (h.block j hj hS)⟩
theorem iQ(w:World)(xs:List Value)(t:TypeId): ∀ j u,xs[j]? =some u→(w.alloc (.cells xs.toArray t)).cell? ((⟨w.heap.size,0,none⟩:Addr).add j)=some u:=by
 intro j u hj;rw[qA,(aG.fresh w t xs.toArray).cell j];simpa using hj
theorem aP.mE{t:TypeId} {p g:Nat} {cs:Array Value}(h:aP S w e sz v n c)(hg:v.ownBlock=some g)(ha:aG w p t cs)(ht:t≠e): p≠g:=by
 rintro rfl;rcases h.own.2 with⟨hv,_⟩|⟨g',cap',cur,hv,_,hh,_⟩
 ·subst hv;simp[gU] at hg
 subst hv;have e1:g'=p:=uy;exact U'
theorem aP.LO{k:TypeId} {q:IntKind}{t:TypeId}{b m g:Nat} {φ:Int→Option Int}(h:aP S w t sz v n c)(hg:v.ownBlock=some g)(hm:dt P k e q w b m φ): b≠g:=by
 rintro rfl;obtain⟨D,⟨es,aq,hb,_⟩,_⟩:=hm;rcases h.own.2 with⟨hv,_⟩|⟨g',cap',cur,hv,_,hh,_⟩
 ·subst hv;simp[gU] at hg
 subst hv;have e1:g'=b:=uy;subst e1;rw[hh] at hb;injection hb with hb
 cases hb
theorem aP.put(h:aP S w e sz v n c){q:Addr}(hq: ∀ g,v.ownBlock=some g→q.block≠g)(u:Value): aP S (w.setCell q u) e sz v n c:=
 ⟨eB h.own fun g hg=>dJ w q u g (fun e=>hq g hg e.symm),h.block⟩
theorem fu(w:World){o:Oper}{a:Act}{K:Act→World→Prop}{Q:Exit→Act→World→Prop}(s x:Operand)(t:TypeId)
  (ho:o.op= .call {callee:=.builtin .append,args:=#[s,x],argTypes:=#[t,t]})
  (e:TypeId) (i:TypeInfo) (z:Value) (size bytes:Nat) (ht:P.underlying t=some (.slice e)) (hi:P.info? e=some i) (hz:i.zero=some z)
  (hsize:i.size=size) (hby:i.bytes=bytes) (hzs:z.cells.size=size) (hsz:0<size)
  {S:Nat→Prop} (v:Value) (n:Nat) (c:Nat→List Value) (hs:a.eval s=v) (h:aP S w e size v n c)
  (ad:Addr) (cp:Nat) (xs:List Value) (hx:a.eval x= .slice (some ad) 1 cp) (hl:xs.length=size) (hnews: ∀ j u,xs[j]? =some u→w.cell? (ad.add j)=some u) (h1: ∀ u∈xs,u.oneCell'=true)
  (h63:n+1≤maxLen) (hbytes:(n+1)*bytes≤140737488355328)
  (hK: ∀ g cap w',aP (fun k=>S k∨k=w.heap.size) w' e size (.slice (some ⟨g,0,none⟩) (n+1) cap) (n+1) (cK c n xs)→w.grownBy w' v.ownBlock→K (a.put o.dst (.slice (some ⟨g,0,none⟩) (n+1) cap)) w') :
  iG P o a w K Q:=by
 obtain⟨v',w',hr,hown,hg,_,hloc⟩:=run_append_own_at (P:=P) w 0 t o.type e i z size bytes ht hi hz hsize hby hzs hsz v n _ h.own ad 1 cp xs (by rw[hl,Nat.one_mul]) hnews h1 h63 hbytes (cx _);unfold iG execOp;simp only[ho,resolve,invoke,builtin,Sem.run_bind,Sem.run_pure,Result.andThen_ok,List.map_toArray,List.map_cons,List.map_nil,hs,hx,hr];obtain⟨g,cap,rfl⟩:=IC hown;exact hK g cap w' (h.snoc hown hloc) hg
theorem gM(w:World){ops:Array Oper}{rest:List Oper}{o:Oper}{a:Act}{Q:Exit→Act→World→Prop}(hgd:o.guard=none)(s x:Operand)(t:TypeId)
  (ho:o.op= .call {callee:=.builtin .append,args:=#[s,x],argTypes:=#[t,t]})
  (e:TypeId) (i:TypeInfo) (z:Value) (size bytes:Nat) (ht:P.underlying t=some (.slice e)) (hi:P.info? e=some i) (hz:i.zero=some z)
  (hsize:i.size=size) (hby:i.bytes=bytes) (hzs:z.cells.size=size) (hsz:0<size)
  {S:Nat→Prop} (v:Value) (n:Nat) (c:Nat→List Value) (hs:a.eval s=v) (h:aP S w e size v n c)
  (ad:Addr) (cp:Nat) (xs:List Value) (hx:a.eval x= .slice (some ad) 1 cp) (hl:xs.length=size) (hnews: ∀ j u,xs[j]? =some u→w.cell? (ad.add j)=some u) (h1: ∀ u∈xs,u.oneCell'=true)
  (h63:n+1≤maxLen) (hbytes:(n+1)*bytes≤140737488355328)
  (hK: ∀ g cap w',aP (fun k=>S k∨k=w.heap.size) w' e size (.slice (some ⟨g,0,none⟩) (n+1) cap) (n+1) (cK c n xs)→w.grownBy w' v.ownBlock→wpList P ops Q rest (a.put o.dst (.slice (some ⟨g,0,none⟩) (n+1) cap)) w') :
  wpList P ops Q (o::rest) a w:=
 wpList_plain hgd fun _ hKK=>fu w s x t ho e i z size bytes ht hi hz hsize hby hzs hsz v n c hs h ad cp xs hx hl hnews h1 h63 hbytes fun g cap w' a b=>hKK _ _ (hK g cap w' a b)
section
variable {P:Program}{ops:Array Oper}{md:qM}{Q:Exit→Act→World→Prop}{S:World→Prop}{t:Nat}
theorem bm.step{i n:Nat}{o:Oper}{listed:Array Bool}{a:Act}{w:World}(hr:lO md ops listed= [i])(hit:decide (i=t)=false)(ho:ops[i]? =some o)
  (h: ∀ K':Act→World→Prop,Shut (∀ a w,S w→(S w→bm P md ops Q S t n (listed.setIfInBounds i true) a w)→K' a w)→if wy o (yielded ops a.tmps)=true then iG P o a w K' Q else K' (a.put o.dst undef) w):bm P md ops Q S t (n+1) listed a w:=by
 refine⟨fun h0=>(by rw[hr] at h0;cases h0),fun j hj=>?_⟩;have e:j=i:=by rw[hr] at hj;simpa using hj
 subst e;refine wpOp_step ho fun K' hK=>h K' fun a w hS hW=>hK a w ?_
 rw[if_neg (of_decide_eq_false hit)];exact⟨hS,hW hS⟩
end
end
section
variable{w:World}
theorem iq{p q:Nat}{t t':TypeId}{cs cs':Array Value}(h:aG w p t cs)(h':aG w q t' cs')(ht:t≠t'): p≠q:=by
 rintro rfl;rw[aG] at h h';rw[h] at h';injection h' with h'
 injection h' with _ h2
 exact ht h2
theorem aP.arr{S:Nat→Prop}{e:TypeId}{sz n g cap:Nat}{c:Nat→List Value}(h:aP S w e sz (.slice (some ⟨g,0,none⟩) n cap) n c): ∃ cs,aG w g e cs:=by
 rcases h.own.2 with⟨hv,_⟩|⟨g',cap',cur,hv,_,hh,_⟩
 ·cases hv
 injection hv with e1
 injection e1 with e1
 injection e1 with e1
 subst e1;exact⟨cur,hh⟩
theorem aP.NU{S:Nat→Prop}{w':World} {e:TypeId}{sz n g cap:Nat}{c:Nat→List Value}(h:aP S w e sz (.slice (some ⟨g,0,none⟩) n cap) n c)(hk:w'.heap[g]? =w.heap[g]?): aP S w' e sz (.slice (some ⟨g,0,none⟩) n cap) n c:=
 ⟨eB h.own fun q hq=>by
  have e1:g=q:=by simpa[gU] using hq
  subst e1;exact hk,h.block⟩
theorem Qx(z:Array Value)(hz:0<z.size)(n:Nat): (madeCells z (n*z.size)).toList=flat (fun _=>z.toList) n:=by
 apply List.ext_getElem?;intro k;rcases lp k (n*z.size)with hk|hk
 ·have h1:k / z.size<n:=(adJ hz).2 hk;have h2:k % z.size<z.size:=Nat.mod_lt _ hz;have h3:k / z.size*z.size+k % z.size=k:=by rw[Nat.mul_comm];exact Nat.div_add_mod k z.size
  have h4:(flat (fun _=>z.toList) n)[k]? =z.toList[k % z.size]?:=by rw[←gC (c:=fun _=>z.toList) (sz:=z.size) (fun _=>dM) h1 h2,h3]
  rw[h4];unfold madeCells;rw[dK,Array.getElem?_map,Array.getElem?_range,if_pos hk,dK];simp[Array.getElem!_eq_getD,Array.getD,h2]
 rw[gW (by simp[size_madeCells];exact hk),gW (by rw[cy (sz:=z.size) (fun _=>dM)];exact hk)]
theorem mS{P:Program}(w:World){o:Oper}{a:Act}{K:Act→World→Prop}{Q:Exit→Act→World→Prop}(l c:Operand)(t:TypeId)(hop:o.op=Op.makeSlice t l c)
  (e:TypeId) (i:TypeInfo) (z:Value) (size:Nat) (h1:P.underlying t=some (.slice e)) (h2:P.info? e=some i) (h3:i.zero=some z) (h4:i.size=size) (h5:z.cells.size=size) (h6:0<size)
  (n:Nat) (hl:a.eval l= .int .i64 (n:Int)) (hc:a.eval c= .int .i64 (n:Int)) (b2:i.bytes*n≤281474976710656) (b3:n≤maxLen)
  (hK: ∀ w',aP (· =w.heap.size) w' e size (.slice (some ⟨w.heap.size,0,none⟩) n n) n (fun _=>z.cells.toList)→w.grownBy w' none→K (a.put o.dst (.slice (some ⟨w.heap.size,0,none⟩) n n)) w') :
  iG P o a w K Q:=by
 obtain⟨w',hrun,r1,r2⟩:=run_make_full (P:=P) w 0 t e i z size h1 h2 h3 h4 .i64 .i64 n b2 b3 (cx _);unfold iG;simp[execOp,hop,hl,hc,hrun,iY];refine hK w' ⟨?_,fun g hg=>by simpa[gU] using hg.symm⟩ r2;subst h5;rw[←Qx z.cells h6 n];exact r1
end
section
end
section
variable {F:Fence}{n:Nat}{P:Program}{w:World}
end
section
theorem Below.sX{W W':World}(h:Below W.heap.size W W')(B:Nat): KeepsFrom B W W':=
 ⟨h.size,fun k _ _ hk _=>(h.block k (eL.1 hk).1).trans hk⟩
theorem aG.bz{w w':World}{g:Nat}{t:TypeId}{cs:Array Value}{row:Option Nat}(h:aG w g t cs)(hg:w.grownBy w' row)(hne:row≠some g): aG w' g t cs:=
 (hg.block g h.lt (fun e=>hne e.symm)).trans h
theorem oJ{β:Type}(B g:Nat)(t:TypeId)(f:β→Array Value): OwnFrom B (fun s W=>aG W g t (f s)):=fun s W W' row hs hg hr=>
 hs.bz hg (fun e=>by
  obtain⟨_,o,ho,hc⟩:=hr g e;rw[show W.heap[g]? =_ from hs] at ho;cases ho;cases hc)
theorem yC{β:Type}(B:Nat)(S:Nat→Prop)(e:TypeId)(sz:Nat)(v:β→Value)(n:β→Nat)(c:β→Nat→List Value): OwnFrom B (fun s W=>aP S W e sz (v s) (n s) (c s)):=fun s W W' row hs hg hr=>
 ⟨eB hs.own fun g hgb=>hg.block g (eP hs.own hgb).1 (fun e=>by
  obtain⟨_,o,ho,hc⟩:=hr g e.symm;rcases hs.own.2 with⟨hv,_⟩|⟨g',cap',cur,hv,_,hh,_⟩
  ·rw[hv] at hgb;simp[gU] at hgb
  rw[hv] at hgb;have e1:g'=g:=by simpa[gU] using hgb
  subst e1;rw[hh] at ho;cases ho;cases hc),hs.block⟩
theorem aP.cells{S:Nat→Prop}{w:World}{e:TypeId}{sz n j:Nat}{v:Value}{c:Nat→List Value}{o:Obj}(h:aP S w e sz v n c)(hj:v.ownBlock=some j)(ho:w.heap[j]? =some o): o.isCells=true:=by
 rcases h.own.2 with⟨hv,_⟩|⟨g',cap',cur,hv,_,hh,_⟩
 ·rw[hv] at hj;simp[gU] at hj
 rw[hv] at hj;have e1:g'=j:=by simpa[gU] using hj
 subst e1;rw[hh] at ho;cases ho;rfl
end
end
section
open Go.RowKit Go.Maps
def QX(v:Value): Option (DataW Value × List MemPlace):=some (.held v,[])
def fB(P:Program)(k:TypeId)(q:IntKind)(w:World)(b n:Nat)(φ:Int→Option Value): Prop:=
 ∃ D:DataW Value,w.ownsMap P k QX b n D∧sP D=n∧∀ i (z:Value),Maps.has D (.int q i)=(φ i).isSome∧D.atKey (.int q i) (.held z)= .held ((φ i).getD z)
def CN(φ:Int→Option Value)(i:Int)(v:Option Value): Int→Option Value:=fun j=>if j=i then v else φ j
theorem P0(φ:Int→Option Value)(i:Int)(v:Option Value): CN φ i v i=v:=if_pos rfl
variable{i:Int}{P:Program}{k e t:TypeId}{w:World}{b n:Nat}{φ:Int→Option Value}
theorem KJ(φ:Int→Option Value){j:Int} (v:Option Value)(h:j≠i): CN φ i v j=φ j:=if_neg h
theorem A0{R:Value→Option (DataW Value × List MemPlace)}{D:DataW Value}(h:w.ownsMap P k R b n D): w.ownsMap P k R b (sP D) D:=by
 exact U9
theorem fB.made(P:Program)(k:TypeId)(q:IntKind)(w:World): fB P k q (w.alloc (.map #[] 0)) w.heap.size 0 (fun _=>none):=
 ⟨.map [],YR w P k _,rfl,fun i z=>⟨rfl,rfl⟩⟩
theorem fB.lt{q:IntKind}(h:fB P k q w b n φ): b<w.heap.size:=by obtain⟨D,ho,_⟩:=h;exact ho.lt
theorem fB.same{q:IntKind}{w':World} (h:fB P k q w b n φ)(hk:w'.heap[b]? =w.heap[b]?): fB P k q w' b n φ:=by
 obtain⟨D,⟨es,aq,hb,r⟩,hs,hf⟩:=h;exact⟨D,⟨es,aq,hk.trans hb,r⟩,hs,hf⟩
theorem fB.ah{q:IntKind}{w':World} (h:fB P k q w b n φ)(hb:Below w.heap.size w w'): fB P k q w' b n φ:=h.same (hb.block b h.lt)
theorem Oq{q:IntKind}{j:Int} (h:j≠i): jA q j≠jA q i:=fun e=>h uu
theorem fB.put{q:IntKind}(h:fB P k q w b n φ)(hk:P.underlying k=some (.int q))(ht:P.underlying t=some (.map k e))(hn:n<maxLen){v:Value}(hi:(jA q i).wf=true):
  ∃ w',(Instr.mapUpdate t (.map (some b)) (.int q i) v).run P w= .ok () w'∧fB P k q w' b (if(φ i).isSome then n else n+1) (CN φ i (some v))∧w.grownBy w' (some b):=by
 obtain⟨D,ho,hs,hf⟩:=h;obtain⟨w',hrun,h1,h2⟩:=ho.update (int_keyed hk) ht hn (keyOf_int_mk hk hi) (show QX v=some (.held v,[])from rfl);have hsz:sP (D.put (.int q i) (.held v))=if(φ i).isSome then n else n+1:=by rw[Maps.size_put (ho.tidy (int_keyed hk)),(hf i v).1,hs]
 refine⟨w',hrun,⟨_,hsz▸A0 h1,hsz,fun j z=>?_⟩,h2⟩;by_cases e1:j=i
 ·subst e1;rw[P0];exact Vc
 ·rw[KJ _ _ e1,Maps.has_put_other (Oq e1),YK (Oq e1)];exact hf j z
theorem fB.look{q:IntKind}(h:fB P k q w b n φ)(hk:P.underlying k=some (.int q))(ht:P.underlying t=some (.map k e)){z:Value}(hz:(zeroValue e).run P w= .ok z w)(hi:(jA q i).wf=true):
  (Nt t (.map (some b)) (.int q i) true).run P w= .ok (.tuple #[(φ i).getD z,.bool (φ i).isSome]) w:=by
 obtain⟨D,ho,hs,hf⟩:=h;obtain⟨v,ps,hrun,hv⟩:=ho.look_ok (int_keyed hk) ht hz (show QX z=some (.held z,[])from rfl) (keyOf_int_mk hk hi);rw[hrun,(hf i z).1];rw[(hf i z).2] at hv;unfold QX at hv;simp only[YO,Nv,YM] at hv;rw[hv.1]
theorem yR{ops:Array Oper}{rest:List Oper}{o:Oper}{a:Act}{Q:Exit→Act→World→Prop}
  (hg:o.guard=none) (m x:Operand) (t:TypeId) (hop:o.op=Op.lookup t m x true) (k e:TypeId) (q:IntKind) (hk:P.underlying k=some (.int q)) (ht:P.underlying t=some (.map k e)) (z:Value) (hz:(zeroValue e).run P w= .ok z w)
  (b n:Nat) (φ:Int→Option Value) (hm:a.eval m= .map (some b)) (h:fB P k q w b n φ) (i:Int) (hx:a.eval x= .int q i) (hi:(jA q i).wf=true)
  (hK:wpList P ops Q rest (a.put o.dst (.tuple #[(φ i).getD z,.bool (φ i).isSome])) w) :
  wpList P ops Q (o::rest) a w:=by
 refine wpList_plain hg fun K' hK'=>?_
 have hrun:=h.look hk ht hz hi;unfold iG;simp[execOp,hop,hm,hx,hrun,iY];exact hK' _ _ hK
theorem fB.agC{q:IntKind}(h:fB P k q w b n φ)(hk:P.underlying k=some (.int q))(ht:P.underlying t=some (.map k e)){z:Value}(hz:(zeroValue e).run P w= .ok z w)(hi:(jA q i).wf=true):
  (Nt t (.map (some b)) (.int q i) false).run P w= .ok ((φ i).getD z) w:=by
 obtain⟨D,ho,hs,hf⟩:=h;obtain⟨v,ps,hrun,hv⟩:=ho.lookup (int_keyed hk) ht hz (show QX z=some (.held z,[])from rfl) (keyOf_int_mk hk hi);rw[hrun];rw[(hf i z).2] at hv;unfold QX at hv;simp only[YO,Nv,YM] at hv;rw[hv.1]
theorem fB.clear{q:IntKind}(h:fB P k q w b n φ)(ht:P.underlying t=some (.map k e))(ty:TypeId):
  ∃ w',(Builtin.clear_ #[t] ty #[.map (some b)]).run P w= .ok (.tuple #[]) w'∧fB P k q w' b 0 (fun _=>none)∧w.grownBy w' (some b):=by
 obtain⟨D,⟨es,aq,hb,F,hs,rfl⟩,_⟩:=h;refine⟨YJ w b (.map #[] aq),?_,⟨.map [],⟨#[],aq,Go.ChangeMaps.heap_setBlock_same hb _,⟨dM,Go.MapKept.stamped_empty aq,dM⟩,aY _,rfl⟩,rfl,fun i z=>⟨rfl,rfl⟩⟩,?_⟩
 ·simp[Builtin.clear_,run_underlying ht,Go.MapKept.run_getObj_map hb,Go.MapKept.run_setObj_map _ hb,iY,YJ]
 ·exact World.mapTurned.grown ⟨es,aq,#[],aq,hb,rfl⟩
theorem zX{ops:Array Oper}{rest:List Oper}{o:Oper}{a:Act}{Q:Exit→Act→World→Prop}
  (hg:o.guard=none) (m:Operand) (t:TypeId) (hop:o.op=Op.call {callee:=Callee.builtin Builtin.clear,args:=#[m],argTypes:=#[t]}) (k e:TypeId) (q:IntKind) (ht:P.underlying t=some (.map k e))
  (b n:Nat) (φ:Int→Option Value) (hm:a.eval m= .map (some b)) (h:fB P k q w b n φ)
  (hK: ∀ w',fB P k q w' b 0 (fun _=>none)→w.grownBy w' (some b)→wpList P ops Q rest (a.put o.dst (.tuple #[])) w') :
  wpList P ops Q (o::rest) a w:=by
 refine wpList_plain hg fun K' hK'=>?_
 obtain⟨w',hrun,r1,r2⟩:=h.clear ht o.type;unfold iG;simp[execOp,hop,resolve,invoke,builtin,hm,hrun,iY];exact hK' _ _ (hK w' r1 r2)
end
section
section
variable {P:Program}{ops:Array Oper}{md:qM}{Q:Exit→Act→World→Prop}{S:World→Prop}{t:Nat}
theorem Aa{listed:Array Bool}{k:Nat}(h:listed.getD k true=false): listed.getD k false=false:=by
 rcases lp k listed.size with h1|h1
 ·simp[h1] at h ⊢;exact h
 simp[Kj h1] at h
theorem bm.chain{i:Nat}{oi:Oper}{v:Value}{J:List Nat}(hi:ops[i]? =some oi)(hw: ∀ j,j=t∨j∈J→∃ k,(k=i∨k∈J)∧Nu md ops j k=true)(hit:i≠t)
  (FH: ∀ (j:Nat) (o:Oper) cs b,ops[j]? =some o→o.op≠ .select cs b) (hQ: ∀ c a w,Q (.panic c) (a.put oi.dst v) w→Q (.panic c) a w) :
  ∀ (n:Nat) (listed:Array Bool) (a:Act) (w:World),
   (∀ j oj,ops[j]? =some oj→j≠i→listed.getD j true=false→(∀ e∈oj.after,sO md e=true→e.on≠i)→oi.apart ops oj=true)→
   i∈lO md ops listed→(∀ j∈J,listed.getD j true=false)→YieldsIf P ops S oi v a→S w→
   bm P md ops Q S t n (listed.setIfInBounds i true) (a.put oi.dst v) w→bm P md ops Q S t (n+1) listed a w:=by
 intro n
 induction n with
 | zero=>
  intro listed a w _ hr _ hy hS H;exact ab3
 | succ n ih=>
  intro listed a w kC hr hJ hy hS H;have QG:listed.getD i true=false:=(mem_ready.1 hr).1;refine⟨fun h=>AB,fun j hj=>?_⟩;by_cases e:j=i
  ·subst e;exact hy.wpOp hi hS AJ
  obtain⟨hju,oj,Kl,hall⟩:=mem_ready.1 hj;have ahb: ¬(j=t∨j∈J):=fun h=>by
   obtain⟨k,hk,hwk⟩:=hw j h;obtain⟨oj',aac,x,hx,hb,hx2⟩:=YQ hwk;rw[Kl] at aac;injection aac with aac
   subst aac;have h1:=hall x hx hb;rw[hx2] at h1;rcases hk with rfl|hk
   ·rw[Aa QG] at h1;cases h1
   rw[Aa (hJ k hk)] at h1;cases h1
  have hjt:j≠t:=fun h=>ahb (.inl h)
  have hjJ:j ∉ J:=fun h=>ahb (.inr h)
  have hno: ∀ x∈oj.after,sO md x=true→x.on≠i:=fun x hx hb ex=>by
   have:=hall x hx hb;rw[ex,Aa QG] at this;cases this
  have h1:=wpOp_mono (K':=fun a' w'=>S w'∧bm P md ops Q S t n ((listed.setIfInBounds i true).setIfInBounds j true) a' w') (fun a' w' h'=>by rw[if_neg hjt] at h';exact h') (H.2 j (ready_mono hj e));have h2:=wpOp_putIf Kl (kC j oj Kl e hju hno) (fun cs b=>FH i oi cs b hi) (fun cs b=>FH j oj cs b Kl) hQ hy h1;refine wpOp_mono (fun a' w' h3=>?_) h2;rw[if_neg hjt];refine⟨h3.2.1,ih (listed.setIfInBounds j true) a' w' (fun k ok hk hki hku Ma=>kC k ok hk hki ?_ Ma) (ready_mono hr (Pw e)) (fun k hk=>?_) h3.1 h3.2.1 ?_⟩
  ·by_cases hjk:j=k
   ·subst hjk;exact hju
   rw[getD_set_ne true hjk] at hku;exact hku
  ·rw[getD_set_ne true (show j≠k from fun ejk=>hjJ (by rw[ejk];exact hk))];exact hJ k hk
  rw[GZ _ _ e];exact h3.2.2
theorem AM{i:Nat}(J:List Nat){oi:Oper}{d:Option Tmp}{v:Value}{n:Nat}{listed:Array Bool}{a:Act}{w:World}(hi:ops[i]? =some oi)(hw:((t::J).all fun j=>(i::J).any fun k=>Nu md ops j k)=true)(hu:(J.all fun j=>!listed.getD j true)=true)(hit:decide (i=t)=false)
  (hs:Cq ops=true) (hf:Cs md ops listed i=true) (hr:(lO md ops listed).contains i=true) (hQ: ∀ c a w,Q (.panic c) (a.put d v) w→Q (.panic c) a w) (hd:oi.dst=d)
  (hwt:wy oi (yielded ops a.tmps)=true) (hy: ∀ w,S w→(execOp a.eval oi).run P w= .ok (.value v) w) (hS:S w)
  (h:bm P md ops Q S t n (listed.setIfInBounds i true) (a.put d v) w):bm P md ops Q S t (n+1) listed a w:=by
 subst hd;refine bm.chain (J:=J) hi (fun j hj=>?_) (of_decide_eq_false hit) (Nw hs) hQ n listed a w (YE hi hf) (by simpa using hr) (fun j hj=>?_) (.inl ⟨hwt,hy⟩) hS h
 ·have h1:=(List.all_eq_true.1 hw) j (by rcases hj with rfl|hj;exact List.mem_cons_self ..;exact List.mem_cons_of_mem _ hj);obtain⟨k,hk,h2⟩:=List.any_eq_true.1 h1;exact⟨k,List.mem_cons.1 hk,h2⟩
 ·simpa using(List.all_eq_true.1 hu) j hj
end
end
section
section
variable {P:Program}{ops:Array Oper}{Q:Exit→Act→World→Prop}{md:qM}{S:World→Prop}{fuel:Nat}{listed:Array Bool}{a:Act}{w:World}{oi:Oper}{v:Value}
theorem cV(i:Nat)(d:Option Tmp)(hS:S w)
 (h:wpAnyH P md ops Q S fuel (listed.setIfInBounds i true) (a.put d v) w)
 (hi:ops[i]? =some oi:=by(simp only[List.getElem?_toArray,List.getElem?_cons_zero,List.getElem?_cons_succ];exact rfl))
 (hs:Region.noSelect ops=true:=by kernel_rfl) (hf:Region.free md ops listed i=true:=by kernel_rfl) (hr:(Region.ready md ops listed).contains i=true:=by kernel_rfl)
 (hQ: ∀ c a w,Q (.panic c) (a.put d v) w→Q (.panic c) a w:=by exact(fun _ _ _ h=>h)) (hd:oi.dst=d:=by rfl) (hw:Region.wanted oi (yielded ops a.tmps)=true:=by rfl)
 (hy: ∀ w,S w→(execOp a.eval oi).run P w= .ok (.value v) w:=by(intro w hSw;(try dsimp only at hSw);(try(have hSa:=hSw.1;have Y6:=hSw.2;clear hSw));(try(have hSc:=Y6.1;have hSd:=Y6.2;clear Y6));(try(have hSe:=hSd.1;have hSf:=hSd.2;clear hSd));(try(have hSg:=hSf.1;have hSh:=hSf.2;clear hSf));go_simp;try with_reducible rfl)) :
 wpAnyH P md ops Q S (fuel+1) listed a w:=pJ hi hs hf hr hQ hd hw hy hS h
theorem tkn(i:Nat)(d:Option Tmp)(hS:S w)
 (h:wpAnyH P md ops Q S fuel (listed.setIfInBounds i true) (a.put d undef) w)
 (hi:ops[i]? =some oi:=by(simp only[List.getElem?_toArray,List.getElem?_cons_zero,List.getElem?_cons_succ];exact rfl))
 (hs:Region.noSelect ops=true:=by kernel_rfl) (hf:Region.free md ops listed i=true:=by kernel_rfl) (hr:(Region.ready md ops listed).contains i=true:=by kernel_rfl)
 (hQ: ∀ c a w,Q (.panic c) (a.put d undef) w→Q (.panic c) a w:=by exact(fun _ _ _ h=>h)) (hd:oi.dst=d:=by rfl) (hw:Region.wanted oi (yielded ops a.tmps)=false:=by rfl) :
 wpAnyH P md ops Q S (fuel+1) listed a w:=NP hi hs hf hr hQ hd hw hS h
end
theorem aZ: (∀ (a:Act) (d:Tmp) (v:Value),a.put (some d) v= {a with tmps:=a.tmps.setIfInBounds d v})∧(∀ (a:Act) (v:Value),a.put none v=a)∧
  (∀ {α:Type} (l:List α) (i:Nat) (a:α),l.toArray.setIfInBounds i a=(l.set i a).toArray)∧(∀ {α:Type} (x:α) (l:List α) (a:α),(x::l).set 0 a=a::l)∧
  (∀ {α:Type} (x:α) (l:List α) (i:Nat) (a:α),(x::l).set (i+1) a=x::l.set i a):=
 ⟨fun _ _ _=>rfl,fun _ _=>rfl,fun _ _ _=>List.setIfInBounds_toArray ..,fun _ _ _=>rfl,fun _ _ _ _=>rfl⟩
theorem nL: (∀ {α:Type} (l:List α) (i:Nat),l.toArray[i]? =l[i]?)∧(∀ {α:Type} (x:α) (l:List α),(x::l)[0]? =some x)∧(∀ {α:Type} (x:α) (l:List α) (i:Nat),(x::l)[i+1]? =l[i]?):=
 ⟨fun _ _=>YN,fun _ _=>List.getElem?_cons_zero,fun _ _ _=>List.getElem?_cons_succ⟩
section
variable {P:Program}{ops:Array Oper}{Q:Exit→Act→World→Prop}{md:qM}{S:World→Prop}{fuel:Nat}{listed l':Array Bool}{a a':Act}{w:World}{oi:Oper}{v:Value}{d:Option Tmp}
def gL(P:Program)(md:qM)(ops:Array Oper)(Q:Exit→Act→World→Prop)(S:World→Prop)(l:Array Bool)(a:Act)(i:Nat)(l':Array Bool)(a':Act): Prop:=
 ∀ (fuel:Nat) (w:World),S w→wpAnyH P md ops Q S fuel l' a' w→wpAnyH P md ops Q S (fuel+1) l a w
theorem zi(i:Nat)
  (hi:ops[i]? =some oi:=by(simp only[List.getElem?_toArray,List.getElem?_cons_zero,List.getElem?_cons_succ];exact rfl))
  (hs:Region.noSelect ops=true:=by kernel_rfl) (hf:Region.free md ops listed i=true:=by kernel_rfl) (hr:(Region.ready md ops listed).contains i=true:=by kernel_rfl)
  (hd:oi.dst=d:=by rfl) (hw:Region.wanted oi (yielded ops a.tmps)=true:=by rfl)
  (hy: ∀ w,S w→(execOp a.eval oi).run P w= .ok (.value v) w:=by(intro w hSw;(try dsimp only at hSw);(try(have hSa:=hSw.1;have Y6:=hSw.2;clear hSw));(try(have hSc:=Y6.1;have hSd:=Y6.2;clear Y6));(try(have hSe:=hSd.1;have hSf:=hSd.2;clear hSd));(try(have hSg:=hSf.1;have hSh:=hSf.2;clear hSf));go_simp;try with_reducible rfl))
  (hl:listed.setIfInBounds i true=l':=by(try simp only[aZ]);rfl) (ha:a.put d v=a':=by(try simp only[aZ]);rfl)
  (hQ: ∀ c a w,Q (.panic c) (a.put d v) w→Q (.panic c) a w:=by exact(fun _ _ _ h=>h)):gL P md ops Q S listed a i l' a':=by
 intro fuel w hS h;subst hl ha;exact pJ hi hs hf hr hQ hd hw hy hS h
theorem zj(i:Nat)
  (hi:ops[i]? =some oi:=by(simp only[List.getElem?_toArray,List.getElem?_cons_zero,List.getElem?_cons_succ];exact rfl))
  (hs:Region.noSelect ops=true:=by kernel_rfl) (hf:Region.free md ops listed i=true:=by kernel_rfl) (hr:(Region.ready md ops listed).contains i=true:=by kernel_rfl)
  (hd:oi.dst=d:=by rfl) (hw:Region.wanted oi (yielded ops a.tmps)=false:=by rfl)
  (hl:listed.setIfInBounds i true=l':=by(try simp only[aZ]);rfl) (ha:a.put d undef=a':=by(try simp only[aZ]);rfl)
  (hQ: ∀ c a w,Q (.panic c) (a.put d undef) w→Q (.panic c) a w:=by exact(fun _ _ _ h=>h)):gL P md ops Q S listed a i l' a':=by
 intro fuel w hS h;subst hl ha;exact NP hi hs hf hr hQ hd hw hS h
variable {l1 l2 l3 l4 l5 l6 l7:Array Bool}{a1 a2 a3 a4 a5 a6 a7:Act}
theorem ty(i:Nat)(h:wpAnyH P md ops Q S fuel l' a' w)(hS:S w:=by assumption)(s:gL P md ops Q S listed a i l' a':=by first|exact zi _|exact zj _): wpAnyH P md ops Q S (fuel+1) listed a w:=s _ _ hS h
theorem tJ(j0 j1:Nat)(h:wpAnyH P md ops Q S fuel l' a' w)(hS:S w:=by assumption)(s0:gL P md ops Q S listed a j0 l1 a1:=by first|exact zi _|exact zj _)(s1:gL P md ops Q S l1 a1 j1 l' a':=by first|exact zi _|exact zj _): wpAnyH P md ops Q S (fuel+1+1) listed a w:=s0 _ _ hS (s1 _ _ hS (h))
theorem SH(j0 j1 j2:Nat)(h:wpAnyH P md ops Q S fuel l' a' w)(hS:S w:=by assumption)(s0:gL P md ops Q S listed a j0 l1 a1:=by first|exact zi _|exact zj _)(s1:gL P md ops Q S l1 a1 j1 l2 a2:=by first|exact zi _|exact zj _)(s2:gL P md ops Q S l2 a2 j2 l' a':=by first|exact zi _|exact zj _): wpAnyH P md ops Q S (fuel+1+1+1) listed a w:=s0 _ _ hS (s1 _ _ hS (s2 _ _ hS (h)))
theorem lA(j0 j1 j2 j3:Nat)(h:wpAnyH P md ops Q S fuel l' a' w)(hS:S w:=by assumption)(s0:gL P md ops Q S listed a j0 l1 a1:=by first|exact zi _|exact zj _)(s1:gL P md ops Q S l1 a1 j1 l2 a2:=by first|exact zi _|exact zj _)(s2:gL P md ops Q S l2 a2 j2 l3 a3:=by first|exact zi _|exact zj _)(s3:gL P md ops Q S l3 a3 j3 l' a':=by first|exact zi _|exact zj _): wpAnyH P md ops Q S (fuel+1+1+1+1) listed a w:=s0 _ _ hS (s1 _ _ hS (s2 _ _ hS (s3 _ _ hS (h))))
theorem P2(j0 j1 j2 j3 j4 j5:Nat)(h:wpAnyH P md ops Q S fuel l' a' w)(hS:S w:=by assumption)(s0:gL P md ops Q S listed a j0 l1 a1:=by first|exact zi _|exact zj _)(s1:gL P md ops Q S l1 a1 j1 l2 a2:=by first|exact zi _|exact zj _)(s2:gL P md ops Q S l2 a2 j2 l3 a3:=by first|exact zi _|exact zj _)(s3:gL P md ops Q S l3 a3 j3 l4 a4:=by first|exact zi _|exact zj _)(s4:gL P md ops Q S l4 a4 j4 l5 a5:=by first|exact zi _|exact zj _)(s5:gL P md ops Q S l5 a5 j5 l' a':=by first|exact zi _|exact zj _): wpAnyH P md ops Q S (fuel+1+1+1+1+1+1) listed a w:=s0 _ _ hS (s1 _ _ hS (s2 _ _ hS (s3 _ _ hS (s4 _ _ hS (s5 _ _ hS (h))))))
theorem ov(j0 j1 j2 j3 j4 j5 j6 j7:Nat)(h:wpAnyH P md ops Q S fuel l' a' w)(hS:S w:=by assumption)(s0:gL P md ops Q S listed a j0 l1 a1:=by first|exact zi _|exact zj _)(s1:gL P md ops Q S l1 a1 j1 l2 a2:=by first|exact zi _|exact zj _)(s2:gL P md ops Q S l2 a2 j2 l3 a3:=by first|exact zi _|exact zj _)(s3:gL P md ops Q S l3 a3 j3 l4 a4:=by first|exact zi _|exact zj _)(s4:gL P md ops Q S l4 a4 j4 l5 a5:=by first|exact zi _|exact zj _)(s5:gL P md ops Q S l5 a5 j5 l6 a6:=by first|exact zi _|exact zj _)(s6:gL P md ops Q S l6 a6 j6 l7 a7:=by first|exact zi _|exact zj _)(s7:gL P md ops Q S l7 a7 j7 l' a':=by first|exact zi _|exact zj _): wpAnyH P md ops Q S (fuel+1+1+1+1+1+1+1+1) listed a w:=s0 _ _ hS (s1 _ _ hS (s2 _ _ hS (s3 _ _ hS (s4 _ _ hS (s5 _ _ hS (s6 _ _ hS (s7 _ _ hS (h))))))))
theorem tt{t n:Nat}(i:Nat)(h:bm P md ops Q S t n l' a' w)(hS:S w:=by assumption)
  (hi:ops[i]? =some oi:=by(simp only[List.getElem?_toArray,List.getElem?_cons_zero,List.getElem?_cons_succ];exact rfl))
  (hw:Region.waitsFor md ops t i=true:=by kernel_rfl) (hit:decide (i=t)=false:=by kernel_rfl)
  (hs:Region.noSelect ops=true:=by kernel_rfl) (hf:Region.free md ops listed i=true:=by kernel_rfl) (hr:(Region.ready md ops listed).contains i=true:=by kernel_rfl)
  (hd:oi.dst=d:=by rfl) (hwt:Region.wanted oi (yielded ops a.tmps)=true:=by rfl)
  (hy: ∀ w,S w→(execOp a.eval oi).run P w= .ok (.value v) w:=by(intro w hSw;(try dsimp only at hSw);(try(have hSa:=hSw.1;have Y6:=hSw.2;clear hSw));go_simp;try with_reducible rfl))
  (hl:listed.setIfInBounds i true=l':=by(try simp only[aZ]);rfl) (ha:a.put d v=a':=by(try simp only[aZ]);rfl)
  (hQ: ∀ c a w,Q (.panic c) (a.put d v) w→Q (.panic c) a w:=by exact(fun _ _ _ h=>h)) :
  bm P md ops Q S t (n+1) listed a w:=by
 subst hl ha;exact P5 hi hw hit hs hf hr hQ hd hwt hy hS h
theorem tp{t n:Nat}(i:Nat)(h:bm P md ops Q S t n l' a' w)(hS:S w:=by assumption)
  (hi:ops[i]? =some oi:=by(simp only[List.getElem?_toArray,List.getElem?_cons_zero,List.getElem?_cons_succ];exact rfl)) (hit:decide (i=t)=false:=by kernel_rfl)
  (hs:Region.noSelect ops=true:=by kernel_rfl) (hf:Region.free md ops listed i=true:=by kernel_rfl) (hr:(Region.ready md ops listed).contains i=true:=by kernel_rfl)
  (hd:oi.dst=d:=by rfl) (hwt:Region.wanted oi (yielded ops a.tmps)=true:=by rfl)
  (hy: ∀ w,(execOp a.eval oi).run P w= .ok (.value v) w:=by(intro w;go_simp;try with_reducible rfl))
  (hl:listed.setIfInBounds i true=l':=by(try simp only[aZ]);rfl) (ha:a.put d v=a':=by(try simp only[aZ]);rfl)
  (hQ: ∀ c a w,Q (.panic c) (a.put d v) w→Q (.panic c) a w:=by exact(fun _ _ _ h=>h)) :
  bm P md ops Q S t (n+1) listed a w:=by
 subst hl ha;exact P6 hi hit hs hf hr hQ hd hwt hy hS h
theorem cJ{o:Oper}(i:Nat)(h: ∀ K':Act→World→Prop,Shut (∀ a w,S w→(S w→wpAnyH P md ops Q S fuel (listed.setIfInBounds i true) a w)→K' a w)→if wy o (yielded ops a.tmps)=true then iG P o a w K' Q else K' (a.put o.dst undef) w)
  (ho:ops[i]? =some o:=by rfl) (hr:Region.ready md ops listed= [i]:=by kernel_rfl):wpAnyH P md ops Q S (fuel+1) listed a w:=
 wpAnyH_ready hr dM (pw ho h AllReadyH.nil)
theorem qh{o o2:Oper}(i j:Nat)(h: ∀ K':Act→World→Prop,Shut (∀ a w,S w→(S w→wpAnyH P md ops Q S fuel (listed.setIfInBounds i true) a w)→K' a w)→if wy o (yielded ops a.tmps)=true then iG P o a w K' Q else K' (a.put o.dst undef) w)
  (h2: ∀ K':Act→World→Prop,Shut (∀ a w,S w→(S w→wpAnyH P md ops Q S fuel (listed.setIfInBounds j true) a w)→K' a w)→if wy o2 (yielded ops a.tmps)=true then iG P o2 a w K' Q else K' (a.put o2.dst undef) w)
  (ho:ops[i]? =some o:=by rfl) (jr:ops[j]? =some o2:=by rfl) (hr:Region.ready md ops listed= [i,j]:=by kernel_rfl):wpAnyH P md ops Q S (fuel+1) listed a w:=
 wpAnyH_ready hr dM (pw ho h (pw jr h2 AllReadyH.nil))
theorem bW{K':Act→World→Prop}(hK:Shut (∀ a w,S w→(S w→wpAnyH P md ops Q S fuel listed a w)→K' a w))(hS:S w)(h:S w→wpAnyH P md ops Q S fuel l' a' w)
  (hl:listed=l':=by(try simp only[aZ]);rfl) (ha:a=a':=by(try simp only[aZ]);rfl):K' a w:=by
 subst hl ha;exact hK.out _ _ hS h
theorem tW{S:World→Prop}{ops:Array Oper}{id:Nat}(hS:S w.drew)(h:S w.drew→wpAnyH P .any ops Q S ops.size (Array.replicate ops.size false) a w.drew)(hm:P.follows .mixedOrders=true:=by kernel_rfl): (Code.region id ops true).wp P Q a w:=wp_region_held_drew hm hS h
theorem bM(h:Q .normal a w)(hr:Region.ready md ops listed= []:=by kernel_rfl): wpAnyH P md ops Q S fuel listed a w:=wpAnyH_done hr h fuel
end
end
section
def part(cs:Array Value)(o:Nat)(vs:List Value): Array Value:=(cs.toList.take o++vs++cs.toList.drop (o+vs.length)).toArray
variable{w:World}{P:Program}{a:Act}{Q:Exit→Act→World→Prop}
theorem Xb{g:Nat}{t:TypeId}{cs:Array Value}(hg:aG w g t cs)(o:Nat)(vs:List Value)(ho:o+vs.length≤cs.size): aG (w.setCells g o vs) g t (part cs o vs):=by
 obtain⟨cs',h1,h2,h3,h4⟩:=fR g t vs o w cs hg ho;have e:cs'=part cs o vs:=by
  apply YL;intro j;refine Eq.trans (b:=(cs.toList.take o++vs++cs.toList.drop (o+vs.length))[j]?) ?_ (by unfold part;simp only[YN]);have hl:(cs.toList.take o).length=o:=by rw[List.length_take,Array.length_toList];omega
  rcases lp j o with hj|hj
  ·rw[h4 j (.inl hj),List.append_assoc,qN ai,List.getElem?_take_of_lt hj,dK]
  rcases lp j (o+vs.length)with RU|RU
  ·obtain⟨k,rfl⟩: ∃ k,j=o+k:=⟨j - o,ai⟩;rw[h3 k ai,List.append_assoc,qO ai,hl,Nat.add_sub_cancel_left,qN ai]
  rw[h4 j (.inr RU),qO (by rw[bZ];omega),bZ,hl,List.getElem?_drop,dK];congr 1;omega
 rw[e] at h1;exact h1
theorem iz{ops:Array Oper}{rest:List Oper}{o:Oper}(hgd:o.guard=none)(ty:TypeId)(x y:Operand)(ho:o.op= .store ty x y)
  (g k:Nat) (t:TypeId) (cs cells:Array Value) (hg:aG w g t cs) (hx:a.eval x= .pointer (some ⟨g,k,none⟩)) (hy:a.eval y= .agg cells) (hsz:k+cells.size≤cs.size)
  (hi:(P.info? ty).map (·.size)=some cells.size) (h1:cells.all (·.oneCell')=true)
  (h: ∀ w',aG w' g t (part cs k cells.toList)→w.grownBy w' (some g)→w'.heap.size=w.heap.size→wpList P ops Q rest (a.put o.dst undef) w'):wpList P ops Q (o::rest) a w:=by
 refine wpList_store_mid hgd ty x y ho g k cells hx hy (fun j hj=>?_) hi h1 ?_
 ·rw[hg.cell (k+j),hg.mark (k+j)];rw[mO ai];exact⟨rfl,rfl⟩
 ·obtain⟨h2,h3⟩:=dw g cells.toList k w;exact h _ (Xb hg k cells.toList (by simpa using hsz)) h2 h3
theorem ja{ops:Array Oper}{rest:List Oper}{o:Oper}(hgd:o.guard=none)(ty:TypeId)(x:Operand)(ho:o.op= .load ty x)
  (g k:Nat) (t:TypeId) (cs:Array Value) (vs:List Value) (hg:aG w g t cs) (hx:a.eval x= .pointer (some ⟨g,k,none⟩)) (hv: ∀ j v,vs[j]? =some v→cs[k+j]? =some v) (d:TypeDesc)
  (hu:P.underlying ty=some d) (hd:d.isRow=true) (hi:(P.info? ty).map (·.size)=some vs.length)
  (h:wpList P ops Q rest (a.put o.dst (.agg vs.toArray)) w):wpList P ops Q (o::rest) a w:=
 wpList_load_mid hgd ty x ho g k hx vs d (fun j v hj=>by rw[hg.cell];exact hv j v hj) hu hd hi h
theorem cZ{fn:Func}{p q r s:Tmp}{ty:TypeId}(h:fn.results= #[.cell p ty,.tmp q,.tmp r,.tmp s])(tmps:Array Value){ad:Addr}{v:Value}
  (hp:tmps.getD p undef= .pointer (some ad)) (hl:(loadVar ty ad).run P w= .ok v w):(results fn tmps).run P w= .ok (.tuple #[v,tmps.getD q undef,tmps.getD r undef,tmps.getD s undef]) w:=by
 exact Oi
theorem cW{op:Oper}{K:Act→World→Prop}(ty:TypeId)(x y:Operand)(ho:op.op= .store ty x y)
  (g:Nat) (t:TypeId) (cs cells:Array Value) (hg:aG w g t cs) (hx:a.eval x= .pointer (some ⟨g,0,none⟩)) (hy:a.eval y= .agg cells) (hsz:cells.size=cs.size)
  (hi:(P.info? ty).map (·.size)=some cells.size) (h1:cells.all (·.oneCell')=true)
  (h: ∀ w',aG w' g t cells→w.grownBy w' (some g)→w'.heap.size=w.heap.size→K (a.put op.dst undef) w'):op.wp P a w K Q:=by
 refine wp_store_mid ty x y ho g 0 cells hx hy (fun j hj=>?_) hi h1 ?_
 ·rw[gV,hg.cell j,hg.mark j];rw[mO ai];exact⟨rfl,rfl⟩
 ·obtain⟨h2,h3⟩:=dw g cells.toList 0 w;exact acj
end
section
theorem _root_.Go.RowKit.Below.none{w W:World}(h:Below w.heap.size w W): w.grownBy W none:=⟨h.os,h.tape,h.output,h.size,fun k hk _=>h.block k hk⟩
end
section
section
namespace Hp
structure eI where
 aR:Int
 id:Int
 bf:Int
def rZ(x y:eI): Bool:=decide (x.aR<y.aR)||(x.aR==y.aR && decide (x.id<y.id))
def iT(f:Nat→eI)(i k:Nat): Bool:=rZ (f i) (f k)||(!rZ (f k) (f i) && decide ((f i).bf<(f k).bf))
def cQ(f:Nat→eI)(i k:Nat): Nat→eI:=fun j=>if j=i then f k else if j=k then f i else f j
def up: Nat→(Nat→eI)→Nat→(Nat→eI) × Nat
 | 0,f,at_=>(f,at_)
 | k+1,f,at_=>if 0<at_∧iT f at_ ((at_ - 1) / 2)=true then up k (cQ f at_ ((at_ - 1) / 2)) ((at_ - 1) / 2)else(f,at_)
def pk(f:Nat→eI)(l at_:Nat): Nat→Nat
 | 0=>at_
 | r+1=>if 2*at_+1+r<l∧iT f (2*at_+1+r) (pk f l at_ r)=true then 2*at_+1+r else pk f l at_ r
def pick(f:Nat→eI)(l at_:Nat): Nat:=pk f l at_ 2
variable{l at_ r k:Nat}
theorem N9{f:Nat→eI}(h:at_<l): ∀ r,pk f l at_ r<l
 | 0=>h
 | r+1=>by
  rw[pk];split
  ·rename_i h1;exact h1.1
  exact N9 h r
theorem Ut{f:Nat→eI}: ∀ r,pk f l at_ r=at_∨at_<pk f l at_ r
 | 0=>.inl rfl
 | r+1=>by
  rw[pk];split
  ·right;omega
  exact Ut r
theorem N8{f:Nat→eI}(h:l≤2*at_+1+r): ∀ j,pk f l at_ (r+j)=pk f l at_ r
 | 0=>rfl
 | j+1=>by rw[←Nat.add_assoc,pk,if_neg ai,N8 h j]
theorem ael{f:Nat→eI}(h:2*at_+1+r<l)(ha:iT f (2*at_+1+r) (pk f l at_ r)=true): pk f l at_ (r+1)=2*at_+1+r:=by rw[pk,if_pos ⟨h,ha⟩]
theorem agv{f:Nat→eI}(ha:iT f (2*at_+1+r) (pk f l at_ r)=false): pk f l at_ (r+1)=pk f l at_ r:=by rw[pk,if_neg (by rw[ha];simp)]
def down(l:Nat): Nat→(Nat→eI)→Nat→(Nat→eI)
 | 0,f,_=>f
 | k+1,f,at_=>if pick f l at_=at_ then f else down l k (cQ f at_ (pick f l at_)) (pick f l at_)
theorem Ex{f:Nat→eI}(h:at_=0∨iT f at_ ((at_ - 1) / 2)=false): up k f at_=(f,at_):=by
 cases k with
 | zero=>rfl
 | succ k=>
  rw[up,if_neg];rintro⟨h1,h2⟩;rcases h with h|h
  ·omega
  rw[h] at h2;cases h2
theorem NA{f:Nat→eI}(h:0<at_)(h2:iT f at_ ((at_ - 1) / 2)=true): up (k+1) f at_=up k (cQ f at_ ((at_ - 1) / 2)) ((at_ - 1) / 2):=by rw[up,if_pos ⟨h,h2⟩]
theorem xU{f:Nat→eI}(h:pick f l at_=at_): down l k f at_=f:=by
 cases k with
 | zero=>rfl
 | succ k=>rw[down,if_pos h]
theorem xV{f:Nat→eI}(h: ¬pick f l at_=at_): down l (k+1) f at_=down l k (cQ f at_ (pick f l at_)) (pick f l at_):=by rw[down,if_neg h]
theorem SC(l:Nat): ∀ (k at_:Nat) (f:Nat→eI),at_<l→(up k f at_).2<l
 | 0,_,_,h=>h
 | k+1,at_,f,h=>by
  rw[up];split
  ·exact SC l k _ _ ai
  exact h
def gp(f:Nat→eI)(l at_:Nat): Nat→eI:=down l l (up at_ f at_).1 (up at_ f at_).2
def jW(f:Nat→eI)(l:Nat)(φ:Int→Option Int): Prop:=(∀ i,i<l→φ (f i).bf=some (i:Int))∧∀ h i,φ h=some i→∃ j:Nat,j<l∧i=(j:Int)∧(f j).bf=h
end Hp
end
section
namespace tP
def Ct(a b c:Int): Bool:=decide (1≤a∧a≤1024∧1≤b∧b≤4096∧1≤c∧c≤64)
variable{a b c:Int}
theorem lR(h:Ct a b c=true): 1≤a∧a≤1024∧1≤b∧b≤4096∧1≤c∧c≤64:=by simpa[Ct] using h
theorem UB(h:Ct a b c=false): a<1∨1024<a∨b<1∨4096<b∨c<1∨64<c:=by
 simp only[Ct,decide_eq_false_iff_not] at h;omega
def Of(n:Int): Bool:=n==64||n==128||n==256||n==512||n==1024||n==2048||n==4096
theorem vI{n:Int}: Of n=true↔(n=64∨n=128∨n=256∨n=512∨n=1024∨n=2048∨n=4096):=by simp[Of,or_assoc]
def up(n m:Int): Int:=(n+m - 1) / m
theorem Vr{k n m:Int}(hm:1≤m): k<up n m↔k*m<n:=by
 unfold up;rw[Int.lt_iff_add_one_le,Int.le_ediv_iff_mul_le ai,Int.add_mul];omega
theorem agf{k n m:Int}(hm:1≤m): up n m≤k↔n≤k*m:=by
 have:=@Vr k n m hm;omega
theorem SB{n m:Int}(hn:1≤n)(hm:1≤m): 1≤up n m:=by
 have:=(@Vr 0 n m hm).2 ai;omega
theorem SE{n m:Int}(hn:0≤n)(hm:1≤m): up n m≤n:=by
 rw[agf hm];have:=Int.mul_le_mul_of_nonneg_left hm hn;omega
def image(a b:Int): Int:=20+14*min a b
theorem VB(h:1≤a)(h':1≤b): 34≤image a b:=KW
theorem VC{a b:Int}(h:a≤1024): image a b≤14356:=KW
def slot(a b m:Int): Int:=1+up (image a b) m
def Qq(a b m:Int): Int:=2*slot a b m+up 54 m
structure akZ(a b c m:Int): Prop where
 a1:1≤a
 a2:a≤1024
 b1:1≤b
 b2:b≤4096
 c1:1≤c
 c2:c≤64
 m1:64≤m
 m2:m≤4096
 i1:34≤image a b
 i2:image a b≤14356
 s1:2≤slot a b m
 s2:slot a b m≤14357
 u1:1≤up 54 m
 u2:up 54 m≤54
theorem ZO{m:Int} (hs:Ct a b c=true)(hz:Of m=true): akZ a b c m:=by
 obtain⟨h1,h2,h3,h4,h5,h6⟩:=lR hs;have hm:=vI.1 hz;have hi:=VB h1 h3;have hj:=@VC a b h2;have hu:=@SB (image a b) m ai ai;have hv:=@SE (image a b) m ai ai;have hw:=@SB 54 m ai ai;have hx:=@SE 54 m ai ai;exact⟨h1,h2,h3,h4,h5,h6,ai,ai,hi,hj,by unfold slot;omega,by unfold slot;omega,hw,hx⟩
def okD(n m:Int): Bool:=decide (1≤n) && (decide (n≤65536) && (Of m && decide (n*m≤67108864)))
