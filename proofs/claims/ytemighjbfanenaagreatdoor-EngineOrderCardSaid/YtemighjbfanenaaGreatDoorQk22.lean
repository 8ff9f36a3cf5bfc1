import Derived.Test.YtemighjbfanenaaGreatDoorQk7
import Derived.Test.YtemighjbfanenaaGreatDoorQk30
set_option linter.all false
set_option maxRecDepth 100000
set_option maxHeartbeats 16000000
namespace Go.Proofs.YtemighjbfanenaaGreatDoor
open RowKit
open En (dI vZ JZ Lg gF Rec Rg jU zb ya Sl qC bC bF bN dS cO fA aS aH lf bt cA cS)
open Oc (mL rE le bG tk T7 qT Ik val jX)
open Bk (bS B2 ie)
open Bool renaming false_eq_true→tC
open Go.IntKind renaming i64→aN,wrap_i64→mM
open Go.Proofs.Tryz renaming results302→zO,underlying108→eA,underlying58→ni,underlying41→cD,prog→af,results303→PL
open Go.Value renaming ownBlock→gU,oneCell'→fY
open Int renaming toNat_natCast→gY,reduceEq→kP,eq_ofNat_of_zero_le→eo,reduceToNat→tB
open List renaming append_nil→ji,getD_eq_getElem?_getD→bR,getElem?_eq_none→gW,not_mem_nil→nj,getElem?_eq_getElem→bY,mem_of_find?_eq_some→wA,append_assoc→jk
open Nat renaming zero_add→gV,lt_of_lt_of_le→aU
open RowKit.Below renaming refl→ar
theorem Ol{p:Prop}(h:p:=by
 refine bodyPost_ret (j8 zO _ iI (aL 58 Ph.o _ ni rfl bH)) rfl ?_;exact⟨fb,EW,Pn.o,adP,Pp.o⟩):p:=h
theorem U0{p:Prop}(h:p:=by
 simp only[jk,ji] at hh;unfold bK kv kZ;simp only[dx,gY,kP,if_true,if_false,tB,tC,ji,jk];rw[hh];simp[iP,cC,Qj,tU,xy,jt,rE,v4']):p:=h
theorem UZ{p:Prop}(h:p:=by
 simp only[jk,ji] at hh;unfold bK kv kZ;simp only[dx,gY,kP,if_true,if_false,tB,tC,ji,jk];rw[hh];simp[iP,cC,Qj,tU,xy,jt,rE]):p:=h
theorem UY{p:Prop}(h:p:=by
 refine bodyPost_ret (dy PL _ iI (aL 108 pA.o _ eA rfl aS)) rfl ?_;exact⟨by rw[HEQ.o];rfl,br Sf.o p8.o pd.o.1⟩):p:=h
theorem abR{p:Prop}(h:p:=by
 rw[eR] at hi ⊢;rw[eE] at hj ⊢;have hi':i<2:=hi;rcases(show i=0∨i=1 from ai)with rfl|rfl
 ·exact r7
 exact r6):p:=h
theorem jS{p:Prop}(h:p:=by refine⟨?_,?_⟩ <;>simp[cf]):p:=h
theorem mU{p:Prop}(h:p:=by rw[←hwd];exact az (ar _ _)):p:=h
theorem vu{p:Prop}(h:p:=by simp[lf,fY]):p:=h
theorem rL{p:Prop}(h:p:=by injection e with e;have:=pd.o;omega):p:=h
theorem Ic{p:Prop}(h:p:=by rw[←hw2,←a8];exact ay (ay (ar _ _) _) _):p:=h
theorem SR{p:Prop}(h:p:=by unfold bt;simp only[Bool.or_eq_true,Bool.and_eq_true,decide_eq_true_eq];omega):p:=h
theorem SP{p:Prop}(h:p:=by simp[fA,fY]):p:=h
theorem NC{p:Prop}(h:p:=by rw[←hw2,←a8,←il];exact(aG.fresh w _ _).alloc _):p:=h
theorem Dj{p:Prop}(h:p:=by injection e with e;exact HNF.o e):p:=h
theorem p9{p:Prop}(h:p:=by rw[c];decide):p:=h
theorem TV{p:Prop}(h:p:=by rcases hk with hk|hk|hk;exact .inl hk;exact .inr (by omega);exact .inr (by omega)):p:=h
theorem TN{p:Prop}(h:p:=by rw[←hw3,←hw2,←a8];exact ay (ay (ay (ar _ _) _) _) _):p:=h
theorem Lo{p:Prop}(h:p:=by obtain⟨x,hx⟩:=h;exact fT (hx.ak hW).bg):p:=h
theorem xk{p:Prop}(h:p:=by rw[mM];omega):p:=h
theorem EW{p:Prop}(h:p:=by rw[HRU.o,wj.o];rfl):p:=h
theorem TC{p:Prop}(h:p:=by rw[←hw3,←hw2,←a8,←il];exact((aG.fresh w _ _).alloc _).alloc _):p:=h
theorem uv{p:Prop}(h:p:=by have:=f3 rfl;omega):p:=h
theorem Tx{p:Prop}(h:p:=by rw[er] at hr;simp[Rec.ok,recKind,dN,within] at hr;omega):p:=h
theorem ET{p:Prop}(h:p:=by rw[←Mj];exact iu.o.alloc _):p:=h
theorem Li{p:Prop}(h:p:=by obtain⟨x,hx⟩:=h;exact⟨x,hx.ak hW⟩):p:=h
theorem Tj{p:Prop}(h:p:=by rcases h.count with h|h <;>simp only at h <;>omega):p:=h
theorem EM{p:Prop}(h:p:=by rw[←vk];exact dV.o.size):p:=h
theorem Ti{p:Prop}(h:p:=by rcases h with h|h;exact .inl h;exact .inr (.inl h)):p:=h
theorem Th{p:Prop}(h:p:=by injection e with e;exact .inl (.inr (.inr e.symm))):p:=h
theorem Te{p:Prop}(h:p:=by rcases h.aw with h|h <;>simp only at h <;>omega):p:=h
theorem Lc{p:Prop}(h:p:=by obtain⟨x,hx⟩:=h;exact hx.bg.lt):p:=h
theorem wZ{p:Prop}(h:p:=by have:=hb.n;omega):p:=h
theorem adP{p:Prop}(h:p:=by rw[HRU.o];exact Pm.o):p:=h
theorem wX{p:Prop}(h:p:=by exact pd.o.2.1):p:=h
theorem EG{p:Prop}(h:p:=by have:=iu.o.lt;omega):p:=h
theorem EE{p:Prop}(h:p:=by have:=f2 rfl;omega):p:=h
theorem KP{p:Prop}(h:p:=by rw[←nZ,←a8,←il];simp):p:=h
section
namespace Eg
open Bk
def ia(w:World)(e:Nat)(up:Bool)(lg sl bk:Option Addr)(wt:Value)(mp:Value): Prop:=aG w e 68 #[.bool true,.bool up,.pointer lg,.pointer sl,.pointer bk,wt,mp]
theorem kE{w:World}{e:Nat}{up:Bool}{lg sl bk:Option Addr}{wt mp:Value}(h:ia w e up lg sl bk wt mp): Calls af 23 #[.pointer (some ⟨e,0,none⟩)] w fun en w'=>en= .returned (.bool up)∧w'=w:=by
 have x1:w.cell? ⟨e,1,none⟩=some (.bool up):=h.cell 1;clear h;go_enter Tryz.func23,Tryz.ntmps23;go_wp2_with fail;go_ret;exact⟨rfl,rfl⟩
end Eg
end
section
namespace Eg
open Bk
def LR: List (Int × Value)→Int→Option Value
 | [],_=>none
 | x::r,i=>if i=x.1 then some x.2 else LR r i
def jv(w:World)(b:Nat)(l:List (Int × Value)): Prop:=fB af 38 .i64 w b l.length (LR l)
theorem jv.put{w':World}{b:Nat}{l:List (Int × Value)}{i:Int}{v:Value}(hl:LR l i=none)(h:fB af 38 .i64 w' b (if(LR l i).isSome then l.length else l.length+1) (CN (LR l) i (some v))): jv w' b ((i,v)::l):=by
 rw[hl] at h;have e:CN (LR l) i (some v)=LR ((i,v)::l):=funext fun j=>rfl
 rw[e] at h;exact h
theorem CK{w:World}{ops:Array Oper}{rest:List Oper}{o:Oper}{a:Act}{Q:Exit→Act→World→Prop}(hg:o.guard=none)(m x y:Operand)(hop:o.op=Op.insert 66 m x y)
  (b:Nat) (l:List (Int × Value)) (hm:a.eval m= .map (some b)) (h:jv w b l) (i:Int) (v:Value) (hx:a.eval x= .int .i64 i) (hy:a.eval y=v) (hi:(Lit.int .i64 i).wf=true) (hn:LR l i=none) (hlen:l.length<100)
  (hK: ∀ w',jv w' b ((i,v)::l)→w.grownBy w' (some b)→wpList af ops Q rest (a.put o.dst undef) w'):wpList af ops Q (o::rest) a w:=by
 refine wpList_plain hg fun K' hK'=>?_
 obtain⟨w',hrun,r1,r2⟩:=fB.put h Tryz.underlying38 Tryz.underlying66 jR hi (v:=v);unfold Oper.wp;simp[execOp,hop,hm,hx,hy,hrun,Result.andThen];exact hK' _ _ (hK w' (jv.put hn r1) r2)
def jF(e:Nat): List (Int × Value):=[(7,.func (.func 101) #[.pointer (some ⟨e,0,none⟩)] #[]),(4,.func (.func 101) #[.pointer (some ⟨e,0,none⟩)] #[]),(3,.func (.func 101) #[.pointer (some ⟨e,0,none⟩)] #[]),(2,.func (.func 101) #[.pointer (some ⟨e,0,none⟩)] #[]),(1,.func (.func 101) #[.pointer (some ⟨e,0,none⟩)] #[]),(9,.func (.func 100) #[.pointer (some ⟨e,0,none⟩)] #[]),(8,.func (.func 99) #[.pointer (some ⟨e,0,none⟩)] #[]),(10,.func (.func 98) #[.pointer (some ⟨e,0,none⟩)] #[]),(6,.func (.func 98) #[.pointer (some ⟨e,0,none⟩)] #[]),(5,.func (.func 98) #[.pointer (some ⟨e,0,none⟩)] #[])]
def ait(q s b:Nat)(w:World)(en:Ending)(w':World): Prop:=∃ e mb,en= .returned (.tuple #[.pointer (some ⟨e,0,none⟩),.int .i64 0])∧ia w' e true (some ⟨q,0,none⟩) (some ⟨s,0,none⟩) (some ⟨b,0,none⟩) (.slice none 0 0) (.map (some mb))∧jv w' mb (jF e)∧w.heap.size≤e∧w.heap.size≤mb∧Below w.heap.size w w'
theorem O5{S T:Nat→Prop}{w:World}{q r p s ra rb p2 b n au:Nat}{l:Lg}{g:Rg}{size:Nat}{v:Value}{sl:Sl}{aA next aq:Int}{len:Nat}{qq:bI}(hl:gF S w q r p l g size v)(hs:qC w s ra rb p2 sl size)(h:cG T w b n au aA next aq len qq)(hn:1≤n∧n≤1024):
  Calls af 33 #[.pointer (some ⟨q,0,none⟩),.pointer (some ⟨s,0,none⟩),.pointer (some ⟨b,0,none⟩)] w (ait q s b w):=by
 have hbl:=hl.rg.eU;have hb1:1≤g.bytes size:=by unfold Rg.bytes;exact Nat.mul_pos hl.rg.count.1 hl.rg.size.1
 have y7:=hl.fit;have kU:1≤sl.bytes size:=by
  have h1:=hs.two;have h2:=hs.a.size;have h3:2*size≤sl.a.count*size:=Nat.mul_le_mul_right _ h1;unfold Sl.bytes Rg.bytes;omega
 obtain⟨us,hus⟩:=ae l.used;obtain⟨rm,hrm⟩:=ae (g.bytes size - l.used);obtain⟨sb,agZ⟩:=ae (sl.bytes size);have MQ:=aa (show ∀ W,Below w.heap.size w W→Calls af 96 #[.pointer (some ⟨q,0,none⟩)] W (fun e w'=>e= .returned (.int .i64 (rm:Nat))∧Below W.heap.size W w')from fun W hW=>by
  have h1:=vZ ((show En.gF S W q r p l g size v from⟨hl.own.ah hW,hl.rg.ah hW,eB hl.row fun k hk=>hW.block k (eP hl.row hk).1,hl.bB,fun k hk=>aU (hl.lt k hk) hW.size,hl.ok,hl.fit⟩))
  rwa [hrm] at h1)
 have Pa:=aa (show ∀ W,Below w.heap.size w W→Calls af 81 #[.pointer (some ⟨q,0,none⟩)] W (fun e w'=>e= .returned (.int .i64 (us:Nat))∧Below W.heap.size W w')from fun W hW=>by
  have h1:=JZ ((show En.gF S W q r p l g size v from⟨hl.own.ah hW,hl.rg.ah hW,eB hl.row fun k hk=>hW.block k (eP hl.row hk).1,hl.bB,fun k hk=>aU (hl.lt k hk) hW.size,hl.ok,hl.fit⟩))
  rwa [hus] at h1)
 have Pf:=aa (show ∀ W,Below w.heap.size w W→Calls af 97 #[.pointer (some ⟨s,0,none⟩)] W (fun e w'=>e= .returned (.int .i64 (sb:Nat))∧Below W.heap.size W w')from fun W hW=>by
  have h1:=ya (hs.ah hW)
  rwa [agZ] at h1)
 have Hj:=aa (show ∀ W,Below w.heap.size w W→Calls af 38 #[.pointer (some ⟨b,0,none⟩)] W (fun e w'=>e= .returned (.agg #[.int .i64 n,.int .i64 au,.int .i64 aA])∧Below W.heap.size W w')from fun W hW=>fT (h.ak hW));have mG:rm+us=g.bytes size:=ai;have hz0:(((rm+us:Nat):Int)==0)=false:=Ii;have hz1:(((rm:Int)+(us:Int))==0)=false:=Ii;have hz2:((sb:Int)==0)=false:=Ii;have hz3:((n:Int)==0)=false:=Ii;have hz4:aN.wrap ((rm:Int)+(us:Int))=(rm:Int)+(us:Int):=xk;have hsm:rm+us≤268435456:=ai;have amq: ∀ W,(Instr.field 80 (.agg #[.int .i64 n,.int .i64 au,.int .i64 aA]) 0).run af W= .ok (.int .i64 n) W:=fun W=>bh
 have VZ:=@run_makeMap af;clear hl hs h hbl hb1 y7 kU hus hrm agZ mG;go_enter Tryz.func33,Tryz.ntmps33;go_wp2_with fail;refine(MQ.o w (ar _ _)).mono ?_;rintro e w1 ⟨rfl,hb1⟩;have bA:=aa hb1;clear hb1;go_wp2_with fail;refine(Pa.o w1 bA.o).mono ?_;rintro e w2 ⟨rfl,hb2⟩;have cu:=bA.dQ hb2;clear hb2;go_wp2_with fail;refine(Pf.o w2 cu.o).mono ?_;rintro e w3 ⟨rfl,hb3⟩;have dV:=cu.dQ hb3;clear hb3;go_wp2_with fail;refine(Hj.o w3 dV.o).mono ?_;rintro e w4 ⟨rfl,hb4⟩;obtain⟨eb,heb⟩:=ae w4.heap.size;obtain⟨w6,og⟩:=ae ((w4.alloc (.cells #[.bool true,.bool true,.pointer (some ⟨q,0,none⟩),.pointer (some ⟨s,0,none⟩),.pointer (some ⟨b,0,none⟩),.slice none 0 0,.map none] 68)).alloc (.map #[] 0));have mZ:Below w.heap.size w w6:=by rw[←og];exact ay (ay (av dV.o hb4) _) _
 have CA:jv w6 (eb+1) []:=by
  have h1:=fB.made af 38 .i64 (w4.alloc (.cells #[.bool true,.bool true,.pointer (some ⟨q,0,none⟩),.pointer (some ⟨s,0,none⟩),.pointer (some ⟨b,0,none⟩),.slice none 0 0,.map none] 68));rw[og] at h1;simp only[World.size_alloc] at h1;rw[heb] at h1;exact h1
 have Mk:aG w6 eb 68 #[.bool true,.bool true,.pointer (some ⟨q,0,none⟩),.pointer (some ⟨s,0,none⟩),.pointer (some ⟨b,0,none⟩),.slice none 0 0,.map none]:=by rw[←og,←heb];exact(aG.fresh w4 _ _).alloc _
 have HE:=aa (show w.heap.size≤eb by have:=(av dV.o hb4).size;omega);have HM:=aa (show jv w6 (eb+1) []∧aG w6 eb 68 #[.bool true,.bool true,.pointer (some ⟨q,0,none⟩),.pointer (some ⟨s,0,none⟩),.pointer (some ⟨b,0,none⟩),.slice none 0 0,.map none]∧Below w.heap.size w w6 from⟨CA,Mk,mZ⟩);have HEB:=aa heb;clear hb4 mZ CA Mk bA cu dV;go_wp2_with (refine CK rfl _ _ _ rfl (eb+1) _ (by first|rfl|(rw[←HEB.o];rfl)) HM.o.1 _ _ rfl rfl aM iI dM ?_;intro wN hm hg;replace HM:=aa (show jv wN (eb+1) _∧aG wN eb 68 #[.bool true,.bool true,.pointer (some ⟨q,0,none⟩),.pointer (some ⟨s,0,none⟩),.pointer (some ⟨b,0,none⟩),.slice none 0 0,.map none]∧Below w.heap.size w wN from⟨hm,HM.o.2.1.bz hg (fun e=>l9),HM.o.2.2.grown hg HM.o.2.2.size (fun k e=>by injection e with e;have:=HE.o;omega)⟩);clear hm hg;have c6:wN.cell? ⟨eb,6,none⟩=some (.map none):=HM.o.2.1.cell 6;have f6:wN.frozen? ⟨eb,6,none⟩=false:=HM.o.2.1.mark 6);go_ret2;refine⟨eb,eb+1,rfl,?_,?_,HE.o,by have:=HE.o;omega,HM.o.2.2.setCell (by exact HE.o) _⟩
 ·exact HM.o.2.1.put 6 _
 ·exact fB.same HM.o.1 (Below.heap_setCell _ _ _ _ (by show eb+1≠eb;omega))
end Eg
end
section
namespace En
def R4(w:World)(A:Option Addr)(l:List Rp): Prop:=l≠ []→∃ g off,A=some ⟨g,off,none⟩∧g<w.heap.size∧∀ i (h:i<l.length),w.rangeAt g (off+i*7) (lf l[i]).toList
theorem R4.ah{w w':World}{A:Option Addr}{l:List Rp}(h:R4 w A l)(hb:Below w.heap.size w w'): R4 w' A l:=fun hne=>by
 obtain⟨g,off,h1,h2,h3⟩:=h hne;exact⟨g,off,h1,aU h2 hb.size,fun i hi j u hj=>(hb.cell (p:=⟨g,off+i*7+j,none⟩) h2).trans (h3 i hi j u hj)⟩
def cN(r:Rp): By:=nC (yT r.ax r.err) r.tag.toNat r.ax.toNat r.err.toNat r.id.toNat r.aw.toNat r.aR.toNat r.count.toNat
theorem yB(r:Rp): 7≤(cN r).length∧(cN r).length≤32:=by
 have hf:=Fk r.ax r.err;unfold cN;obtain⟨f,Y4⟩:=ae (yT r.ax r.err);rw[Y4] at hf ⊢;unfold nC;rcases hf with rfl|rfl|rfl|rfl|rfl|rfl <;>simp[Oc.bG]
theorem Xs(r:Rp)(w:World)(ht:fp w)(h:yb r (yT r.ax r.err)): Calls af 65 #[.agg (lf r)] w (yL (cN r) w):=by
 obtain⟨tg,kd,er,id,st,tl,ct⟩:=r;have h1:=h.tag;have h2:=h.ax;have h3:=h.err;have h4:=h.id;have h5:=h.aR;have h6:0≤st:=Te;have h7:0≤ct:=Tj;simp only at h1 h2 h3 h4 h5;obtain⟨tg,rfl⟩:=eo h1.1;obtain⟨kd,rfl⟩:=eo h2.1;obtain⟨er,rfl⟩:=eo h3.1;obtain⟨id,rfl⟩:=eo h4.1;obtain⟨tl,rfl⟩:=eo h5.1;obtain⟨st,rfl⟩:=eo h6;obtain⟨ct,rfl⟩:=eo h7;exact Xr tg kd er id st tl ct _ w ht h
structure kG(base:Nat)(w:World)(v:Value)(L:List By)(G C:Nat→Nat): Prop where
 row:aP (fun k=>v.ownBlock=some k) w 34 1 v L.length (fun i=>[.slice (some ⟨G i,0,none⟩) (L.getD i []).length (C i)])
 each: ∀ i,i<L.length→mL w (G i) (L.getD i []) (C i)∧(L.getD i []).length≤C i∧base≤G i∧v.ownBlock≠some (G i)
 new: ∀ k,v.ownBlock=some k→base≤k
 aib: ∀ i j,i<L.length→j<L.length→G i=G j→i=j
theorem kG.ah{base:Nat}{w w':World}{v:Value}{L:List By}{G C:Nat→Nat}(h:kG base w v L G C)(hb:Below w.heap.size w w'): kG base w' v L G C:=
 ⟨h.row.ah hb,fun i hi=>⟨(h.each i hi).1.ah hb,(h.each i hi).2⟩,h.new,h.aib⟩
theorem kG.nil(base:Nat)(w:World): kG base w (.slice none 0 0) [] (fun _=>0) (fun _=>0):=
 ⟨⟨sV w 0 1 _,fun g h=>h⟩,fun i hi=>by simp at hi,fun k h=>mC,fun i j hi=>absurd hi (Nat.not_lt_zero _)⟩
theorem Iq(L:List By)(x:By)(i:Nat): (L++ [x]).getD i []=if i=L.length then x else L.getD i []:=by
 simp only[bR];by_cases h:i=L.length
 ·subst h;simp
 rw[if_neg h];rcases Nat.lt_or_ge i L.length with h1|h1
 ·rw[List.getElem?_append_left h1]
 rw[gW fZ,gW h1]
theorem kG.snoc{base:Nat}{wr w7 w8:World}{v:Value}{L:List By}{G C:Nat→Nat}{x:By}{g2 c2 ga ca:Nat}(h:kG base wr v L G C)(hb:Below wr.heap.size wr w7)(hx:mL w7 g2 x c2)(hg2:wr.heap.size≤g2)(hbase:base≤wr.heap.size)(hc:x.length≤c2)
  (hr:aP (fun k=>v.ownBlock=some k∨k=w7.heap.size) w8 34 1 (.slice (some ⟨ga,0,none⟩) (L.length+1) ca) (L.length+1) (cK (fun i=>[.slice (some ⟨G i,0,none⟩) (L.getD i []).length (C i)]) L.length [.slice (some ⟨g2,0,none⟩) x.length c2])) (hg:w7.grownBy w8 v.ownBlock) :
  kG base w8 (.slice (some ⟨ga,0,none⟩) (L.length+1) ca) (L++ [x]) (fun i=>if i=L.length then g2 else G i) (fun i=>if i=L.length then c2 else C i):=by
 have hlen:(L++ [x]).length=L.length+1:=dM;have hgx:=hx.lt;have hz:=hb.size;have hown: ∀ k,v.ownBlock=some k→k<wr.heap.size:=fun k hk=>(eP h.row.own hk).1
 have Kq:v.ownBlock=some ga∨ga=w7.heap.size:=hr.block ga rfl;have akB:(fun i=>[Value.slice (some ⟨if i=L.length then g2 else G i,0,none⟩) ((L++ [x]).getD i []).length (if i=L.length then c2 else C i)])=cK (fun i=>[.slice (some ⟨G i,0,none⟩) (L.getD i []).length (C i)]) L.length [.slice (some ⟨g2,0,none⟩) x.length c2]:=by
  funext i;rw[Iq];unfold cK;by_cases hi:i=L.length
  ·simp[hi]
  simp[hi]
 refine⟨⟨by rw[hlen,akB];exact hr.own,fun g hg=>hg⟩,fun i hi=>?_,fun k hk=>?_,fun i j hi hj he=>?_⟩
 ·rw[Iq];by_cases hi2:i=L.length
  ·simp only[if_pos hi2];refine⟨hx.same (hg.block g2 hgx (fun e=>by have:=hown g2 e.symm;omega)),hc,ai,fun e=>?_⟩;have e2:ga=g2:=K5;rcases Kq with h1|h1
   ·have:=hown ga h1;omega
   omega
  simp only[if_neg hi2];have hi3:i<L.length:=ai;obtain⟨b1,b2,b3,b4⟩:=h.each i hi3;have hbl:=b1.lt;refine⟨(b1.same (hb.block _ hbl)).same (hg.block (G i) ai (fun e=>b4 e.symm)),b2,b3,fun e=>?_⟩;have e2:ga=G i:=K5;rcases Kq with h1|h1
  ·exact b4 (by rw[h1,e2])
  omega
 ·have e2:ga=k:=by simpa[gU] using hk
  rcases Kq with h1|h1
  ·rw[←e2];exact h.new ga h1
  omega
 ·rw[hlen] at hi hj;by_cases a1:i=L.length
  ·by_cases a2:j=L.length
   ·omega
   rw[if_pos a1,if_neg a2] at he;have hq:=(h.each j ai).1.lt;omega
  by_cases a2:j=L.length
  ·rw[if_neg a1,if_pos a2] at he;have hq:=(h.each i ai).1.lt;omega
  rw[if_neg a1,if_neg a2] at he;exact h.aib i j ai ai he
def aii(l:List Rp)(R:World→Prop)(w:World)(e:Ending)(w':World): Prop:=∃ A c,e= .returned (.slice A l.length c)∧R4 w' A l∧R w'
def M8(L:List By)(R:World→Prop)(w:World)(e:Ending)(w':World): Prop:=∃ v G C wc,e= .returned v∧kG wc.heap.size w' v L G C∧w.heap.size≤wc.heap.size∧R wc∧Below wc.heap.size wc w'
theorem lB(q:Rq)(er:Int)(w:World): Calls af 64 #[.agg (cS q),.int .i64 er] w (aii [⟨q.tag,q.ax,er,0,0,0,0⟩] (fun w'=>Below w.heap.size w w') w):=by
 obtain⟨xq,il⟩:=ae w.heap.size;obtain⟨w1,a8⟩:=ae (w.alloc (.cells (cS q) 41));have bp:=aJ a8 il;have bA:=aa (aK a8);have c0:w1.cell? ⟨xq,0,none⟩=some (.int .i64 q.ax):=bp.cell 0;have c1:w1.cell? ⟨xq,1,none⟩=some (.int .u32 q.tag):=bp.cell 1;clear bp;go_enter Tryz.func64,Tryz.ntmps64;go_wp2_with fail;go_ret;refine⟨_,_,rfl,?_,ay bA.o _⟩;intro _;refine⟨w1.heap.size,0,rfl,dM,fun i hi j u hj=>?_⟩;have h0:i=0:=Ak;subst h0;have:=(aG.fresh w1 108 (lf ⟨q.tag,q.ax,er,0,0,0,0⟩)).cell j;simp only[Nat.zero_mul,gV];refine this.trans ?_;simpa using hj
end En
end
section
namespace En
theorem bH: (af.info? 58).map (·.size)=some 5:=bh
theorem JR(q:Rq)(r:Rec)(w:World): Calls af 303 #[.agg (cS q),.agg (fA r)] w fun e w'=>e= .returned (.agg (lf (bN q r)))∧Below w.heap.size w w':=by
 obtain⟨xq,il⟩:=ae w.heap.size;obtain⟨w1,a8⟩:=ae (w.alloc (.cells (cS q) 41));obtain⟨xc,hxc⟩:=ae w1.heap.size;obtain⟨w2,hw2⟩:=ae (w1.alloc (.cells (fA r) 58));obtain⟨xr,nZ⟩:=ae w2.heap.size;obtain⟨w3,hw3⟩:=ae (w2.alloc (.cells #[.int .u32 0,.int .i64 0,.int .i64 0,.int .u32 0,.int .i64 0,.int .i64 0,.int .i64 0] 108));obtain⟨xo,hxo⟩:=ae w3.heap.size;obtain⟨w4,hw4⟩:=ae (w3.alloc (.cells #[.int .u32 0,.int .i64 0,.int .i64 0,.int .u32 0,.int .i64 0,.int .i64 0,.int .i64 0] 108));have hQ3:aG w3 xq 41 (cS q):=TC;have RD:=aa (show aG w3 xc 58 (fA r)by rw[←hw3,←hw2,←hxc];exact(aG.fresh w1 _ _).alloc _);have iu:=aa (aJ hw3 nZ);have HO4:=aa (aJ hw4 hxo);have dV:=aa (show Below w.heap.size w w3 from TN);have gj:=aa (aK hw4);have HXO:=aa hxo;have alx:=aa (show xc<xo from by have:=RD.o.lt;have:=HXO.o;omega);have pd:=aa (show w.heap.size≤xr∧w.heap.size≤xo∧xr≠xo from by have h1:=iu.o.lt;have h2:=HXO.o;have h3:w.heap.size≤xr:=(by rw[←nZ,←hw2,←a8];simp;omega);omega);have c1:w3.cell? ⟨xq,1,none⟩=some (.int .u32 q.tag):=hQ3.cell 1;have c0:w3.cell? ⟨xq,0,none⟩=some (.int .i64 q.ax):=hQ3.cell 0;have jy:=aa hQ3;clear hQ3;go_enter Tryz.func303,Tryz.ntmps303;go_upto_region 2 with(refine aj rfl 108 _ _ rfl xo 108 _ #[.int .u32 q.tag,.int .i64 q.ax,.int .i64 0,.int .u32 0,.int .i64 0,.int .i64 0,.int .i64 0] HO4.o rfl rfl rfl aS et ?_;intro w5 hO5 fF hs5;have eu:=aa (show Below w3.heap.size w3 w5 from br gj.o fF (Nat.le_of_eq HXO.o));have um:=aa hO5;clear hO5 fF hs5)
 have qG:=iu.jC eu.o;have M3:=RD.jC eu.o;have X7:=jy.jC eu.o;have kS:=aa (av dV.o eu.o);clear c0 c1 iu RD jy dV gj HO4 HXO hxo hw4 eu;have d0:w5.cell? ⟨xq,0,none⟩=some (.int .i64 q.ax):=X7.o.cell 0;by_cases hk:q.ax=1
 ·have t0:(q.ax==1)=true:=beq_iff_eq.2 ai;have e1:w5.cell? ⟨xc,1,none⟩=some (.int .u32 r.id):=M3.o.cell 1;have e3:w5.cell? ⟨xc,3,none⟩=some (.int .i64 r.aR):=M3.o.cell 3;have HEQ:=aa (show bN q r=⟨q.tag,q.ax,0,r.id,0,r.aR,0⟩from by unfold bN;rw[if_pos hk]);have MW:=aa (show aG ((w5.setCell ⟨xo,3,none⟩ (.int .u32 r.id)).setCell ⟨xo,5,none⟩ (.int .i64 r.aR)) xo 108 #[.int .u32 q.tag,.int .i64 q.ax,.int .i64 0,.int .u32 r.id,.int .i64 0,.int .i64 r.aR,.int .i64 0] from((um.o).put 3 _).put 5 _);have B9:=aa (show aG ((w5.setCell ⟨xo,3,none⟩ (.int .u32 r.id)).setCell ⟨xo,5,none⟩ (.int .i64 r.aR)) xr 108 _ from((qG.o).other (p:=⟨xo,3,none⟩) pd.o.2.2 _).other (p:=⟨xo,5,none⟩) pd.o.2.2 _);have Cg:=aa (show Below w.heap.size w ((w5.setCell ⟨xo,3,none⟩ (.int .u32 r.id)).setCell ⟨xo,5,none⟩ (.int .i64 r.aR)).drew from az (((kS.o).setCell wX _).setCell wX _));have alj:=aa (show aG ((w5.setCell ⟨xo,5,none⟩ (.int .i64 r.aR)).setCell ⟨xo,3,none⟩ (.int .u32 r.id)) xo 108 #[.int .u32 q.tag,.int .i64 q.ax,.int .i64 0,.int .u32 r.id,.int .i64 0,.int .i64 r.aR,.int .i64 0] from((um.o).put 5 _).put 3 _);have X5:=aa (show aG ((w5.setCell ⟨xo,5,none⟩ (.int .i64 r.aR)).setCell ⟨xo,3,none⟩ (.int .u32 r.id)) xr 108 _ from((qG.o).other (p:=⟨xo,5,none⟩) pd.o.2.2 _).other (p:=⟨xo,3,none⟩) pd.o.2.2 _);have ajn:=aa (show Below w.heap.size w ((w5.setCell ⟨xo,5,none⟩ (.int .i64 r.aR)).setCell ⟨xo,3,none⟩ (.int .u32 r.id)).drew from az (((kS.o).setCell wX _).setCell wX _));have m3:=um.o.mark 3;have m4:=um.o.mark 4;have m5:=um.o.mark 5;have o3:w5.cell? ⟨xo,3,none⟩=some (.int .u32 0):=um.o.cell 3;have o4:w5.cell? ⟨xo,4,none⟩=some (.int .i64 0):=um.o.cell 4;have o5:w5.cell? ⟨xo,5,none⟩=some (.int .i64 0):=um.o.cell 5;have HXC:=aa (show xc≠xo from by have:=alx.o;omega);have f3:(w5.setCell ⟨xo,3,none⟩ (.int .u32 r.id)).cell? ⟨xc,3,none⟩=some (.int .i64 r.aR):=(M3.o.other (p:=⟨xo,3,none⟩) HXC.o _).cell 3;have f1:(w5.setCell ⟨xo,5,none⟩ (.int .i64 r.aR)).cell? ⟨xc,1,none⟩=some (.int .u32 r.id):=(M3.o.other (p:=⟨xo,5,none⟩) HXC.o _).cell 1;clear hk;go_upto_region 4 with fail
  go_region;all_goals(go_wp2_with (first|(refine aC rfl 108 (.tmp 5) rfl xo 108 _ MW.o rfl _ eA rfl aS ?_)|(refine aj rfl 108 (.tmp 4) _ rfl xr 108 _ #[.int .u32 q.tag,.int .i64 q.ax,.int .i64 0,.int .u32 r.id,.int .i64 0,.int .i64 r.aR,.int .i64 0] B9.o rfl rfl rfl aS et ?_;intro w9 dG dD gJ;have pA:=aa dG;have p8:=aa dD;have Sf:=aa Cg.o;clear dG dD gJ)|(refine aC rfl 108 (.tmp 5) rfl xo 108 _ alj.o rfl _ eA rfl aS ?_)|(refine aj rfl 108 (.tmp 4) _ rfl xr 108 _ #[.int .u32 q.tag,.int .i64 q.ax,.int .i64 0,.int .u32 r.id,.int .i64 0,.int .i64 r.aR,.int .i64 0] X5.o rfl rfl rfl aS et ?_;intro w9 dG dD gJ;have pA:=aa dG;have p8:=aa dD;have Sf:=aa ajn.o;clear dG dD gJ)))
  all_goals(refine bodyPost_ret (dy PL _ iI (aL 108 pA.o _ eA rfl aS)) rfl ?_;exact⟨by rw[HEQ.o];rfl,br Sf.o p8.o pd.o.1⟩)
 have yF:=hk;clear hk;by_cases hk:q.ax=4
 ·have t0:(q.ax==1)=false:=beq_eq_false_iff_ne.2 ai;have t1:(q.ax==4)=true:=beq_iff_eq.2 ai;have e2:w5.cell? ⟨xc,2,none⟩=some (.int .i64 r.aw):=M3.o.cell 2;have HEQ:=aa (show bN q r=⟨q.tag,q.ax,0,0,r.aw,0,0⟩from by unfold bN;rw[if_neg ai,if_pos hk]);have MW:=aa (show aG (w5.setCell ⟨xo,4,none⟩ (.int .i64 r.aw)) xo 108 #[.int .u32 q.tag,.int .i64 q.ax,.int .i64 0,.int .u32 0,.int .i64 r.aw,.int .i64 0,.int .i64 0] from(um.o).put 4 _);have B9:=aa (show aG (w5.setCell ⟨xo,4,none⟩ (.int .i64 r.aw)) xr 108 _ from(qG.o).other (p:=⟨xo,4,none⟩) pd.o.2.2 _);have Cg:=aa (show Below w.heap.size w (w5.setCell ⟨xo,4,none⟩ (.int .i64 r.aw))from(kS.o).setCell wX _);have m3:=um.o.mark 3;have m4:=um.o.mark 4;have m5:=um.o.mark 5;have o3:w5.cell? ⟨xo,3,none⟩=some (.int .u32 0):=um.o.cell 3;have o4:w5.cell? ⟨xo,4,none⟩=some (.int .i64 0):=um.o.cell 4;have o5:w5.cell? ⟨xo,5,none⟩=some (.int .i64 0):=um.o.cell 5;clear hk;go_wp2_with (first|(refine aC rfl 108 (.tmp 5) rfl xo 108 _ MW.o rfl _ eA rfl aS ?_)|(refine aj rfl 108 (.tmp 4) _ rfl xr 108 _ #[.int .u32 q.tag,.int .i64 q.ax,.int .i64 0,.int .u32 0,.int .i64 r.aw,.int .i64 0,.int .i64 0] B9.o rfl rfl rfl aS et ?_;intro w9 dG dD gJ;have pA:=aa dG;have p8:=aa dD;have Sf:=aa Cg.o;clear dG dD gJ));exact UY
 have hk4:=hk;clear hk;by_cases hk:q.ax=7
 ·have t0:(q.ax==1)=false:=beq_eq_false_iff_ne.2 ai;have t1:(q.ax==4)=false:=bQ;have t2:(q.ax==7)=true:=beq_iff_eq.2 ai;have e4:w5.cell? ⟨xc,4,none⟩=some (.int .i64 r.aq):=M3.o.cell 4;have HEQ:=aa (show bN q r=⟨q.tag,q.ax,0,0,0,r.aq,0⟩from by unfold bN;rw[if_neg ai,if_neg ai,if_pos hk]);have MW:=aa (show aG (w5.setCell ⟨xo,5,none⟩ (.int .i64 r.aq)) xo 108 #[.int .u32 q.tag,.int .i64 q.ax,.int .i64 0,.int .u32 0,.int .i64 0,.int .i64 r.aq,.int .i64 0] from(um.o).put 5 _);have B9:=aa (show aG (w5.setCell ⟨xo,5,none⟩ (.int .i64 r.aq)) xr 108 _ from(qG.o).other (p:=⟨xo,5,none⟩) pd.o.2.2 _);have Cg:=aa (show Below w.heap.size w (w5.setCell ⟨xo,5,none⟩ (.int .i64 r.aq))from(kS.o).setCell wX _);have m3:=um.o.mark 3;have m4:=um.o.mark 4;have m5:=um.o.mark 5;have o3:w5.cell? ⟨xo,3,none⟩=some (.int .u32 0):=um.o.cell 3;have o4:w5.cell? ⟨xo,4,none⟩=some (.int .i64 0):=um.o.cell 4;have o5:w5.cell? ⟨xo,5,none⟩=some (.int .i64 0):=um.o.cell 5;clear hk;go_wp2_with (first|(refine aC rfl 108 (.tmp 5) rfl xo 108 _ MW.o rfl _ eA rfl aS ?_)|(refine aj rfl 108 (.tmp 4) _ rfl xr 108 _ #[.int .u32 q.tag,.int .i64 q.ax,.int .i64 0,.int .u32 0,.int .i64 0,.int .i64 r.aq,.int .i64 0] B9.o rfl rfl rfl aS et ?_;intro w9 dG dD gJ;have pA:=aa dG;have p8:=aa dD;have Sf:=aa Cg.o;clear dG dD gJ));exact UY
 have hk9:=hk;have t0:(q.ax==1)=false:=bQ;have t1:(q.ax==4)=false:=bQ;have t2:(q.ax==7)=false:=bQ;have HEQ:=aa (show bN q r=⟨q.tag,q.ax,0,0,0,0,0⟩from by unfold bN;rw[if_neg ai,if_neg ai,if_neg ai]);have MW:=aa um.o;have B9:=aa qG.o;have Cg:=aa kS.o;clear hk hk9;go_wp2_with (first|(refine aC rfl 108 (.tmp 5) rfl xo 108 _ MW.o rfl _ eA rfl aS ?_)|(refine aj rfl 108 (.tmp 4) _ rfl xr 108 _ #[.int .u32 q.tag,.int .i64 q.ax,.int .i64 0,.int .u32 0,.int .i64 0,.int .i64 0,.int .i64 0] B9.o rfl rfl rfl aS et ?_;intro w9 dG dD gJ;have pA:=aa dG;have p8:=aa dD;have Sf:=aa Cg.o;clear dG dD gJ));exact UY
end En
end
section
namespace Bk
open En (Rq bH)
def ah8(f:Nat): Value:=.func (.func f) #[] #[]
def dP(b:dI)(q:Rq): Rec:=
 if q.ax=1 then⟨1,b.next,q.aw,aN.wrap (b.aq+q.bV),0⟩else if q.ax=2 then⟨2,q.id,0,0,0⟩else if q.ax=3 then⟨3,q.id,0,0,0⟩
 else if q.ax=4 then⟨4,q.id,q.aw,0,0⟩else⟨5,0,0,0,aN.wrap (b.aq+q.bV)⟩
def cn(k:Int): List Nat:=
 if k=1 then [339,340,341,342,343,344]
 else if k=2 then [345,344] else if k=3 then [345,344]
 else if k=4 then [345,339,342,344]
 else [340,341,344]
def ajH(b:dI)(q:Rq)(w:World)(e:Ending)(w':World): Prop:=
 ∃ g,e= .returned (.tuple #[.agg (fA (dP b q)),.slice (some ⟨g,0,none⟩) (cn q.ax).length (cn q.ax).length,.bool true])∧w.heap.size≤g∧aG w' g 440 ((cn q.ax).map ah8).toArray∧Below w.heap.size w w'
theorem xW(S:Nat→Prop)(w:World)(b:Nat)(bk:dI)(q:Rq)(h:fL S w b bk)(hc:En.bt q.ax=true): Calls af 302 #[.pointer (some ⟨b,0,none⟩),.agg (cS q)] w (ajH bk q w):=by
 have p5:q.ax=1∨q.ax=2∨q.ax=3∨q.ax=4∨q.ax=7:=by
  unfold En.bt at hc;simp only[Bool.or_eq_true,Bool.and_eq_true,decide_eq_true_eq] at hc;omega
 obtain⟨xq,il⟩:=ae w.heap.size;obtain⟨w1,a8⟩:=ae (w.alloc (.cells (cS q) 41));obtain⟨xr,nZ⟩:=ae w1.heap.size;obtain⟨w2,hw2⟩:=ae (w1.alloc (.cells #[.int .i64 0,.int .u32 0,.int .i64 0,.int .i64 0,.int .i64 0] 58));have rH:=aa (show aG w2 xq 41 (cS q) from NC);have oc:=aa (aJ hw2 nZ);have cu:=aa (show Below w.heap.size w w2 from Ic);have pd:=aa (show w.heap.size≤xr∧xr≠xq from by have h3:xr=xq+1:=KP;omega);obtain⟨pp,hpp⟩:=h;have HC:=aa (show ∀ W,Below w.heap.size w W→cG S W b bk.n bk.au bk.aA bk.next bk.aq bk.L.length pp from fun W hW=>(hpp.ak hW).bg);obtain⟨at9,ahO⟩:=ae (aN.wrap (bk.aq+q.bV));clear hpp;go_enter Tryz.func302,Tryz.ntmps302;go_wp2_with fail;have fX:=aa (show ∀ W,Below w2.heap.size w2 W→(W.cell? ⟨xq,4,none⟩=some (.int .i64 q.bV)∧Below w2.heap.size w2 W)from fun W hW=>⟨(rH.o.ah hW).cell 4,hW⟩);refine tW (S:=(fun W=>W.cell? ⟨xq,4,none⟩=some (.int .i64 q.bV)∧Below w2.heap.size w2 W)) (by exact fX.o _ (az (ar _ _))) fun hHeld=>?_
 have js:=aa (show Below w2.heap.size w2 w2.drew from az (ar _ _));refine cV 0 (some 8) hHeld ?_;refine tJ 2 3 ?_;refine cJ 1 fun K hK=>?_
 go_simp;refine ag (wu (HC.o _ (av cu.o js.o))) ?_;go_wp2_with fail;refine bW hK (by exact fX.o _ js.o) fun sy=>?_
 clear hK K;refine tJ 4 5 ?_;refine bM ?_;obtain⟨w3,hw3⟩:=ae w2.drew;have dV:=aa (show Below w.heap.size w w3 by rw[←hw3];exact av cu.o js.o);have jy:=aa (show aG w3 xq 41 (cS q)by rw[←hw3];exact rH.o.ah js.o);have iu:=aa (show aG w3 xr 58 #[.int .i64 0,.int .u32 0,.int .i64 0,.int .i64 0,.int .i64 0] by rw[←hw3];exact oc.o.ah js.o);rw[hw3];clear js hHeld sy fX cu rH oc hw3 hw2 a8 nZ il;have d0:w3.cell? ⟨xq,0,none⟩=some (.int .i64 q.ax):=jy.o.cell 0;rcases p5 with hk|hk|hk|hk|hk
 ·have t1:(q.ax==1)=true:=beq_iff_eq.2 ai;have wj:=aa (show dP bk q=⟨1,bk.next,q.aw,at9,0⟩from by unfold dP;rw[if_pos hk];rw[ahO]);have HRU:=aa (show cn q.ax= [339,340,341,342,343,344] from by unfold cn;rw[if_pos hk]);clear hk;go_upto_region 4 with fail
  refine wp_region_held_drew (S:=(fun W=>W.cell? ⟨xq,3,none⟩=some (.int .i64 q.aw))) bh (by exact(jy.o.ah (az (ar _ _))).cell 3) (fun hHeld=>?_);obtain⟨wd,hwd⟩:=ae w3.drew;have Ch:=aa (show Below w.heap.size w wd by rw[←hwd];exact az dV.o);have kJ:=aa (show aG wd xq 41 (cS q)by rw[←hwd];exact jy.o.ah (az (ar _ _)));have wh:=aa (show aG wd xr 58 _ by rw[←hwd];exact iu.o.ah (az (ar _ _)));rw[hwd] at hHeld ⊢;clear hwd d0 dV jy iu;refine cV 0 (some 17) hHeld ?_;refine cV 2 (some 19) hHeld ?_;refine tJ 4 3 ?_;refine qh 1 6 (fun K hK=>?_) fun K hK=>?_
  ·go_simp;refine ag (vY (HC.o _ Ch.o)) ?_;go_wp2_with fail;refine bW hK (by exact kJ.o.cell 3) fun hH1=>?_
   clear hK K;refine ty 5 ?_;refine qh 6 7 (fun K hK=>?_) fun K hK=>?_
   ·obtain⟨a2,ha2⟩:=ae (wd.alloc (.cells #[.func (.func 339) #[] #[],.func (.func 340) #[] #[],.func (.func 341) #[] #[],.func (.func 342) #[] #[],.func (.func 343) #[] #[],.func (.func 344) #[] #[]] 440));obtain⟨fb,vk⟩:=ae wd.heap.size;have adx:=aa (show Below w.heap.size w a2 by rw[←ha2];exact ay Ch.o _);have aiT:=aa (show aG a2 xr 58 _ by rw[←ha2];exact wh.o.alloc _);have adp:=aa (show aG a2 xq 41 (cS q)by rw[←ha2];exact kJ.o.alloc _);have ajc:=aa (show aG a2 fb 440 #[.func (.func 339) #[] #[],.func (.func 340) #[] #[],.func (.func 341) #[] #[],.func (.func 342) #[] #[],.func (.func 343) #[] #[],.func (.func 344) #[] #[]] by rw[←ha2,←vk];exact aG.fresh wd _ _);have Pn:=aa (show w.heap.size≤fb by rw[←vk];exact Ch.o.size);have HNF:=aa (show xr≠fb by have:=wh.o.lt;omega);go_simp;go_wp2_with fail;try rw[ha2]
    try rw[vk]
    clear ha2 vk;refine bW hK (by exact adp.o.cell 3) fun hH2=>?_
    clear hK K;refine cJ 7 fun K hK=>?_
    refine cW 58 _ _ rfl xr 58 _ #[.int .i64 1,.int .u32 bk.next,.int .i64 q.aw,.int .i64 (at9),.int .i64 0] aiT.o rfl rfl rfl bH et ?_;intro s3 dG dD gJ;have aiQ:=aa dG;have ajp:=aa (adx.o.grown dD adx.o.size (fun k e=>rL));have aiY:=aa (adp.o.bz dD (fun e=>rL));have ai9:=aa (ajc.o.bz dD (fun e=>Dj));clear dG dD gJ;refine bW hK (by exact aiY.o.cell 3) fun hH3=>?_
    clear hK K;refine tJ 8 9 ?_;refine bM ?_;go_wp2_with fail;refine bodyPost_ret (j8 zO _ iI (aL 58 aiQ.o _ ni rfl bH)) rfl ?_;exact⟨fb,EW,Pn.o,by rw[HRU.o];exact ai9.o,ajp.o⟩
   refine cW 58 _ _ rfl xr 58 _ #[.int .i64 1,.int .u32 bk.next,.int .i64 q.aw,.int .i64 (at9),.int .i64 0] wh.o rfl rfl rfl bH et ?_;intro s4 dG dD gJ;have adl:=aa dG;have adw:=aa (Ch.o.grown dD Ch.o.size (fun k e=>rL));have ado:=aa (kJ.o.bz dD (fun e=>rL));clear dG dD gJ;refine bW hK (by exact ado.o.cell 3) fun hH4=>?_
   clear hK K;refine cJ 6 fun K hK=>?_
   obtain⟨a5,CD⟩:=ae (s4.alloc (.cells #[.func (.func 339) #[] #[],.func (.func 340) #[] #[],.func (.func 341) #[] #[],.func (.func 342) #[] #[],.func (.func 343) #[] #[],.func (.func 344) #[] #[]] 440));obtain⟨fb,vk⟩:=ae s4.heap.size;have ajq:=aa (ek adw.o CD);have aiS:=aa (show aG a5 xr 58 _ by rw[←CD];exact adl.o.alloc _);have aiZ:=aa (show aG a5 xq 41 (cS q)by rw[←CD];exact ado.o.alloc _);have ajb:=aa (aJ CD vk);have Pn:=aa (show w.heap.size≤fb by rw[←vk];exact adw.o.size);have HNF:=aa (show xr≠fb by have:=adl.o.lt;omega);go_simp;go_wp2_with fail;try rw[CD]
   try rw[vk]
   clear CD vk;refine bW hK (by exact aiZ.o.cell 3) fun hH5=>?_
   clear hK K;refine tJ 8 9 ?_;refine bM ?_;go_wp2_with fail;refine bodyPost_ret (j8 zO _ iI (aL 58 aiS.o _ ni rfl bH)) rfl ?_;exact⟨fb,EW,Pn.o,by rw[HRU.o];exact ajb.o,ajq.o⟩
  obtain⟨a6,Mk⟩:=ae (wd.alloc (.cells #[.func (.func 339) #[] #[],.func (.func 340) #[] #[],.func (.func 341) #[] #[],.func (.func 342) #[] #[],.func (.func 343) #[] #[],.func (.func 344) #[] #[]] 440));obtain⟨fb,vk⟩:=ae wd.heap.size;have Ym:=aa (ek Ch.o Mk);have aiR:=aa (show aG a6 xr 58 _ by rw[←Mk];exact wh.o.alloc _);have X6:=aa (show aG a6 xq 41 (cS q)by rw[←Mk];exact kJ.o.alloc _);have aja:=aa (aJ Mk vk);have Pn:=aa (show w.heap.size≤fb by rw[←vk];exact Ch.o.size);have HNF:=aa (show xr≠fb by have:=wh.o.lt;omega);go_simp;go_wp2_with fail;try rw[Mk]
  try rw[vk]
  clear Mk vk;refine bW hK (by exact X6.o.cell 3) fun hH6=>?_
  clear hK K;refine cJ 1 fun K hK=>?_
  go_simp;refine ag (vY (HC.o _ Ym.o)) ?_;go_wp2_with fail;refine bW hK (by exact X6.o.cell 3) fun hH7=>?_
  clear hK K;refine ty 5 ?_;refine cJ 7 fun K hK=>?_
  refine cW 58 _ _ rfl xr 58 _ #[.int .i64 1,.int .u32 bk.next,.int .i64 q.aw,.int .i64 (at9),.int .i64 0] aiR.o rfl rfl rfl bH et ?_;intro s8 dG dD gJ;have aiP:=aa dG;have ajo:=aa (Ym.o.grown dD Ym.o.size (fun k e=>rL));have aiX:=aa (X6.o.bz dD (fun e=>rL));have ai8:=aa (aja.o.bz dD (fun e=>Dj));clear dG dD gJ;refine bW hK (by exact aiX.o.cell 3) fun hH8=>?_
  clear hK K;refine tJ 8 9 ?_;refine bM ?_;go_wp2_with fail;refine bodyPost_ret (j8 zO _ iI (aL 58 aiP.o _ ni rfl bH)) rfl ?_;exact⟨fb,EW,Pn.o,by rw[HRU.o];exact ai8.o,ajo.o⟩
 ·have t1:(q.ax==1)=false:=beq_eq_false_iff_ne.2 ai;have t2:(q.ax==2)=true:=beq_iff_eq.2 ai;have wj:=aa (show dP bk q=⟨2,q.id,0,0,0⟩from by unfold dP;rw[if_neg ai,if_pos hk]);have HRU:=aa (show cn q.ax= [345,344] from by unfold cn;rw[if_neg ai,if_pos hk]);clear hk;have d2:w3.cell? ⟨xq,2,none⟩=some (.int .u32 q.id):=jy.o.cell 2;obtain⟨a9,Mj⟩:=ae (w3.alloc (.cells #[.func (.func 345) #[] #[],.func (.func 344) #[] #[]] 440));obtain⟨fb,vk⟩:=ae w3.heap.size;have sL:=aa (ek dV.o Mj);have B':=aa (show aG a9 xr 58 _ from ET);have Cf:=aa (aJ Mj vk);have Pn:=aa (show w.heap.size≤fb from EM);have HNF:=aa (show xr≠fb from EG);go_wp2_with (refine aj rfl 58 _ _ rfl xr 58 _ #[.int .i64 2,.int .u32 q.id,.int .i64 0,.int .i64 0,.int .i64 0] B'.o rfl rfl rfl bH et ?_;intro s9 dG dD gJ;have Ph:=aa dG;have Pp:=aa (sL.o.grown dD sL.o.size (fun k e=>rL));have Pm:=aa (Cf.o.bz dD (fun e=>Dj));clear dG dD gJ);exact Ol
 ·have t1:(q.ax==1)=false:=beq_eq_false_iff_ne.2 ai;have t2:(q.ax==2)=false:=bQ;have t3:(q.ax==3)=true:=beq_iff_eq.2 ai;have wj:=aa (show dP bk q=⟨3,q.id,0,0,0⟩from by unfold dP;rw[if_neg ai,if_neg ai,if_pos hk]);have HRU:=aa (show cn q.ax= [345,344] from by unfold cn;rw[if_neg ai,if_neg ai,if_pos hk]);clear hk;have d2:w3.cell? ⟨xq,2,none⟩=some (.int .u32 q.id):=jy.o.cell 2;obtain⟨a9,Mj⟩:=ae (w3.alloc (.cells #[.func (.func 345) #[] #[],.func (.func 344) #[] #[]] 440));obtain⟨fb,vk⟩:=ae w3.heap.size;have sL:=aa (ek dV.o Mj);have B':=aa (show aG a9 xr 58 _ from ET);have Cf:=aa (aJ Mj vk);have Pn:=aa (show w.heap.size≤fb from EM);have HNF:=aa (show xr≠fb from EG);go_wp2_with (refine aj rfl 58 _ _ rfl xr 58 _ #[.int .i64 3,.int .u32 q.id,.int .i64 0,.int .i64 0,.int .i64 0] B'.o rfl rfl rfl bH et ?_;intro s9 dG dD gJ;have Ph:=aa dG;have Pp:=aa (sL.o.grown dD sL.o.size (fun k e=>rL));have Pm:=aa (Cf.o.bz dD (fun e=>Dj));clear dG dD gJ);exact Ol
 ·have t1:(q.ax==1)=false:=beq_eq_false_iff_ne.2 ai;have t2:(q.ax==2)=false:=bQ;have t3:(q.ax==3)=false:=bQ;have t4:(q.ax==4)=true:=beq_iff_eq.2 ai;have wj:=aa (show dP bk q=⟨4,q.id,q.aw,0,0⟩from by unfold dP;rw[if_neg ai,if_neg ai,if_neg ai,if_pos hk]);have HRU:=aa (show cn q.ax= [345,339,342,344] from by unfold cn;rw[if_neg ai,if_neg ai,if_neg ai,if_pos hk]);clear hk;have d2:w3.cell? ⟨xq,2,none⟩=some (.int .u32 q.id):=jy.o.cell 2;have d3:w3.cell? ⟨xq,3,none⟩=some (.int .i64 q.aw):=jy.o.cell 3;obtain⟨a9,Mj⟩:=ae (w3.alloc (.cells #[.func (.func 345) #[] #[],.func (.func 339) #[] #[],.func (.func 342) #[] #[],.func (.func 344) #[] #[]] 440));obtain⟨fb,vk⟩:=ae w3.heap.size;have sL:=aa (ek dV.o Mj);have B':=aa (show aG a9 xr 58 _ from ET);have Cf:=aa (aJ Mj vk);have Pn:=aa (show w.heap.size≤fb from EM);have HNF:=aa (show xr≠fb from EG);go_wp2_with (refine aj rfl 58 _ _ rfl xr 58 _ #[.int .i64 4,.int .u32 q.id,.int .i64 q.aw,.int .i64 0,.int .i64 0] B'.o rfl rfl rfl bH et ?_;intro s9 dG dD gJ;have Ph:=aa dG;have Pp:=aa (sL.o.grown dD sL.o.size (fun k e=>rL));have Pm:=aa (Cf.o.bz dD (fun e=>Dj));clear dG dD gJ);exact Ol
 have t1:(q.ax==1)=false:=bQ;have t2:(q.ax==2)=false:=bQ;have t3:(q.ax==3)=false:=bQ;have t4:(q.ax==4)=false:=bQ;have t7:(q.ax==7)=true:=beq_iff_eq.2 ai;have wj:=aa (show dP bk q=⟨5,0,0,0,at9⟩from by unfold dP;rw[if_neg ai,if_neg ai,if_neg ai,if_neg ai];rw[ahO]);have HRU:=aa (show cn q.ax= [340,341,344] from by unfold cn;rw[if_neg ai,if_neg ai,if_neg ai,if_neg ai]);clear hk;obtain⟨a9,Mj⟩:=ae (w3.alloc (.cells #[.func (.func 340) #[] #[],.func (.func 341) #[] #[],.func (.func 344) #[] #[]] 440));obtain⟨fb,vk⟩:=ae w3.heap.size;have sL:=aa (ek dV.o Mj);have B':=aa (show aG a9 xr 58 _ from ET);have Cf:=aa (aJ Mj vk);have Pn:=aa (show w.heap.size≤fb from EM);have HNF:=aa (show xr≠fb from EG);go_wp2_with (refine aj rfl 58 _ _ rfl xr 58 _ #[.int .i64 5,.int .u32 0,.int .i64 0,.int .i64 0,.int .i64 (at9)] B'.o rfl rfl rfl bH et ?_;intro s9 dG dD gJ;have Ph:=aa dG;have Pp:=aa (sL.o.grown dD sL.o.size (fun k e=>rL));have Pm:=aa (Cf.o.bz dD (fun e=>Dj));clear dG dD gJ);exact Ol
end Bk
end
section
namespace En
structure Rq.ry(q:Rq): Prop where
 good:q.Good
 WY:q.bV<9223372036854775808
 idf:(dx q.ax).1=false→q.id=0
 Iu:(dx q.ax).2.1=false→q.aw=0
 SI:(dx q.ax).2.2=false→q.bV=0
theorem tU(n k:Nat)(r:By): tk (le n k++r) 0 k=(le n k,r,0):=by rw[qT (by rw[List.length_append,bG];omega),List.take_left' (bG n k),List.drop_left' (bG n k)]
theorem xy(n k:Nat): tk (le n k) 0 k=(le n k,[],0):=by
 have:=tU n k []
 rwa [ji] at this
theorem xG{q:Rq}(h:q.ry): bK (kZ q)=(q,0):=by
 obtain⟨k,tg,id,aw,bV⟩:=q;have hk:=h.good.ax;have ht:=h.good.tag;have hi:=h.good.id;have hs:=h.good.aw;have hl:=h.good.bV;have hb:=h.WY;simp only at hk ht hi hs hl hb;obtain⟨tg,rfl⟩:=eo ht.1;obtain⟨id,rfl⟩:=eo hi.1;obtain⟨aw,rfl⟩:=eo hs.1;obtain⟨bV,rfl⟩:=eo hl;have v1: ∀ n:Nat,n<256→val (le n 1)=n:=fun n hn=>jX n 1 hn
 have v4:val (le tg 4)=tg:=jX tg 4 ai;have v4':val (le id 4)=id:=jX id 4 ai;have v2:val (le aw 2)=aw:=jX aw 2 ai;have v8:val (le bV 8)=bV:=jX bV 8 ai;have w8:wrap64 (bV:Int)=(bV:Int):=by unfold wrap64;omega
 have h0: ∀ (kk:Nat) (r:By),kk<256→NV (le kk 1++le tg 4++r)=(⟨kk,tg,0,0,0⟩,r,0):=fun kk r p5=>by
  unfold NV;rw[jk,tU,tU,v1 kk p5,v4]
 have f1:=h.idf;have f2:=h.Iu;have f3:=h.SI;simp only at f1 f2 f3;clear h hi hs hl hb ht;have p5:k=1∨k=2∨k=3∨k=4∨k=5∨k=6∨k=7∨k=8∨k=9∨k=10:=ai;rcases p5 with rfl|rfl|rfl|rfl|rfl|rfl|rfl|rfl|rfl|rfl
 ·have q1:id=0:=by have:=f1 rfl;omega
  clear f1 f2 f3;subst q1;have hh:=h0 1 (le aw 2++le bV 8) aM;simp only[jk,ji] at hh;unfold bK kv kZ;simp only[dx,gY,kP,if_true,if_false,tB,tC,ji,jk];rw[hh];simp[iP,cC,Qj,tU,xy,jt,rE,v2,v8,w8]
 ·have q2:aw=0:=by have:=f2 rfl;omega
  have q3:bV=0:=uv;clear f1 f2 f3;subst q2;subst q3;have hh:=h0 2 (le id 4) aM;exact U0
 ·have q2:aw=0:=by have:=f2 rfl;omega
  have q3:bV=0:=uv;clear f1 f2 f3;subst q2;subst q3;have hh:=h0 3 (le id 4) aM;exact U0
 ·have q3:bV=0:=by have:=f3 rfl;omega
  clear f1 f2 f3;subst q3;have hh:=h0 4 (le id 4++le aw 2) aM;simp only[jk,ji] at hh;unfold bK kv kZ;simp only[dx,gY,kP,if_true,if_false,tB,tC,ji,jk];rw[hh];simp[iP,cC,Qj,tU,xy,jt,rE,v4',v2]
 ·have q2:aw=0:=by have:=f2 rfl;omega
  have q3:bV=0:=uv;clear f1 f2 f3;subst q2;subst q3;have hh:=h0 5 (le id 4) aM;exact U0
 ·have q1:id=0:=by have:=f1 rfl;omega
  have q3:bV=0:=uv;clear f1 f2 f3;subst q1;subst q3;have hh:=h0 6 (le aw 2) aM;simp only[jk,ji] at hh;unfold bK kv kZ;simp only[dx,gY,kP,if_true,if_false,tB,tC,ji,jk];rw[hh];simp[iP,cC,Qj,tU,xy,jt,rE,v2]
 ·have q1:id=0:=by have:=f1 rfl;omega
  have q2:aw=0:=EE;clear f1 f2 f3;subst q1;subst q2;have hh:=h0 7 (le bV 8) aM;simp only[jk,ji] at hh;unfold bK kv kZ;simp only[dx,gY,kP,if_true,if_false,tB,tC,ji,jk];rw[hh];simp[iP,cC,Qj,tU,xy,jt,rE,v8,w8]
 ·have q1:id=0:=by have:=f1 rfl;omega
  have q2:aw=0:=EE;have q3:bV=0:=uv;clear f1 f2 f3;subst q1;subst q2;subst q3;have hh:=h0 8 ([]) aM;exact UZ
 ·have q1:id=0:=by have:=f1 rfl;omega
  have q2:aw=0:=EE;have q3:bV=0:=uv;clear f1 f2 f3;subst q1;subst q2;subst q3;have hh:=h0 9 ([]) aM;exact UZ
 have q1:id=0:=by have:=f1 rfl;omega
 have q2:aw=0:=EE;have q3:bV=0:=uv;clear f1 f2 f3;subst q1;subst q2;subst q3;have hh:=h0 10 ([]) aM;exact UZ
theorem sT{q:Rq}: 5≤(kZ q).length∧(kZ q).length≤19:=by
 unfold kZ;simp only[List.length_append,bG];constructor
 ·omega
 split <;>split <;>split <;>simp[bG]
abbrev Rp.ry(r:Rp): Prop:=yb r (yT r.ax r.err)
theorem j9{q:Rq}(hq:q.Good){er:Int}(h0:er≠0)(h1:0≤er∧er≤65535): (cf q er).ry:=by
 have hk:=hq.ax;have hf:yT (cf q er).ax (cf q er).err=0:=by unfold yT;exact if_pos h0
 show yb (cf q er) _
 rw[hf];exact⟨hf,⟨by show 0≤q.ax;omega,hk.2⟩,h1,fun h=>by have h':q.ax=0:=h;omega,hq.tag,jS,.inl rfl,jS,.inl rfl,.inl rfl,.inl rfl⟩
theorem oZ{k:Int}{f:Nat}(h:Qe.getD k.toNat 0=f): yT k 0=f:=by unfold yT;rw[if_neg aM];exact h
theorem JB{b:dI}(hb:b.Ok){q:Rq}(hq:q.Good)(hc:bt q.ax=true)(hr:(bC b q).ok=true): (bN q (bC b q)).ry:=by
 have hn:=hb.next;have hck:=hb.aq;have ht:=hq.tag;have hs:=hq.aw;have hl:=hq.bV;have e0:=uN q (bC b q);have hwt: ∀ n:Int,within true n 1 1099511627776=true→1≤n∧n≤1099511627776:=fun n h=>by simpa[within] using h
 show yb _ _
 rcases cA hc with h|h|h|h|h
 ·have er:bC b q=⟨1,b.next,q.aw,b.aq+q.bV,0⟩:=by unfold bC;rw[if_pos h]
  have hr2:1≤b.aq+q.bV∧b.aq+q.bV≤1099511627776:=Tx;have e:bN q (bC b q)=⟨q.tag,1,0,b.next,0,b.aq+q.bV,0⟩:=by rw[er];unfold bN;rw[if_pos h,h]
  rw[e];exact⟨rfl,jS,jS,fun h=>absurd h (by show ¬(1:Int)=0;decide),ht,⟨by show 0≤b.next;omega,hn.2⟩,.inr (oZ rfl),⟨by show 0≤b.aq+q.bV;omega,by show b.aq+q.bV<9223372036854775808;omega⟩,.inr (.inr (.inl (oZ rfl))),.inl rfl,.inl rfl⟩
 ·have e:bN q (bC b q)=⟨q.tag,2,0,0,0,0,0⟩:=by unfold bN;rw[if_neg ai,if_neg ai,if_neg ai,h]
  rw[e];exact⟨rfl,jS,jS,fun h=>absurd h (by show ¬(2:Int)=0;decide),ht,jS,.inl rfl,jS,.inl rfl,.inl rfl,.inl rfl⟩
 ·have e:bN q (bC b q)=⟨q.tag,3,0,0,0,0,0⟩:=by unfold bN;rw[if_neg ai,if_neg ai,if_neg ai,h]
  rw[e];exact⟨rfl,jS,jS,fun h=>absurd h (by show ¬(3:Int)=0;decide),ht,jS,.inl rfl,jS,.inl rfl,.inl rfl,.inl rfl⟩
 ·have er:bC b q=⟨4,q.id,q.aw,0,0⟩:=by unfold bC;rw[if_neg ai,if_neg ai,if_neg ai,if_pos h]
  have e:bN q (bC b q)=⟨q.tag,4,0,0,q.aw,0,0⟩:=by rw[er];unfold bN;rw[if_neg ai,if_pos h,h]
  rw[e];refine⟨rfl,jS,jS,fun h=>absurd h (by show ¬(4:Int)=0;decide),ht,jS,.inl rfl,jS,.inl rfl,?_,.inl rfl⟩;by_cases c:q.aw=0
  ·exact .inl c
  exact .inr ⟨by show 0<q.aw;omega,hs.2,.inl (oZ rfl)⟩
 have er:bC b q=⟨5,0,0,0,b.aq+q.bV⟩:=by unfold bC;rw[if_neg ai,if_neg ai,if_neg ai,if_neg ai]
 have hr2:1≤b.aq+q.bV∧b.aq+q.bV≤1099511627776:=Tx;have e:bN q (bC b q)=⟨q.tag,7,0,0,0,b.aq+q.bV,0⟩:=by rw[er];unfold bN;rw[if_neg ai,if_neg ai,if_pos h,h]
 rw[e];exact⟨rfl,jS,jS,fun h=>absurd h (by show ¬(7:Int)=0;decide),ht,jS,.inl rfl,⟨by show 0≤b.aq+q.bV;omega,by show b.aq+q.bV<9223372036854775808;omega⟩,.inr (.inl (oZ rfl)),.inl rfl,.inl rfl⟩
theorem QT{b:dI}{id:Int}{x:bS}(h:b.find id=some x): x∈b.L:=wA h
theorem ZN{b:dI}{s:Int}{x:bS}(h:b.on s=some x): x∈b.L:=wA h
theorem FX{b:dI}(hb:b.Ok){q:Rq}(hq:q.Good)(hk:q.ax=5∨q.ax=6∨q.ax=10): (dW b q).ry:=by
 have ht:=hq.tag;have hr:=@j9 q hq;have LZ: ∀ x∈b.L,0≤x.aR∧x.aR<9223372036854775808:=fun x hx=>by have:=hb.aR x hx;have:=hb.aq;omega
 unfold dW;by_cases h5:q.ax=5
 ·rw[if_pos h5];cases hf:b.find q.id with
  | none=>exact hr aM aM
  | some x=>
   have hx:=QT hf;have hn:=hb.n;have hs:=hb.gh x hx;simp only[h5];show yb _ _
   refine⟨rfl,jS,jS,fun h=>absurd h (by show ¬(5:Int)=0;decide),ht,jS,.inl rfl,LZ x hx,.inr (.inr (.inr (oZ rfl))),?_,.inl rfl⟩;by_cases c:x.aw=0
   ·left;show(x.aw:Int)=0;omega
   right;exact⟨by show 0<(x.aw:Int);omega,by show(x.aw:Int)≤65535;omega,.inr (oZ rfl)⟩
 rw[if_neg h5];by_cases h6:q.ax=6
 ·rw[if_pos h6];by_cases c:(b.n:Int)≤q.aw
  ·rw[if_pos c];exact hr aM aM
  rw[if_neg c];cases hf:b.on q.aw with
  | none=>exact hr aM aM
  | some x=>
   have hx:=ZN hf;have hn:=hb.next;have hs:=hb.ids x hx;simp only[h6];show yb _ _
   exact⟨rfl,jS,jS,fun h=>absurd h (by show ¬(6:Int)=0;decide),ht,⟨by show 0≤x.id;omega,by show x.id<4294967296;omega⟩,.inr (oZ rfl),LZ x hx,.inr (.inr (.inl (oZ rfl))),.inl rfl,.inl rfl⟩
 rw[if_neg h6];have h10:q.ax=10:=ai;have hl:=hb.len;have hc:=hb.au;simp only[h10];show yb _ _
 refine⟨rfl,jS,jS,fun h=>absurd h (by show ¬(10:Int)=0;decide),ht,jS,.inl rfl,jS,.inl rfl,.inl rfl,?_⟩;by_cases c:b.L.length=0
 ·left;show(b.L.length:Int)=0;omega
 right;exact⟨by show 0<(b.L.length:Int);omega,by show(b.L.length:Int)≤65535;omega,oZ rfl⟩
theorem D8{q:Rq}(hq:q.Good)(hk:q.ax=8∨q.ax=9){n:Nat}(hn:n≤65535): (⟨q.tag,q.ax,0,0,0,0,n⟩:Rp).ry:=by
 have ht:=hq.tag;have hf:yT q.ax 0=8:=by rcases hk with h|h <;>rw[h] <;>exact oZ rfl
 show yb _ (yT q.ax 0)
 rw[hf];refine⟨hf,⟨by show 0≤q.ax;omega,by show q.ax≤10;omega⟩,jS,fun h=>by have h':q.ax=0:=h;omega,ht,jS,.inl rfl,jS,.inl rfl,.inl rfl,?_⟩;by_cases c:n=0
 ·left;show(n:Int)=0;omega
 right;exact⟨by show 0<(n:Int);omega,by show(n:Int)≤65535;omega,rfl⟩
theorem JC(b:dI)(bj:Int)(q:Rq): 0≤bF b bj q∧bF b bj q≤65535:=by
 unfold bF;repeat' split
 all_goals omega
theorem Es.Inv.Fq{e:Es}(h:e.Inv)(hf: ∀ r∈e.aD,r.ry){q:Rq}(hq:q.Good): (∀ r∈(e.rep q).1,r.ry)∧∀ r∈(e.rep q).2.aD,r.ry:=by
 have hk:=hq.ax;have CW:e.aD.length≤65535:=by have:=h.full;have:=h.bk.aA;omega
 have one: ∀ {x:Rp},x.ry→∀ r∈ [x],r.ry:=fun hx r hr=>by rw[List.mem_singleton] at hr;subst hr;exact hx
 have more: ∀ {x:Rp},x.ry→∀ r∈e.aD++ [x],r.ry:=fun hx r hr=>by
  rcases List.mem_append.1 hr with hr|hr
  ·exact hf r hr
  exact one hx r hr
 unfold Es.rep;rw[if_neg Al];by_cases c1:q.ax=5∨q.ax=6∨q.ax=10
 ·rw[if_pos c1];exact⟨one (FX h.bk hq c1),hf⟩
 rw[if_neg c1];by_cases c2:q.ax=8
 ·rw[if_pos c2];unfold Es.flush;split
  ·exact⟨one (j9 hq aM aM),fun r hr=>by cases hr⟩
  exact⟨more (D8 hq (.inl c2) CW),fun r hr=>by cases hr⟩
 rw[if_neg c2];by_cases c3:q.ax=9
 ·rw[if_pos c3];obtain⟨s1,s2,s3⟩:=Sl.xE h.dev h.sl h.row h.size (jT e.bk) e.log.last;unfold Es.save;rcases s1 with c|c|c
  ·rw[if_pos c];exact⟨more (D8 hq (.inr c3) CW),fun r hr=>by cases hr⟩
  ·rw[if_neg p9,if_neg p9,c];exact⟨one (j9 hq aM aM),hf⟩
  rw[if_neg p9,if_neg p9,c];exact⟨one (j9 hq aM aM),hf⟩
 rw[if_neg c3];have hc:bt q.ax=true:=SR;unfold Es.change;by_cases c0:bF e.bk e.bj q=0
 ·rw[if_neg (by rw[c0];decide)];by_cases c4:e.log.last=18446744073709551615
  ·rw[if_pos c4];exact⟨one (j9 hq aM aM),hf⟩
  rw[if_neg c4];obtain⟨h1,h2,h3,h4⟩:=h.NN hq hc c0;have hm:=more (JB h.bk hq hc h1);simp only;split
  ·exact⟨fun r hr=>absurd hr (nj),hm⟩
  split
  ·exact⟨fun r hr=>absurd hr (nj),fun r hr=>absurd hr (nj)⟩
  exact⟨hm,fun r hr=>absurd hr (nj)⟩
 rw[if_pos c0];have:=JC e.bk e.bj q;exact⟨one (j9 hq c0 this),hf⟩
end En
end
section
namespace Bk
open En (Rq)
def nN: List Int→Int
 | []=>0
 | x::l=>if x=0 then nN l else x
theorem D5: ∀ (l:List Int) (i:Nat) (x:Int),(∀ j,j<i→l.getD j 0=0)→i<l.length→l.getD i 0=x→x≠0→nN l=x
 | [],_,_,_,h,_,_=>by simp at h
 | y::l,0,x,_,_,h,hx=>by
  have e:y=x:=by simpa using h
  rw[nN,if_neg (by rw[e];exact hx),e]
 | y::l,i+1,x,h0,hl,h,hx=>by
  have e:y=0:=by simpa using h0 0 ai
  rw[nN,if_pos e];exact D5 l i x (fun j hj=>by simpa using h0 (j+1) ai) (by simpa using hl) (by simpa using h) hx
theorem yH: ∀ (l:List Int),(∀ j,j<l.length→l.getD j 0=0)→nN l=0
 | [],_=>rfl
 | y::l,h=>by
  have e:y=0:=by simpa using h 0 dM
  rw[nN,if_pos e];exact yH l fun j hj=>by simpa using h (j+1) Am
def im(b:dI)(bj:Int)(q:Rq): List Int:=
 let known:Int:=if(b.find q.id).isNone=true then 171 else 0
 let aw:Int:=if(b.n:Int)≤q.aw then 140 else 0
 let taken:Int:=if dS b q=true then 170 else 0
 let bV:Int:=if q.bV<1∨1073741824<q.bV then 2 else 0
 let aq:Int:=if 1099511627776<b.aq+q.bV then 172 else 0
 let full:Int:=if b.au≤b.L.length∨b.next=4294967295 then 6 else 0
 let fits:Int:=if bj<22+(cO (dP b q).ax:Int)then 220 else 0
 if q.ax=1 then [aw,bV,aq,taken,full,fits] else if q.ax=2 then [known,fits] else if q.ax=3 then [known,fits] else if q.ax=4 then [known,aw,taken,fits] else [bV,aq,fits]
theorem JD{b:dI}{q:Rq}(hc:bt q.ax=true): (cO (dP b q).ax:Int)=if q.ax=1 then 15 else if q.ax=2∨q.ax=3 then 5 else if q.ax=4 then 7 else 9:=by
 unfold dP;rcases cA hc with h|h|h|h|h <;>simp[h,cO]
theorem dr(c:Prop)[Decidable c](x:Int)(hx:x≠0)(l:List Int): nN ((if c then x else 0)::l)=if c then x else nN l:=by
 by_cases h:c
 ·rw[if_pos h,if_pos h,nN,if_neg hx]
 rw[if_neg h,if_neg h,nN,if_pos rfl]
theorem FW{b:dI}{bj:Int}{q:Rq}(hc:bt q.ax=true): nN (im b bj q)=bF b bj q:=by
 have hr:=JD (b:=b) hc;unfold im bF;rw[hr];rcases cA hc with h|h|h|h|h
 ·simp only[h,kP,if_true,if_false,or_self];rw[dr _ _ aM,dr _ _ aM,dr _ _ aM,dr _ _ aM,dr _ _ aM,dr _ _ aM];rfl
 ·simp only[h,kP,if_true,if_false,or_false,or_true];rw[dr _ _ aM,dr _ _ aM];rfl
 ·simp only[h,kP,if_true,if_false,or_false,or_true];rw[dr _ _ aM,dr _ _ aM];rfl
 ·simp only[h,kP,if_true,if_false,or_self];rw[dr _ _ aM,dr _ _ aM,dr _ _ aM,dr _ _ aM];rfl
 simp only[h,kP,if_true,if_false,or_self];rw[dr _ _ aM,dr _ _ aM,dr _ _ aM];rfl
theorem Mt(b:dI)(bj:Int)(q:Rq): (im b bj q).length=(cn q.ax).length:=by
 unfold im cn;simp only;split
 ·rfl
 split
 ·rfl
 split
 ·rfl
 split <;>rfl
def sH(S:Nat→Prop)(b:Nat)(bk:dI)(q:Rq)(r:Rec)(bj:Int)(f:Nat)(er:Int): Prop:=∀ W,fL S W b bk→Calls af f #[.agg (uO b q r bj)] W (oL S W b bk er)
theorem Ug{S:Nat→Prop}{b:Nat}{bk:dI}{bj:Int}{q:Rq}(hb:bk.Ok)(hq:q.Good)(hc:bt q.ax=true): ∀ i,i<(cn q.ax).length→(∀ j,j<i→(im bk bj q).getD j 0=0)→sH S b bk q (dP bk q) bj ((cn q.ax).getD i 0) ((im bk bj q).getD i 0):=by
 have hid:=hq.id;have hs:=hq.aw.1;have ht:=hq.bV;have hck:=hb.aq;have r1:sH S b bk q (dP bk q) bj 339 (if(bk.n:Int)≤q.aw then 140 else 0):=fun W h=>ZD S W b bk q _ bj h hb hs
 have r2:sH S b bk q (dP bk q) bj 340 (if q.bV<1∨1073741824<q.bV then 2 else 0):=fun W h=>adN S W b bk q _ bj h hb
 have r3:(if q.bV<1∨1073741824<q.bV then(2:Int)else 0)=0→sH S b bk q (dP bk q) bj 341 (if 1099511627776<bk.aq+q.bV then 172 else 0):=fun h0 W h=>WR S W b bk q _ bj h hb (by
  by_cases c:q.bV<1∨1073741824<q.bV
  ·rw[if_pos c] at h0;exact absurd h0 aM
  omega)
 have r4:sH S b bk q (dP bk q) bj 342 (if dS bk q=true then 170 else 0):=fun W h=>T9 S W b bk q _ bj h hb hs
 have r5:sH S b bk q (dP bk q) bj 343 (if bk.au≤bk.L.length∨bk.next=4294967295 then 6 else 0):=fun W h=>aat S W b bk q _ bj h hb
 have r6:sH S b bk q (dP bk q) bj 344 (if bj<22+(cO (dP bk q).ax:Int)then 220 else 0):=fun W h=>aav S W b bk q _ bj h hb
 have r7:sH S b bk q (dP bk q) bj 345 (if(bk.find q.id).isNone=true then 171 else 0):=fun W h=>Vw S W b bk q _ bj h hb hid
 intro i hi hj;rcases cA hc with h|h|h|h|h
 ·have eR:cn q.ax=cn 1:=by rw[h]
  have eE:im bk bj q= [if(bk.n:Int)≤q.aw then 140 else 0,if q.bV<1∨1073741824<q.bV then 2 else 0,if 1099511627776<bk.aq+q.bV then 172 else 0,if dS bk q=true then 170 else 0,if bk.au≤bk.L.length∨bk.next=4294967295 then 6 else 0,if bj<22+(cO (dP bk q).ax:Int)then 220 else 0]:=by unfold im;simp only;rw[if_pos h]
  rw[eR] at hi ⊢;rw[eE] at hj ⊢;have hi':i<6:=hi;rcases(show i=0∨i=1∨i=2∨i=3∨i=4∨i=5 from ai)with rfl|rfl|rfl|rfl|rfl|rfl
  ·exact r1
  ·exact r2
  ·exact r3 (hj 1 ai)
  ·exact r4
  ·exact r5
  exact r6
 ·have eR:cn q.ax=cn 2:=by rw[h]
  have eE:im bk bj q= [if(bk.find q.id).isNone=true then 171 else 0,if bj<22+(cO (dP bk q).ax:Int)then 220 else 0]:=by unfold im;simp only;rw[if_neg ai,if_pos h]
  exact abR
 ·have eR:cn q.ax=cn 3:=by rw[h]
  have eE:im bk bj q= [if(bk.find q.id).isNone=true then 171 else 0,if bj<22+(cO (dP bk q).ax:Int)then 220 else 0]:=by unfold im;simp only;rw[if_neg ai,if_neg ai,if_pos h]
  exact abR
 ·have eR:cn q.ax=cn 4:=by rw[h]
  have eE:im bk bj q= [if(bk.find q.id).isNone=true then 171 else 0,if(bk.n:Int)≤q.aw then 140 else 0,if dS bk q=true then 170 else 0,if bj<22+(cO (dP bk q).ax:Int)then 220 else 0]:=by unfold im;simp only;rw[if_neg ai,if_neg ai,if_neg ai,if_pos h]
  rw[eR] at hi ⊢;rw[eE] at hj ⊢;have hi':i<4:=hi;rcases(show i=0∨i=1∨i=2∨i=3 from ai)with rfl|rfl|rfl|rfl
  ·exact r7
  ·exact r1
  ·exact r4
  exact r6
 have eR:cn q.ax=cn 7:=by rw[h]
 have eE:im bk bj q= [if q.bV<1∨1073741824<q.bV then 2 else 0,if 1099511627776<bk.aq+q.bV then 172 else 0,if bj<22+(cO (dP bk q).ax:Int)then 220 else 0]:=by unfold im;simp only;rw[if_neg ai,if_neg ai,if_neg ai,if_neg ai]
 rw[eR] at hi ⊢;rw[eE] at hj ⊢;have hi':i<3:=hi;rcases(show i=0∨i=1∨i=2 from ai)with rfl|rfl|rfl
 ·exact r2
 ·exact r3 (hj 0 ai)
 exact r6
theorem QV{b:dI}(hb:b.Ok){bj:Int}{q:Rq}(hq:q.Good)(hc:bt q.ax=true)(h0:bF b bj q=0): dP b q=bC b q:=by
 have hck:=hb.aq;have ht:=hq.bV;have hw:(q.ax=1∨q.ax=7)→aN.wrap (b.aq+q.bV)=b.aq+q.bV:=fun hk=>by
  have hl: ¬(q.bV<1∨1073741824<q.bV):=fun c=>by
   unfold bF at h0;rcases hk with hk|hk
   ·rw[if_pos hk] at h0;simp only[if_pos c] at h0;split at h0 <;>exact absurd h0 aM
   rw[if_neg ai,if_neg ai,if_neg ai,if_pos c] at h0;exact absurd h0 aM
  rw[mM];omega
 unfold dP bC;rcases cA hc with h|h|h|h|h
 ·rw[if_pos h,if_pos h,hw (.inl h)]
 ·simp[h]
 ·simp[h]
 ·simp[h]
 have:=hw (.inr h);simp[h,this]
end Bk
end
section
namespace Bk
open En (Rq Rp bH JR)
variable{w:World}
theorem nQ{S:Nat→Prop}{w':World} {b:Nat}{bk:dI}{x:Nat}(h:fL S w b bk)(hg:w.grownBy w' (some x))(hx: ∀ k,S k→k≠x): fL S w' b bk:=by
 obtain⟨p,hp⟩:=h;have ht:aI (· =x) w w':=(aI.refl (· =x) w).grown hg (fun k e=>Ib);exact⟨p,⟨hp.bg.same ht.size fun k hk hl=>ht.block k hl (hx k hk),hp.bits,hp.cw,hp.under,hp.listed,hp.small,hp.qo⟩⟩
theorem _root_.Go.Proofs.YtemighjbfanenaaGreatDoor.aI.abP{S T:Nat→Prop}{a w':World} (h:aI S a w)(k:aI T w w')(hT: ∀ j,T j→S j∨a.heap.size≤j): aI S a w':=
 h.new (k.mono fun j _ hj=>hT j hj)
def AX(f:Nat): Prop:=f=339∨f=340∨f=341∨f=342∨f=343∨f=344∨f=345
theorem aei(k:Int)(i:Nat)(h:i<(cn k).length): AX ((cn k).getD i 0):=by
 have ha: ∀ l:List Nat,(∀ x∈l,AX x)→i<l.length→AX (l.getD i 0):=fun l hl hi=>by rw[bR,bY hi];exact hl _ (List.getElem_mem hi)
 refine ha _ ?_ h;unfold cn AX;intro x hx;split at hx
 ·simp at hx;omega
 split at hx
 ·simp at hx;omega
 split at hx
 ·simp at hx;omega
 split at hx
 ·simp at hx;omega
 simp at hx;omega
theorem Qc{f:Nat}(h:AX f)(args:Array Value)(W:World): Sem.run af (callFunc f args) W= .ok (.enter f args) W:=by
 unfold AX at h;rcases h with rfl|rfl|rfl|rfl|rfl|rfl|rfl <;>kernel_rfl
def ZH: Rec:=⟨0,0,0,0,0⟩
def adF(S:Nat→Prop)(b:Nat)(bk:dI)(bj:Int)(q:Rq)(w:World)(e:Ending)(w':World): Prop:=
 e= .returned (if bF bk bj q=0 then .tuple #[.agg (fA (bC bk q)),.agg (lf (bN q (bC bk q))),.bool true,.int .i64 0] else .tuple #[.agg (fA ZH),.agg (lf (En.cf q (bF bk bj q))),.bool false,.int .i64 0])∧fL S w' b bk∧aI S w w'
theorem vD{P:Program}{fn:Func}{p q r s:Tmp}{tp tq:TypeId}(h:fn.results= #[.cell p tp,.cell q tq,.tmp r,.tmp s])(tmps:Array Value){a1 a2:Addr}{v1 v2:Value}
  (hp:tmps.getD p undef= .pointer (some a1)) (hq:tmps.getD q undef= .pointer (some a2)) (h1:(loadVar tp a1).run P w= .ok v1 w) (h2:(loadVar tq a2).run P w= .ok v2 w) :
  (results fn tmps).run P w= .ok (.tuple #[v1,v2,tmps.getD r undef,tmps.getD s undef]) w:=by
 have hp':tmps[p]?.getD undef= .pointer (some a1):=S3;have hq':tmps[q]?.getD undef= .pointer (some a2):=by simpa using hq
 simp[results,h,hp',hq',asAddr,h1,h2]
theorem yh(S:Nat→Prop)(w:World)(b:Nat)(bk:dI)(bj:Int)(q:Rq)(h:fL S w b bk)(hb:bk.Ok)(hq:q.Good)(C1:zb q)(hc:bt q.ax=true):
  Calls af 216 #[.pointer (some ⟨b,0,none⟩),.int .i64 bj,.agg (cS q)] w (adF S b bk bj q w):=by
 have i':=aa (show ∀ k,S k→k<w.heap.size from Lc);have fC:=aa (show ∀ W,Below w.heap.size w W→fL S W b bk from fun W hW=>Li);have Hj:=aa (show ∀ W,Below w.heap.size w W→Calls af 38 #[.pointer (some ⟨b,0,none⟩)] W fun e w'=>e= .returned (.agg #[.int .i64 bk.n,.int .i64 bk.au,.int .i64 bk.aA])∧Below W.heap.size W w' from fun W hW=>Lo);have HRL:=aa (Ug (S:=S) (b:=b) (bk:=bk) (bj:=bj) (q:=q) hb hq hc);have HFE:=aa (FW (b:=bk) (bj:=bj) hc);have HEL:=aa (Mt bk bj q);have HRW:=aa (QV (b:=bk) hb (bj:=bj) hq hc);have jz:=aa C1;have HCH:=aa hc;have hnz:((bk.n:Int)==0)=false:=beq_eq_false_iff_ne.2 wZ;have VT: ¬(bk.n:Int)=0:=wZ;obtain⟨rW,hrW⟩:=ae (dP bk q);obtain⟨nr,C2⟩:=ae ((cn q.ax).length);have amb:nr≤6:=by rw[←C2];unfold cn;split;decide;split;decide;split;decide;split <;>decide
 have alb:=aa hrW;have R8:=aa C2;rw[hrW] at HRL HRW;clear h hb hq C1 hc hrW C2;obtain⟨xq,il⟩:=ae w.heap.size;obtain⟨w1,a8⟩:=ae (w.alloc (.cells (cS q) 41));obtain⟨xr,nZ⟩:=ae w1.heap.size;obtain⟨w2,hw2⟩:=ae (w1.alloc (.cells #[.int .i64 0,.int .u32 0,.int .i64 0,.int .i64 0,.int .i64 0] 58));obtain⟨xp,mF⟩:=ae w2.heap.size;obtain⟨w3,hw3⟩:=ae (w2.alloc (.cells #[.int .u32 0,.int .i64 0,.int .i64 0,.int .u32 0,.int .i64 0,.int .i64 0,.int .i64 0] 108));have jy:=aa (show aG w3 xq 41 (cS q) from TC);have iu:=aa (show aG w3 xr 58 #[.int .i64 0,.int .u32 0,.int .i64 0,.int .i64 0,.int .i64 0] by rw[←hw3,←hw2,←nZ];exact(aG.fresh w1 _ _).alloc _);have Zg:=aa (aJ hw3 mF);have dV:=aa (show Below w.heap.size w w3 from TN);have HX:=aa (show w.heap.size≤xq∧xr=xq+1∧xp=xq+2 from by
  refine⟨ai,?_,?_⟩
  ·rw[←nZ,←a8,←il];simp
  rw[←mF,←hw2,←a8,←il];simp)
 go_enter Tryz.func216,Tryz.ntmps216;go_wp2_with fail;clear a8 hw2 hw3 il nZ mF;refine(Hj.o _ dV.o).mono ?_;rintro e w4 ⟨rfl,hb4⟩;have tO:=jy.jC hb4;have nV:=iu.jC hb4;have MV:=Zg.jC hb4;have gj:=dV.dQ hb4;clear hb4 jy iu Zg Hj dV;go_wp2_with (refine aC rfl 41 (.tmp 5) rfl xq 41 _ tO.o rfl _ cD rfl aH ?_);refine(xW S w4 b bk q (fC.o _ gj.o) HCH.o).mono ?_;rintro e w5 ⟨fb,rfl,vk,hF5,dU⟩;rw[R8.o,alb.o];have HF5:=aa hF5;have eu:=gj.dQ dU;have X7:=tO.jC dU;have qG:=nV.jC dU;have De:=MV.jC dU;have Pn:=aa (show w.heap.size≤fb∧fb<w5.heap.size from⟨by have:=gj.o.size;omega,hF5.lt⟩);clear vk hF5 dU tO nV MV gj;obtain⟨xa,iZ⟩:=ae w5.heap.size;obtain⟨w6,og⟩:=ae (w5.alloc (.cells #[.int .i64 0,.int .u32 0,.int .i64 0,.int .i64 0,.int .i64 0] 58));have tx:=aa (aJ og iZ);have iL:=aa (aK og);have HXA:=aa iZ;go_upto_region 4 with(refine aj rfl 58 _ _ rfl xa 58 _ (fA rW) tx.o rfl rfl rfl bH SP ?_;intro w7 D4 Je hs7;have vq:=aa D4;have nc:=aa (show Below w5.heap.size w5 w7 from br iL.o Je (Nat.le_of_eq HXA.o));clear D4 Je hs7)
 have HF7:=aa (HF5.o.ah nc.o);have yP:=X7.jC nc.o;have Rn:=qG.jC nc.o;have HP7:=De.jC nc.o;have kS:=aa (av eu.o nc.o);have aiA:=aa (show xp<xa from by have:=De.o.lt;have:=HXA.o;omega);have ak1:=aa (show w.heap.size≤xa from by have:=eu.o.size;have:=HXA.o;omega);clear og iZ tx iL HF5 X7 qG De eu nc HXA;have c0:w7.cell? ⟨xq,0,none⟩=some (.int .i64 q.ax):=yP.o.cell 0;have c1:w7.cell? ⟨xq,1,none⟩=some (.int .u32 q.tag):=yP.o.cell 1;have c2:w7.cell? ⟨xq,2,none⟩=some (.int .u32 q.id):=yP.o.cell 2;have c3:w7.cell? ⟨xq,3,none⟩=some (.int .i64 q.aw):=yP.o.cell 3;have c4:w7.cell? ⟨xq,4,none⟩=some (.int .i64 q.bV):=yP.o.cell 4;go_wp2_with fail;refine(jU q w7 jz.o).mono ?_;rintro e w8 ⟨rfl,mY⟩;have HF8:=aa (HF7.o.ah mY);have HQ8:=yP.jC mY;have Kz:=Rn.jC mY;have HP8:=HP7.jC mY;have wM:=aa (vq.o.ah mY);have ou:=kS.dQ mY;clear mY c0 c1 c2 c3 c4 HF7 yP Rn HP7 vq kS hnz VT;have oT:=aa (show ∀ k,w.heap.size≤k→¬S k from fun k hk hs=>by have:=i'.o k hs;omega);go_wp2_with fail;go_loopw [40] (fun i wr=>∃ j:Nat,j≤nr∧i= .int .i64 j∧(∀ k,k<j→(im bk bj q).getD k 0=0)∧fL S wr b bk∧aI S w8 wr) (fun i _=>(nr - intOf i).toNat)
 case atStart=>exact⟨0,Nat.zero_le _,rfl,fun k hk=>ai,fC.o _ ou.o,aI.refl _ _⟩
 case round=>
  obtain⟨j,hj,rfl,hz,cL,Z5⟩:=hrel;have HZ:=aa hz;have afT:=aa cL;have HTC:=aa Z5;have hx:=HX.o;have HFr:=aa (Z5.arr HF8.o (oT.o _ Pn.o.1));have HQr:=aa (Z5.arr HQ8.o (oT.o _ hx.1));have HRr:=aa (Z5.arr Kz.o (oT.o _ ai));have HPr:=aa (Z5.arr HP8.o (oT.o _ ai));have Zn:=aa (Z5.arr wM.o (oT.o _ ak1.o));clear hz cL Z5 hx;by_cases h2:j<nr
  ·have RU:(j:Int)<(nr:Int):=by omega
   have HRJ:=aa (HRL.o j (by rw[R8.o];exact h2) HZ.o _ afT.o);obtain⟨f,hf⟩:=ae ((cn q.ax).getD j 0);have cF:wr.cell? ⟨fb,j,none⟩=some (.func (.func f) #[] #[]):=by
    have h9:=HFr.o.cell j;rw[h9];have h8:j<(cn q.ax).length:=by rw[R8.o];exact h2
    rw[←hf];simp[ah8,bR,bY h8]
   have HF7:=aa (show AX f from by rw[←hf];exact aei _ j (by rw[R8.o];exact h2));rw[hf] at HRJ;clear hf;go_upto_region 9 with fail
   clear cF;have hE:=fun args=>Qc (f:=f) HF7.o args wr
   go_wp2_with (first|(refine aC rfl 41 (.tmp 5) rfl xq 41 #[.int .i64 q.ax,.int .u32 q.tag,.int .u32 q.id,.int .i64 q.aw,.int .i64 q.bV] HQr.o rfl _ cD rfl aH ?_)|(refine aC rfl 58 (.tmp 10) rfl xa 58 #[.int .i64 rW.ax,.int .u32 rW.id,.int .i64 rW.aw,.int .i64 rW.aR,.int .i64 rW.aq] Zn.o rfl _ ni rfl bH ?_));clear hE;refine HRJ.o.mono ?_;rintro e wn ⟨rfl,hbn,htn⟩;have HBN:=aa hbn;have HTN:=aa (HTC.o.trans htn);have hx:=HX.o;have wJ:=aa (htn.arr HQr.o (oT.o _ hx.1));have HRn:=aa (htn.arr HRr.o (oT.o _ ai));have HPn:=aa (htn.arr HPr.o (oT.o _ ai));clear hbn htn hx HRJ HQr HRr HPr Zn HFr HTC afT;obtain⟨er,o6⟩:=ae ((im bk bj q).getD j 0);have HER:=aa o6;rw[o6];by_cases he:er=0
   ·subst he;go_wp2_with fail;go_roundw
    case rel=>
     refine⟨j+1,h2,by go_num,fun k hk=>?_,HBN.o,HTN.o⟩;rcases Nat.lt_or_ge k j with c|c
     ·exact HZ.o k c
     obtain rfl:k=j:=ai;exact HER.o
    case measure=>simp[intOf];omega
   have sZ:(er != 0)=true:=bne_iff_ne.2 he;have HRF:=aa (show bF bk bj q=er from by rw[←HFE.o];exact D5 _ j er HZ.o (by rw[HEL.o,R8.o];exact h2) HER.o he);have kX:=aa he;clear he;go_upto_region 11 with fail
   have fX:=aa (show ∀ W,aG W xq 41 (cS q)→(W.cell? ⟨xq,1,none⟩=some (.int .u32 q.tag)∧W.cell? ⟨xq,0,none⟩=some (.int .i64 q.ax))from fun W hW=>⟨hW.cell 1,hW.cell 0⟩);obtain⟨wd,hwd⟩:=ae wn.drew;have gO:Below wn.heap.size wn wd:=mU;have Ze:=aa (wJ.o.ah gO);have HRd:=aa (HRn.o.ah gO);have Ro:=aa (HPn.o.ah gO);have J4:=aa (HTN.o.ak gO);have Zm:=aa (show fL S wd b bk from by obtain⟨x,hx⟩:=HBN.o;exact⟨x,hx.ak gO⟩);clear gO;refine wp_region_held_drew (S:=(fun W=>W.cell? ⟨xq,1,none⟩=some (.int .u32 q.tag)∧W.cell? ⟨xq,0,none⟩=some (.int .i64 q.ax))) bh (by rw[hwd];exact fX.o _ Ze.o) (fun hHeld=>?_);rw[hwd] at hHeld ⊢;clear hwd;refine P2 0 1 2 3 4 5 ?_;refine ty 6 ?_;refine cJ 7 fun K hK=>?_
   refine cW 58 _ _ rfl xr 58 _ #[.int .i64 0,.int .u32 0,.int .i64 0,.int .i64 0,.int .i64 0] HRd.o rfl rfl rfl bH et ?_;intro ws dG dD gJ;have hx:=HX.o;have HRs:=aa dG;have HQs:=aa (Ze.o.bz dD (fun e=>l9));have HPs:=aa (Ro.o.bz dD (fun e=>l9));have HTs:=aa (show aI (fun k=>S k∨k=xr) w8 ws from(J4.o.mono (fun k _ h=>.inl h)).grown dD (fun k e=>by injection e with e;exact .inl (.inr e.symm)));have HBs:=aa (nQ Zm.o dD (fun k hk e=>oT.o k ai hk));clear dG dD gJ hx;refine bW hK (by exact fX.o _ HQs.o) fun o8=>?_
   clear hK K;refine cJ 8 fun K hK=>?_
   refine cW 108 _ _ rfl xp 108 _ #[.int .u32 q.tag,.int .i64 q.ax,.int .i64 er,.int .u32 0,.int .i64 0,.int .i64 0,.int .i64 0] HPs.o rfl rfl rfl aS et ?_;intro wz dG dD gJ;have hx:=HX.o;have HPz:=aa dG;have HQz:=aa (HQs.o.bz dD (fun e=>l9));have HRz:=aa (HRs.o.bz dD (fun e=>l9));have HTz:=aa (show aI (fun k=>S k∨k=xr∨k=xp) w8 wz from(HTs.o.mono (fun k _ h=>Ti)).grown dD (fun k e=>Th));have Sf:=aa (nQ HBs.o dD (fun k hk e=>oT.o k ai hk));clear dG dD gJ hx;refine bW hK (by exact fX.o _ HQz.o) fun qu=>?_
   clear hK K;refine tJ 9 10 ?_;refine bM ?_;go_wp2_with fail;refine bodyPost_ret (vD Tryz.results216 _ iI iI (aL 58 HRz.o _ ni rfl bH) (aL 108 HPz.o _ eA rfl aS)) rfl ?_;refine⟨?_,Sf.o,?_⟩
   ·rw[if_neg (by rw[HRF.o];exact kX.o),HRF.o];rfl
   have hx:=HX.o;exact aI.abP (aI.aW ou.o) HTz.o (fun k hk=>TV)
  obtain rfl:j=nr:=ai;have HRF:=aa (show bF bk bj q=0 from by rw[←HFE.o];exact yH _ (fun k hk=>HZ.o k (by rw[HEL.o,R8.o] at hk;exact hk)));have wj:=aa (HRW.o HRF.o);have RU: ¬(j:Int)<(j:Int):=ai;go_upto_region 13 with fail
  have fX:=aa (show ∀ W,aG W xq 41 (cS q)→aG W xa 58 (fA rW)→(W.rangeAt xq 0 (cS q).toList∧W.rangeAt xa 0 (fA rW).toList)from fun W hW hV=>⟨fun j u hj=>by rw[gV,hW.cell j];simpa using hj,fun j u hj=>by rw[gV,hV.cell j];simpa using hj⟩);obtain⟨wd,hwd⟩:=ae wr.drew;have gO:Below wr.heap.size wr wd:=mU;have Ze:=aa (HQr.o.ah gO);have HRd:=aa (HRr.o.ah gO);have Ro:=aa (HPr.o.ah gO);have Zo:=aa (Zn.o.ah gO);have J4:=aa (HTC.o.ak gO);have Zm:=aa (show fL S wd b bk from by obtain⟨x,hx⟩:=afT.o;exact⟨x,hx.ak gO⟩);clear gO;refine wp_region_held_drew (S:=(fun W=>W.rangeAt xq 0 (cS q).toList∧W.rangeAt xa 0 (fA rW).toList)) bh (by rw[hwd];exact fX.o _ Ze.o Zo.o) (fun hHeld=>?_);rw[hwd] at hHeld ⊢;clear hwd;refine fc 0 (some 61) hHeld 58 (.tmp 10) xa 0 (fA rW).toList _ (fun w' h=>h.2) ni rfl bH ?_;try simp only[aZ]
  refine fc 1 (some 62) hHeld 41 (.tmp 5) xq 0 (cS q).toList _ (fun w' h=>h.1) cD rfl aH ?_;try simp only[aZ]
  refine fc 2 (some 63) hHeld 58 (.tmp 10) xa 0 (fA rW).toList _ (fun w' h=>h.2) ni rfl bH ?_;try simp only[aZ]
  refine cJ 3 fun K hK=>?_
  go_simp;refine(JR q rW wd).mono ?_;rintro e wl ⟨rfl,hbl⟩;have HQl:=aa (Ze.o.ah hbl);have HRl:=aa (HRd.o.ah hbl);have HPl:=aa (Ro.o.ah hbl);have HAl:=aa (Zo.o.ah hbl);have HTl:=aa (J4.o.ak hbl);have HBl:=aa (show fL S wl b bk from by obtain⟨x,hx⟩:=Zm.o;exact⟨x,hx.ak hbl⟩);clear hbl;go_wp2_with fail;refine bW hK (by exact fX.o _ HQl.o HAl.o) fun Mn=>?_
  clear hK K;refine cJ 4 fun K hK=>?_
  refine cW 58 _ _ rfl xr 58 _ (fA rW) HRl.o rfl rfl rfl bH SP ?_;intro ws dG dD gJ;have hx:=HX.o;have iZ:=aiA.o;have HRs:=aa dG;have HQs:=aa (HQl.o.bz dD (fun e=>l9));have HPs:=aa (HPl.o.bz dD (fun e=>l9));have HAs:=aa (HAl.o.bz dD (fun e=>l9));have HTs:=aa (show aI (fun k=>S k∨k=xr) w8 ws from(HTl.o.mono (fun k _ h=>.inl h)).grown dD (fun k e=>by injection e with e;exact .inl (.inr e.symm)));have HBs:=aa (nQ HBl.o dD (fun k hk e=>oT.o k ai hk));clear dG dD gJ hx iZ;refine bW hK (by exact fX.o _ HQs.o HAs.o) fun lI=>?_
  clear hK K;refine cJ 5 fun K hK=>?_
  refine cW 108 _ _ rfl xp 108 _ (lf (bN q rW)) HPs.o rfl rfl rfl aS vu ?_;intro wz dG dD gJ;have hx:=HX.o;have iZ:=aiA.o;have HPz:=aa dG;have HQz:=aa (HQs.o.bz dD (fun e=>l9));have HRz:=aa (HRs.o.bz dD (fun e=>l9));have kY:=aa (HAs.o.bz dD (fun e=>l9));have HTz:=aa (show aI (fun k=>S k∨k=xr∨k=xp) w8 wz from(HTs.o.mono (fun k _ h=>Ti)).grown dD (fun k e=>Th));have Sf:=aa (nQ HBs.o dD (fun k hk e=>oT.o k ai hk));clear dG dD gJ hx iZ;refine bW hK (by exact fX.o _ HQz.o kY.o) fun ju=>?_
  clear hK K;refine tJ 6 7 ?_;refine bM ?_;go_wp2_with fail;refine bodyPost_ret (vD Tryz.results216 _ iI iI (aL 58 HRz.o _ ni rfl bH) (aL 108 HPz.o _ eA rfl aS)) rfl ?_;refine⟨?_,Sf.o,?_⟩
  ·rw[if_pos HRF.o,←wj.o];rfl
  have hx:=HX.o;exact aI.abP (aI.aW ou.o) HTz.o (fun k hk=>TV)
