import Derived.Test.YtemighjbfanenaaGreatDoorPk7
import Derived.Test.YtemighjbfanenaaGreatDoorPk30
set_option linter.all false
set_option maxRecDepth 100000
set_option maxHeartbeats 16000000
namespace Go.Proofs.YtemighjbfanenaaGreatDoor
open RowKit
open En (dK wF Ki Lg gD Rec Rg jT zv yn Sl qH bB bE bP dT cK fA aR aH iW bI cx cZ)
open Oc (mG rG le bF tk Ui qZ IK val jW)
open Bk (bS Cl ir)
open Bool renaming false_eq_true→tH
open Go.IntKind renaming wrap_i64→mH,i64→aO
open Go.Proofs.Tryz renaming prog→af,underlying58→nu,underlying108→dJ,results303→PX,results302→Ak,underlying41→cA
open Go.Value renaming oneCell'→fw,ownBlock→gY
open Int renaming eq_ofNat_of_zero_le→eu,reduceEq→kN,reduceToNat→tG,toNat_natCast→hZ
open List renaming mem_of_find?_eq_some→wK,not_mem_nil→nt,append_assoc→jh,getElem?_eq_none→gW,getElem?_eq_getElem→bY,getD_eq_getElem?_getD→bN,append_nil→fz
open Nat renaming zero_add→gX,lt_of_lt_of_le→aW
open RowKit.Below renaming refl→au
theorem OG{p:Prop}(h:p:=by
 refine bodyPost_ret (jZ Ak _ im (aJ 58 Px.o _ nu rfl bG)) rfl ?_;exact⟨fb,Fe,PA.o,ad1,PC.o⟩):p:=h
theorem Va{p:Prop}(h:p:=by
 simp only[jh,fz] at hh;unfold bL kr kW;simp only[dt,hZ,kN,if_true,if_false,tG,tH,fz,jh];rw[hh];simp[iM,cz,Qv,tY,xJ,jr,rG,v4']):p:=h
theorem U'{p:Prop}(h:p:=by
 simp only[jh,fz] at hh;unfold bL kr kW;simp only[dt,hZ,kN,if_true,if_false,tG,tH,fz,jh];rw[hh];simp[iM,cz,Qv,tY,xJ,jr,rG]):p:=h
theorem U9{p:Prop}(h:p:=by
 refine bodyPost_ret (dw PX _ im (aJ 108 pz.o _ dJ rfl aR)) rfl ?_;exact⟨by rw[HEQ.o];rfl,bn Sx.o qd.o pg.o.1⟩):p:=h
theorem ab0{p:Prop}(h:p:=by
 rw[eR] at hi ⊢;rw[eE] at hj ⊢;have hi':i<2:=hi;rcases(show i=0∨i=1 from aj)with rfl|rfl
 ·exact r7
 exact r6):p:=h
theorem jQ{p:Prop}(h:p:=by refine⟨?_,?_⟩ <;>simp[bZ]):p:=h
theorem mS{p:Prop}(h:p:=by rw[←hwd];exact az (au _ _)):p:=h
theorem N7{p:Prop}(h:p:=by exact gi.o _ jz.o):p:=h
theorem pH{p:Prop}(h:p:=by simp[iW,fw]):p:=h
theorem rM{p:Prop}(h:p:=by injection e with e;have:=pg.o;omega):p:=h
theorem IE{p:Prop}(h:p:=by rw[←hw2,←aZ];exact ax (ax (au _ _) _) _):p:=h
theorem S6{p:Prop}(h:p:=by unfold bI;simp only[Bool.or_eq_true,Bool.and_eq_true,decide_eq_true_eq];omega):p:=h
theorem S4{p:Prop}(h:p:=by simp[fA,fw]):p:=h
theorem NU{p:Prop}(h:p:=by rw[←hw2,←aZ,←iO];exact(aG.fresh w _ _).alloc _):p:=h
theorem DA{p:Prop}(h:p:=by injection e with e;exact HNF.o e):p:=h
theorem qh{p:Prop}(h:p:=by rw[c];decide):p:=h
theorem T8{p:Prop}(h:p:=by rcases hk with hk|hk|hk;exact .inl hk;exact .inr (by omega);exact .inr (by omega)):p:=h
theorem TZ{p:Prop}(h:p:=by rw[←hw3,←hw2,←aZ];exact ax (ax (ax (au _ _) _) _) _):p:=h
theorem LJ{p:Prop}(h:p:=by obtain⟨x,hx⟩:=h;exact gB (hx.ak hW).bf):p:=h
theorem xF{p:Prop}(h:p:=by rw[mH];omega):p:=h
theorem Fe{p:Prop}(h:p:=by rw[HRU.o,sO.o];rfl):p:=h
theorem TM{p:Prop}(h:p:=by rw[←hw3,←hw2,←aZ,←iO];exact((aG.fresh w _ _).alloc _).alloc _):p:=h
theorem uB{p:Prop}(h:p:=by have:=f3 rfl;omega):p:=h
theorem TH{p:Prop}(h:p:=by rw[er] at hr;simp[Rec.ok,recKind,dL,within] at hr;omega):p:=h
theorem Fa{p:Prop}(h:p:=by rw[←MB];exact gM.o.alloc _):p:=h
theorem LB{p:Prop}(h:p:=by obtain⟨x,hx⟩:=h;exact⟨x,hx.ak hW⟩):p:=h
theorem Tt{p:Prop}(h:p:=by rcases h.count with h|h <;>simp only at h <;>omega):p:=h
theorem E6{p:Prop}(h:p:=by rw[←vu];exact dV.o.size):p:=h
theorem Ts{p:Prop}(h:p:=by rcases h with h|h;exact .inl h;exact .inr (.inl h)):p:=h
theorem Tr{p:Prop}(h:p:=by injection e with e;exact .inl (.inr (.inr e.symm))):p:=h
theorem To{p:Prop}(h:p:=by rcases h.aw with h|h <;>simp only at h <;>omega):p:=h
theorem Lv{p:Prop}(h:p:=by obtain⟨x,hx⟩:=h;exact hx.bf.lt):p:=h
theorem xA{p:Prop}(h:p:=by have:=hb.n;omega):p:=h
theorem ad1{p:Prop}(h:p:=by rw[HRU.o];exact Pz.o):p:=h
theorem xn{p:Prop}(h:p:=by exact pg.o.2.1):p:=h
theorem EY{p:Prop}(h:p:=by have:=gM.o.lt;omega):p:=h
theorem ux{p:Prop}(h:p:=by cases hr):p:=h
theorem EW{p:Prop}(h:p:=by have:=f2 rfl;omega):p:=h
theorem K6{p:Prop}(h:p:=by rw[←mO,←aZ,←iO];simp):p:=h
section
namespace Eg
open Bk
def ik(w:World)(e:Nat)(up:Bool)(lg sl bk:Option Addr)(wt:Value)(mp:Value): Prop:=aG w e 68 #[.bool true,.bool up,.pointer lg,.pointer sl,.pointer bk,wt,mp]
theorem pX{w:World}{e:Nat}{up:Bool}{lg sl bk:Option Addr}{wt mp:Value}(h:ik w e up lg sl bk wt mp): Calls af 23 #[.pointer (some ⟨e,0,none⟩)] w fun en w'=>en= .returned (.bool up)∧w'=w:=by
 have x1:w.cell? ⟨e,1,none⟩=some (.bool up):=h.cell 1;clear h;go_enter Tryz.func23,Tryz.ntmps23;go_wp2_with fail;go_ret;exact⟨rfl,rfl⟩
end Eg
end
section
namespace Eg
open Bk
def Mf: List (Int × Value)→Int→Option Value
 | [],_=>none
 | x::r,i=>if i=x.1 then some x.2 else Mf r i
def ju(w:World)(b:Nat)(l:List (Int × Value)): Prop:=fB af 38 .i64 w b l.length (Mf l)
theorem ju.put{w':World}{b:Nat}{l:List (Int × Value)}{i:Int}{v:Value}(hl:Mf l i=none)(h:fB af 38 .i64 w' b (if(Mf l i).isSome then l.length else l.length+1) (Da (Mf l) i (some v))): ju w' b ((i,v)::l):=by
 rw[hl] at h;have e:Da (Mf l) i (some v)=Mf ((i,v)::l):=funext fun j=>rfl
 rw[e] at h;exact h
theorem C7{w:World}{ops:Array Oper}{rest:List Oper}{o:Oper}{a:Act}{Q:Exit→Act→World→Prop}(hg:o.guard=none)(m x y:Operand)(hop:o.op=Op.insert 66 m x y)
  (b:Nat) (l:List (Int × Value)) (hm:a.eval m= .map (some b)) (h:ju w b l) (i:Int) (v:Value) (hx:a.eval x= .int .i64 i) (hy:a.eval y=v) (hi:(Lit.int .i64 i).wf=true) (hn:Mf l i=none) (hlen:l.length<100)
  (hK: ∀ w',ju w' b ((i,v)::l)→w.grownBy w' (some b)→wpList af ops Q rest (a.put o.dst undef) w'):wpList af ops Q (o::rest) a w:=by
 refine wpList_plain hg fun K' hK'=>?_
 obtain⟨w',hrun,r1,r2⟩:=fB.put h Tryz.underlying38 Tryz.underlying66 km hi (v:=v);unfold Oper.wp;simp[execOp,hop,hm,hx,hy,hrun,Result.andThen];exact hK' _ _ (hK w' (ju.put hn r1) r2)
def jC(e:Nat): List (Int × Value):=[(7,.func (.func 101) #[.pointer (some ⟨e,0,none⟩)] #[]),(4,.func (.func 101) #[.pointer (some ⟨e,0,none⟩)] #[]),(3,.func (.func 101) #[.pointer (some ⟨e,0,none⟩)] #[]),(2,.func (.func 101) #[.pointer (some ⟨e,0,none⟩)] #[]),(1,.func (.func 101) #[.pointer (some ⟨e,0,none⟩)] #[]),(9,.func (.func 100) #[.pointer (some ⟨e,0,none⟩)] #[]),(8,.func (.func 99) #[.pointer (some ⟨e,0,none⟩)] #[]),(10,.func (.func 98) #[.pointer (some ⟨e,0,none⟩)] #[]),(6,.func (.func 98) #[.pointer (some ⟨e,0,none⟩)] #[]),(5,.func (.func 98) #[.pointer (some ⟨e,0,none⟩)] #[])]
def aix(q s b:Nat)(w:World)(en:Ending)(w':World): Prop:=∃ e mb,en= .returned (.tuple #[.pointer (some ⟨e,0,none⟩),.int .i64 0])∧ik w' e true (some ⟨q,0,none⟩) (some ⟨s,0,none⟩) (some ⟨b,0,none⟩) (.slice none 0 0) (.map (some mb))∧ju w' mb (jC e)∧w.heap.size≤e∧w.heap.size≤mb∧Below w.heap.size w w'
theorem Pj{S T:Nat→Prop}{w:World}{q r p s ra rb p2 b n ar:Nat}{l:Lg}{g:Rg}{size:Nat}{v:Value}{sl:Sl}{aA next aq:Int}{len:Nat}{qq:bH}(hl:gD S w q r p l g size v)(hs:qH w s ra rb p2 sl size)(h:cC T w b n ar aA next aq len qq)(hn:1≤n∧n≤1024):
  Calls af 33 #[.pointer (some ⟨q,0,none⟩),.pointer (some ⟨s,0,none⟩),.pointer (some ⟨b,0,none⟩)] w (aix q s b w):=by
 have hbl:=hl.rg.eQ;have hb1:1≤g.bytes size:=by unfold Rg.bytes;exact Nat.mul_pos hl.rg.count.1 hl.rg.size.1
 have zr:=hl.fit;have ky:1≤sl.bytes size:=by
  have h1:=hs.two;have h2:=hs.a.size;have h3:2*size≤sl.a.count*size:=Nat.mul_le_mul_right _ h1;unfold Sl.bytes Rg.bytes;omega
 obtain⟨us,hus⟩:=ae l.used;obtain⟨rm,hrm⟩:=ae (g.bytes size - l.used);obtain⟨sb,ag7⟩:=ae (sl.bytes size);have M7:=aa (show ∀ W,Below w.heap.size w W→Calls af 96 #[.pointer (some ⟨q,0,none⟩)] W (fun e w'=>e= .returned (.int .i64 (rm:Nat))∧Below W.heap.size W w')from fun W hW=>by
  have h1:=wF ((show En.gD S W q r p l g size v from⟨hl.own.ai hW,hl.rg.ai hW,dY hl.row fun k hk=>hW.block k (dM hl.row hk).1,hl.bA,fun k hk=>aW (hl.lt k hk) hW.size,hl.ok,hl.fit⟩))
  rwa [hrm] at h1)
 have Pq:=aa (show ∀ W,Below w.heap.size w W→Calls af 81 #[.pointer (some ⟨q,0,none⟩)] W (fun e w'=>e= .returned (.int .i64 (us:Nat))∧Below W.heap.size W w')from fun W hW=>by
  have h1:=Ki ((show En.gD S W q r p l g size v from⟨hl.own.ai hW,hl.rg.ai hW,dY hl.row fun k hk=>hW.block k (dM hl.row hk).1,hl.bA,fun k hk=>aW (hl.lt k hk) hW.size,hl.ok,hl.fit⟩))
  rwa [hus] at h1)
 have Pv:=aa (show ∀ W,Below w.heap.size w W→Calls af 97 #[.pointer (some ⟨s,0,none⟩)] W (fun e w'=>e= .returned (.int .i64 (sb:Nat))∧Below W.heap.size W w')from fun W hW=>by
  have h1:=yn (hs.ai hW)
  rwa [ag7] at h1)
 have Pu:=aa (show ∀ W,Below w.heap.size w W→Calls af 38 #[.pointer (some ⟨b,0,none⟩)] W (fun e w'=>e= .returned (.agg #[.int .i64 n,.int .i64 ar,.int .i64 aA])∧Below W.heap.size W w')from fun W hW=>gB (h.ak hW));have mA:rm+us=g.bytes size:=aj;have hz0:(((rm+us:Nat):Int)==0)=false:=II;have hz1:(((rm:Int)+(us:Int))==0)=false:=II;have hz2:((sb:Int)==0)=false:=II;have hz3:((n:Int)==0)=false:=II;have hz4:aO.wrap ((rm:Int)+(us:Int))=(rm:Int)+(us:Int):=xF;have hsm:rm+us≤268435456:=aj;have amw: ∀ W,(Instr.field 80 (.agg #[.int .i64 n,.int .i64 ar,.int .i64 aA]) 0).run af W= .ok (.int .i64 n) W:=fun W=>br
 have V8:=@run_makeMap af;clear hl hs h hbl hb1 zr ky hus hrm ag7 mA;go_enter Tryz.func33,Tryz.ntmps33;go_wp2_with fail;refine(M7.o w (au _ _)).mono ?_;rintro e w1 ⟨rfl,hb1⟩;have bz:=aa hb1;clear hb1;go_wp2_with fail;refine(Pq.o w1 bz.o).mono ?_;rintro e w2 ⟨rfl,hb2⟩;have cu:=bz.dP hb2;clear hb2;go_wp2_with fail;refine(Pv.o w2 cu.o).mono ?_;rintro e w3 ⟨rfl,hb3⟩;have dV:=cu.dP hb3;clear hb3;go_wp2_with fail;refine(Pu.o w3 dV.o).mono ?_;rintro e w4 ⟨rfl,hb4⟩;obtain⟨eb,heb⟩:=ae w4.heap.size;obtain⟨w6,og⟩:=ae ((w4.alloc (.cells #[.bool true,.bool true,.pointer (some ⟨q,0,none⟩),.pointer (some ⟨s,0,none⟩),.pointer (some ⟨b,0,none⟩),.slice none 0 0,.map none] 68)).alloc (.map #[] 0));have mY:Below w.heap.size w w6:=by rw[←og];exact ax (ax (av dV.o hb4) _) _
 have CS:ju w6 (eb+1) []:=by
  have h1:=fB.made af 38 .i64 (w4.alloc (.cells #[.bool true,.bool true,.pointer (some ⟨q,0,none⟩),.pointer (some ⟨s,0,none⟩),.pointer (some ⟨b,0,none⟩),.slice none 0 0,.map none] 68));rw[og] at h1;simp only[World.size_alloc] at h1;rw[heb] at h1;exact h1
 have MC:aG w6 eb 68 #[.bool true,.bool true,.pointer (some ⟨q,0,none⟩),.pointer (some ⟨s,0,none⟩),.pointer (some ⟨b,0,none⟩),.slice none 0 0,.map none]:=by rw[←og,←heb];exact(aG.fresh w4 _ _).alloc _
 have HE:=aa (show w.heap.size≤eb by have:=(av dV.o hb4).size;omega);have HM:=aa (show ju w6 (eb+1) []∧aG w6 eb 68 #[.bool true,.bool true,.pointer (some ⟨q,0,none⟩),.pointer (some ⟨s,0,none⟩),.pointer (some ⟨b,0,none⟩),.slice none 0 0,.map none]∧Below w.heap.size w w6 from⟨CS,MC,mY⟩);have HEB:=aa heb;clear hb4 mY CS MC bz cu dV;go_wp2_with (refine C7 rfl _ _ _ rfl (eb+1) _ (by first|rfl|(rw[←HEB.o];rfl)) HM.o.1 _ _ rfl rfl aN im dR ?_;intro wN hm hg;replace HM:=aa (show ju wN (eb+1) _∧aG wN eb 68 #[.bool true,.bool true,.pointer (some ⟨q,0,none⟩),.pointer (some ⟨s,0,none⟩),.pointer (some ⟨b,0,none⟩),.slice none 0 0,.map none]∧Below w.heap.size w wN from⟨hm,HM.o.2.1.bw hg (fun e=>lW),HM.o.2.2.grown hg HM.o.2.2.size (fun k e=>by injection e with e;have:=HE.o;omega)⟩);clear hm hg;have c6:wN.cell? ⟨eb,6,none⟩=some (.map none):=HM.o.2.1.cell 6;have f6:wN.frozen? ⟨eb,6,none⟩=false:=HM.o.2.1.mark 6);go_ret2;refine⟨eb,eb+1,rfl,?_,?_,HE.o,by have:=HE.o;omega,HM.o.2.2.setCell (by exact HE.o) _⟩
 ·exact HM.o.2.1.put 6 _
 ·exact fB.same HM.o.1 (Below.heap_setCell _ _ _ _ (by show eb+1≠eb;omega))
end Eg
end
section
namespace En
def Si(w:World)(A:Option Addr)(l:List Rp): Prop:=l≠ []→∃ g off,A=some ⟨g,off,none⟩∧g<w.heap.size∧∀ i (h:i<l.length),w.rangeAt g (off+i*7) (iW l[i]).toList
theorem Si.ai{w w':World}{A:Option Addr}{l:List Rp}(h:Si w A l)(hb:Below w.heap.size w w'): Si w' A l:=fun hne=>by
 obtain⟨g,off,h1,h2,h3⟩:=h hne;exact⟨g,off,h1,aW h2 hb.size,fun i hi j u hj=>(hb.cell (p:=⟨g,off+i*7+j,none⟩) h2).trans (h3 i hi j u hj)⟩
def cJ(r:Rp): By:=nG (zk r.ay r.err) r.tag.toNat r.ay.toNat r.err.toNat r.id.toNat r.aw.toNat r.aS.toNat r.count.toNat
theorem yP(r:Rp): 7≤(cJ r).length∧(cJ r).length≤32:=by
 have hf:=FH r.ay r.err;unfold cJ;obtain⟨f,Y'⟩:=ae (zk r.ay r.err);rw[Y'] at hf ⊢;unfold nG;rcases hf with rfl|rfl|rfl|rfl|rfl|rfl <;>simp[Oc.bF]
theorem XA(r:Rp)(w:World)(ht:fk w)(h:yo r (zk r.ay r.err)): Calls af 65 #[.agg (iW r)] w (y9 (cJ r) w):=by
 obtain⟨tg,kd,er,id,st,tl,ct⟩:=r;have h1:=h.tag;have h2:=h.ay;have h3:=h.err;have h4:=h.id;have h5:=h.aS;have h6:0≤st:=To;have h7:0≤ct:=Tt;simp only at h1 h2 h3 h4 h5;obtain⟨tg,rfl⟩:=eu h1.1;obtain⟨kd,rfl⟩:=eu h2.1;obtain⟨er,rfl⟩:=eu h3.1;obtain⟨id,rfl⟩:=eu h4.1;obtain⟨tl,rfl⟩:=eu h5.1;obtain⟨st,rfl⟩:=eu h6;obtain⟨ct,rfl⟩:=eu h7;exact Xz tg kd er id st tl ct _ w ht h
structure kD(base:Nat)(w:World)(v:Value)(L:List By)(G C:Nat→Nat): Prop where
 row:aM (fun k=>v.ownBlock=some k) w 34 1 v L.length (fun i=>[.slice (some ⟨G i,0,none⟩) (L.getD i []).length (C i)])
 each: ∀ i,i<L.length→mG w (G i) (L.getD i []) (C i)∧(L.getD i []).length≤C i∧base≤G i∧v.ownBlock≠some (G i)
 new: ∀ k,v.ownBlock=some k→base≤k
 aih: ∀ i j,i<L.length→j<L.length→G i=G j→i=j
theorem kD.ai{base:Nat}{w w':World}{v:Value}{L:List By}{G C:Nat→Nat}(h:kD base w v L G C)(hb:Below w.heap.size w w'): kD base w' v L G C:=
 ⟨h.row.ai hb,fun i hi=>⟨(h.each i hi).1.ai hb,(h.each i hi).2⟩,h.new,h.aih⟩
theorem kD.nil(base:Nat)(w:World): kD base w (.slice none 0 0) [] (fun _=>0) (fun _=>0):=
 ⟨⟨td w 0 1 _,fun g h=>h⟩,fun i hi=>by simp at hi,fun k h=>mq,fun i j hi=>absurd hi (Nat.not_lt_zero _)⟩
theorem IQ(L:List By)(x:By)(i:Nat): (L++ [x]).getD i []=if i=L.length then x else L.getD i []:=by
 simp only[bN];by_cases h:i=L.length
 ·subst h;simp
 rw[if_neg h];rcases Nat.lt_or_ge i L.length with h1|h1
 ·rw[List.getElem?_append_left h1]
 rw[gW fV,gW h1]
theorem kD.snoc{base:Nat}{wr w7 w8:World}{v:Value}{L:List By}{G C:Nat→Nat}{x:By}{g2 c2 ga ca:Nat}(h:kD base wr v L G C)(hb:Below wr.heap.size wr w7)(hx:mG w7 g2 x c2)(hg2:wr.heap.size≤g2)(hbase:base≤wr.heap.size)(hc:x.length≤c2)
  (hr:aM (fun k=>v.ownBlock=some k∨k=w7.heap.size) w8 34 1 (.slice (some ⟨ga,0,none⟩) (L.length+1) ca) (L.length+1) (cH (fun i=>[.slice (some ⟨G i,0,none⟩) (L.getD i []).length (C i)]) L.length [.slice (some ⟨g2,0,none⟩) x.length c2])) (hg:w7.grownBy w8 v.ownBlock) :
  kD base w8 (.slice (some ⟨ga,0,none⟩) (L.length+1) ca) (L++ [x]) (fun i=>if i=L.length then g2 else G i) (fun i=>if i=L.length then c2 else C i):=by
 have hlen:(L++ [x]).length=L.length+1:=dR;have hgx:=hx.lt;have hz:=hb.size;have hown: ∀ k,v.ownBlock=some k→k<wr.heap.size:=fun k hk=>(dM h.row.own hk).1
 have KM:v.ownBlock=some ga∨ga=w7.heap.size:=hr.block ga rfl;have akE:(fun i=>[Value.slice (some ⟨if i=L.length then g2 else G i,0,none⟩) ((L++ [x]).getD i []).length (if i=L.length then c2 else C i)])=cH (fun i=>[.slice (some ⟨G i,0,none⟩) (L.getD i []).length (C i)]) L.length [.slice (some ⟨g2,0,none⟩) x.length c2]:=by
  funext i;rw[IQ];unfold cH;by_cases hi:i=L.length
  ·simp[hi]
  simp[hi]
 refine⟨⟨by rw[hlen,akE];exact hr.own,fun g hg=>hg⟩,fun i hi=>?_,fun k hk=>?_,fun i j hi hj he=>?_⟩
 ·rw[IQ];by_cases hi2:i=L.length
  ·simp only[if_pos hi2];refine⟨hx.same (hg.block g2 hgx (fun e=>by have:=hown g2 e.symm;omega)),hc,aj,fun e=>?_⟩;have e2:ga=g2:=Lo;rcases KM with h1|h1
   ·have:=hown ga h1;omega
   omega
  simp only[if_neg hi2];have hi3:i<L.length:=aj;obtain⟨b1,b2,b3,b4⟩:=h.each i hi3;have hbl:=b1.lt;refine⟨(b1.same (hb.block _ hbl)).same (hg.block (G i) aj (fun e=>b4 e.symm)),b2,b3,fun e=>?_⟩;have e2:ga=G i:=Lo;rcases KM with h1|h1
  ·exact b4 (by rw[h1,e2])
  omega
 ·have e2:ga=k:=by simpa[gY] using hk
  rcases KM with h1|h1
  ·rw[←e2];exact h.new ga h1
  omega
 ·rw[hlen] at hi hj;by_cases a1:i=L.length
  ·by_cases a2:j=L.length
   ·omega
   rw[if_pos a1,if_neg a2] at he;have hq:=(h.each j aj).1.lt;omega
  by_cases a2:j=L.length
  ·rw[if_neg a1,if_pos a2] at he;have hq:=(h.each i aj).1.lt;omega
  rw[if_neg a1,if_neg a2] at he;exact h.aih i j aj aj he
def ain(l:List Rp)(R:World→Prop)(w:World)(e:Ending)(w':World): Prop:=∃ A c,e= .returned (.slice A l.length c)∧Si w' A l∧R w'
def Nr(L:List By)(R:World→Prop)(w:World)(e:Ending)(w':World): Prop:=∃ v G C wc,e= .returned v∧kD wc.heap.size w' v L G C∧w.heap.size≤wc.heap.size∧R wc∧Below wc.heap.size wc w'
theorem lz(q:Rq)(er:Int)(w:World): Calls af 64 #[.agg (cZ q),.int .i64 er] w (ain [⟨q.tag,q.ay,er,0,0,0,0⟩] (fun w'=>Below w.heap.size w w') w):=by
 obtain⟨xq,iO⟩:=ae w.heap.size;obtain⟨w1,aZ⟩:=ae (w.alloc (.cells (cZ q) 41));have bt:=aK aZ iO;have bz:=aa (aL aZ);have c0:w1.cell? ⟨xq,0,none⟩=some (.int .i64 q.ay):=bt.cell 0;have c1:w1.cell? ⟨xq,1,none⟩=some (.int .u32 q.tag):=bt.cell 1;clear bt;go_enter Tryz.func64,Tryz.ntmps64;go_wp2_with fail;go_ret;refine⟨_,_,rfl,?_,ax bz.o _⟩;intro _;refine⟨w1.heap.size,0,rfl,dR,fun i hi j u hj=>?_⟩;have h0:i=0:=AK;subst h0;have:=(aG.fresh w1 108 (iW ⟨q.tag,q.ay,er,0,0,0,0⟩)).cell j;simp only[Nat.zero_mul,gX];refine this.trans ?_;simpa using hj
end En
end
section
namespace En
theorem bG: (af.info? 58).map (·.size)=some 5:=br
theorem Ka(q:Rq)(r:Rec)(w:World): Calls af 303 #[.agg (cZ q),.agg (fA r)] w fun e w'=>e= .returned (.agg (iW (bP q r)))∧Below w.heap.size w w':=by
 obtain⟨xq,iO⟩:=ae w.heap.size;obtain⟨w1,aZ⟩:=ae (w.alloc (.cells (cZ q) 41));obtain⟨xc,hxc⟩:=ae w1.heap.size;obtain⟨w2,hw2⟩:=ae (w1.alloc (.cells (fA r) 58));obtain⟨xr,mO⟩:=ae w2.heap.size;obtain⟨w3,hw3⟩:=ae (w2.alloc (.cells #[.int .u32 0,.int .i64 0,.int .i64 0,.int .u32 0,.int .i64 0,.int .i64 0,.int .i64 0] 108));obtain⟨xo,hxo⟩:=ae w3.heap.size;obtain⟨w4,hw4⟩:=ae (w3.alloc (.cells #[.int .u32 0,.int .i64 0,.int .i64 0,.int .u32 0,.int .i64 0,.int .i64 0,.int .i64 0] 108));have hQ3:aG w3 xq 41 (cZ q):=TM;have RR:=aa (show aG w3 xc 58 (fA r)by rw[←hw3,←hw2,←hxc];exact(aG.fresh w1 _ _).alloc _);have gM:=aa (aK hw3 mO);have HO4:=aa (aK hw4 hxo);have dV:=aa (show Below w.heap.size w w3 from TZ);have gH:=aa (aL hw4);have HXO:=aa hxo;have alB:=aa (show xc<xo from by have:=RR.o.lt;have:=HXO.o;omega);have pg:=aa (show w.heap.size≤xr∧w.heap.size≤xo∧xr≠xo from by have h1:=gM.o.lt;have h2:=HXO.o;have h3:w.heap.size≤xr:=(by rw[←mO,←hw2,←aZ];simp;omega);omega);have c1:w3.cell? ⟨xq,1,none⟩=some (.int .u32 q.tag):=hQ3.cell 1;have c0:w3.cell? ⟨xq,0,none⟩=some (.int .i64 q.ay):=hQ3.cell 0;have jx:=aa hQ3;clear hQ3;go_enter Tryz.func303,Tryz.ntmps303;go_upto_region 2 with(refine ah rfl 108 _ _ rfl xo 108 _ #[.int .u32 q.tag,.int .i64 q.ay,.int .i64 0,.int .u32 0,.int .i64 0,.int .i64 0,.int .i64 0] HO4.o rfl rfl rfl aR eB ?_;intro w5 hO5 ft hs5;have eA:=aa (show Below w3.heap.size w3 w5 from bn gH.o ft (Nat.le_of_eq HXO.o));have uu:=aa hO5;clear hO5 ft hs5)
 have qL:=gM.js eA.o;have Nj:=RR.js eA.o;have Ye:=jx.js eA.o;have ie:=aa (av dV.o eA.o);clear c0 c1 gM RR jx dV gH HO4 HXO hxo hw4 eA;have d0:w5.cell? ⟨xq,0,none⟩=some (.int .i64 q.ay):=Ye.o.cell 0;by_cases hk:q.ay=1
 ·have t0:(q.ay==1)=true:=beq_iff_eq.2 aj;have e1:w5.cell? ⟨xc,1,none⟩=some (.int .u32 r.id):=Nj.o.cell 1;have e3:w5.cell? ⟨xc,3,none⟩=some (.int .i64 r.aS):=Nj.o.cell 3;have HEQ:=aa (show bP q r=⟨q.tag,q.ay,0,r.id,0,r.aS,0⟩from by unfold bP;rw[if_pos hk]);have Nd:=aa (show aG ((w5.setCell ⟨xo,3,none⟩ (.int .u32 r.id)).setCell ⟨xo,5,none⟩ (.int .i64 r.aS)) xo 108 #[.int .u32 q.tag,.int .i64 q.ay,.int .i64 0,.int .u32 r.id,.int .i64 0,.int .i64 r.aS,.int .i64 0] from((uu.o).put 3 _).put 5 _);have Ct:=aa (show aG ((w5.setCell ⟨xo,3,none⟩ (.int .u32 r.id)).setCell ⟨xo,5,none⟩ (.int .i64 r.aS)) xr 108 _ from((qL.o).other (p:=⟨xo,3,none⟩) pg.o.2.2 _).other (p:=⟨xo,5,none⟩) pg.o.2.2 _);have Cz:=aa (show Below w.heap.size w ((w5.setCell ⟨xo,3,none⟩ (.int .u32 r.id)).setCell ⟨xo,5,none⟩ (.int .i64 r.aS)).drew from az (((ie.o).setCell xn _).setCell xn _));have alo:=aa (show aG ((w5.setCell ⟨xo,5,none⟩ (.int .i64 r.aS)).setCell ⟨xo,3,none⟩ (.int .u32 r.id)) xo 108 #[.int .u32 q.tag,.int .i64 q.ay,.int .i64 0,.int .u32 r.id,.int .i64 0,.int .i64 r.aS,.int .i64 0] from((uu.o).put 5 _).put 3 _);have Yc:=aa (show aG ((w5.setCell ⟨xo,5,none⟩ (.int .i64 r.aS)).setCell ⟨xo,3,none⟩ (.int .u32 r.id)) xr 108 _ from((qL.o).other (p:=⟨xo,5,none⟩) pg.o.2.2 _).other (p:=⟨xo,3,none⟩) pg.o.2.2 _);have ajp:=aa (show Below w.heap.size w ((w5.setCell ⟨xo,5,none⟩ (.int .i64 r.aS)).setCell ⟨xo,3,none⟩ (.int .u32 r.id)).drew from az (((ie.o).setCell xn _).setCell xn _));have m3:=uu.o.mark 3;have m4:=uu.o.mark 4;have m5:=uu.o.mark 5;have o3:w5.cell? ⟨xo,3,none⟩=some (.int .u32 0):=uu.o.cell 3;have o4:w5.cell? ⟨xo,4,none⟩=some (.int .i64 0):=uu.o.cell 4;have o5:w5.cell? ⟨xo,5,none⟩=some (.int .i64 0):=uu.o.cell 5;have HXC:=aa (show xc≠xo from by have:=alB.o;omega);have f3:(w5.setCell ⟨xo,3,none⟩ (.int .u32 r.id)).cell? ⟨xc,3,none⟩=some (.int .i64 r.aS):=(Nj.o.other (p:=⟨xo,3,none⟩) HXC.o _).cell 3;have f1:(w5.setCell ⟨xo,5,none⟩ (.int .i64 r.aS)).cell? ⟨xc,1,none⟩=some (.int .u32 r.id):=(Nj.o.other (p:=⟨xo,5,none⟩) HXC.o _).cell 1;clear hk;go_upto_region 4 with fail
  go_region;all_goals(go_wp2_with (first|(refine aC rfl 108 (.tmp 5) rfl xo 108 _ Nd.o rfl _ dJ rfl aR ?_)|(refine ah rfl 108 (.tmp 4) _ rfl xr 108 _ #[.int .u32 q.tag,.int .i64 q.ay,.int .i64 0,.int .u32 r.id,.int .i64 0,.int .i64 r.aS,.int .i64 0] Ct.o rfl rfl rfl aR eB ?_;intro w9 dE dC gJ;have pz:=aa dE;have qd:=aa dC;have Sx:=aa Cz.o;clear dE dC gJ)|(refine aC rfl 108 (.tmp 5) rfl xo 108 _ alo.o rfl _ dJ rfl aR ?_)|(refine ah rfl 108 (.tmp 4) _ rfl xr 108 _ #[.int .u32 q.tag,.int .i64 q.ay,.int .i64 0,.int .u32 r.id,.int .i64 0,.int .i64 r.aS,.int .i64 0] Yc.o rfl rfl rfl aR eB ?_;intro w9 dE dC gJ;have pz:=aa dE;have qd:=aa dC;have Sx:=aa ajp.o;clear dE dC gJ)))
  all_goals(refine bodyPost_ret (dw PX _ im (aJ 108 pz.o _ dJ rfl aR)) rfl ?_;exact⟨by rw[HEQ.o];rfl,bn Sx.o qd.o pg.o.1⟩)
 have yU:=hk;clear hk;by_cases hk:q.ay=4
 ·have t0:(q.ay==1)=false:=beq_eq_false_iff_ne.2 aj;have t1:(q.ay==4)=true:=beq_iff_eq.2 aj;have e2:w5.cell? ⟨xc,2,none⟩=some (.int .i64 r.aw):=Nj.o.cell 2;have HEQ:=aa (show bP q r=⟨q.tag,q.ay,0,0,r.aw,0,0⟩from by unfold bP;rw[if_neg aj,if_pos hk]);have Nd:=aa (show aG (w5.setCell ⟨xo,4,none⟩ (.int .i64 r.aw)) xo 108 #[.int .u32 q.tag,.int .i64 q.ay,.int .i64 0,.int .u32 0,.int .i64 r.aw,.int .i64 0,.int .i64 0] from(uu.o).put 4 _);have Ct:=aa (show aG (w5.setCell ⟨xo,4,none⟩ (.int .i64 r.aw)) xr 108 _ from(qL.o).other (p:=⟨xo,4,none⟩) pg.o.2.2 _);have Cz:=aa (show Below w.heap.size w (w5.setCell ⟨xo,4,none⟩ (.int .i64 r.aw))from(ie.o).setCell xn _);have m3:=uu.o.mark 3;have m4:=uu.o.mark 4;have m5:=uu.o.mark 5;have o3:w5.cell? ⟨xo,3,none⟩=some (.int .u32 0):=uu.o.cell 3;have o4:w5.cell? ⟨xo,4,none⟩=some (.int .i64 0):=uu.o.cell 4;have o5:w5.cell? ⟨xo,5,none⟩=some (.int .i64 0):=uu.o.cell 5;clear hk;go_wp2_with (first|(refine aC rfl 108 (.tmp 5) rfl xo 108 _ Nd.o rfl _ dJ rfl aR ?_)|(refine ah rfl 108 (.tmp 4) _ rfl xr 108 _ #[.int .u32 q.tag,.int .i64 q.ay,.int .i64 0,.int .u32 0,.int .i64 r.aw,.int .i64 0,.int .i64 0] Ct.o rfl rfl rfl aR eB ?_;intro w9 dE dC gJ;have pz:=aa dE;have qd:=aa dC;have Sx:=aa Cz.o;clear dE dC gJ));exact U9
 have hk4:=hk;clear hk;by_cases hk:q.ay=7
 ·have t0:(q.ay==1)=false:=beq_eq_false_iff_ne.2 aj;have t1:(q.ay==4)=false:=cg;have t2:(q.ay==7)=true:=beq_iff_eq.2 aj;have e4:w5.cell? ⟨xc,4,none⟩=some (.int .i64 r.aq):=Nj.o.cell 4;have HEQ:=aa (show bP q r=⟨q.tag,q.ay,0,0,0,r.aq,0⟩from by unfold bP;rw[if_neg aj,if_neg aj,if_pos hk]);have Nd:=aa (show aG (w5.setCell ⟨xo,5,none⟩ (.int .i64 r.aq)) xo 108 #[.int .u32 q.tag,.int .i64 q.ay,.int .i64 0,.int .u32 0,.int .i64 0,.int .i64 r.aq,.int .i64 0] from(uu.o).put 5 _);have Ct:=aa (show aG (w5.setCell ⟨xo,5,none⟩ (.int .i64 r.aq)) xr 108 _ from(qL.o).other (p:=⟨xo,5,none⟩) pg.o.2.2 _);have Cz:=aa (show Below w.heap.size w (w5.setCell ⟨xo,5,none⟩ (.int .i64 r.aq))from(ie.o).setCell xn _);have m3:=uu.o.mark 3;have m4:=uu.o.mark 4;have m5:=uu.o.mark 5;have o3:w5.cell? ⟨xo,3,none⟩=some (.int .u32 0):=uu.o.cell 3;have o4:w5.cell? ⟨xo,4,none⟩=some (.int .i64 0):=uu.o.cell 4;have o5:w5.cell? ⟨xo,5,none⟩=some (.int .i64 0):=uu.o.cell 5;clear hk;go_wp2_with (first|(refine aC rfl 108 (.tmp 5) rfl xo 108 _ Nd.o rfl _ dJ rfl aR ?_)|(refine ah rfl 108 (.tmp 4) _ rfl xr 108 _ #[.int .u32 q.tag,.int .i64 q.ay,.int .i64 0,.int .u32 0,.int .i64 0,.int .i64 r.aq,.int .i64 0] Ct.o rfl rfl rfl aR eB ?_;intro w9 dE dC gJ;have pz:=aa dE;have qd:=aa dC;have Sx:=aa Cz.o;clear dE dC gJ));exact U9
 have hk9:=hk;have t0:(q.ay==1)=false:=cg;have t1:(q.ay==4)=false:=cg;have t2:(q.ay==7)=false:=cg;have HEQ:=aa (show bP q r=⟨q.tag,q.ay,0,0,0,0,0⟩from by unfold bP;rw[if_neg aj,if_neg aj,if_neg aj]);have Nd:=aa uu.o;have Ct:=aa qL.o;have Cz:=aa ie.o;clear hk hk9;go_wp2_with (first|(refine aC rfl 108 (.tmp 5) rfl xo 108 _ Nd.o rfl _ dJ rfl aR ?_)|(refine ah rfl 108 (.tmp 4) _ rfl xr 108 _ #[.int .u32 q.tag,.int .i64 q.ay,.int .i64 0,.int .u32 0,.int .i64 0,.int .i64 0,.int .i64 0] Ct.o rfl rfl rfl aR eB ?_;intro w9 dE dC gJ;have pz:=aa dE;have qd:=aa dC;have Sx:=aa Cz.o;clear dE dC gJ));exact U9
end En
end
section
namespace Bk
open En (Rq bG)
def aid(f:Nat): Value:=.func (.func f) #[] #[]
def dO(b:dK)(q:Rq): Rec:=
 if q.ay=1 then⟨1,b.next,q.aw,aO.wrap (b.aq+q.bT),0⟩else if q.ay=2 then⟨2,q.id,0,0,0⟩else if q.ay=3 then⟨3,q.id,0,0,0⟩
 else if q.ay=4 then⟨4,q.id,q.aw,0,0⟩else⟨5,0,0,0,aO.wrap (b.aq+q.bT)⟩
def cn(k:Int): List Nat:=
 if k=1 then [339,340,341,342,343,344]
 else if k=2 then [345,344] else if k=3 then [345,344]
 else if k=4 then [345,339,342,344]
 else [340,341,344]
def ajJ(b:dK)(q:Rq)(w:World)(e:Ending)(w':World): Prop:=
 ∃ g,e= .returned (.tuple #[.agg (fA (dO b q)),.slice (some ⟨g,0,none⟩) (cn q.ay).length (cn q.ay).length,.bool true])∧w.heap.size≤g∧aG w' g 440 ((cn q.ay).map aid).toArray∧Below w.heap.size w w'
theorem yi(S:Nat→Prop)(w:World)(b:Nat)(bk:dK)(q:Rq)(h:fK S w b bk)(hc:En.bI q.ay=true): Calls af 302 #[.pointer (some ⟨b,0,none⟩),.agg (cZ q)] w (ajJ bk q w):=by
 have p8:q.ay=1∨q.ay=2∨q.ay=3∨q.ay=4∨q.ay=7:=by
  unfold En.bI at hc;simp only[Bool.or_eq_true,Bool.and_eq_true,decide_eq_true_eq] at hc;omega
 obtain⟨xq,iO⟩:=ae w.heap.size;obtain⟨w1,aZ⟩:=ae (w.alloc (.cells (cZ q) 41));obtain⟨xr,mO⟩:=ae w1.heap.size;obtain⟨w2,hw2⟩:=ae (w1.alloc (.cells #[.int .i64 0,.int .u32 0,.int .i64 0,.int .i64 0,.int .i64 0] 58));have rI:=aa (show aG w2 xq 41 (cZ q) from NU);have kU:=aa (aK hw2 mO);have cu:=aa (show Below w.heap.size w w2 from IE);have pg:=aa (show w.heap.size≤xr∧xr≠xq from by have h3:xr=xq+1:=K6;omega);obtain⟨pp,hpp⟩:=h;have HC:=aa (show ∀ W,Below w.heap.size w W→cC S W b bk.n bk.ar bk.aA bk.next bk.aq bk.L.length pp from fun W hW=>(hpp.ak hW).bf);obtain⟨at9,ahT⟩:=ae (aO.wrap (bk.aq+q.bT));clear hpp;go_enter Tryz.func302,Tryz.ntmps302;go_wp2_with fail;have gi:=aa (show ∀ W,Below w2.heap.size w2 W→(W.cell? ⟨xq,4,none⟩=some (.int .i64 q.bT)∧Below w2.heap.size w2 W)from fun W hW=>⟨(rI.o.ai hW).cell 4,hW⟩);refine ud (S:=(fun W=>W.cell? ⟨xq,4,none⟩=some (.int .i64 q.bT)∧Below w2.heap.size w2 W)) (by exact gi.o _ (az (au _ _))) fun hHeld=>?_
 have jz:=aa (show Below w2.heap.size w2 w2.drew from az (au _ _));refine cS 0 (some 8) hHeld ?_;refine tX 2 3 ?_;refine cG 1 fun K hK=>?_
 go_simp;refine ag (wI (HC.o _ (av cu.o jz.o))) ?_;go_wp2_with fail;refine bW hK N7 fun sD=>?_
 clear hK K;refine tX 4 5 ?_;refine bO ?_;obtain⟨w3,hw3⟩:=ae w2.drew;have dV:=aa (show Below w.heap.size w w3 by rw[←hw3];exact av cu.o jz.o);have jx:=aa (show aG w3 xq 41 (cZ q)by rw[←hw3];exact rI.o.ai jz.o);have gM:=aa (show aG w3 xr 58 #[.int .i64 0,.int .u32 0,.int .i64 0,.int .i64 0,.int .i64 0] by rw[←hw3];exact kU.o.ai jz.o);rw[hw3];clear jz hHeld sD gi cu rI kU hw3 hw2 aZ mO iO;have d0:w3.cell? ⟨xq,0,none⟩=some (.int .i64 q.ay):=jx.o.cell 0;rcases p8 with hk|hk|hk|hk|hk
 ·have t1:(q.ay==1)=true:=beq_iff_eq.2 aj;have sO:=aa (show dO bk q=⟨1,bk.next,q.aw,at9,0⟩from by unfold dO;rw[if_pos hk];rw[ahT]);have HRU:=aa (show cn q.ay= [339,340,341,342,343,344] from by unfold cn;rw[if_pos hk]);clear hk;go_upto_region 4 with fail
  refine wp_region_held_drew (S:=(fun W=>W.cell? ⟨xq,3,none⟩=some (.int .i64 q.aw))) br (by exact(jx.o.ai (az (au _ _))).cell 3) (fun hHeld=>?_);obtain⟨wd,hwd⟩:=ae w3.drew;have CA:=aa (show Below w.heap.size w wd by rw[←hwd];exact az dV.o);have kG:=aa (show aG wd xq 41 (cZ q)by rw[←hwd];exact jx.o.ai (az (au _ _)));have wG:=aa (show aG wd xr 58 _ by rw[←hwd];exact gM.o.ai (az (au _ _)));rw[hwd] at hHeld ⊢;clear hwd d0 dV jx gM;refine cS 0 (some 17) hHeld ?_;refine cS 2 (some 19) hHeld ?_;refine tX 4 3 ?_;refine qp 1 6 (fun K hK=>?_) fun K hK=>?_
  ·go_simp;refine ag (wE (HC.o _ CA.o)) ?_;go_wp2_with fail;refine bW hK (by exact kG.o.cell 3) fun hH1=>?_
   clear hK K;refine ty 5 ?_;refine qp 6 7 (fun K hK=>?_) fun K hK=>?_
   ·obtain⟨a2,ha2⟩:=ae (wd.alloc (.cells #[.func (.func 339) #[] #[],.func (.func 340) #[] #[],.func (.func 341) #[] #[],.func (.func 342) #[] #[],.func (.func 343) #[] #[],.func (.func 344) #[] #[]] 440));obtain⟨fb,vu⟩:=ae wd.heap.size;have adG:=aa (show Below w.heap.size w a2 by rw[←ha2];exact ax CA.o _);have aiW:=aa (show aG a2 xr 58 _ by rw[←ha2];exact wG.o.alloc _);have ady:=aa (show aG a2 xq 41 (cZ q)by rw[←ha2];exact kG.o.alloc _);have aje:=aa (show aG a2 fb 440 #[.func (.func 339) #[] #[],.func (.func 340) #[] #[],.func (.func 341) #[] #[],.func (.func 342) #[] #[],.func (.func 343) #[] #[],.func (.func 344) #[] #[]] by rw[←ha2,←vu];exact aG.fresh wd _ _);have PA:=aa (show w.heap.size≤fb by rw[←vu];exact CA.o.size);have HNF:=aa (show xr≠fb by have:=wG.o.lt;omega);go_simp;go_wp2_with fail;try rw[ha2]
    try rw[vu]
    clear ha2 vu;refine bW hK (by exact ady.o.cell 3) fun hH2=>?_
    clear hK K;refine cG 7 fun K hK=>?_
    refine cT 58 _ _ rfl xr 58 _ #[.int .i64 1,.int .u32 bk.next,.int .i64 q.aw,.int .i64 (at9),.int .i64 0] aiW.o rfl rfl rfl bG eB ?_;intro s3 dE dC gJ;have aiT:=aa dE;have ajr:=aa (adG.o.grown dC adG.o.size (fun k e=>rM));have ai1:=aa (ady.o.bw dC (fun e=>rM));have ajb:=aa (aje.o.bw dC (fun e=>DA));clear dE dC gJ;refine bW hK (by exact ai1.o.cell 3) fun hH3=>?_
    clear hK K;refine tX 8 9 ?_;refine bO ?_;go_wp2_with fail;refine bodyPost_ret (jZ Ak _ im (aJ 58 aiT.o _ nu rfl bG)) rfl ?_;exact⟨fb,Fe,PA.o,by rw[HRU.o];exact ajb.o,ajr.o⟩
   refine cT 58 _ _ rfl xr 58 _ #[.int .i64 1,.int .u32 bk.next,.int .i64 q.aw,.int .i64 (at9),.int .i64 0] wG.o rfl rfl rfl bG eB ?_;intro s4 dE dC gJ;have adu:=aa dE;have adF:=aa (CA.o.grown dC CA.o.size (fun k e=>rM));have adx:=aa (kG.o.bw dC (fun e=>rM));clear dE dC gJ;refine bW hK (by exact adx.o.cell 3) fun hH4=>?_
   clear hK K;refine cG 6 fun K hK=>?_
   obtain⟨a5,CU⟩:=ae (s4.alloc (.cells #[.func (.func 339) #[] #[],.func (.func 340) #[] #[],.func (.func 341) #[] #[],.func (.func 342) #[] #[],.func (.func 343) #[] #[],.func (.func 344) #[] #[]] 440));obtain⟨fb,vu⟩:=ae s4.heap.size;have ajs:=aa (dU adF.o CU);have aiV:=aa (show aG a5 xr 58 _ by rw[←CU];exact adu.o.alloc _);have ai2:=aa (show aG a5 xq 41 (cZ q)by rw[←CU];exact adx.o.alloc _);have ajd:=aa (aK CU vu);have PA:=aa (show w.heap.size≤fb by rw[←vu];exact adF.o.size);have HNF:=aa (show xr≠fb by have:=adu.o.lt;omega);go_simp;go_wp2_with fail;try rw[CU]
   try rw[vu]
   clear CU vu;refine bW hK (by exact ai2.o.cell 3) fun hH5=>?_
   clear hK K;refine tX 8 9 ?_;refine bO ?_;go_wp2_with fail;refine bodyPost_ret (jZ Ak _ im (aJ 58 aiV.o _ nu rfl bG)) rfl ?_;exact⟨fb,Fe,PA.o,by rw[HRU.o];exact ajd.o,ajs.o⟩
  obtain⟨a6,MC⟩:=ae (wd.alloc (.cells #[.func (.func 339) #[] #[],.func (.func 340) #[] #[],.func (.func 341) #[] #[],.func (.func 342) #[] #[],.func (.func 343) #[] #[],.func (.func 344) #[] #[]] 440));obtain⟨fb,vu⟩:=ae wd.heap.size;have Yt:=aa (dU CA.o MC);have aiU:=aa (show aG a6 xr 58 _ by rw[←MC];exact wG.o.alloc _);have Yd:=aa (show aG a6 xq 41 (cZ q)by rw[←MC];exact kG.o.alloc _);have ajc:=aa (aK MC vu);have PA:=aa (show w.heap.size≤fb by rw[←vu];exact CA.o.size);have HNF:=aa (show xr≠fb by have:=wG.o.lt;omega);go_simp;go_wp2_with fail;try rw[MC]
  try rw[vu]
  clear MC vu;refine bW hK (by exact Yd.o.cell 3) fun hH6=>?_
  clear hK K;refine cG 1 fun K hK=>?_
  go_simp;refine ag (wE (HC.o _ Yt.o)) ?_;go_wp2_with fail;refine bW hK (by exact Yd.o.cell 3) fun hH7=>?_
  clear hK K;refine ty 5 ?_;refine cG 7 fun K hK=>?_
  refine cT 58 _ _ rfl xr 58 _ #[.int .i64 1,.int .u32 bk.next,.int .i64 q.aw,.int .i64 (at9),.int .i64 0] aiU.o rfl rfl rfl bG eB ?_;intro s8 dE dC gJ;have aiS:=aa dE;have ajq:=aa (Yt.o.grown dC Yt.o.size (fun k e=>rM));have ai0:=aa (Yd.o.bw dC (fun e=>rM));have aja:=aa (ajc.o.bw dC (fun e=>DA));clear dE dC gJ;refine bW hK (by exact ai0.o.cell 3) fun hH8=>?_
  clear hK K;refine tX 8 9 ?_;refine bO ?_;go_wp2_with fail;refine bodyPost_ret (jZ Ak _ im (aJ 58 aiS.o _ nu rfl bG)) rfl ?_;exact⟨fb,Fe,PA.o,by rw[HRU.o];exact aja.o,ajq.o⟩
 ·have t1:(q.ay==1)=false:=beq_eq_false_iff_ne.2 aj;have t2:(q.ay==2)=true:=beq_iff_eq.2 aj;have sO:=aa (show dO bk q=⟨2,q.id,0,0,0⟩from by unfold dO;rw[if_neg aj,if_pos hk]);have HRU:=aa (show cn q.ay= [345,344] from by unfold cn;rw[if_neg aj,if_pos hk]);clear hk;have d2:w3.cell? ⟨xq,2,none⟩=some (.int .u32 q.id):=jx.o.cell 2;obtain⟨a9,MB⟩:=ae (w3.alloc (.cells #[.func (.func 345) #[] #[],.func (.func 344) #[] #[]] 440));obtain⟨fb,vu⟩:=ae w3.heap.size;have sP:=aa (dU dV.o MB);have Cu:=aa (show aG a9 xr 58 _ from Fa);have Cy:=aa (aK MB vu);have PA:=aa (show w.heap.size≤fb from E6);have HNF:=aa (show xr≠fb from EY);go_wp2_with (refine ah rfl 58 _ _ rfl xr 58 _ #[.int .i64 2,.int .u32 q.id,.int .i64 0,.int .i64 0,.int .i64 0] Cu.o rfl rfl rfl bG eB ?_;intro s9 dE dC gJ;have Px:=aa dE;have PC:=aa (sP.o.grown dC sP.o.size (fun k e=>rM));have Pz:=aa (Cy.o.bw dC (fun e=>DA));clear dE dC gJ);exact OG
 ·have t1:(q.ay==1)=false:=beq_eq_false_iff_ne.2 aj;have t2:(q.ay==2)=false:=cg;have t3:(q.ay==3)=true:=beq_iff_eq.2 aj;have sO:=aa (show dO bk q=⟨3,q.id,0,0,0⟩from by unfold dO;rw[if_neg aj,if_neg aj,if_pos hk]);have HRU:=aa (show cn q.ay= [345,344] from by unfold cn;rw[if_neg aj,if_neg aj,if_pos hk]);clear hk;have d2:w3.cell? ⟨xq,2,none⟩=some (.int .u32 q.id):=jx.o.cell 2;obtain⟨a9,MB⟩:=ae (w3.alloc (.cells #[.func (.func 345) #[] #[],.func (.func 344) #[] #[]] 440));obtain⟨fb,vu⟩:=ae w3.heap.size;have sP:=aa (dU dV.o MB);have Cu:=aa (show aG a9 xr 58 _ from Fa);have Cy:=aa (aK MB vu);have PA:=aa (show w.heap.size≤fb from E6);have HNF:=aa (show xr≠fb from EY);go_wp2_with (refine ah rfl 58 _ _ rfl xr 58 _ #[.int .i64 3,.int .u32 q.id,.int .i64 0,.int .i64 0,.int .i64 0] Cu.o rfl rfl rfl bG eB ?_;intro s9 dE dC gJ;have Px:=aa dE;have PC:=aa (sP.o.grown dC sP.o.size (fun k e=>rM));have Pz:=aa (Cy.o.bw dC (fun e=>DA));clear dE dC gJ);exact OG
 ·have t1:(q.ay==1)=false:=beq_eq_false_iff_ne.2 aj;have t2:(q.ay==2)=false:=cg;have t3:(q.ay==3)=false:=cg;have t4:(q.ay==4)=true:=beq_iff_eq.2 aj;have sO:=aa (show dO bk q=⟨4,q.id,q.aw,0,0⟩from by unfold dO;rw[if_neg aj,if_neg aj,if_neg aj,if_pos hk]);have HRU:=aa (show cn q.ay= [345,339,342,344] from by unfold cn;rw[if_neg aj,if_neg aj,if_neg aj,if_pos hk]);clear hk;have d2:w3.cell? ⟨xq,2,none⟩=some (.int .u32 q.id):=jx.o.cell 2;have d3:w3.cell? ⟨xq,3,none⟩=some (.int .i64 q.aw):=jx.o.cell 3;obtain⟨a9,MB⟩:=ae (w3.alloc (.cells #[.func (.func 345) #[] #[],.func (.func 339) #[] #[],.func (.func 342) #[] #[],.func (.func 344) #[] #[]] 440));obtain⟨fb,vu⟩:=ae w3.heap.size;have sP:=aa (dU dV.o MB);have Cu:=aa (show aG a9 xr 58 _ from Fa);have Cy:=aa (aK MB vu);have PA:=aa (show w.heap.size≤fb from E6);have HNF:=aa (show xr≠fb from EY);go_wp2_with (refine ah rfl 58 _ _ rfl xr 58 _ #[.int .i64 4,.int .u32 q.id,.int .i64 q.aw,.int .i64 0,.int .i64 0] Cu.o rfl rfl rfl bG eB ?_;intro s9 dE dC gJ;have Px:=aa dE;have PC:=aa (sP.o.grown dC sP.o.size (fun k e=>rM));have Pz:=aa (Cy.o.bw dC (fun e=>DA));clear dE dC gJ);exact OG
 have t1:(q.ay==1)=false:=cg;have t2:(q.ay==2)=false:=cg;have t3:(q.ay==3)=false:=cg;have t4:(q.ay==4)=false:=cg;have t7:(q.ay==7)=true:=beq_iff_eq.2 aj;have sO:=aa (show dO bk q=⟨5,0,0,0,at9⟩from by unfold dO;rw[if_neg aj,if_neg aj,if_neg aj,if_neg aj];rw[ahT]);have HRU:=aa (show cn q.ay= [340,341,344] from by unfold cn;rw[if_neg aj,if_neg aj,if_neg aj,if_neg aj]);clear hk;obtain⟨a9,MB⟩:=ae (w3.alloc (.cells #[.func (.func 340) #[] #[],.func (.func 341) #[] #[],.func (.func 344) #[] #[]] 440));obtain⟨fb,vu⟩:=ae w3.heap.size;have sP:=aa (dU dV.o MB);have Cu:=aa (show aG a9 xr 58 _ from Fa);have Cy:=aa (aK MB vu);have PA:=aa (show w.heap.size≤fb from E6);have HNF:=aa (show xr≠fb from EY);go_wp2_with (refine ah rfl 58 _ _ rfl xr 58 _ #[.int .i64 5,.int .u32 0,.int .i64 0,.int .i64 0,.int .i64 (at9)] Cu.o rfl rfl rfl bG eB ?_;intro s9 dE dC gJ;have Px:=aa dE;have PC:=aa (sP.o.grown dC sP.o.size (fun k e=>rM));have Pz:=aa (Cy.o.bw dC (fun e=>DA));clear dE dC gJ);exact OG
end Bk
end
section
namespace En
structure Rq.qc(q:Rq): Prop where
 good:q.Good
 Xd:q.bT<9223372036854775808
 idf:(dt q.ay).1=false→q.id=0
 IV:(dt q.ay).2.1=false→q.aw=0
 SY:(dt q.ay).2.2=false→q.bT=0
theorem tY(n k:Nat)(r:By): tk (le n k++r) 0 k=(le n k,r,0):=by rw[qZ (by rw[List.length_append,bF];omega),List.take_left' (bF n k),List.drop_left' (bF n k)]
theorem xJ(n k:Nat): tk (le n k) 0 k=(le n k,[],0):=by
 have:=tY n k []
 rwa [fz] at this
theorem xQ{q:Rq}(h:q.qc): bL (kW q)=(q,0):=by
 obtain⟨k,tg,id,aw,bT⟩:=q;have hk:=h.good.ay;have ht:=h.good.tag;have hi:=h.good.id;have hs:=h.good.aw;have hl:=h.good.bT;have hb:=h.Xd;simp only at hk ht hi hs hl hb;obtain⟨tg,rfl⟩:=eu ht.1;obtain⟨id,rfl⟩:=eu hi.1;obtain⟨aw,rfl⟩:=eu hs.1;obtain⟨bT,rfl⟩:=eu hl;have v1: ∀ n:Nat,n<256→val (le n 1)=n:=fun n hn=>jW n 1 hn
 have v4:val (le tg 4)=tg:=jW tg 4 aj;have v4':val (le id 4)=id:=jW id 4 aj;have v2:val (le aw 2)=aw:=jW aw 2 aj;have v8:val (le bT 8)=bT:=jW bT 8 aj;have w8:wrap64 (bT:Int)=(bT:Int):=by unfold wrap64;omega
 have h0: ∀ (kk:Nat) (r:By),kk<256→Oe (le kk 1++le tg 4++r)=(⟨kk,tg,0,0,0⟩,r,0):=fun kk r p8=>by
  unfold Oe;rw[jh,tY,tY,v1 kk p8,v4]
 have f1:=h.idf;have f2:=h.IV;have f3:=h.SY;simp only at f1 f2 f3;clear h hi hs hl hb ht;have p8:k=1∨k=2∨k=3∨k=4∨k=5∨k=6∨k=7∨k=8∨k=9∨k=10:=aj;rcases p8 with rfl|rfl|rfl|rfl|rfl|rfl|rfl|rfl|rfl|rfl
 ·have q1:id=0:=by have:=f1 rfl;omega
  clear f1 f2 f3;subst q1;have hh:=h0 1 (le aw 2++le bT 8) aN;simp only[jh,fz] at hh;unfold bL kr kW;simp only[dt,hZ,kN,if_true,if_false,tG,tH,fz,jh];rw[hh];simp[iM,cz,Qv,tY,xJ,jr,rG,v2,v8,w8]
 ·have q2:aw=0:=by have:=f2 rfl;omega
  have q3:bT=0:=uB;clear f1 f2 f3;subst q2;subst q3;have hh:=h0 2 (le id 4) aN;exact Va
 ·have q2:aw=0:=by have:=f2 rfl;omega
  have q3:bT=0:=uB;clear f1 f2 f3;subst q2;subst q3;have hh:=h0 3 (le id 4) aN;exact Va
 ·have q3:bT=0:=by have:=f3 rfl;omega
  clear f1 f2 f3;subst q3;have hh:=h0 4 (le id 4++le aw 2) aN;simp only[jh,fz] at hh;unfold bL kr kW;simp only[dt,hZ,kN,if_true,if_false,tG,tH,fz,jh];rw[hh];simp[iM,cz,Qv,tY,xJ,jr,rG,v4',v2]
 ·have q2:aw=0:=by have:=f2 rfl;omega
  have q3:bT=0:=uB;clear f1 f2 f3;subst q2;subst q3;have hh:=h0 5 (le id 4) aN;exact Va
 ·have q1:id=0:=by have:=f1 rfl;omega
  have q3:bT=0:=uB;clear f1 f2 f3;subst q1;subst q3;have hh:=h0 6 (le aw 2) aN;simp only[jh,fz] at hh;unfold bL kr kW;simp only[dt,hZ,kN,if_true,if_false,tG,tH,fz,jh];rw[hh];simp[iM,cz,Qv,tY,xJ,jr,rG,v2]
 ·have q1:id=0:=by have:=f1 rfl;omega
  have q2:aw=0:=EW;clear f1 f2 f3;subst q1;subst q2;have hh:=h0 7 (le bT 8) aN;simp only[jh,fz] at hh;unfold bL kr kW;simp only[dt,hZ,kN,if_true,if_false,tG,tH,fz,jh];rw[hh];simp[iM,cz,Qv,tY,xJ,jr,rG,v8,w8]
 ·have q1:id=0:=by have:=f1 rfl;omega
  have q2:aw=0:=EW;have q3:bT=0:=uB;clear f1 f2 f3;subst q1;subst q2;subst q3;have hh:=h0 8 ([]) aN;exact U'
 ·have q1:id=0:=by have:=f1 rfl;omega
  have q2:aw=0:=EW;have q3:bT=0:=uB;clear f1 f2 f3;subst q1;subst q2;subst q3;have hh:=h0 9 ([]) aN;exact U'
 have q1:id=0:=by have:=f1 rfl;omega
 have q2:aw=0:=EW;have q3:bT=0:=uB;clear f1 f2 f3;subst q1;subst q2;subst q3;have hh:=h0 10 ([]) aN;exact U'
theorem sY{q:Rq}: 5≤(kW q).length∧(kW q).length≤19:=by
 unfold kW;simp only[List.length_append,bF];constructor
 ·omega
 split <;>split <;>split <;>simp[bF]
abbrev Rp.qc(r:Rp): Prop:=yo r (zk r.ay r.err)
theorem j8{q:Rq}(hq:q.Good){er:Int}(h0:er≠0)(h1:0≤er∧er≤65535): (bZ q er).qc:=by
 have hk:=hq.ay;have hf:zk (bZ q er).ay (bZ q er).err=0:=by unfold zk;exact if_pos h0
 show yo (bZ q er) _
 rw[hf];exact⟨hf,⟨by show 0≤q.ay;omega,hk.2⟩,h1,fun h=>by have h':q.ay=0:=h;omega,hq.tag,jQ,.inl rfl,jQ,.inl rfl,.inl rfl,.inl rfl⟩
theorem oX{k:Int}{f:Nat}(h:Qq.getD k.toNat 0=f): zk k 0=f:=by unfold zk;rw[if_neg aN];exact h
theorem JX{b:dK}(hb:b.Ok){q:Rq}(hq:q.Good)(hc:bI q.ay=true)(hr:(bB b q).ok=true): (bP q (bB b q)).qc:=by
 have hn:=hb.next;have hck:=hb.aq;have ht:=hq.tag;have hs:=hq.aw;have hl:=hq.bT;have e0:=uR q (bB b q);have hwt: ∀ n:Int,within true n 1 1099511627776=true→1≤n∧n≤1099511627776:=fun n h=>by simpa[within] using h
 show yo _ _
 rcases cx hc with h|h|h|h|h
 ·have er:bB b q=⟨1,b.next,q.aw,b.aq+q.bT,0⟩:=by unfold bB;rw[if_pos h]
  have hr2:1≤b.aq+q.bT∧b.aq+q.bT≤1099511627776:=TH;have e:bP q (bB b q)=⟨q.tag,1,0,b.next,0,b.aq+q.bT,0⟩:=by rw[er];unfold bP;rw[if_pos h,h]
  rw[e];exact⟨rfl,jQ,jQ,fun h=>absurd h (by show ¬(1:Int)=0;decide),ht,⟨by show 0≤b.next;omega,hn.2⟩,.inr (oX rfl),⟨by show 0≤b.aq+q.bT;omega,by show b.aq+q.bT<9223372036854775808;omega⟩,.inr (.inr (.inl (oX rfl))),.inl rfl,.inl rfl⟩
 ·have e:bP q (bB b q)=⟨q.tag,2,0,0,0,0,0⟩:=by unfold bP;rw[if_neg aj,if_neg aj,if_neg aj,h]
  rw[e];exact⟨rfl,jQ,jQ,fun h=>absurd h (by show ¬(2:Int)=0;decide),ht,jQ,.inl rfl,jQ,.inl rfl,.inl rfl,.inl rfl⟩
 ·have e:bP q (bB b q)=⟨q.tag,3,0,0,0,0,0⟩:=by unfold bP;rw[if_neg aj,if_neg aj,if_neg aj,h]
  rw[e];exact⟨rfl,jQ,jQ,fun h=>absurd h (by show ¬(3:Int)=0;decide),ht,jQ,.inl rfl,jQ,.inl rfl,.inl rfl,.inl rfl⟩
 ·have er:bB b q=⟨4,q.id,q.aw,0,0⟩:=by unfold bB;rw[if_neg aj,if_neg aj,if_neg aj,if_pos h]
  have e:bP q (bB b q)=⟨q.tag,4,0,0,q.aw,0,0⟩:=by rw[er];unfold bP;rw[if_neg aj,if_pos h,h]
  rw[e];refine⟨rfl,jQ,jQ,fun h=>absurd h (by show ¬(4:Int)=0;decide),ht,jQ,.inl rfl,jQ,.inl rfl,?_,.inl rfl⟩;by_cases c:q.aw=0
  ·exact .inl c
  exact .inr ⟨by show 0<q.aw;omega,hs.2,.inl (oX rfl)⟩
 have er:bB b q=⟨5,0,0,0,b.aq+q.bT⟩:=by unfold bB;rw[if_neg aj,if_neg aj,if_neg aj,if_neg aj]
 have hr2:1≤b.aq+q.bT∧b.aq+q.bT≤1099511627776:=TH;have e:bP q (bB b q)=⟨q.tag,7,0,0,0,b.aq+q.bT,0⟩:=by rw[er];unfold bP;rw[if_neg aj,if_neg aj,if_pos h,h]
 rw[e];exact⟨rfl,jQ,jQ,fun h=>absurd h (by show ¬(7:Int)=0;decide),ht,jQ,.inl rfl,⟨by show 0≤b.aq+q.bT;omega,by show b.aq+q.bT<9223372036854775808;omega⟩,.inr (.inl (oX rfl)),.inl rfl,.inl rfl⟩
theorem Rb{b:dK}{id:Int}{x:bS}(h:b.find id=some x): x∈b.L:=wK h
theorem ZX{b:dK}{s:Int}{x:bS}(h:b.on s=some x): x∈b.L:=wK h
theorem Gh{b:dK}(hb:b.Ok){q:Rq}(hq:q.Good)(hk:q.ay=5∨q.ay=6∨q.ay=10): (dZ b q).qc:=by
 have ht:=hq.tag;have hr:=@j8 q hq;have Ml: ∀ x∈b.L,0≤x.aS∧x.aS<9223372036854775808:=fun x hx=>by have:=hb.aS x hx;have:=hb.aq;omega
 unfold dZ;by_cases h5:q.ay=5
 ·rw[if_pos h5];cases hf:b.find q.id with
  | none=>exact hr aN aN
  | some x=>
   have hx:=Rb hf;have hn:=hb.n;have hs:=hb.fW x hx;simp only[h5];show yo _ _
   refine⟨rfl,jQ,jQ,fun h=>absurd h (by show ¬(5:Int)=0;decide),ht,jQ,.inl rfl,Ml x hx,.inr (.inr (.inr (oX rfl))),?_,.inl rfl⟩;by_cases c:x.aw=0
   ·left;show(x.aw:Int)=0;omega
   right;exact⟨by show 0<(x.aw:Int);omega,by show(x.aw:Int)≤65535;omega,.inr (oX rfl)⟩
 rw[if_neg h5];by_cases h6:q.ay=6
 ·rw[if_pos h6];by_cases c:(b.n:Int)≤q.aw
  ·rw[if_pos c];exact hr aN aN
  rw[if_neg c];cases hf:b.on q.aw with
  | none=>exact hr aN aN
  | some x=>
   have hx:=ZX hf;have hn:=hb.next;have hs:=hb.ids x hx;simp only[h6];show yo _ _
   exact⟨rfl,jQ,jQ,fun h=>absurd h (by show ¬(6:Int)=0;decide),ht,⟨by show 0≤x.id;omega,by show x.id<4294967296;omega⟩,.inr (oX rfl),Ml x hx,.inr (.inr (.inl (oX rfl))),.inl rfl,.inl rfl⟩
 rw[if_neg h6];have h10:q.ay=10:=aj;have hl:=hb.len;have hc:=hb.ar;simp only[h10];show yo _ _
 refine⟨rfl,jQ,jQ,fun h=>absurd h (by show ¬(10:Int)=0;decide),ht,jQ,.inl rfl,jQ,.inl rfl,.inl rfl,?_⟩;by_cases c:b.L.length=0
 ·left;show(b.L.length:Int)=0;omega
 right;exact⟨by show 0<(b.L.length:Int);omega,by show(b.L.length:Int)≤65535;omega,oX rfl⟩
theorem Ep{q:Rq}(hq:q.Good)(hk:q.ay=8∨q.ay=9){n:Nat}(hn:n≤65535): (⟨q.tag,q.ay,0,0,0,0,n⟩:Rp).qc:=by
 have ht:=hq.tag;have hf:zk q.ay 0=8:=by rcases hk with h|h <;>rw[h] <;>exact oX rfl
 show yo _ (zk q.ay 0)
 rw[hf];refine⟨hf,⟨by show 0≤q.ay;omega,by show q.ay≤10;omega⟩,jQ,fun h=>by have h':q.ay=0:=h;omega,ht,jQ,.inl rfl,jQ,.inl rfl,.inl rfl,?_⟩;by_cases c:n=0
 ·left;show(n:Int)=0;omega
 right;exact⟨by show 0<(n:Int);omega,by show(n:Int)≤65535;omega,rfl⟩
theorem JY(b:dK)(bg:Int)(q:Rq): 0≤bE b bg q∧bE b bg q≤65535:=by
 unfold bE;repeat' split
 all_goals omega
theorem Es.Inv.FK{e:Es}(h:e.Inv)(hf: ∀ r∈e.aF,r.qc){q:Rq}(hq:q.Good): (∀ r∈(e.rep q).1,r.qc)∧∀ r∈(e.rep q).2.aF,r.qc:=by
 have hk:=hq.ay;have Hu:e.aF.length≤65535:=by have:=h.full;have:=h.bk.aA;omega
 have one: ∀ {x:Rp},x.qc→∀ r∈ [x],r.qc:=fun hx r hr=>by rw[List.mem_singleton] at hr;subst hr;exact hx
 have more: ∀ {x:Rp},x.qc→∀ r∈e.aF++ [x],r.qc:=fun hx r hr=>by
  rcases List.mem_append.1 hr with hr|hr
  ·exact hf r hr
  exact one hx r hr
 unfold Es.rep;rw[if_neg xy];by_cases c1:q.ay=5∨q.ay=6∨q.ay=10
 ·rw[if_pos c1];exact⟨one (Gh h.bk hq c1),hf⟩
 rw[if_neg c1];by_cases c2:q.ay=8
 ·rw[if_pos c2];unfold Es.flush;split
  ·exact⟨one (j8 hq aN aN),fun r hr=>ux⟩
  exact⟨more (Ep hq (.inl c2) Hu),fun r hr=>ux⟩
 rw[if_neg c2];by_cases c3:q.ay=9
 ·rw[if_pos c3];obtain⟨s1,s2,s3⟩:=Sl.xO h.dev h.sl h.row h.size (jS e.bk) e.log.last;unfold Es.save;rcases s1 with c|c|c
  ·rw[if_pos c];exact⟨more (Ep hq (.inr c3) Hu),fun r hr=>ux⟩
  ·rw[if_neg qh,if_neg qh,c];exact⟨one (j8 hq aN aN),hf⟩
  rw[if_neg qh,if_neg qh,c];exact⟨one (j8 hq aN aN),hf⟩
 rw[if_neg c3];have hc:bI q.ay=true:=S6;unfold Es.change;by_cases c0:bE e.bk e.bg q=0
 ·rw[if_neg (by rw[c0];decide)];by_cases c4:e.log.last=18446744073709551615
  ·rw[if_pos c4];exact⟨one (j8 hq aN aN),hf⟩
  rw[if_neg c4];obtain⟨h1,h2,h3,h4⟩:=h.N8 hq hc c0;have hm:=more (JX h.bk hq hc h1);simp only;split
  ·exact⟨fun r hr=>absurd hr (nt),hm⟩
  split
  ·exact⟨fun r hr=>absurd hr (nt),fun r hr=>absurd hr (nt)⟩
  exact⟨hm,fun r hr=>absurd hr (nt)⟩
 rw[if_pos c0];have:=JY e.bk e.bg q;exact⟨one (j8 hq c0 this),hf⟩
end En
end
section
namespace Bk
open En (Rq)
def nQ: List Int→Int
 | []=>0
 | x::l=>if x=0 then nQ l else x
theorem El: ∀ (l:List Int) (i:Nat) (x:Int),(∀ j,j<i→l.getD j 0=0)→i<l.length→l.getD i 0=x→x≠0→nQ l=x
 | [],_,_,_,h,_,_=>by simp at h
 | y::l,0,x,_,_,h,hx=>by
  have e:y=x:=by simpa using h
  rw[nQ,if_neg (by rw[e];exact hx),e]
 | y::l,i+1,x,h0,hl,h,hx=>by
  have e:y=0:=by simpa using h0 0 aj
  rw[nQ,if_pos e];exact El l i x (fun j hj=>by simpa using h0 (j+1) aj) (by simpa using hl) (by simpa using h) hx
theorem yX: ∀ (l:List Int),(∀ j,j<l.length→l.getD j 0=0)→nQ l=0
 | [],_=>rfl
 | y::l,h=>by
  have e:y=0:=by simpa using h 0 dR
  rw[nQ,if_pos e];exact yX l fun j hj=>by simpa using h (j+1) AL
def iA(b:dK)(bg:Int)(q:Rq): List Int:=
 let known:Int:=if(b.find q.id).isNone=true then 171 else 0
 let aw:Int:=if(b.n:Int)≤q.aw then 140 else 0
 let taken:Int:=if dT b q=true then 170 else 0
 let bT:Int:=if q.bT<1∨1073741824<q.bT then 2 else 0
 let aq:Int:=if 1099511627776<b.aq+q.bT then 172 else 0
 let full:Int:=if b.ar≤b.L.length∨b.next=4294967295 then 6 else 0
 let fits:Int:=if bg<22+(cK (dO b q).ay:Int)then 220 else 0
 if q.ay=1 then [aw,bT,aq,taken,full,fits] else if q.ay=2 then [known,fits] else if q.ay=3 then [known,fits] else if q.ay=4 then [known,aw,taken,fits] else [bT,aq,fits]
theorem JZ{b:dK}{q:Rq}(hc:bI q.ay=true): (cK (dO b q).ay:Int)=if q.ay=1 then 15 else if q.ay=2∨q.ay=3 then 5 else if q.ay=4 then 7 else 9:=by
 unfold dO;rcases cx hc with h|h|h|h|h <;>simp[h,cK]
theorem dn(c:Prop)[Decidable c](x:Int)(hx:x≠0)(l:List Int): nQ ((if c then x else 0)::l)=if c then x else nQ l:=by
 by_cases h:c
 ·rw[if_pos h,if_pos h,nQ,if_neg hx]
 rw[if_neg h,if_neg h,nQ,if_pos rfl]
theorem Gg{b:dK}{bg:Int}{q:Rq}(hc:bI q.ay=true): nQ (iA b bg q)=bE b bg q:=by
 have hr:=JZ (b:=b) hc;unfold iA bE;rw[hr];rcases cx hc with h|h|h|h|h
 ·simp only[h,kN,if_true,if_false,or_self];rw[dn _ _ aN,dn _ _ aN,dn _ _ aN,dn _ _ aN,dn _ _ aN,dn _ _ aN];rfl
 ·simp only[h,kN,if_true,if_false,or_false,or_true];rw[dn _ _ aN,dn _ _ aN];rfl
 ·simp only[h,kN,if_true,if_false,or_false,or_true];rw[dn _ _ aN,dn _ _ aN];rfl
 ·simp only[h,kN,if_true,if_false,or_self];rw[dn _ _ aN,dn _ _ aN,dn _ _ aN,dn _ _ aN];rfl
 simp only[h,kN,if_true,if_false,or_self];rw[dn _ _ aN,dn _ _ aN,dn _ _ aN];rfl
theorem ML(b:dK)(bg:Int)(q:Rq): (iA b bg q).length=(cn q.ay).length:=by
 unfold iA cn;simp only;split
 ·rfl
 split
 ·rfl
 split
 ·rfl
 split <;>rfl
def sL(S:Nat→Prop)(b:Nat)(bk:dK)(q:Rq)(r:Rec)(bg:Int)(f:Nat)(er:Int): Prop:=∀ W,fK S W b bk→Calls af f #[.agg (uS b q r bg)] W (oJ S W b bk er)
theorem Ut{S:Nat→Prop}{b:Nat}{bk:dK}{bg:Int}{q:Rq}(hb:bk.Ok)(hq:q.Good)(hc:bI q.ay=true): ∀ i,i<(cn q.ay).length→(∀ j,j<i→(iA bk bg q).getD j 0=0)→sL S b bk q (dO bk q) bg ((cn q.ay).getD i 0) ((iA bk bg q).getD i 0):=by
 have hid:=hq.id;have hs:=hq.aw.1;have ht:=hq.bT;have hck:=hb.aq;have r1:sL S b bk q (dO bk q) bg 339 (if(bk.n:Int)≤q.aw then 140 else 0):=fun W h=>ZM S W b bk q _ bg h hb hs
 have r2:sL S b bk q (dO bk q) bg 340 (if q.bT<1∨1073741824<q.bT then 2 else 0):=fun W h=>adZ S W b bk q _ bg h hb
 have r3:(if q.bT<1∨1073741824<q.bT then(2:Int)else 0)=0→sL S b bk q (dO bk q) bg 341 (if 1099511627776<bk.aq+q.bT then 172 else 0):=fun h0 W h=>WZ S W b bk q _ bg h hb (by
  by_cases c:q.bT<1∨1073741824<q.bT
  ·rw[if_pos c] at h0;exact absurd h0 aN
  omega)
 have r4:sL S b bk q (dO bk q) bg 342 (if dT bk q=true then 170 else 0):=fun W h=>Ul S W b bk q _ bg h hb hs
 have r5:sL S b bk q (dO bk q) bg 343 (if bk.ar≤bk.L.length∨bk.next=4294967295 then 6 else 0):=fun W h=>aaA S W b bk q _ bg h hb
 have r6:sL S b bk q (dO bk q) bg 344 (if bg<22+(cK (dO bk q).ay:Int)then 220 else 0):=fun W h=>aaC S W b bk q _ bg h hb
 have r7:sL S b bk q (dO bk q) bg 345 (if(bk.find q.id).isNone=true then 171 else 0):=fun W h=>VI S W b bk q _ bg h hb hid
 intro i hi hj;rcases cx hc with h|h|h|h|h
 ·have eR:cn q.ay=cn 1:=by rw[h]
  have eE:iA bk bg q= [if(bk.n:Int)≤q.aw then 140 else 0,if q.bT<1∨1073741824<q.bT then 2 else 0,if 1099511627776<bk.aq+q.bT then 172 else 0,if dT bk q=true then 170 else 0,if bk.ar≤bk.L.length∨bk.next=4294967295 then 6 else 0,if bg<22+(cK (dO bk q).ay:Int)then 220 else 0]:=by unfold iA;simp only;rw[if_pos h]
  rw[eR] at hi ⊢;rw[eE] at hj ⊢;have hi':i<6:=hi;rcases(show i=0∨i=1∨i=2∨i=3∨i=4∨i=5 from aj)with rfl|rfl|rfl|rfl|rfl|rfl
  ·exact r1
  ·exact r2
  ·exact r3 (hj 1 aj)
  ·exact r4
  ·exact r5
  exact r6
 ·have eR:cn q.ay=cn 2:=by rw[h]
  have eE:iA bk bg q= [if(bk.find q.id).isNone=true then 171 else 0,if bg<22+(cK (dO bk q).ay:Int)then 220 else 0]:=by unfold iA;simp only;rw[if_neg aj,if_pos h]
  exact ab0
 ·have eR:cn q.ay=cn 3:=by rw[h]
  have eE:iA bk bg q= [if(bk.find q.id).isNone=true then 171 else 0,if bg<22+(cK (dO bk q).ay:Int)then 220 else 0]:=by unfold iA;simp only;rw[if_neg aj,if_neg aj,if_pos h]
  exact ab0
 ·have eR:cn q.ay=cn 4:=by rw[h]
  have eE:iA bk bg q= [if(bk.find q.id).isNone=true then 171 else 0,if(bk.n:Int)≤q.aw then 140 else 0,if dT bk q=true then 170 else 0,if bg<22+(cK (dO bk q).ay:Int)then 220 else 0]:=by unfold iA;simp only;rw[if_neg aj,if_neg aj,if_neg aj,if_pos h]
  rw[eR] at hi ⊢;rw[eE] at hj ⊢;have hi':i<4:=hi;rcases(show i=0∨i=1∨i=2∨i=3 from aj)with rfl|rfl|rfl|rfl
  ·exact r7
  ·exact r1
  ·exact r4
  exact r6
 have eR:cn q.ay=cn 7:=by rw[h]
 have eE:iA bk bg q= [if q.bT<1∨1073741824<q.bT then 2 else 0,if 1099511627776<bk.aq+q.bT then 172 else 0,if bg<22+(cK (dO bk q).ay:Int)then 220 else 0]:=by unfold iA;simp only;rw[if_neg aj,if_neg aj,if_neg aj,if_neg aj]
 rw[eR] at hi ⊢;rw[eE] at hj ⊢;have hi':i<3:=hi;rcases(show i=0∨i=1∨i=2 from aj)with rfl|rfl|rfl
 ·exact r2
 ·exact r3 (hj 0 aj)
 exact r6
theorem Re{b:dK}(hb:b.Ok){bg:Int}{q:Rq}(hq:q.Good)(hc:bI q.ay=true)(h0:bE b bg q=0): dO b q=bB b q:=by
 have hck:=hb.aq;have ht:=hq.bT;have hw:(q.ay=1∨q.ay=7)→aO.wrap (b.aq+q.bT)=b.aq+q.bT:=fun hk=>by
  have hl: ¬(q.bT<1∨1073741824<q.bT):=fun c=>by
   unfold bE at h0;rcases hk with hk|hk
   ·rw[if_pos hk] at h0;simp only[if_pos c] at h0;split at h0 <;>exact absurd h0 aN
   rw[if_neg aj,if_neg aj,if_neg aj,if_pos c] at h0;exact absurd h0 aN
  rw[mH];omega
 unfold dO bB;rcases cx hc with h|h|h|h|h
 ·rw[if_pos h,if_pos h,hw (.inl h)]
 ·simp[h]
 ·simp[h]
 ·simp[h]
 have:=hw (.inr h);simp[h,this]
end Bk
end
section
namespace Bk
open En (Rq Rp bG Ka)
variable{w:World}
theorem nU{S:Nat→Prop}{w':World} {b:Nat}{bk:dK}{x:Nat}(h:fK S w b bk)(hg:w.grownBy w' (some x))(hx: ∀ k,S k→k≠x): fK S w' b bk:=by
 obtain⟨p,hp⟩:=h;have ht:aI (· =x) w w':=(aI.refl (· =x) w).grown hg (fun k e=>ID);exact⟨p,⟨hp.bf.same ht.size fun k hk hl=>ht.block k hl (hx k hk),hp.bits,hp.cQ,hp.under,hp.listed,hp.small,hp.qy⟩⟩
theorem _root_.Go.Proofs.YtemighjbfanenaaGreatDoor.aI.abX{S T:Nat→Prop}{a w':World} (h:aI S a w)(k:aI T w w')(hT: ∀ j,T j→S j∨a.heap.size≤j): aI S a w':=
 h.new (k.mono fun j _ hj=>hT j hj)
def Bt(f:Nat): Prop:=f=339∨f=340∨f=341∨f=342∨f=343∨f=344∨f=345
theorem aet(k:Int)(i:Nat)(h:i<(cn k).length): Bt ((cn k).getD i 0):=by
 have ha: ∀ l:List Nat,(∀ x∈l,Bt x)→i<l.length→Bt (l.getD i 0):=fun l hl hi=>by rw[bN,bY hi];exact hl _ (List.getElem_mem hi)
 refine ha _ ?_ h;unfold cn Bt;intro x hx;split at hx
 ·simp at hx;omega
 split at hx
 ·simp at hx;omega
 split at hx
 ·simp at hx;omega
 split at hx
 ·simp at hx;omega
 simp at hx;omega
theorem Qo{f:Nat}(h:Bt f)(args:Array Value)(W:World): Sem.run af (callFunc f args) W= .ok (.enter f args) W:=by
 unfold Bt at h;rcases h with rfl|rfl|rfl|rfl|rfl|rfl|rfl <;>kernel_rfl
def ZR: Rec:=⟨0,0,0,0,0⟩
def adO(S:Nat→Prop)(b:Nat)(bk:dK)(bg:Int)(q:Rq)(w:World)(e:Ending)(w':World): Prop:=
 e= .returned (if bE bk bg q=0 then .tuple #[.agg (fA (bB bk q)),.agg (iW (bP q (bB bk q))),.bool true,.int .i64 0] else .tuple #[.agg (fA ZR),.agg (iW (En.bZ q (bE bk bg q))),.bool false,.int .i64 0])∧fK S w' b bk∧aI S w w'
theorem vN{P:Program}{fn:Func}{p q r s:Tmp}{tp tq:TypeId}(h:fn.results= #[.cell p tp,.cell q tq,.tmp r,.tmp s])(tmps:Array Value){a1 a2:Addr}{v1 v2:Value}
  (hp:tmps.getD p undef= .pointer (some a1)) (hq:tmps.getD q undef= .pointer (some a2)) (h1:(loadVar tp a1).run P w= .ok v1 w) (h2:(loadVar tq a2).run P w= .ok v2 w) :
  (results fn tmps).run P w= .ok (.tuple #[v1,v2,tmps.getD r undef,tmps.getD s undef]) w:=by
 have hp':tmps[p]?.getD undef= .pointer (some a1):=Td;have hq':tmps[q]?.getD undef= .pointer (some a2):=by simpa using hq
 simp[results,h,hp',hq',asAddr,h1,h2]
theorem yw(S:Nat→Prop)(w:World)(b:Nat)(bk:dK)(bg:Int)(q:Rq)(h:fK S w b bk)(hb:bk.Ok)(hq:q.Good)(Dl:zv q)(hc:bI q.ay=true):
  Calls af 216 #[.pointer (some ⟨b,0,none⟩),.int .i64 bg,.agg (cZ q)] w (adO S b bk bg q w):=by
 have iY:=aa (show ∀ k,S k→k<w.heap.size from Lv);have fC:=aa (show ∀ W,Below w.heap.size w W→fK S W b bk from fun W hW=>LB);have Pu:=aa (show ∀ W,Below w.heap.size w W→Calls af 38 #[.pointer (some ⟨b,0,none⟩)] W fun e w'=>e= .returned (.agg #[.int .i64 bk.n,.int .i64 bk.ar,.int .i64 bk.aA])∧Below W.heap.size W w' from fun W hW=>LJ);have HRL:=aa (Ut (S:=S) (b:=b) (bk:=bk) (bg:=bg) (q:=q) hb hq hc);have HFE:=aa (Gg (b:=bk) (bg:=bg) hc);have HEL:=aa (ML bk bg q);have HRW:=aa (Re (b:=bk) hb (bg:=bg) hq hc);have jy:=aa Dl;have HCH:=aa hc;have hnz:((bk.n:Int)==0)=false:=beq_eq_false_iff_ne.2 xA;have V1: ¬(bk.n:Int)=0:=xA;obtain⟨rW,hrW⟩:=ae (dO bk q);obtain⟨nr,Dm⟩:=ae ((cn q.ay).length);have ame:nr≤6:=by rw[←Dm];unfold cn;split;decide;split;decide;split;decide;split <;>decide
 have alf:=aa hrW;have Sn:=aa Dm;rw[hrW] at HRL HRW;clear h hb hq Dl hc hrW Dm;obtain⟨xq,iO⟩:=ae w.heap.size;obtain⟨w1,aZ⟩:=ae (w.alloc (.cells (cZ q) 41));obtain⟨xr,mO⟩:=ae w1.heap.size;obtain⟨w2,hw2⟩:=ae (w1.alloc (.cells #[.int .i64 0,.int .u32 0,.int .i64 0,.int .i64 0,.int .i64 0] 58));obtain⟨xp,lF⟩:=ae w2.heap.size;obtain⟨w3,hw3⟩:=ae (w2.alloc (.cells #[.int .u32 0,.int .i64 0,.int .i64 0,.int .u32 0,.int .i64 0,.int .i64 0,.int .i64 0] 108));have jx:=aa (show aG w3 xq 41 (cZ q) from TM);have gM:=aa (show aG w3 xr 58 #[.int .i64 0,.int .u32 0,.int .i64 0,.int .i64 0,.int .i64 0] by rw[←hw3,←hw2,←mO];exact(aG.fresh w1 _ _).alloc _);have Zn:=aa (aK hw3 lF);have dV:=aa (show Below w.heap.size w w3 from TZ);have HX:=aa (show w.heap.size≤xq∧xr=xq+1∧xp=xq+2 from by
  refine⟨aj,?_,?_⟩
  ·rw[←mO,←aZ,←iO];simp
  rw[←lF,←hw2,←aZ,←iO];simp)
 go_enter Tryz.func216,Tryz.ntmps216;go_wp2_with fail;clear aZ hw2 hw3 iO mO lF;refine(Pu.o _ dV.o).mono ?_;rintro e w4 ⟨rfl,hb4⟩;have tQ:=jx.js hb4;have mj:=gM.js hb4;have Nc:=Zn.js hb4;have gH:=dV.dP hb4;clear hb4 jx gM Zn Pu dV;go_wp2_with (refine aC rfl 41 (.tmp 5) rfl xq 41 _ tQ.o rfl _ cA rfl aH ?_);refine(yi S w4 b bk q (fC.o _ gH.o) HCH.o).mono ?_;rintro e w5 ⟨fb,rfl,vu,hF5,dX⟩;rw[Sn.o,alf.o];have HF5:=aa hF5;have eA:=gH.dP dX;have Ye:=tQ.js dX;have qL:=mj.js dX;have Dx:=Nc.js dX;have PA:=aa (show w.heap.size≤fb∧fb<w5.heap.size from⟨by have:=gH.o.size;omega,hF5.lt⟩);clear vu hF5 dX tQ mj Nc gH;obtain⟨xa,iz⟩:=ae w5.heap.size;obtain⟨w6,og⟩:=ae (w5.alloc (.cells #[.int .i64 0,.int .u32 0,.int .i64 0,.int .i64 0,.int .i64 0] 58));have tC:=aa (aK og iz);have ij:=aa (aL og);have HXA:=aa iz;go_upto_region 4 with(refine ah rfl 58 _ _ rfl xa 58 _ (fA rW) tC.o rfl rfl rfl bG S4 ?_;intro w7 Ek JC hs7;have yt:=aa Ek;have lI:=aa (show Below w5.heap.size w5 w7 from bn ij.o JC (Nat.le_of_eq HXA.o));clear Ek JC hs7)
 have HF7:=aa (HF5.o.ai lI.o);have zf:=Ye.js lI.o;have RF:=qL.js lI.o;have HP7:=Dx.js lI.o;have ie:=aa (av eA.o lI.o);have aiE:=aa (show xp<xa from by have:=Dx.o.lt;have:=HXA.o;omega);have ak5:=aa (show w.heap.size≤xa from by have:=eA.o.size;have:=HXA.o;omega);clear og iz tC ij HF5 Ye qL Dx eA lI HXA;have c0:w7.cell? ⟨xq,0,none⟩=some (.int .i64 q.ay):=zf.o.cell 0;have c1:w7.cell? ⟨xq,1,none⟩=some (.int .u32 q.tag):=zf.o.cell 1;have c2:w7.cell? ⟨xq,2,none⟩=some (.int .u32 q.id):=zf.o.cell 2;have c3:w7.cell? ⟨xq,3,none⟩=some (.int .i64 q.aw):=zf.o.cell 3;have c4:w7.cell? ⟨xq,4,none⟩=some (.int .i64 q.bT):=zf.o.cell 4;go_wp2_with fail;refine(jT q w7 jy.o).mono ?_;rintro e w8 ⟨rfl,mX⟩;have HF8:=aa (HF7.o.ai mX);have HQ8:=zf.js mX;have KS:=RF.js mX;have HP8:=HP7.js mX;have zE:=aa (yt.o.ai mX);have py:=ie.dP mX;clear mX c0 c1 c2 c3 c4 HF7 zf RF HP7 yt ie hnz V1;have oO:=aa (show ∀ k,w.heap.size≤k→¬S k from fun k hk hs=>by have:=iY.o k hs;omega);go_wp2_with fail;go_loopw [40] (fun i wr=>∃ j:Nat,j≤nr∧i= .int .i64 j∧(∀ k,k<j→(iA bk bg q).getD k 0=0)∧fK S wr b bk∧aI S w8 wr) (fun i _=>(nr - intOf i).toNat)
 case atStart=>exact⟨0,Nat.zero_le _,rfl,fun k hk=>aj,fC.o _ py.o,aI.refl _ _⟩
 case round=>
  obtain⟨j,hj,rfl,hz,cL,htc⟩:=hrel;have HZ:=aa hz;have af3:=aa cL;have HTC:=aa htc;have hx:=HX.o;have HFr:=aa (htc.arr HF8.o (oO.o _ PA.o.1));have HQr:=aa (htc.arr HQ8.o (oO.o _ hx.1));have HRr:=aa (htc.arr KS.o (oO.o _ aj));have HPr:=aa (htc.arr HP8.o (oO.o _ aj));have Zx:=aa (htc.arr zE.o (oO.o _ ak5.o));clear hz cL htc hx;by_cases h2:j<nr
  ·have Y6:(j:Int)<(nr:Int):=by omega
   have HRJ:=aa (HRL.o j (by rw[Sn.o];exact h2) HZ.o _ af3.o);obtain⟨f,hf⟩:=ae ((cn q.ay).getD j 0);have cF:wr.cell? ⟨fb,j,none⟩=some (.func (.func f) #[] #[]):=by
    have h9:=HFr.o.cell j;rw[h9];have h8:j<(cn q.ay).length:=by rw[Sn.o];exact h2
    rw[←hf];simp[aid,bN,bY h8]
   have HF7:=aa (show Bt f from by rw[←hf];exact aet _ j (by rw[Sn.o];exact h2));rw[hf] at HRJ;clear hf;go_upto_region 9 with fail
   clear cF;have hE:=fun args=>Qo (f:=f) HF7.o args wr
   go_wp2_with (first|(refine aC rfl 41 (.tmp 5) rfl xq 41 #[.int .i64 q.ay,.int .u32 q.tag,.int .u32 q.id,.int .i64 q.aw,.int .i64 q.bT] HQr.o rfl _ cA rfl aH ?_)|(refine aC rfl 58 (.tmp 10) rfl xa 58 #[.int .i64 rW.ay,.int .u32 rW.id,.int .i64 rW.aw,.int .i64 rW.aS,.int .i64 rW.aq] Zx.o rfl _ nu rfl bG ?_));clear hE;refine HRJ.o.mono ?_;rintro e wn ⟨rfl,hbn,htn⟩;have HBN:=aa hbn;have HTN:=aa (HTC.o.trans htn);have hx:=HX.o;have wU:=aa (htn.arr HQr.o (oO.o _ hx.1));have HRn:=aa (htn.arr HRr.o (oO.o _ aj));have HPn:=aa (htn.arr HPr.o (oO.o _ aj));clear hbn htn hx HRJ HQr HRr HPr Zx HFr HTC af3;obtain⟨er,o7⟩:=ae ((iA bk bg q).getD j 0);have HER:=aa o7;rw[o7];by_cases he:er=0
   ·subst he;go_wp2_with fail;go_roundw
    case rel=>
     refine⟨j+1,h2,by go_num,fun k hk=>?_,HBN.o,HTN.o⟩;rcases Nat.lt_or_ge k j with c|c
     ·exact HZ.o k c
     obtain rfl:k=j:=aj;exact HER.o
    case measure=>simp[intOf];omega
   have tu:(er != 0)=true:=bne_iff_ne.2 he;have HRF:=aa (show bE bk bg q=er from by rw[←HFE.o];exact El _ j er HZ.o (by rw[HEL.o,Sn.o];exact h2) HER.o he);have kV:=aa he;clear he;go_upto_region 11 with fail
   have gi:=aa (show ∀ W,aG W xq 41 (cZ q)→(W.cell? ⟨xq,1,none⟩=some (.int .u32 q.tag)∧W.cell? ⟨xq,0,none⟩=some (.int .i64 q.ay))from fun W hW=>⟨hW.cell 1,hW.cell 0⟩);obtain⟨wd,hwd⟩:=ae wn.drew;have gQ:Below wn.heap.size wn wd:=mS;have Zl:=aa (wU.o.ai gQ);have HRd:=aa (HRn.o.ai gQ);have RG:=aa (HPn.o.ai gQ);have Km:=aa (HTN.o.ak gQ);have Zv:=aa (show fK S wd b bk from by obtain⟨x,hx⟩:=HBN.o;exact⟨x,hx.ak gQ⟩);clear gQ;refine wp_region_held_drew (S:=(fun W=>W.cell? ⟨xq,1,none⟩=some (.int .u32 q.tag)∧W.cell? ⟨xq,0,none⟩=some (.int .i64 q.ay))) br (by rw[hwd];exact gi.o _ Zl.o) (fun hHeld=>?_);rw[hwd] at hHeld ⊢;clear hwd;refine Qd 0 1 2 3 4 5 ?_;refine ty 6 ?_;refine cG 7 fun K hK=>?_
   refine cT 58 _ _ rfl xr 58 _ #[.int .i64 0,.int .u32 0,.int .i64 0,.int .i64 0,.int .i64 0] HRd.o rfl rfl rfl bG eB ?_;intro ws dE dC gJ;have hx:=HX.o;have HRs:=aa dE;have HQs:=aa (Zl.o.bw dC (fun e=>lW));have HPs:=aa (RG.o.bw dC (fun e=>lW));have HTs:=aa (show aI (fun k=>S k∨k=xr) w8 ws from(Km.o.mono (fun k _ h=>.inl h)).grown dC (fun k e=>by injection e with e;exact .inl (.inr e.symm)));have HBs:=aa (nU Zv.o dC (fun k hk e=>oO.o k aj hk));clear dE dC gJ hx;refine bW hK (by exact gi.o _ HQs.o) fun o9=>?_
   clear hK K;refine cG 8 fun K hK=>?_
   refine cT 108 _ _ rfl xp 108 _ #[.int .u32 q.tag,.int .i64 q.ay,.int .i64 er,.int .u32 0,.int .i64 0,.int .i64 0,.int .i64 0] HPs.o rfl rfl rfl aR eB ?_;intro wz dE dC gJ;have hx:=HX.o;have HPz:=aa dE;have HQz:=aa (HQs.o.bw dC (fun e=>lW));have HRz:=aa (HRs.o.bw dC (fun e=>lW));have HTz:=aa (show aI (fun k=>S k∨k=xr∨k=xp) w8 wz from(HTs.o.mono (fun k _ h=>Ts)).grown dC (fun k e=>Tr));have Sx:=aa (nU HBs.o dC (fun k hk e=>oO.o k aj hk));clear dE dC gJ hx;refine bW hK (by exact gi.o _ HQz.o) fun qA=>?_
   clear hK K;refine tX 9 10 ?_;refine bO ?_;go_wp2_with fail;refine bodyPost_ret (vN Tryz.results216 _ im im (aJ 58 HRz.o _ nu rfl bG) (aJ 108 HPz.o _ dJ rfl aR)) rfl ?_;refine⟨?_,Sx.o,?_⟩
   ·rw[if_neg (by rw[HRF.o];exact kV.o),HRF.o];rfl
   have hx:=HX.o;exact aI.abX (aI.aU py.o) HTz.o (fun k hk=>T8)
  obtain rfl:j=nr:=aj;have HRF:=aa (show bE bk bg q=0 from by rw[←HFE.o];exact yX _ (fun k hk=>HZ.o k (by rw[HEL.o,Sn.o] at hk;exact hk)));have sO:=aa (HRW.o HRF.o);have Y6: ¬(j:Int)<(j:Int):=aj;go_upto_region 13 with fail
  have gi:=aa (show ∀ W,aG W xq 41 (cZ q)→aG W xa 58 (fA rW)→(W.rangeAt xq 0 (cZ q).toList∧W.rangeAt xa 0 (fA rW).toList)from fun W hW hV=>⟨fun j u hj=>by rw[gX,hW.cell j];simpa using hj,fun j u hj=>by rw[gX,hV.cell j];simpa using hj⟩);obtain⟨wd,hwd⟩:=ae wr.drew;have gQ:Below wr.heap.size wr wd:=mS;have Zl:=aa (HQr.o.ai gQ);have HRd:=aa (HRr.o.ai gQ);have RG:=aa (HPr.o.ai gQ);have Zy:=aa (Zx.o.ai gQ);have Km:=aa (HTC.o.ak gQ);have Zv:=aa (show fK S wd b bk from by obtain⟨x,hx⟩:=af3.o;exact⟨x,hx.ak gQ⟩);clear gQ;refine wp_region_held_drew (S:=(fun W=>W.rangeAt xq 0 (cZ q).toList∧W.rangeAt xa 0 (fA rW).toList)) br (by rw[hwd];exact gi.o _ Zl.o Zy.o) (fun hHeld=>?_);rw[hwd] at hHeld ⊢;clear hwd;refine eZ 0 (some 61) hHeld 58 (.tmp 10) xa 0 (fA rW).toList _ (fun w' h=>h.2) nu rfl bG ?_;try simp only[aY]
  refine eZ 1 (some 62) hHeld 41 (.tmp 5) xq 0 (cZ q).toList _ (fun w' h=>h.1) cA rfl aH ?_;try simp only[aY]
  refine eZ 2 (some 63) hHeld 58 (.tmp 10) xa 0 (fA rW).toList _ (fun w' h=>h.2) nu rfl bG ?_;try simp only[aY]
  refine cG 3 fun K hK=>?_
  go_simp;refine(Ka q rW wd).mono ?_;rintro e wl ⟨rfl,hbl⟩;have HQl:=aa (Zl.o.ai hbl);have HRl:=aa (HRd.o.ai hbl);have HPl:=aa (RG.o.ai hbl);have HAl:=aa (Zy.o.ai hbl);have HTl:=aa (Km.o.ak hbl);have HBl:=aa (show fK S wl b bk from by obtain⟨x,hx⟩:=Zv.o;exact⟨x,hx.ak hbl⟩);clear hbl;go_wp2_with fail;refine bW hK (by exact gi.o _ HQl.o HAl.o) fun MF=>?_
  clear hK K;refine cG 4 fun K hK=>?_
  refine cT 58 _ _ rfl xr 58 _ (fA rW) HRl.o rfl rfl rfl bG S4 ?_;intro ws dE dC gJ;have hx:=HX.o;have iz:=aiE.o;have HRs:=aa dE;have HQs:=aa (HQl.o.bw dC (fun e=>lW));have HPs:=aa (HPl.o.bw dC (fun e=>lW));have HAs:=aa (HAl.o.bw dC (fun e=>lW));have HTs:=aa (show aI (fun k=>S k∨k=xr) w8 ws from(HTl.o.mono (fun k _ h=>.inl h)).grown dC (fun k e=>by injection e with e;exact .inl (.inr e.symm)));have HBs:=aa (nU HBl.o dC (fun k hk e=>oO.o k aj hk));clear dE dC gJ hx iz;refine bW hK (by exact gi.o _ HQs.o HAs.o) fun mC=>?_
  clear hK K;refine cG 5 fun K hK=>?_
  refine cT 108 _ _ rfl xp 108 _ (iW (bP q rW)) HPs.o rfl rfl rfl aR pH ?_;intro wz dE dC gJ;have hx:=HX.o;have iz:=aiE.o;have HPz:=aa dE;have HQz:=aa (HQs.o.bw dC (fun e=>lW));have HRz:=aa (HRs.o.bw dC (fun e=>lW));have kH:=aa (HAs.o.bw dC (fun e=>lW));have HTz:=aa (show aI (fun k=>S k∨k=xr∨k=xp) w8 wz from(HTs.o.mono (fun k _ h=>Ts)).grown dC (fun k e=>Tr));have Sx:=aa (nU HBs.o dC (fun k hk e=>oO.o k aj hk));clear dE dC gJ hx iz;refine bW hK (by exact gi.o _ HQz.o kH.o) fun jt=>?_
  clear hK K;refine tX 6 7 ?_;refine bO ?_;go_wp2_with fail;refine bodyPost_ret (vN Tryz.results216 _ im im (aJ 58 HRz.o _ nu rfl bG) (aJ 108 HPz.o _ dJ rfl aR)) rfl ?_;refine⟨?_,Sx.o,?_⟩
  ·rw[if_pos HRF.o,←sO.o];rfl
  have hx:=HX.o;exact aI.abX (aI.aU py.o) HTz.o (fun k hk=>T8)
