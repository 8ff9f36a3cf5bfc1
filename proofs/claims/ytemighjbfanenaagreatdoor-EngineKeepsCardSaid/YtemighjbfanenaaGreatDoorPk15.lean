import Derived.Test.YtemighjbfanenaaGreatDoorProg
import Derived.Test.YtemighjbfanenaaGreatDoorPk1
import Derived.Test.YtemighjbfanenaaGreatDoorPk9
import Derived.Test.YtemighjbfanenaaGreatDoorPk13
import Derived.Test.YtemighjbfanenaaGreatDoorPk14
set_option linter.all false
set_option maxRecDepth 100000
set_option maxHeartbeats 16000000
namespace Go.Proofs.YtemighjbfanenaaGreatDoor
open RowKit
open yj (fU hasB)
open ky (fc Slot)
open Hp (eO bP)
open And renaming intro→dy
open List renaming mem_append_left→zV,mem_append→kV
open Nat renaming lt_of_lt_of_le→aP,le_refl→aL
open RowKit.Below renaming refl→aq
open Tryz renaming prog→af
theorem adG{p:Prop}(h:p:=by
 simp only[hb] at BH rD ⊢;simp only[MW] at BH rD ⊢;have cJ:w1.heap.size≤sg∧w1.heap.size≤mb∧w1.heap.size≤b:=ag;have ZB:=aa BH;have eQ:=aa dR;have rF:=aa sf;have CS:=aa rD;have jk:=aa cJ;clear jK hb MW BH dR sf rD cJ oI gI HSG jA nK oX hHeld;have c0:w5.cell? ⟨sh,0,none⟩=some (.int .i64 n):=(qC.o _ eQ.o).1;go_wp2_with fail;refine(yj.uU n ag _).mono ?_;rintro e w6 ⟨tp,tg,rfl,hS6,h61,h62,kB⟩;have XB:=ZB.o.keep kB;have aij: ¬sh=b:=by have h1:=HA0.o.lt;have h2:=jk.o;omega
 have aoq: ¬b=sh:=fun e=>aij e.symm
 have d1:w6.cell? ⟨sh,1,none⟩=some (.int .i64 au):=((HA0.o.keep eQ.o).keep kB).cell 1;have k6:w6.cell? ⟨b,6,none⟩=some (.pointer none):=XB.cell 6;have m6:=XB.mark 6;have MZ:=XB.lt;have HS6:=aa hS6;have H61:=aa (dy h61 h62);have jy:=aa kB;have anp:=aa XB;clear hS6 h61 h62 kB XB c0;go_wp2_with fail;have afX:=anp.o.put 6 (.pointer (some ⟨tp,0,none⟩));have T67:=(aG.refl (· =b) w6).put (p:=⟨b,6,none⟩) (.inl rfl) (.pointer (some ⟨tp,0,none⟩));obtain⟨w7,zx⟩:=ae (w6.setCell ⟨b,6,none⟩ (.pointer (some ⟨tp,0,none⟩)));rw[zx] at afX T67 ⊢;have NY:=aa afX;have amT:=aa T67;clear zx afX T67 d1 k6 m6 MZ;refine(ky.uU au aa3.1 aa3.2 w7).mono ?_;rintro e w8 ⟨ip,ig,m,rfl,hI8,hm8,aiF,h81,h82,mC⟩;have XA:=NY.o.keep mC;have k7:w8.cell? ⟨b,7,none⟩=some (.pointer none):=XA.cell 7;have m7:=XA.mark 7;have hl8:=XA.lt;have Tr:=aa hI8;have H81:=aa (dy (dy hm8 aiF) (dy h81 h82));have ru:=aa mC;have ano:=aa XA;clear hI8 hm8 aiF h81 h82 mC XA;go_wp2_with fail;have afW:=ano.o.put 7 (.pointer (some ⟨ip,0,none⟩));have T89:=(aG.refl (· =b) w8).put (p:=⟨b,7,none⟩) (.inl rfl) (.pointer (some ⟨ip,0,none⟩));obtain⟨w9,jT⟩:=ae (w8.setCell ⟨b,7,none⟩ (.pointer (some ⟨ip,0,none⟩)));rw[jT] at afW T89 ⊢;have ann:=aa afW;have amS:=aa T89;clear jT afW T89 k7 m7 hl8;refine(Hp.uU w9).mono ?_;rintro e tX ⟨hp,rfl,XK,vX⟩;have BI:=ann.o.keep vX;have k9:tX.cell? ⟨b,9,none⟩=some (.pointer none):=BI.cell 9;have m9:=BI.mark 9;have aiJ:=BI.lt;have ane:=aa XK;have anr:=aa vX;have akL:=aa BI;clear XK vX BI;go_wp2_with fail;go_ret2;exact VJ Ck.o pN aa3 bu.o eQ.o rF.o CS.o jk.o ZB.o HS6.o H61.o jy.o amT.o Tr.o H81.o ru.o amS.o ane.o anr.o akL.o):p:=h
theorem ac4{p:Prop}(h:p:=by
 go_wp2_with fail;refine HC.o.mono ?_;rintro e w1 ⟨rfl,h1,h2⟩;have H1:=aa h1;have H2:=aa h2;clear h1 h2;go_wp2_with fail;go_ret;exact⟨rfl,H1.o,H2.o⟩):p:=h
theorem lV{p:Prop}(h:p:=by injection e with e;omega):p:=h
theorem OM{p:Prop}(h:p:=by exact qC.o _ (ay (aq _ _))):p:=h
theorem FH{p:Prop}(h:p:=by subst hk;exact HH.o.bg.fZ.block _ rfl):p:=h
theorem oO{p:Prop}(h:p:=by simpa using hy):p:=h
section
section
namespace tS
theorem EC(a b c:Int)(w:World)(h:CF a b c=true):
  Calls af 90 #[.agg #[.int .i64 a,.int .i64 b,.int .i64 c]] w fun e w'=>e= .returned (.int .i64 0)∧Below w.heap.size w w':=by
 obtain⟨h1,h2,h3,h4,h5,h6⟩:=lL h;clear h;go_enter Tryz.func90,Tryz.ntmps90;go_wp2;go_ret;exact⟨rfl,(aq _ _).alloc (aL _) _⟩
theorem Yb(a b c:Int)(w:World)(h:CF a b c=false):
  Calls af 90 #[.agg #[.int .i64 a,.int .i64 b,.int .i64 c]] w fun e w'=>e= .returned (.int .i64 90)∧Below w.heap.size w w':=by
 have HH:=aa (VG h);clear h;go_enter Tryz.func90,Tryz.ntmps90;go_wp2;all_goals first
  | (go_ret;exact⟨rfl,(aq _ _).alloc (aL _) _⟩)
  | (exfalso;have:=HH.o;(try simp at *);omega)
theorem nB(a b c:Int)(w:World)(h:CF a b c=true):
  Calls af 109 #[.agg #[.int .i64 a,.int .i64 b,.int .i64 c]] w fun e w'=>e= .returned (.int .i64 0)∧Below w.heap.size w w':=by
 obtain⟨h1,h2,h3,h4,h5,h6⟩:=lL h;clear h;go_enter Tryz.func109,Tryz.ntmps109;go_wp2;go_ret;exact⟨rfl,(aq _ _).alloc (aL _) _⟩
end tS
end
section
namespace Bk
structure bU where
 id:Int
 av:Nat
 aR:Int
def jN(x:bU): List Value:=[.int .u32 x.id,.int .i64 x.av,.int .i64 x.aR]
theorem sA(x:bU): ∀ u∈jN x,u.oneCell'=true:=by
 intro u hu;simp only[jN,List.mem_cons,List.not_mem_nil,or_false] at hu;rcases hu with rfl|rfl|rfl <;>rfl
theorem Ke: (af.info? 171).map (fun i=>(i.zero,i.size,i.bytes))=some (some (.agg #[.int .u32 0,.int .i64 0,.int .i64 0]),3,24):=aW
theorem e9: (af.info? 171).map (·.size)=some 3:=aW
structure bD where
 tp:Nat
 tg:Nat
 tc:Nat
 ip:Nat
 ig:Nat
 m:Nat
 sg:Nat
 sc:Nat
 hp:Nat
 hl:Nat
 mb:Nat
 hm:Nat
 ws:Nat→Nat
 gr:Nat
 f:Nat→Slot
 sb:Nat→bU
 hn:Int
 hf:Nat→eO
 φ:Int→Option Int
 H:Nat→Prop
structure cA(S:Nat→Prop)(w:World)(b n au:Nat)(az next ak:Int)(len:Nat)(q:bD): Prop where
 own:aD w b 102 #[.int .i64 n,.int .i64 au,.int .i64 az,.bool true,.int .i64 ak,.int .u32 next,.pointer (some ⟨q.tp,0,none⟩),.pointer (some ⟨q.ip,0,none⟩),.slice (some ⟨q.sg,0,none⟩) n q.sc,.pointer (some ⟨q.hp,0,none⟩),.map (some q.mb)]
 taken:fU w q.tp q.tg q.tc n q.ws
 ids:fc w q.ip q.ig q.m au len q.gr q.f
 fZ:aO S w 171 3 (.slice (some ⟨q.sg,0,none⟩) n q.sc) n (fun i=>jN (q.sb i))
 due:bP q.H w q.hp q.hl q.hn q.hf
 held:dt af 39 3 .u32 w q.mb q.hm q.φ
 bt:S b∧S q.tp∧S q.tg∧S q.ip∧S q.ig∧S q.mb
 apart: ∀ k,q.H k→S k∧k≠b∧k≠q.tp∧k≠q.tg∧k≠q.ip∧k≠q.ig∧k≠q.sg∧k≠q.mb
 lt: ∀ k,S k→k<w.heap.size
section
variable {S:Nat→Prop}{w w':World}{b n au:Nat}{az next ak:Int}{len:Nat}{q:bD}
theorem cA.B2(h:cA S w b n au az next ak len q): (∃ cs,aD w b 102 cs)∧(∃ cs,aD w q.tp 312 cs)∧(∃ cs,aD w q.tg 22 cs)∧(∃ cs,aD w q.ip 315 cs)∧(∃ cs,aD w q.ig 358 cs)∧(∃ cs,aD w q.sg 171 cs):=by
 obtain⟨cur,h1,_⟩:=h.taken.row;obtain⟨s,hs⟩:=h.ids.dQ;obtain⟨agq,h2,_⟩:=hs.rows;exact⟨⟨_,h.own⟩,⟨_,h.taken.own⟩,⟨cur,h1⟩,⟨_,hs.own⟩,⟨agq,h2⟩,h.fZ.arr⟩
variable{T:Nat→Prop}
theorem uS{p g c n:Nat}{ws:Nat→Nat}(h:fU w p g c n ws)(hp:w'.heap[p]? =w.heap[p]?)(hg:w'.heap[g]? =w.heap[g]?): fU w' p g c n ws:=by
 obtain⟨cur,h1,h2⟩:=h.row;exact⟨hp.trans h.own,⟨cur,hg.trans h1,h2⟩,h.small,h.apart⟩
theorem cA.qi(h:cA S w b n au az next ak len q)(ht:aG T w w')(hT: ¬T b): aD w' b 102 #[.int .i64 n,.int .i64 au,.int .i64 az,.bool true,.int .i64 ak,.int .u32 next,.pointer (some ⟨q.tp,0,none⟩),.pointer (some ⟨q.ip,0,none⟩),.slice (some ⟨q.sg,0,none⟩) n q.sc,.pointer (some ⟨q.hp,0,none⟩),.map (some q.mb)]:=ht.arr h.own hT
theorem cA.lC(h:cA S w b n au az next ak len q)(ht:aG T w w')(h1: ¬T q.tp)(h2: ¬T q.tg): fU w' q.tp q.tg q.tc n q.ws:=by
 obtain⟨_,⟨_,a1⟩,⟨_,a2⟩,_⟩:=h.B2;exact uS h.taken (ht.block _ a1.lt h1) (ht.block _ a2.lt h2)
theorem cA.qj(h:cA S w b n au az next ak len q)(ht:aG T w w')(h1: ¬T q.ip)(h2: ¬T q.ig): fc w' q.ip q.ig q.m au len q.gr q.f:=
 h.ids.same (ht.block _ h.ids.lt.1 h1) (ht.block _ h.ids.lt.2 h2)
theorem cA.lD(h:cA S w b n au az next ak len q)(ht:aG T w w')(h1: ¬T q.sg): aO S w' 171 3 (.slice (some ⟨q.sg,0,none⟩) n q.sc) n (fun i=>jN (q.sb i)):=by
 obtain⟨_,_,_,_,_,⟨_,a⟩⟩:=h.B2;exact h.fZ.OU (ht.block _ a.lt h1)
theorem cA.tj(h:cA S w b n au az next ak len q)(ht:aG T w w')(h1: ∀ k,q.H k→¬T k): bP q.H w' q.hp q.hl q.hn q.hf:=
 h.due.same fun k hk hl=>ht.block k hl (h1 k hk)
theorem cA.nG(h:cA S w b n au az next ak len q)(ht:aG T w w')(h1: ¬T q.mb): dt af 39 3 .u32 w' q.mb q.hm q.φ:=
 h.held.same (ht.block _ h.held.lt h1)
theorem cA.ai(h:cA S w b n au az next ak len q)(hb:Below w.heap.size w w'): cA S w' b n au az next ak len q:=by
 have ht:aG (fun _=>False) w w':=⟨hb.os,hb.tape,hb.output,hb.size,fun k hk _=>hb.block k hk⟩;exact⟨h.qi ht id,h.lC ht id id,h.qj ht id id,h.lD ht id,h.tj ht (fun _ _=>id),h.nG ht id,h.bt,h.apart,fun k hk=>aP (h.lt k hk) hb.size⟩
theorem cA.same(h:cA S w b n au az next ak len q)(hz:w.heap.size≤w'.heap.size)(hk: ∀ k,S k→k<w.heap.size→w'.heap[k]? =w.heap[k]?): cA S w' b n au az next ak len q:=by
 obtain⟨⟨_,a0⟩,⟨_,a1⟩,⟨_,a2⟩,⟨_,a3⟩,⟨_,a4⟩,⟨_,a5⟩⟩:=h.B2;obtain⟨s0,s1,s2,s3,s4,s5⟩:=h.bt;exact⟨(hk b s0 a0.lt).trans h.own,uS h.taken (hk _ s1 a1.lt) (hk _ s2 a2.lt),h.ids.same (hk _ s3 a3.lt) (hk _ s4 a4.lt),h.fZ.OU (hk _ (h.fZ.block _ rfl) a5.lt),h.due.same fun k hH hl=>hk k (h.apart k hH).1 hl,h.held.same (hk _ s5 h.held.lt),h.bt,h.apart,fun k hk=>aP (h.lt k hk) hz⟩
theorem cA.mono(h:cA S w b n au az next ak len q)(pY: ∀ k,S k→T k)(hT: ∀ k,T k→k<w.heap.size): cA T w b n au az next ak len q:=
 ⟨h.own,h.taken,h.ids,h.fZ.mono fun k hk _=>pY k hk,h.due,h.held,⟨pY _ h.bt.1,pY _ h.bt.2.1,pY _ h.bt.2.2.1,pY _ h.bt.2.2.2.1,pY _ h.bt.2.2.2.2.1,pY _ h.bt.2.2.2.2.2⟩,fun k hk=>⟨pY k (h.apart k hk).1,(h.apart k hk).2⟩,hT⟩
theorem cA.vR(h:cA S w b n au az next ak len q)(ht:aG (fun k=>k=q.ip∨k=q.ig) w w'){ahQ gr:Nat}{f:Nat→Slot}(hi:fc w' q.ip q.ig q.m au ahQ gr f): cA S w' b n au az next ak ahQ {q with gr:=gr,f:=f}:=by
 obtain⟨⟨_,a0⟩,⟨_,a1⟩,⟨_,a2⟩,⟨_,a3⟩,⟨_,a4⟩,⟨_,a5⟩⟩:=h.B2;have ne: ∀ {p:Nat} {t:TypeId} {cs:Array Value},aD w p t cs→t≠315→t≠358→¬(p=q.ip∨p=q.ig):=fun a h1 h2 e=>by
  rcases e with e|e
  ·exact iz a a3 h1 e
  exact iz a a4 h2 e
 exact⟨h.qi ht (ne a0 aM aM),h.lC ht (ne a1 aM aM) (ne a2 aM aM),hi,h.lD ht (ne a5 aM aM),h.tj ht (fun k hk e=>by rcases e with e|e;exact(h.apart k hk).2.2.2.2.1 e;exact(h.apart k hk).2.2.2.2.2.1 e),h.nG ht (fun e=>by rcases e with e|e;exact Hp.dn h.held a3 e.symm;exact Hp.dn h.held a4 e.symm),h.bt,h.apart,fun k hk=>aP (h.lt k hk) ht.size⟩
theorem cA.p7(h:cA S w b n au az next ak len q)(ht:aG (· =q.tg) w w'){ws:Nat→Nat}(hi:fU w' q.tp q.tg q.tc n ws): cA S w' b n au az next ak len {q with ws:=ws}:=by
 obtain⟨⟨_,a0⟩,⟨_,a1⟩,⟨_,a2⟩,⟨_,a3⟩,⟨_,a4⟩,⟨_,a5⟩⟩:=h.B2;exact⟨h.qi ht (iz a0 a2 aM),hi,h.qj ht (iz a3 a2 aM) (iz a4 a2 aM),h.lD ht (iz a5 a2 aM),h.tj ht (fun k hk=>(h.apart k hk).2.2.2.1),h.nG ht (fun e=>Hp.dn h.held a2 e.symm),h.bt,h.apart,fun k hk=>aP (h.lt k hk) ht.size⟩
theorem cA.nA(h:cA S w b n au az next ak len q)(ht:aG (· =q.sg) w w'){sb:Nat→bU}(hi:aO S w' 171 3 (.slice (some ⟨q.sg,0,none⟩) n q.sc) n (fun i=>jN (sb i))): cA S w' b n au az next ak len {q with sb:=sb}:=by
 obtain⟨⟨_,a0⟩,⟨_,a1⟩,⟨_,a2⟩,⟨_,a3⟩,⟨_,a4⟩,⟨_,a5⟩⟩:=h.B2;exact⟨h.qi ht (iz a0 a5 aM),h.lC ht (iz a1 a5 aM) (iz a2 a5 aM),h.qj ht (iz a3 a5 aM) (iz a4 a5 aM),hi,h.tj ht (fun k hk=>(h.apart k hk).2.2.2.2.2.2.1),h.nG ht (fun e=>Hp.dn h.held a5 e.symm),h.bt,h.apart,fun k hk=>aP (h.lt k hk) ht.size⟩
theorem cA.Ej(h:cA S w b n au az next ak len q)(ht:aG (· =q.mb) w w'){hm:Nat}{φ:Int→Option Int}(hi:dt af 39 3 .u32 w' q.mb hm φ): cA S w' b n au az next ak len {q with hm:=hm,φ:=φ}:=by
 obtain⟨⟨_,a0⟩,⟨_,a1⟩,⟨_,a2⟩,⟨_,a3⟩,⟨_,a4⟩,⟨_,a5⟩⟩:=h.B2;exact⟨h.qi ht (Hp.dn h.held a0),h.lC ht (Hp.dn h.held a1) (Hp.dn h.held a2),h.qj ht (Hp.dn h.held a3) (Hp.dn h.held a4),h.lD ht (Hp.dn h.held a5),h.tj ht (fun k hk=>(h.apart k hk).2.2.2.2.2.2.2),hi,h.bt,h.apart,fun k hk=>aP (h.lt k hk) ht.size⟩
theorem cA.X5(h:cA S w b n au az next ak len q)(ht:aG q.H w w'){hl:Nat}{hn:Int}{hf:Nat→eO}(hi:bP (fun k=>q.H k∨w.heap.size≤k) w' q.hp hl hn hf):
  cA (fun k=>(S k∨w.heap.size≤k)∧k<w'.heap.size) w' b n au az next ak len {q with hl:=hl,hn:=hn,hf:=hf,H:=fun k=>(q.H k∨w.heap.size≤k)∧k<w'.heap.size}:=by
 obtain⟨⟨_,a0⟩,⟨_,a1⟩,⟨_,a2⟩,⟨_,a3⟩,⟨_,a4⟩,⟨_,a5⟩⟩:=h.B2;have l0:=a0.lt;have l1:=a1.lt;have l2:=a2.lt;have l3:=a3.lt;have l4:=a4.lt;have l6:=a5.lt;have l5:=h.held.lt;have hz:=ht.size;have hno: ∀ x,(∀ k,q.H k→k≠x)→¬q.H x:=fun x hx e=>hx x e rfl
 refine⟨h.qi ht (hno _ fun k hk=>(h.apart k hk).2.1),h.lC ht (hno _ fun k hk=>(h.apart k hk).2.2.1) (hno _ fun k hk=>(h.apart k hk).2.2.2.1),h.qj ht (hno _ fun k hk=>(h.apart k hk).2.2.2.2.1) (hno _ fun k hk=>(h.apart k hk).2.2.2.2.2.1),(h.lD ht (hno _ fun k hk=>(h.apart k hk).2.2.2.2.2.2.1)).mono fun k hk hk2=>⟨.inl hk,hk2⟩,hi.mono fun k hk hk2=>⟨hk,hk2⟩,h.nG ht (hno _ fun k hk=>(h.apart k hk).2.2.2.2.2.2.2),⟨⟨.inl h.bt.1,(show b<w'.heap.size from ag)⟩,⟨.inl h.bt.2.1,(show q.tp<w'.heap.size from ag)⟩,⟨.inl h.bt.2.2.1,(show q.tg<w'.heap.size from ag)⟩,⟨.inl h.bt.2.2.2.1,(show q.ip<w'.heap.size from ag)⟩,⟨.inl h.bt.2.2.2.2.1,(show q.ig<w'.heap.size from ag)⟩,⟨.inl h.bt.2.2.2.2.2,(show q.mb<w'.heap.size from ag)⟩⟩,fun k hk=>?_,fun k hk=>hk.2⟩;obtain⟨hk,hk3⟩:=hk;rcases hk with hk|hk
 ·exact⟨⟨.inl (h.apart k hk).1,hk3⟩,(h.apart k hk).2⟩
 ·exact⟨⟨.inr hk,hk3⟩,(show k≠b from ag),(show k≠q.tp from ag),(show k≠q.tg from ag),(show k≠q.ip from ag),(show k≠q.ig from ag),(show k≠q.sg from ag),(show k≠q.mb from ag)⟩
end
end Bk
end
section
namespace Bk
def ku(L:List bU): Nat:=(L.filter fun x=>decide (0<x.aR)).length
theorem JL(L:List bU): ku L≤L.length:=List.length_filter_le _ _
variable{S:Nat→Prop}{w:World}{b n:Nat}{az ak:Int}
theorem Ek{L:List bU}{x:bU}(h:0<x.aR): ku (L++ [x])=ku L+1:=by unfold ku;rw[List.filter_append];simp[h]
theorem JK{L:List bU}{x:bU}(h: ¬0<x.aR): ku (L++ [x])=ku L:=by unfold ku;rw[List.filter_append];simp[h]
structure mE(L:List bU)(q:bD): Prop where
 len:q.hl=ku L
 cnt:q.hm=ku L
 held: ∀ x∈L,0<x.aR→∃ h,q.φ x.id=some h∧Hp.In q.hf q.hl ⟨x.aR,x.id,h⟩
 items: ∀ y,Hp.In q.hf q.hl y→∃ x∈L,0<x.aR∧y=⟨x.aR,x.id,y.aZ⟩∧q.φ x.id=some y.aZ
 free: ∀ i,(∀ x∈L,0<x.aR→x.id≠i)→q.φ i=none
 ord:Hp.Ordered q.hf q.hl
 ids: ∀ x∈L,0≤x.id∧x.id<4294967296
theorem mE.amA{L:List bU}{q q':bD}(h:mE L q){x:bU}(hx: ¬0<x.aR)(hid:0≤x.id∧x.id<4294967296)(e1:q'.hl=q.hl)(e2:q'.hm=q.hm)(e3:q'.hf=q.hf)(e4:q'.φ=q.φ): mE (L++ [x]) q':=by
 refine⟨by rw[e1,JK hx,h.len],by rw[e2,JK hx,h.cnt],fun y hy hp=>?_,fun y hy=>?_,fun i hi=>?_,by rw[e1,e3];exact h.ord,fun y hy=>?_⟩
 ·rw[e1,e3,e4];rcases kV.1 hy with hy|hy
  ·exact h.held y hy hp
  obtain rfl:y=x:=oO;exact absurd hp hx
 ·rw[e1,e3] at hy;obtain⟨z,hz,r⟩:=h.items y hy;exact⟨z,zV _ hz,by rw[e4];exact r⟩
 ·rw[e4];exact h.free i fun y hy=>hi y (zV _ hy)
 rcases kV.1 hy with hy|hy
 ·exact h.ids y hy
 obtain rfl:y=x:=oO;exact hid
theorem mE.push{L:List bU}{q q':bD}(h:mE L q){x:bU}(hx:0<x.aR)(hid:0≤x.id∧x.id<4294967296)(mB: ∀ y∈L,y.id≠x.id)(e1:q'.hl=q.hl+1)(e2:q'.hm=if(q.φ x.id).isSome=true then q.hm else q.hm+1)(e3:q'.hf=Hp.gm (cO q.hf q.hl ⟨x.aR,x.id,q.hn⟩) (q.hl+1) q.hl)(e4:q'.φ=tK q.φ x.id (some q.hn)): mE (L++ [x]) q':=by
 have hno:q.φ x.id=none:=h.free x.id fun y hy _=>mB y hy
 refine⟨by rw[e1,Ek hx,h.len],by rw[e2,hno,Ek hx,h.cnt];rfl,fun y hy hp=>?_,fun y hy=>?_,fun i hi=>?_,by rw[e1,e3];exact Hp.FV h.ord _,fun y hy=>?_⟩
 ·rw[e1,e3,e4];rcases kV.1 hy with hy|hy
  ·obtain⟨t,h1,h2⟩:=h.held y hy hp;exact⟨t,by rw[cQ _ _ (mB y hy)];exact h1,(Hp.Gb _ _).2 (.inl h2)⟩
  obtain rfl:y=x:=oO;exact⟨q.hn,fy _ _ _,(Hp.Gb _ _).2 (.inr rfl)⟩
 ·rw[e1,e3] at hy;rcases(Hp.Gb _ _).1 hy with hy|rfl
  ·obtain⟨z,hz,r1,r2,r3⟩:=h.items y hy;exact⟨z,zV _ hz,r1,r2,by rw[e4,cQ _ _ (mB z hz)];exact r3⟩
  exact⟨x,dA,hx,rfl,by rw[e4];exact fy _ _ _⟩
 ·have K1:i≠x.id:=fun e=>hi x dA hx e.symm
  rw[e4,cQ _ _ K1];exact h.free i fun y hy=>hi y (zV _ hy)
 rcases kV.1 hy with hy|hy
 ·exact h.ids y hy
 obtain rfl:y=x:=oO;exact hid
structure bl(S:Nat→Prop)(w:World)(b n au:Nat)(az next ak:Int)(L:List bU)(q:bD): Prop where
 bg:cA S w b n au az next ak L.length q
 bits: ∀ i,i<n→(hasB q.ws i=true↔∃ x∈L,x.av=i)
 dQ: ∀ x∈L,x.av<n∧q.sb x.av=x
 under: ∀ j,j<q.m→(q.f j).state=1→∃ x∈L,(q.f j).id=x.id
 listed: ∀ x∈L,∃ j,j<q.m∧(q.f j).state=1∧(q.f j).id=x.id∧(q.f j).v=x.av
 small:q.hl≤L.length∧(q.hn≤next∧(q.hn=next→∃ x∈L,x.id=next))∧q.hm≤L.length∧1≤n∧n≤1024
 qm:mE L q
theorem bl.tbl{au:Nat} {next:Int} {L:List bU}{q:bD}(h:bl S w b n au az next ak L q)(a v:Int): ky.jP q.f q.m a v↔∃ x∈L,x.id=a∧(x.av:Int)=v:=by
 constructor
 ·rintro⟨j,hj,h1,h2,h3⟩;obtain⟨x,hx,e⟩:=h.under j hj h1;obtain⟨i,hi,i1,i2,i3⟩:=h.listed x hx;obtain rfl:=h.bg.ids.tab.uniq i j hi hj i1 h1 (i2.trans e.symm);exact⟨x,hx,e.symm.trans h2,i3.symm.trans h3⟩
 rintro⟨x,hx,rfl,rfl⟩;obtain⟨i,hi,i1,i2,i3⟩:=h.listed x hx;exact⟨i,hi,i1,i2,i3⟩
theorem bl.idr{au:Nat} {next:Int} {L:List bU}{q:bD}(h:bl S w b n au az next ak L q): ∀ i,i<q.m→(q.f i).state=1→0≤(q.f i).id∧(q.f i).id<4294967296:=fun i hi hs=>by
 obtain⟨x,hx,e⟩:=h.under i hi hs;rw[e];exact h.qm.ids x hx
theorem JQ(ws:Nat→Nat)(i j:Nat): hasB (fun k=>if k=i / 64 then ws k|||2 ^ (i % 64)else ws k) j=(hasB ws j||decide (j=i)):=by
 unfold hasB;show(if j / 64=i / 64 then ws (j / 64)|||2 ^ (i % 64)else ws (j / 64)).testBit (j % 64)=_
 by_cases h:j / 64=i / 64
 ·rw[if_pos h,Nat.testBit_or,Nat.testBit_two_pow];congr 1;rw[Bool.eq_iff_iff,decide_eq_true_eq,decide_eq_true_eq];omega
 rw[if_neg h];have:decide (j=i)=false:=decide_eq_false (fun e=>h mj);rw[this,Bool.or_false]
theorem ED(p g c n i:Nat)(ws:Nat→Nat)(w:World)(h:fU w p g c n ws)(hi:i<n)(hn:n≤1000000): Calls af 164 #[.pointer (some ⟨p,0,none⟩),.int .i64 i] w fun e w'=>e= .returned (.int .i64 0)∧fU w' p g c n (fun j=>if j=i / 64 then ws j|||2 ^ (i % 64)else ws j)∧w.grownBy w' (some g):=by
 have HC:=aa (yj.SY p g c n i ws w h hi hn);clear h;go_enter Tryz.func164,Tryz.ntmps164;exact ac4
theorem rR(sb:Nat→bU)(i:Nat)(x:bU): cO (fun i=>jN (sb i)) i (jN x)=fun j=>jN (cO sb i x j):=by
 funext j;unfold cO;by_cases h:j=i
 ·simp[h]
 simp[h]
theorem bl.more{T:Nat→Prop} {w':World} {au:Nat} {next:Int} {L:List bU}{x:bU}{q:bD}(h:bl S w b n au az next ak L q)(mB: ∀ y∈L,y.id≠x.id)(kH: ∀ y∈L,y.av≠x.av)(hx:x.av<n)
  {q':bD} (hc:cA T w' b n au az next ak (L.length+1) q') (h1:q'.ws=fun j=>if j=x.av / 64 then q.ws j|||2 ^ (x.av % 64)else q.ws j) (h2: ∀ a v,ky.jP q'.f q'.m a v↔ky.jP q.f q.m a v∨(a=x.id∧v=(x.av:Int))) (h3:q'.sb=cO q.sb x.av x) (h5:q'.hl≤L.length+1∧(q'.hn≤next∧(q'.hn=next→∃ y∈L++ [x],y.id=next))∧q'.hm≤L.length+1) (h6:mE (L++ [x]) q') :
  bl T w' b n au az next ak (L++ [x]) q':=by
 have hl:(L++ [x]).length=L.length+1:=dA;refine⟨by rw[hl];exact hc,fun j hj=>?_,fun y hy=>?_,fun j hj hs=>?_,fun y hy=>?_,by rw[hl];exact⟨h5.1,h5.2.1,h5.2.2,h.small.2.2.2⟩,h6⟩
 ·rw[h1,JQ,Bool.or_eq_true,h.bits j hj,decide_eq_true_eq];constructor
  ·rintro(⟨y,hy,e⟩|e)
   ·exact⟨y,by simp[hy],e⟩
   exact⟨x,dA,e.symm⟩
  rintro⟨y,hy,e⟩;rcases kV.1 hy with hy|hy
  ·exact .inl ⟨y,hy,e⟩
  obtain rfl:y=x:=oO;exact .inr e.symm
 ·rw[h3];rcases kV.1 hy with hy|hy
  ·refine⟨(h.dQ y hy).1,?_⟩;rw[bj _ _ (kH y hy)];exact(h.dQ y hy).2
  obtain rfl:y=x:=oO;exact⟨hx,bJ _ _ _⟩
 ·rcases(h2 _ _).1 ⟨j,hj,hs,rfl,rfl⟩with hu|⟨e,_⟩
  ·obtain⟨y,hy,e,_⟩:=(h.tbl _ _).1 hu;exact⟨y,by simp[hy],e.symm⟩
  exact⟨x,dA,e⟩
 ·have:ky.jP q'.f q'.m y.id (y.av:Int):=by
   rw[h2];rcases kV.1 hy with hy|hy
   ·exact .inl ((h.tbl _ _).2 ⟨y,hy,rfl,rfl⟩)
   obtain rfl:y=x:=oO;exact .inr ⟨rfl,rfl⟩
  exact this
theorem OA{w3 w4:World} {au:Nat} {next:Int} {len vb:Nat}{q:bD}{cs:Array Value}(h:cA S w b n au az next ak len q)(hv:w.heap.size=vb)(ha:aD w3 vb 171 cs)(hg:w3.drew.grownBy w4 (some q.sg)): aD w4 vb 171 cs:=by
 obtain⟨_,_,_,_,_,⟨_,a⟩⟩:=h.B2;have h1:=a.lt;exact(hg.block vb ha.lt (fun e=>lV)).trans ha
def agL(S:Nat→Prop)(w:World)(b n au:Nat)(az next ak:Int)(L:List bU)(q:bD)(x:bU)(e:Ending)(w':World): Prop:=
 (∃ v,e= .returned v)∧(∃ q',bl (fun k=>(S k∨w.heap.size≤k)∧k<w'.heap.size) w' b n au az next ak (L++ [x]) q'∧q'.hn≤q.hn+1)∧aG S w w'
theorem Vs(S:Nat→Prop)(b n au:Nat)(az next ak:Int)(L:List bU)(x:bU)(q:bD)(w:World)(h:bl S w b n au az next ak L q)(hid:0≤x.id∧x.id<4294967296)(mB: ∀ y∈L,y.id≠x.id)(kH: ∀ y∈L,y.av≠x.av)(hx:x.av<n)(hl:L.length<au)(MR:0≤x.aR∧x.aR≤1099511627776)(Xo:q.hn<x.id∧x.id≤next):
  Calls af 158 #[.pointer (some ⟨b,0,none⟩),.agg #[.int .u32 x.id,.int .i64 x.av,.int .i64 x.aR]] w (agL S w b n au az next ak L q x):=by
 have hq:=h.small;have adO: ∀ j,j<q.m→(q.f j).state=1→(q.f j).id≠x.id:=fun j hj hs e=>by
  obtain⟨y,hy,Z6⟩:=h.under j hj hs;exact mB y hy (by rw[←Z6,e])
 have hl4:L.length<4096:=by have:=h.bg.ids.a8;omega
 have NV:=aa h.idr;have HH:=aa h;have HNO:=aa adO;clear h adO;go_enter Tryz.func158,Tryz.ntmps158;go_wp2_with fail;have hb1:Below w.heap.size w (w.alloc (.cells #[.int .u32 x.id,.int .i64 x.av,.int .i64 x.aR] 171)):=aw (aq _ _) _;have bh:aD (w.alloc (.cells #[.int .u32 x.id,.int .i64 x.av,.int .i64 x.aR] 171)) w.heap.size 171 #[.int .u32 x.id,.int .i64 x.av,.int .i64 x.aR]:=aD.fresh w _ _;obtain⟨w1,aX⟩:=ae (w.alloc (.cells #[.int .u32 x.id,.int .i64 x.av,.int .i64 x.aR] 171));obtain⟨vb,mN⟩:=ae w.heap.size;rw[aX] at hb1 bh ⊢;rw[mN] at bh ⊢;clear aX;have hc1:=HH.o.bg.ai hb1;have su:aG S w w1:=(aG.refl S w).ai hb1;have x7:=hc1.own.cl 7;have y0:=bh.cl 0;have y1:=bh.cl 1;have kZ:=aa hc1;have dH:=aa bh;have jx:=aa su;have yN:=aa mN;clear hc1 bh su mN hb1;go_still_tail 8,aW;change wpList _ _ _ _ _ w1.drew;go_wp2_with fail;have wG:=kZ.o.ai (ay (aq _ _));refine(ky.ajG q.ip q.ig q.m au L.length q.gr x.id x.av q.f w1.drew wG.ids hid NV.o HNO.o hl).mono ?_;rintro e w2 ⟨rfl,⟨f2,gs2,K1,RH⟩,hTi⟩;have hc2:=wG.vR hTi K1;have hlt:=HH.o.bg.ids.lt;have gK:aD w2 vb 171 #[.int .u32 x.id,.int .i64 x.av,.int .i64 x.aR]:=hTi.arr (show aD w1.drew vb _ _ from dH.o) (by have:=yN.o;omega);have hf:=HH.o.bg.bt;have jL:aG S w w2:=(jx.o.ai (ay (aq _ _))).trans (hTi.mono fun k _ hk=>by rcases hk with rfl|rfl;exact hf.2.2.2.1;exact hf.2.2.2.2.1);have x6:=hc2.own.cl 6;clear x7 y0 y1 wG;have y1:=gK.cl 1;have EP:=aa hc2;have jI:=aa gK;have gV:=aa jL;have HUN:=aa RH;clear hc2 gK jL RH K1 hTi kZ dH jx hlt;go_wp2_with fail;go_still_tail 6,aW;change wpList _ _ _ _ _ w2.drew;go_wp2_with fail;have wG:=EP.o.ai (ay (aq _ _));refine(ED q.tp q.tg q.tc n x.av q.ws w2.drew wG.taken hx ag).mono ?_;rintro e w3 ⟨rfl,Ti,hg3⟩;have K6:aG (· =q.tg) w2.drew w3:=(aG.refl _ _).grown hg3 (fun k e=>.inl Ah);have hc3:=wG.p7 K6 Ti;obtain⟨_,_,⟨_,atg⟩,_⟩:=HH.o.bg.B2;have dB:aD w3 vb 171 #[.int .u32 x.id,.int .i64 x.av,.int .i64 x.aR]:=K6.arr (show aD w2.drew vb _ _ from jI.o) (by have:=yN.o;have:=atg.lt;omega);have kv:aG S w w3:=(gV.o.ai (ay (aq _ _))).trans (K6.mono fun k _ hk=>by subst hk;exact hf.2.2.1);clear x6 y1 wG EP jI gV K6 Ti hg3 atg;have x8:=hc3.own.cl 8;have y0:=dB.cl 0;have y1:=dB.cl 1;have y2:=dB.cl 2;have RD:(x.av:Int)<(n:Int):=ag;have hx0:(0:Int)≤(x.av:Int):=ag;have pN:(n:Int)≤1024:=ag;have SM:=aa hc3;have pq:=aa dB;have jR:=aa kv;have iO:=aa (hc3.ai (ay (aq _ _))).fZ;clear hc3 dB kv;go_wp2_with fail;go_still_tail 8,aW;change wpList _ _ _ _ _ w3.drew;refine cU rfl 171 _ _ rfl iO.o (fun _=>rfl) x.av hx rfl (jN x) rfl rfl (sA x) e9 ?_;intro w4 hr4 hg4 tL;have y2':w4.cell? ⟨vb,2,none⟩=some (.int .i64 x.aR):=by exact(OA HH.o.bg yN.o pq.o hg4).cell 2
 have oI:=aa hr4;have uZ:=aa hg4;clear hr4 hg4 tL x8 y0 y1 y2;have JS:aG (· =q.sg) w3.drew w4:=(aG.refl _ _).grown uZ.o (fun k e=>.inl Ah);have hr4:=oI.o;rw[rR] at hr4;have K5:=(SM.o.ai (ay (aq _ _))).nA JS hr4;have mh:=OA HH.o.bg yN.o pq.o uZ.o;have jU:aG S w w4:=(jR.o.ai (ay (aq _ _))).trans (JS.mono fun k _ hk=>FH);have SJ:=aa K5;have po:=aa mh;have nU:=aa jU;clear SM pq jR iO oI uZ JS hr4 K5 mh jU;by_cases h0:x.aR=0
 ·have h0': ¬(0:Int)<x.aR:=by omega
  go_wp2_with fail;refine bodyPost_end (results_none Tryz.results158 _ _ _) rfl ⟨⟨_,rfl⟩,⟨_,HH.o.more mB kH hx (SJ.o.mono (T:=fun k=>(S k∨w.heap.size≤k)∧k<w4.heap.size) (fun k hk=>⟨.inl hk,SJ.o.lt k hk⟩) (fun k hk=>hk.2)) rfl HUN.o rfl ⟨Nat.le_succ_of_le hq.1,⟨by show q.hn≤next;omega,fun e=>absurd e (by show ¬q.hn=next;omega)⟩,Nat.le_succ_of_le hq.2.2.1⟩ (HH.o.qm.amA (Int.not_lt.2 ag) hid rfl rfl rfl rfl),by show q.hn≤q.hn+1;omega⟩,nU.o⟩
 ·have h0':(0:Int)<x.aR:=by omega
  have H0:=aa h0;clear h0;have x9:=SJ.o.own.cl 9;have x10:=SJ.o.own.cl 10;have y0:=po.o.cl 0;have y1:=po.o.cl 1;go_wp2_with fail;refine dN aW ?_;refine bc.any (S:=(fun w'=>w'.cell? ⟨b,9,none⟩=some (.pointer (some ⟨q.hp,0,none⟩))∧w'.cell? ⟨b,10,none⟩=some (.map (some q.mb))∧w'.cell? ⟨vb,0,none⟩=some (.int .u32 x.id)∧w'.cell? ⟨vb,2,none⟩=some (.int .i64 x.aR))) (t:=19) _ _ _ _ ?_;have hHeld:=(show(fun w'=>w'.cell? ⟨b,9,none⟩=some (.pointer (some ⟨q.hp,0,none⟩))∧w'.cell? ⟨b,10,none⟩=some (.map (some q.mb))∧w'.cell? ⟨vb,0,none⟩=some (.int .u32 x.id)∧w'.cell? ⟨vb,2,none⟩=some (.int .i64 x.aR)) w4.drew from⟨x9,x10,y0,y2'⟩);refine tt 0 ?_;refine tt 1 ?_;refine tt 2 ?_;refine tt 3 ?_;refine tt 4 ?_;refine tt 5 ?_;refine tt 6 ?_;refine tt 7 ?_;refine tt 8 ?_;refine tt 9 ?_;refine tt 10 ?_;refine tt 11 ?_;refine tt 12 ?_;refine tt 13 ?_;refine tt 14 ?_;refine bc.step (i:=15) aW aW rfl (fun K hK=>?_);go_simp;refine(Hp.abL q.H q.hp q.hl q.hn q.hf x.aR x.id w4.drew (SJ.o.ai (ay (aq _ _))).due ag ag).mono ?_;rintro e w5 ⟨rfl,Ex,hTp⟩;have wG:=SJ.o.ai (ay (aq _ _));have CN:=wG.X5 hTp Ex;have fY:aD w5 vb 171 #[.int .u32 x.id,.int .i64 x.av,.int .i64 x.aR]:=hTp.arr (show aD w4.drew vb _ _ from po.o) (fun hk=>by have h1:=HH.o.bg.lt vb (HH.o.bg.apart vb hk).1;have h2:=yN.o;omega);have oz:aG S w w5:=(nU.o.ai (ay (aq _ _))).trans (hTp.mono fun k _ hk=>(HH.o.bg.apart k hk).1);have x9':=CN.own.cl 9;have ahq:=CN.own.cl 10;have y0':=fY.cl 0;have ahp:=fY.cl 2;have KJ:=aa CN;have pg:=aa oz;clear wG CN fY oz Ex hTp;go_wp2_with fail;refine hK.out _ _ (by first|exact⟨x9',ahq,y0',ahp⟩) (fun Gm=>?_);clear hK K;try simp only[aQ]
  refine tp 16 ?_;refine tp 17 ?_;refine tp 18 ?_;refine bc.last aW ?_;refine kI 19 aW aW ?_;simp only[List.drop_succ_cons,List.drop_zero];refine gl rfl _ _ _ 100 rfl 39 3 .u32 Tryz.underlying39 Tryz.underlying3 Tryz.underlying100 q.mb q.hm q.φ rfl KJ.o.held QP x.id q.hn rfl rfl (WalkArith.wf_u32 ag) (WalkArith.wf_i64 (by have:=HH.o.bg.due.bound;omega)) ?_;intro w6 CM jG;have hTm:aG (· =q.mb) w5 w6:=(aG.refl _ _).grown jG (fun k e=>.inl Ah);have hc6:=KJ.o.Ej hTm CM;have pQ:aG S w w6:=pg.o.trans (hTm.mono fun k _ hk=>by subst hk;exact HH.o.bg.bt.2.2.2.2.2);have HC6:=aa hc6;have vu:=aa pQ;have HZ:=aa hTm.size;have HZ4:=aa nU.o.size;clear CM jG hTm hc6 pQ KJ pg x9 x10 y0 y1 x9' ahq y0' ahp Gm hHeld SJ po nU;go_wp2_with fail;refine bodyPost_end (results_none Tryz.results158 _ _ _) rfl ⟨⟨_,rfl⟩,⟨_,HH.o.more mB kH hx (HC6.o.mono (T:=fun k=>(S k∨w.heap.size≤k)∧k<w6.heap.size) (fun k hk=>?_) (fun k hk=>hk.2)) rfl HUN.o rfl ⟨by show q.hl+1≤_;omega,⟨by show q.hn+1≤next;omega,fun e=>⟨x,dA,by have e2:q.hn+1=next:=e;omega⟩⟩,?_⟩ (HH.o.qm.push h0' hid mB rfl rfl rfl rfl),by show q.hn+1≤q.hn+1;omega⟩,vu.o⟩
  ·have h1:=HZ.o;have h2:=HZ4.o;refine⟨?_,aP hk.2 h1⟩;rcases hk.1 with hk|hk
   ·exact .inl hk
   have Ie:w4.heap.size≤k:=hk;exact .inr ag
  show(if(q.φ x.id).isSome=true then q.hm else q.hm+1)≤_
  split <;>omega
end Bk
end
section
namespace Bk
def Ca(n au:Nat)(az:Int)(w:World)(e:Ending)(w':World): Prop:=∃ b S q,e= .returned (.tuple #[.pointer (some ⟨b,0,none⟩),.int .i64 0])∧bl S w' b n au az 1 0 [] q∧(∀ k,S k→w.heap.size≤k)∧Below w.heap.size w w'
theorem BZ{f:Nat→Slot}{t:Nat}(h: ∀ i,(f i).state≠t): ∀ n,ky.cnt f t n=0
 | 0=>rfl
 | n+1=>by rw[ky.cnt,BZ h n,if_neg (h n)]
theorem VJ{n au:Nat}{az:Int}{w w1 w5 w6 w7 w8 w9 tX:World}{sh sg mb b tp tg ip ig m hp:Nat}(uJ:w.heap.size=sh)(hn:1≤n∧n≤1024)(hc:1≤au∧au≤4096)
  (hb1:Below w.heap.size w w1) (dR:Below w1.heap.size w1 w5) (sf:aO (· =sg) w5 171 3 (.slice (some ⟨sg,0,none⟩) n n) n (fun _=>jN ⟨0,0,0⟩)) (rD:dt af 39 3 .u32 w5 mb 0 (fun _=>none))
  (cJ:w1.heap.size≤sg∧w1.heap.size≤mb∧w1.heap.size≤b) (BH:aD w5 b 102 #[.int .i64 n,.int .i64 au,.int .i64 az,.bool true,.int .i64 0,.int .u32 1,.pointer none,.pointer none,.slice (some ⟨sg,0,none⟩) n n,.pointer none,.map (some mb)])
  (hS6:fU w6 tp tg ((n+63) / 64) n (fun _=>0)) (h61:w5.heap.size≤tp∧w5.heap.size≤tg) (kB:Below w5.heap.size w5 w6) (T67:aG (· =b) w6 w7)
  (hI8:ky.dU w8 ip ig m au 0 0 0 (fun _=>⟨0,0,0⟩)) (h81:(2*au≤m∧m≤4*au)∧(w7.heap.size≤ip∧w7.heap.size≤ig)) (mC:Below w7.heap.size w7 w8) (T89:aG (· =b) w8 w9)
  (XK:bP (fun k=>w9.heap.size≤k) tX hp 0 0 (fun _=>⟨0,0,0⟩)) (vX:Below w9.heap.size w9 tX) (BI:aD tX b 102 #[.int .i64 n,.int .i64 au,.int .i64 az,.bool true,.int .i64 0,.int .u32 1,.pointer (some ⟨tp,0,none⟩),.pointer (some ⟨ip,0,none⟩),.slice (some ⟨sg,0,none⟩) n n,.pointer none,.map (some mb)]) :
  Ca n au az w (.returned (.tuple #[.pointer (some ⟨b,0,none⟩),.int .i64 0])) (tX.setCell ⟨b,9,none⟩ (.pointer (some ⟨hp,0,none⟩))):=by
 have Ys:aG (· =b) tX (tX.setCell ⟨b,9,none⟩ (.pointer (some ⟨hp,0,none⟩))):=(aG.refl (fun k=>k=b) tX).put (p:=⟨b,9,none⟩) (.inl rfl) _;have alG:(tX.setCell ⟨b,9,none⟩ (.pointer (some ⟨hp,0,none⟩))).heap.size=tX.heap.size:=dA;have hown:=BI.put 9 (.pointer (some ⟨hp,0,none⟩));obtain⟨yS,RG⟩:=ae (tX.setCell ⟨b,9,none⟩ (.pointer (some ⟨hp,0,none⟩)));rw[RG] at Ys alG hown ⊢;have amI:aG (· =b) w9 yS:=((aG.refl _ _).ai vX).trans Ys;have agE:=T89.trans amI;have amJ:aG (· =b) w7 yS:=((aG.refl _ _).ai mC).trans agE;have agF:=T67.trans amJ;have agG:aG (· =b) w5 yS:=((aG.refl _ _).ai kB).trans agF;have z1:=hb1.size;have z5:=dR.size;have z6:=kB.size;have z7:=T67.size;have z8:=mC.size;have z9:=T89.size;have z10:=vX.size;obtain⟨cs,asg⟩:=sf.arr;have lsg:=asg.lt;have lmb:=rD.lt;have lb:=BH.lt;have ltp:=hS6.own.lt;obtain⟨cur,S7,_⟩:=hS6.row;have ltg:tg<w6.heap.size:=aD.lt (t:=22) (cs:=cur) S7;have lip:=hI8.own.lt;have lig:=hI8.rows.lt;have nsg: ¬sg=b:=iz asg BH aM;have nmb: ¬mb=b:=fun e=>Hp.dn rD BH e.symm
 refine⟨b,fun k=>w.heap.size≤k∧k<yS.heap.size,{tp:=tp,tg:=tg,tc:=(n+63) / 64,ip:=ip,ig:=ig,m:=m,gr:=0,sg:=sg,sc:=n,hp:=hp,hl:=0,mb:=mb,hm:=0,ws:=fun _=>0,f:=fun _=>⟨0,0,0⟩,sb:=fun _=>⟨0,0,0⟩,hn:=0,hf:=fun _=>⟨0,0,0⟩,φ:=fun _=>none,H:=fun k=>w9.heap.size≤k∧k<yS.heap.size},rfl,⟨⟨hown,?_,?_,?_,?_,?_,?_,?_,fun k hk=>hk.2⟩,?_,?_,?_,?_,?_,⟨rfl,rfl,(fun x hx=>by cases hx),(fun y ⟨i,hi,_⟩=>absurd hi (Nat.not_lt_zero _)),(fun _ _=>rfl),(fun i h1 h2=>absurd h2 (Nat.not_lt_zero _)),(fun x hx=>by cases hx)⟩⟩,fun k hk=>hk.1,?_⟩
 ·exact uS hS6 (agF.block tp ltp ag) (agF.block tg ltg ag)
 ·have amx:ky.CP (fun _=>⟨0,0,0⟩) m:=⟨fun i _=>Nat.zero_le _,fun i j _ _ h=>mo,fun id e _ h=>mo⟩;have hc1:ky.cnt (fun _=>(⟨0,0,0⟩:Slot)) 1 m=0:=BZ (fun _=>(by decide:(0:Nat)≠1)) m;have hc2:ky.cnt (fun _=>(⟨0,0,0⟩:Slot)) 2 m=0:=BZ (fun _=>(by decide:(0:Nat)≠2)) m;exact fc.same (w:=w8) ⟨⟨0,hI8⟩,amx,hc1,hc2,(show 0≤au∧2*au≤m∧1≤au∧au≤4096∧m≤16384 from ag)⟩ (agE.block ip lip ag) (agE.block ig lig ag)
 ·exact(sf.OU (agG.block sg lsg nsg)).mono fun k hk _=>by have:k=sg:=hk;omega
 ·exact(XK.same fun k hk hk2=>Ys.block k hk2 (by have:w9.heap.size≤k:=hk;omega)).mono fun k hk hk2=>⟨hk,hk2⟩
 ·exact rD.same (agG.block mb lmb nmb)
 ·exact⟨⟨ag,ag⟩,⟨(show w.heap.size≤tp from ag),(show tp<yS.heap.size from ag)⟩,⟨(show w.heap.size≤tg from ag),(show tg<yS.heap.size from ag)⟩,⟨(show w.heap.size≤ip from ag),(show ip<yS.heap.size from ag)⟩,⟨(show w.heap.size≤ig from ag),(show ig<yS.heap.size from ag)⟩,⟨(show w.heap.size≤mb from ag),(show mb<yS.heap.size from ag)⟩⟩
 ·intro k hk;obtain⟨h1,h2⟩:w9.heap.size≤k∧k<yS.heap.size:=hk;exact⟨⟨ag,h2⟩,ag,(show k≠tp from ag),(show k≠tg from ag),(show k≠ip from ag),(show k≠ig from ag),(show k≠sg from ag),(show k≠mb from ag)⟩
 ·intro i hi;have:hasB (fun _=>0) i=false:=by unfold hasB;exact Nat.zero_testBit _
  rw[this];simp
 ·intro x hx;cases hx
 ·intro j hj h;cases h
 ·intro x hx;cases hx
 ·exact⟨aL _,⟨(by decide:(0:Int)≤1),fun e=>absurd (show(0:Int)=1 from e) aM⟩,aL _,hn⟩
 ·have T1:aG (· =b) w1 yS:=((aG.refl _ _).ai dR).trans agG;exact aG.nz hb1 T1 (fun k hk=>by have:k=b:=hk;omega)
theorem PV(n au:Nat)(az:Int)(w:World)(h:tS.CF n au az=true): Calls af 31 #[.agg #[.int .i64 n,.int .i64 au,.int .i64 az]] w (Ca n au az w):=by
 obtain⟨i0,hi,hz0,hz1,hz2⟩:=info_parts Ke;have fz:=tS.lL h;have Xj:=@run_makeMap af;have HC:=aa (fun W=>tS.EC n au az W h);have pN:1≤n∧n≤1024:=ag;have aa3:1≤au∧au≤4096:=ag;have hnz: ¬(n:Int)<0:=ag;clear h fz;go_enter Tryz.func31,Tryz.ntmps31;go_wp2_with fail;refine(HC.o _).mono ?_;rintro e w1 ⟨rfl,hb1⟩;have RV:=(aD.fresh w 80 #[.int .i64 n,.int .i64 au,.int .i64 az]).keep hb1;have XO:=ar (aw (aq w.heap.size w) (.cells #[.int .i64 n,.int .i64 au,.int .i64 az] 80)) hb1;obtain⟨sh,uJ⟩:=ae w.heap.size;rw[uJ] at RV ⊢;have Ck:=aa uJ;have qC: ∀ w',Below w1.heap.size w1 w'→(w'.cell? ⟨sh,0,none⟩=some (.int .i64 n)∧w'.cell? ⟨sh,1,none⟩=some (.int .i64 au)∧w'.cell? ⟨sh,2,none⟩=some (.int .i64 az)∧Below w1.heap.size w1 w'):=fun w' hb=>⟨(RV.keep hb).cell 0,(RV.keep hb).cell 1,(RV.keep hb).cell 2,hb⟩
 have qC:=aa qC;have bu:=aa XO;have HA0:=aa RV;clear hb1 RV XO uJ;go_wp2_with fail;refine sY (S:=(fun w'=>w'.cell? ⟨sh,0,none⟩=some (.int .i64 n)∧w'.cell? ⟨sh,1,none⟩=some (.int .i64 au)∧w'.cell? ⟨sh,2,none⟩=some (.int .i64 az)∧Below w1.heap.size w1 w')) OM fun hHeld=>?_
 refine kW 0 1 2 3 ?_;refine qc 4 5 (fun K hK=>?_) fun K hK=>?_
 ·rw[if_pos iN];refine mP _ (.tmp 14) (.tmp 14) 98 rfl 171 i0 (.agg #[.int .u32 0,.int .i64 0,.int .i64 0]) 3 Tryz.underlying98 hi hz0 hz1 rfl aM n rfl rfl (by rw[hz2];omega) QP ?_;intro w4 hr4 hg4;have hb4:Below w1.heap.size w1 w4:=Below.grown (ay (aq _ _)) hg4 (aL _) dA;obtain⟨sg,Z8⟩:=ae w1.heap.size;have yX:aO (· =sg) w4 171 3 (.slice (some ⟨sg,0,none⟩) n n) n (fun _=>jN ⟨0,0,0⟩):=Z8▸hr4;rw[show(World.drew w1).heap.size=sg from Z8];have oI:=aa yX;have gI:=aa hb4;have HSG:=aa Z8;clear hr4 hg4 yX Z8;refine hK.out _ _ (qC.o _ gI.o) (fun oX=>?_);clear hK K;try simp only[aQ]
  refine cD 5 fun K hK=>?_
  go_simp;go_wp2_with fail;refine hK.out _ _ (qC.o _ (aw gI.o _)) (fun jA=>?_);clear hK K;try simp only[aQ]
  refine ty 6 ?_;refine cD 7 fun K hK=>?_
  go_simp;go_wp2_with fail;refine hK.out _ _ (qC.o _ (aw (aw gI.o _) _)) (fun nK=>?_);clear hK K;try simp only[aQ]
  refine ty 8 ?_;refine bF ?_;have BH:aD ((w4.alloc (.map #[] 0)).alloc (.cells #[.int .i64 n,.int .i64 au,.int .i64 az,.bool true,.int .i64 0,.int .u32 1,.pointer none,.pointer none,.slice (some ⟨sg,0,none⟩) n n,.pointer none,.map (some w4.heap.size)] 102)) (w4.heap.size+1) 102 #[.int .i64 n,.int .i64 au,.int .i64 az,.bool true,.int .i64 0,.int .u32 1,.pointer none,.pointer none,.slice (some ⟨sg,0,none⟩) n n,.pointer none,.map (some (w4.heap.size))]:=aD.new dA;have dR:Below w1.heap.size w1 ((w4.alloc (.map #[] 0)).alloc (.cells #[.int .i64 n,.int .i64 au,.int .i64 az,.bool true,.int .i64 0,.int .u32 1,.pointer none,.pointer none,.slice (some ⟨sg,0,none⟩) n n,.pointer none,.map (some w4.heap.size)] 102)):=aw (aw gI.o _) _;have sf:aO (· =sg) ((w4.alloc (.map #[] 0)).alloc (.cells #[.int .i64 n,.int .i64 au,.int .i64 az,.bool true,.int .i64 0,.int .u32 1,.pointer none,.pointer none,.slice (some ⟨sg,0,none⟩) n n,.pointer none,.map (some w4.heap.size)] 102)) 171 3 (.slice (some ⟨sg,0,none⟩) n n) n (fun _=>jN ⟨0,0,0⟩):=oI.o.keep (aw (aw (aq _ _) _) _);have rD:dt af 39 3 .u32 ((w4.alloc (.map #[] 0)).alloc (.cells #[.int .i64 n,.int .i64 au,.int .i64 az,.bool true,.int .i64 0,.int .u32 1,.pointer none,.pointer none,.slice (some ⟨sg,0,none⟩) n n,.pointer none,.map (some w4.heap.size)] 102)) (w4.heap.size) 0 (fun _=>none):=(dt.made _ _ _ _ w4).alloc _;have cJ:w1.heap.size≤sg∧w1.heap.size≤(w4.heap.size)∧w1.heap.size≤(w4.heap.size+1):=by
   have h1:=HSG.o;have h2:w1.heap.size≤w4.heap.size:=gI.o.size;omega
  obtain⟨w5,jK⟩:=ae ((w4.alloc (.map #[] 0)).alloc (.cells #[.int .i64 n,.int .i64 au,.int .i64 az,.bool true,.int .i64 0,.int .u32 1,.pointer none,.pointer none,.slice (some ⟨sg,0,none⟩) n n,.pointer none,.map (some w4.heap.size)] 102));rw[jK] at BH dR sf rD;rw[show((w4.alloc (.map #[] 0)).alloc (.cells #[.int .i64 n,.int .i64 au,.int .i64 az,.bool true,.int .i64 0,.int .u32 1,.pointer none,.pointer none,.slice (some ⟨sg,0,none⟩) n n,.pointer none,.map (some w4.heap.size)] 102))=w5 from jK];obtain⟨b,hb⟩:=ae ((w4.heap.size+1));obtain⟨mb,MW⟩:=ae ((w4.heap.size));exact adG
 go_simp;go_wp2_with fail;refine hK.out _ _ (qC.o _ (aw (ay (aq _ _)) _)) (fun jA=>?_);clear hK K;try simp only[aQ]
 refine cD 4 fun K hK=>?_
 rw[if_pos iN];refine mP _ (.tmp 14) (.tmp 14) 98 rfl 171 i0 (.agg #[.int .u32 0,.int .i64 0,.int .i64 0]) 3 Tryz.underlying98 hi hz0 hz1 rfl aM n rfl rfl (by rw[hz2];omega) QP ?_;intro w4 hr4 hg4;have hb4:Below w1.heap.size w1 w4:=Below.grown (aw (ay (aq _ _)) _) hg4 dA dA;obtain⟨sg,Z8⟩:=ae (w1.heap.size+1);have hsz:(w1.alloc (.map #[] 0)).drew.heap.size=sg:=by rw[←Z8];simp
 have xM:dt af 39 3 .u32 w4 w1.heap.size 0 (fun _=>none):=(dt.made _ _ _ _ w1.drew).same (hg4.block _ dA dA);have yX:aO (· =sg) w4 171 3 (.slice (some ⟨sg,0,none⟩) n n) n (fun _=>jN ⟨0,0,0⟩):=hsz▸hr4;rw[show(w1.alloc (.map #[] 0)).drew.heap.size=sg from hsz];have oI:=aa yX;have gI:=aa hb4;have HSG:=aa (show w1.heap.size≤sg∧sg<w4.heap.size by have:=yX.form ag;obtain⟨_,_,e,_,_,_,l⟩:=this;injection e with e;injection e with e;injection e with e;subst e;omega);have Sz:=aa xM;clear hr4 hg4 yX Z8 hsz xM hb4;refine hK.out _ _ (qC.o _ gI.o) (fun oX=>?_);clear hK K;try simp only[aQ]
 refine ty 6 ?_;refine cD 7 fun K hK=>?_
 go_simp;go_wp2_with fail;refine hK.out _ _ (qC.o _ (aw gI.o _)) (fun nK=>?_);clear hK K;try simp only[aQ]
 refine ty 8 ?_;refine bF ?_;have BH:aD (w4.alloc (.cells #[.int .i64 n,.int .i64 au,.int .i64 az,.bool true,.int .i64 0,.int .u32 1,.pointer none,.pointer none,.slice (some ⟨sg,0,none⟩) n n,.pointer none,.map (some w1.heap.size)] 102)) (w4.heap.size) 102 #[.int .i64 n,.int .i64 au,.int .i64 az,.bool true,.int .i64 0,.int .u32 1,.pointer none,.pointer none,.slice (some ⟨sg,0,none⟩) n n,.pointer none,.map (some (w1.heap.size))]:=aD.new dA;have dR:Below w1.heap.size w1 (w4.alloc (.cells #[.int .i64 n,.int .i64 au,.int .i64 az,.bool true,.int .i64 0,.int .u32 1,.pointer none,.pointer none,.slice (some ⟨sg,0,none⟩) n n,.pointer none,.map (some w1.heap.size)] 102)):=aw gI.o _;have sf:aO (· =sg) (w4.alloc (.cells #[.int .i64 n,.int .i64 au,.int .i64 az,.bool true,.int .i64 0,.int .u32 1,.pointer none,.pointer none,.slice (some ⟨sg,0,none⟩) n n,.pointer none,.map (some w1.heap.size)] 102)) 171 3 (.slice (some ⟨sg,0,none⟩) n n) n (fun _=>jN ⟨0,0,0⟩):=oI.o.keep (aw (aq _ _) _);have rD:dt af 39 3 .u32 (w4.alloc (.cells #[.int .i64 n,.int .i64 au,.int .i64 az,.bool true,.int .i64 0,.int .u32 1,.pointer none,.pointer none,.slice (some ⟨sg,0,none⟩) n n,.pointer none,.map (some w1.heap.size)] 102)) (w1.heap.size) 0 (fun _=>none):=Sz.o.alloc _;have cJ:w1.heap.size≤sg∧w1.heap.size≤(w1.heap.size)∧w1.heap.size≤(w4.heap.size):=by
  have h1:=HSG.o;have h2:w1.heap.size≤w4.heap.size:=gI.o.size;omega
 obtain⟨w5,jK⟩:=ae (w4.alloc (.cells #[.int .i64 n,.int .i64 au,.int .i64 az,.bool true,.int .i64 0,.int .u32 1,.pointer none,.pointer none,.slice (some ⟨sg,0,none⟩) n n,.pointer none,.map (some w1.heap.size)] 102));rw[jK] at BH dR sf rD;rw[show(w4.alloc (.cells #[.int .i64 n,.int .i64 au,.int .i64 az,.bool true,.int .i64 0,.int .u32 1,.pointer none,.pointer none,.slice (some ⟨sg,0,none⟩) n n,.pointer none,.map (some w1.heap.size)] 102))=w5 from jK];obtain⟨b,hb⟩:=ae ((w4.heap.size));obtain⟨mb,MW⟩:=ae w1.heap.size;exact adG
