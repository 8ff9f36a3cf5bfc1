import Derived.Test.YtemighjbfanenaaGreatDoorQk13
import Derived.Test.YtemighjbfanenaaGreatDoorQk14
set_option linter.all false
set_option maxRecDepth 100000
set_option maxHeartbeats 16000000
namespace Go.Proofs.YtemighjbfanenaaGreatDoor
open RowKit
open yj (fU hasB)
open km (eW Slot)
open Hp (eI bP)
open And renaming intro→dz
open Go.Proofs.Tryz renaming prog→af
open List renaming mem_append_left→zR,mem_append→kR
open Nat renaming lt_of_lt_of_le→aU,le_refl→aY
open RowKit.Below renaming refl→ar
theorem acK{p:Prop}(h:p:=by
 simp only[hb] at Bv rJ ⊢;simp only[Y0] at Bv rJ ⊢;have fF:w1.heap.size≤sg∧w1.heap.size≤mb∧w1.heap.size≤b:=ai;have Yo:=aa Bv;have eu:=aa dU;have qG:=aa sk;have F9:=aa rJ;have p3:=aa fF;clear jD hb Y0 Bv dU sk rJ fF nV gj Zd ju o8 lI hHeld;have c0:w5.cell? ⟨sh,0,none⟩=some (.int .i64 n):=(tu.o _ eu.o).1;go_wp2_with fail;refine(yj.uQ n ai _).mono ?_;rintro e w6 ⟨tp,tg,rfl,hS6,h61,h62,mZ⟩;have Wk:=Yo.o.ah mZ;have agX: ¬sh=b:=by have h1:=HA0.o.lt;have h2:=p3.o;omega
 have amw: ¬b=sh:=fun e=>agX e.symm
 have d1:w6.cell? ⟨sh,1,none⟩=some (.int .i64 au):=((HA0.o.ah eu.o).ah mZ).cell 1;have k6:w6.cell? ⟨b,6,none⟩=some (.pointer none):=Wk.cell 6;have m6:=Wk.mark 6;have RT:=Wk.lt;have HS6:=aa hS6;have H61:=aa (dz h61 h62);have iL:=aa mZ;have alD:=aa Wk;clear hS6 h61 h62 mZ Wk c0;go_wp2_with fail;have aeS:=alD.o.put 6 (.pointer (some ⟨tp,0,none⟩));have T67:=(aI.refl (· =b) w6).put (p:=⟨b,6,none⟩) (.inl rfl) (.pointer (some ⟨tp,0,none⟩));obtain⟨w7,wE⟩:=ae (w6.setCell ⟨b,6,none⟩ (.pointer (some ⟨tp,0,none⟩)));rw[wE] at aeS T67 ⊢;have M4:=aa aeS;have ak7:=aa T67;clear wE aeS T67 d1 k6 m6 RT;refine(km.uQ au aai.1 aai.2 w7).mono ?_;rintro e w8 ⟨ip,ig,m,rfl,hI8,hm8,ahk,h81,h82,mY⟩;have Wj:=M4.o.ah mY;have k7:w8.cell? ⟨b,7,none⟩=some (.pointer none):=Wj.cell 7;have m7:=Wj.mark 7;have hl8:=Wj.lt;have HI8:=aa hI8;have H81:=aa (dz (dz hm8 ahk) (dz h81 h82));have ou:=aa mY;have alC:=aa Wj;clear hI8 hm8 ahk h81 h82 mY Wj;go_wp2_with fail;have aeR:=alC.o.put 7 (.pointer (some ⟨ip,0,none⟩));have T89:=(aI.refl (· =b) w8).put (p:=⟨b,7,none⟩) (.inl rfl) (.pointer (some ⟨ip,0,none⟩));obtain⟨w9,jI⟩:=ae (w8.setCell ⟨b,7,none⟩ (.pointer (some ⟨ip,0,none⟩)));rw[jI] at aeR T89 ⊢;have alB:=aa aeR;have ak6:=aa T89;clear jI aeR T89 k7 m7 hl8;refine(Hp.uQ w9).mono ?_;rintro e vg ⟨hp,rfl,Wr,vT⟩;have Bw:=alB.o.ah vT;have k9:vg.cell? ⟨b,9,none⟩=some (.pointer none):=Bw.cell 9;have m9:=Bw.mark 9;have aho:=Bw.lt;have alr:=aa Wr;have alF:=aa vT;have ajs:=aa Bw;clear Wr vT Bw;go_wp2_with fail;go_ret2;exact UE Hj.o sZ aai bA.o eu.o qG.o F9.o p3.o Yo.o HS6.o H61.o iL.o ak7.o HI8.o H81.o ou.o ak6.o alr.o alF.o ajs.o):p:=h
theorem ab8{p:Prop}(h:p:=by
 go_wp2_with fail;refine HC.o.mono ?_;rintro e w1 ⟨rfl,h1,h2⟩;have H1:=aa h1;have H2:=aa h2;clear h1 h2;go_wp2_with fail;go_ret;exact⟨rfl,H1.o,H2.o⟩):p:=h
theorem l9{p:Prop}(h:p:=by injection e with e;omega):p:=h
theorem NL{p:Prop}(h:p:=by exact tu.o _ (az (ar _ _))):p:=h
theorem E9{p:Prop}(h:p:=by subst hk;exact HH.o.bg.gh.block _ rfl):p:=h
theorem oX{p:Prop}(h:p:=by simpa using hy):p:=h
section
section
namespace tP
theorem D9(a b c:Int)(w:World)(h:Ct a b c=true):
  Calls af 90 #[.agg #[.int .i64 a,.int .i64 b,.int .i64 c]] w fun e w'=>e= .returned (.int .i64 0)∧Below w.heap.size w w':=by
 obtain⟨h1,h2,h3,h4,h5,h6⟩:=lR h;clear h;go_enter Tryz.func90,Tryz.ntmps90;go_wp2;go_ret;exact⟨rfl,(ar _ _).alloc (aY _) _⟩
theorem WU(a b c:Int)(w:World)(h:Ct a b c=false):
  Calls af 90 #[.agg #[.int .i64 a,.int .i64 b,.int .i64 c]] w fun e w'=>e= .returned (.int .i64 90)∧Below w.heap.size w w':=by
 have HH:=aa (UB h);clear h;go_enter Tryz.func90,Tryz.ntmps90;go_wp2;all_goals first
  | (go_ret;exact⟨rfl,(ar _ _).alloc (aY _) _⟩)
  | (exfalso;have:=HH.o;(try simp at *);omega)
theorem nD(a b c:Int)(w:World)(h:Ct a b c=true):
  Calls af 109 #[.agg #[.int .i64 a,.int .i64 b,.int .i64 c]] w fun e w'=>e= .returned (.int .i64 0)∧Below w.heap.size w w':=by
 obtain⟨h1,h2,h3,h4,h5,h6⟩:=lR h;clear h;go_enter Tryz.func109,Tryz.ntmps109;go_wp2;go_ret;exact⟨rfl,(ar _ _).alloc (aY _) _⟩
end tP
end
section
namespace Bk
structure bS where
 id:Int
 aw:Nat
 aR:Int
def jf(x:bS): List Value:=[.int .u32 x.id,.int .i64 x.aw,.int .i64 x.aR]
theorem sD(x:bS): ∀ u∈jf x,u.oneCell'=true:=by
 intro u hu;simp only[jf,List.mem_cons,List.not_mem_nil,or_false] at hu;rcases hu with rfl|rfl|rfl <;>rfl
theorem JK: (af.info? 171).map (fun i=>(i.zero,i.size,i.bytes))=some (some (.agg #[.int .u32 0,.int .i64 0,.int .i64 0]),3,24):=bh
theorem eV: (af.info? 171).map (·.size)=some 3:=bh
structure bI where
 tp:Nat
 tg:Nat
 tc:Nat
 ip:Nat
 ig:Nat
 m:Nat
 sg:Nat
 sc:Nat
 hp:Nat
 hl:Nat
 mb:Nat
 hm:Nat
 ws:Nat→Nat
 gr:Nat
 f:Nat→Slot
 sb:Nat→bS
 hn:Int
 hf:Nat→eI
 φ:Int→Option Int
 H:Nat→Prop
structure cG(S:Nat→Prop)(w:World)(b n au:Nat)(aA next aq:Int)(len:Nat)(q:bI): Prop where
 own:aG w b 102 #[.int .i64 n,.int .i64 au,.int .i64 aA,.bool true,.int .i64 aq,.int .u32 next,.pointer (some ⟨q.tp,0,none⟩),.pointer (some ⟨q.ip,0,none⟩),.slice (some ⟨q.sg,0,none⟩) n q.sc,.pointer (some ⟨q.hp,0,none⟩),.map (some q.mb)]
 taken:fU w q.tp q.tg q.tc n q.ws
 ids:eW w q.ip q.ig q.m au len q.gr q.f
 gh:aP S w 171 3 (.slice (some ⟨q.sg,0,none⟩) n q.sc) n (fun i=>jf (q.sb i))
 due:bP q.H w q.hp q.hl q.hn q.hf
 held:dt af 39 3 .u32 w q.mb q.hm q.φ
 bB:S b∧S q.tp∧S q.tg∧S q.ip∧S q.ig∧S q.mb
 apart: ∀ k,q.H k→S k∧k≠b∧k≠q.tp∧k≠q.tg∧k≠q.ip∧k≠q.ig∧k≠q.sg∧k≠q.mb
 lt: ∀ k,S k→k<w.heap.size
section
variable {S:Nat→Prop}{w w':World}{b n au:Nat}{aA next aq:Int}{len:Nat}{q:bI}
theorem cG.BR(h:cG S w b n au aA next aq len q): (∃ cs,aG w b 102 cs)∧(∃ cs,aG w q.tp 312 cs)∧(∃ cs,aG w q.tg 22 cs)∧(∃ cs,aG w q.ip 315 cs)∧(∃ cs,aG w q.ig 358 cs)∧(∃ cs,aG w q.sg 171 cs):=by
 obtain⟨cur,h1,_⟩:=h.taken.row;obtain⟨s,hs⟩:=h.ids.cw;obtain⟨akU,h2,_⟩:=hs.rows;exact⟨⟨_,h.own⟩,⟨_,h.taken.own⟩,⟨cur,h1⟩,⟨_,hs.own⟩,⟨akU,h2⟩,h.gh.arr⟩
variable{T:Nat→Prop}
theorem uP{p g c n:Nat}{ws:Nat→Nat}(h:fU w p g c n ws)(hp:w'.heap[p]? =w.heap[p]?)(hg:w'.heap[g]? =w.heap[g]?): fU w' p g c n ws:=by
 obtain⟨cur,h1,h2⟩:=h.row;exact⟨hp.trans h.own,⟨cur,hg.trans h1,h2⟩,h.small,h.apart⟩
theorem cG.qj(h:cG S w b n au aA next aq len q)(ht:aI T w w')(hT: ¬T b): aG w' b 102 #[.int .i64 n,.int .i64 au,.int .i64 aA,.bool true,.int .i64 aq,.int .u32 next,.pointer (some ⟨q.tp,0,none⟩),.pointer (some ⟨q.ip,0,none⟩),.slice (some ⟨q.sg,0,none⟩) n q.sc,.pointer (some ⟨q.hp,0,none⟩),.map (some q.mb)]:=ht.arr h.own hT
theorem cG.lF(h:cG S w b n au aA next aq len q)(ht:aI T w w')(h1: ¬T q.tp)(h2: ¬T q.tg): fU w' q.tp q.tg q.tc n q.ws:=by
 obtain⟨_,⟨_,a1⟩,⟨_,a2⟩,_⟩:=h.BR;exact uP h.taken (ht.block _ a1.lt h1) (ht.block _ a2.lt h2)
theorem cG.qm(h:cG S w b n au aA next aq len q)(ht:aI T w w')(h1: ¬T q.ip)(h2: ¬T q.ig): eW w' q.ip q.ig q.m au len q.gr q.f:=
 h.ids.same (ht.block _ h.ids.lt.1 h1) (ht.block _ h.ids.lt.2 h2)
theorem cG.lG(h:cG S w b n au aA next aq len q)(ht:aI T w w')(h1: ¬T q.sg): aP S w' 171 3 (.slice (some ⟨q.sg,0,none⟩) n q.sc) n (fun i=>jf (q.sb i)):=by
 obtain⟨_,_,_,_,_,⟨_,a⟩⟩:=h.BR;exact h.gh.NU (ht.block _ a.lt h1)
theorem cG.sY(h:cG S w b n au aA next aq len q)(ht:aI T w w')(h1: ∀ k,q.H k→¬T k): bP q.H w' q.hp q.hl q.hn q.hf:=
 h.due.same fun k hk hl=>ht.block k hl (h1 k hk)
theorem cG.nI(h:cG S w b n au aA next aq len q)(ht:aI T w w')(h1: ¬T q.mb): dt af 39 3 .u32 w' q.mb q.hm q.φ:=
 h.held.same (ht.block _ h.held.lt h1)
theorem cG.ak(h:cG S w b n au aA next aq len q)(hb:Below w.heap.size w w'): cG S w' b n au aA next aq len q:=by
 have ht:aI (fun _=>False) w w':=⟨hb.os,hb.tape,hb.output,hb.size,fun k hk _=>hb.block k hk⟩;exact⟨h.qj ht id,h.lF ht id id,h.qm ht id id,h.lG ht id,h.sY ht (fun _ _=>id),h.nI ht id,h.bB,h.apart,fun k hk=>aU (h.lt k hk) hb.size⟩
theorem cG.same(h:cG S w b n au aA next aq len q)(hz:w.heap.size≤w'.heap.size)(hk: ∀ k,S k→k<w.heap.size→w'.heap[k]? =w.heap[k]?): cG S w' b n au aA next aq len q:=by
 obtain⟨⟨_,a0⟩,⟨_,a1⟩,⟨_,a2⟩,⟨_,a3⟩,⟨_,a4⟩,⟨_,a5⟩⟩:=h.BR;obtain⟨s0,s1,s2,s3,s4,s5⟩:=h.bB;exact⟨(hk b s0 a0.lt).trans h.own,uP h.taken (hk _ s1 a1.lt) (hk _ s2 a2.lt),h.ids.same (hk _ s3 a3.lt) (hk _ s4 a4.lt),h.gh.NU (hk _ (h.gh.block _ rfl) a5.lt),h.due.same fun k hH hl=>hk k (h.apart k hH).1 hl,h.held.same (hk _ s5 h.held.lt),h.bB,h.apart,fun k hk=>aU (h.lt k hk) hz⟩
theorem cG.mono(h:cG S w b n au aA next aq len q)(p7: ∀ k,S k→T k)(hT: ∀ k,T k→k<w.heap.size): cG T w b n au aA next aq len q:=
 ⟨h.own,h.taken,h.ids,h.gh.mono fun k hk _=>p7 k hk,h.due,h.held,⟨p7 _ h.bB.1,p7 _ h.bB.2.1,p7 _ h.bB.2.2.1,p7 _ h.bB.2.2.2.1,p7 _ h.bB.2.2.2.2.1,p7 _ h.bB.2.2.2.2.2⟩,fun k hk=>⟨p7 k (h.apart k hk).1,(h.apart k hk).2⟩,hT⟩
theorem cG.vN(h:cG S w b n au aA next aq len q)(ht:aI (fun k=>k=q.ip∨k=q.ig) w w'){agD gr:Nat}{f:Nat→Slot}(hi:eW w' q.ip q.ig q.m au agD gr f): cG S w' b n au aA next aq agD {q with gr:=gr,f:=f}:=by
 obtain⟨⟨_,a0⟩,⟨_,a1⟩,⟨_,a2⟩,⟨_,a3⟩,⟨_,a4⟩,⟨_,a5⟩⟩:=h.BR;have ne: ∀ {p:Nat} {t:TypeId} {cs:Array Value},aG w p t cs→t≠315→t≠358→¬(p=q.ip∨p=q.ig):=fun a h1 h2 e=>by
  rcases e with e|e
  ·exact iq a a3 h1 e
  exact iq a a4 h2 e
 exact⟨h.qj ht (ne a0 aM aM),h.lF ht (ne a1 aM aM) (ne a2 aM aM),hi,h.lG ht (ne a5 aM aM),h.sY ht (fun k hk e=>by rcases e with e|e;exact(h.apart k hk).2.2.2.2.1 e;exact(h.apart k hk).2.2.2.2.2.1 e),h.nI ht (fun e=>by rcases e with e|e;exact Hp.dp h.held a3 e.symm;exact Hp.dp h.held a4 e.symm),h.bB,h.apart,fun k hk=>aU (h.lt k hk) ht.size⟩
theorem cG.qd(h:cG S w b n au aA next aq len q)(ht:aI (· =q.tg) w w'){ws:Nat→Nat}(hi:fU w' q.tp q.tg q.tc n ws): cG S w' b n au aA next aq len {q with ws:=ws}:=by
 obtain⟨⟨_,a0⟩,⟨_,a1⟩,⟨_,a2⟩,⟨_,a3⟩,⟨_,a4⟩,⟨_,a5⟩⟩:=h.BR;exact⟨h.qj ht (iq a0 a2 aM),hi,h.qm ht (iq a3 a2 aM) (iq a4 a2 aM),h.lG ht (iq a5 a2 aM),h.sY ht (fun k hk=>(h.apart k hk).2.2.2.1),h.nI ht (fun e=>Hp.dp h.held a2 e.symm),h.bB,h.apart,fun k hk=>aU (h.lt k hk) ht.size⟩
theorem cG.nB(h:cG S w b n au aA next aq len q)(ht:aI (· =q.sg) w w'){sb:Nat→bS}(hi:aP S w' 171 3 (.slice (some ⟨q.sg,0,none⟩) n q.sc) n (fun i=>jf (sb i))): cG S w' b n au aA next aq len {q with sb:=sb}:=by
 obtain⟨⟨_,a0⟩,⟨_,a1⟩,⟨_,a2⟩,⟨_,a3⟩,⟨_,a4⟩,⟨_,a5⟩⟩:=h.BR;exact⟨h.qj ht (iq a0 a5 aM),h.lF ht (iq a1 a5 aM) (iq a2 a5 aM),h.qm ht (iq a3 a5 aM) (iq a4 a5 aM),hi,h.sY ht (fun k hk=>(h.apart k hk).2.2.2.2.2.2.1),h.nI ht (fun e=>Hp.dp h.held a5 e.symm),h.bB,h.apart,fun k hk=>aU (h.lt k hk) ht.size⟩
theorem cG.DR(h:cG S w b n au aA next aq len q)(ht:aI (· =q.mb) w w'){hm:Nat}{φ:Int→Option Int}(hi:dt af 39 3 .u32 w' q.mb hm φ): cG S w' b n au aA next aq len {q with hm:=hm,φ:=φ}:=by
 obtain⟨⟨_,a0⟩,⟨_,a1⟩,⟨_,a2⟩,⟨_,a3⟩,⟨_,a4⟩,⟨_,a5⟩⟩:=h.BR;exact⟨h.qj ht (Hp.dp h.held a0),h.lF ht (Hp.dp h.held a1) (Hp.dp h.held a2),h.qm ht (Hp.dp h.held a3) (Hp.dp h.held a4),h.lG ht (Hp.dp h.held a5),h.sY ht (fun k hk=>(h.apart k hk).2.2.2.2.2.2.2),hi,h.bB,h.apart,fun k hk=>aU (h.lt k hk) ht.size⟩
theorem cG.WN(h:cG S w b n au aA next aq len q)(ht:aI q.H w w'){hl:Nat}{hn:Int}{hf:Nat→eI}(hi:bP (fun k=>q.H k∨w.heap.size≤k) w' q.hp hl hn hf):
  cG (fun k=>(S k∨w.heap.size≤k)∧k<w'.heap.size) w' b n au aA next aq len {q with hl:=hl,hn:=hn,hf:=hf,H:=fun k=>(q.H k∨w.heap.size≤k)∧k<w'.heap.size}:=by
 obtain⟨⟨_,a0⟩,⟨_,a1⟩,⟨_,a2⟩,⟨_,a3⟩,⟨_,a4⟩,⟨_,a5⟩⟩:=h.BR;have l0:=a0.lt;have l1:=a1.lt;have l2:=a2.lt;have l3:=a3.lt;have l4:=a4.lt;have l6:=a5.lt;have l5:=h.held.lt;have hz:=ht.size;have hno: ∀ x,(∀ k,q.H k→k≠x)→¬q.H x:=fun x hx e=>hx x e rfl
 refine⟨h.qj ht (hno _ fun k hk=>(h.apart k hk).2.1),h.lF ht (hno _ fun k hk=>(h.apart k hk).2.2.1) (hno _ fun k hk=>(h.apart k hk).2.2.2.1),h.qm ht (hno _ fun k hk=>(h.apart k hk).2.2.2.2.1) (hno _ fun k hk=>(h.apart k hk).2.2.2.2.2.1),(h.lG ht (hno _ fun k hk=>(h.apart k hk).2.2.2.2.2.2.1)).mono fun k hk hk2=>⟨.inl hk,hk2⟩,hi.mono fun k hk hk2=>⟨hk,hk2⟩,h.nI ht (hno _ fun k hk=>(h.apart k hk).2.2.2.2.2.2.2),⟨⟨.inl h.bB.1,(show b<w'.heap.size from ai)⟩,⟨.inl h.bB.2.1,(show q.tp<w'.heap.size from ai)⟩,⟨.inl h.bB.2.2.1,(show q.tg<w'.heap.size from ai)⟩,⟨.inl h.bB.2.2.2.1,(show q.ip<w'.heap.size from ai)⟩,⟨.inl h.bB.2.2.2.2.1,(show q.ig<w'.heap.size from ai)⟩,⟨.inl h.bB.2.2.2.2.2,(show q.mb<w'.heap.size from ai)⟩⟩,fun k hk=>?_,fun k hk=>hk.2⟩;obtain⟨hk,hk3⟩:=hk;rcases hk with hk|hk
 ·exact⟨⟨.inl (h.apart k hk).1,hk3⟩,(h.apart k hk).2⟩
 ·exact⟨⟨.inr hk,hk3⟩,(show k≠b from ai),(show k≠q.tp from ai),(show k≠q.tg from ai),(show k≠q.ip from ai),(show k≠q.ig from ai),(show k≠q.sg from ai),(show k≠q.mb from ai)⟩
end
end Bk
end
section
namespace Bk
def kh(L:List bS): Nat:=(L.filter fun x=>decide (0<x.aR)).length
theorem Jh(L:List bS): kh L≤L.length:=List.length_filter_le _ _
variable{S:Nat→Prop}{w:World}{b n:Nat}{aA aq:Int}
theorem DS{L:List bS}{x:bS}(h:0<x.aR): kh (L++ [x])=kh L+1:=by unfold kh;rw[List.filter_append];simp[h]
theorem Jg{L:List bS}{x:bS}(h: ¬0<x.aR): kh (L++ [x])=kh L:=by unfold kh;rw[List.filter_append];simp[h]
structure mJ(L:List bS)(q:bI): Prop where
 len:q.hl=kh L
 cnt:q.hm=kh L
 held: ∀ x∈L,0<x.aR→∃ h,q.φ x.id=some h∧Hp.In q.hf q.hl ⟨x.aR,x.id,h⟩
 items: ∀ y,Hp.In q.hf q.hl y→∃ x∈L,0<x.aR∧y=⟨x.aR,x.id,y.bf⟩∧q.φ x.id=some y.bf
 free: ∀ i,(∀ x∈L,0<x.aR→x.id≠i)→q.φ i=none
 ord:Hp.Ordered q.hf q.hl
 ids: ∀ x∈L,0≤x.id∧x.id<4294967296
theorem mJ.akP{L:List bS}{q q':bI}(h:mJ L q){x:bS}(hx: ¬0<x.aR)(hid:0≤x.id∧x.id<4294967296)(e1:q'.hl=q.hl)(e2:q'.hm=q.hm)(e3:q'.hf=q.hf)(e4:q'.φ=q.φ): mJ (L++ [x]) q':=by
 refine⟨by rw[e1,Jg hx,h.len],by rw[e2,Jg hx,h.cnt],fun y hy hp=>?_,fun y hy=>?_,fun i hi=>?_,by rw[e1,e3];exact h.ord,fun y hy=>?_⟩
 ·rw[e1,e3,e4];rcases kR.1 hy with hy|hy
  ·exact h.held y hy hp
  obtain rfl:y=x:=oX;exact absurd hp hx
 ·rw[e1,e3] at hy;obtain⟨z,hz,r⟩:=h.items y hy;exact⟨z,zR _ hz,by rw[e4];exact r⟩
 ·rw[e4];exact h.free i fun y hy=>hi y (zR _ hy)
 rcases kR.1 hy with hy|hy
 ·exact h.ids y hy
 obtain rfl:y=x:=oX;exact hid
theorem mJ.push{L:List bS}{q q':bI}(h:mJ L q){x:bS}(hx:0<x.aR)(hid:0≤x.id∧x.id<4294967296)(mH: ∀ y∈L,y.id≠x.id)(e1:q'.hl=q.hl+1)(e2:q'.hm=if(q.φ x.id).isSome=true then q.hm else q.hm+1)(e3:q'.hf=Hp.gp (cK q.hf q.hl ⟨x.aR,x.id,q.hn⟩) (q.hl+1) q.hl)(e4:q'.φ=tK q.φ x.id (some q.hn)): mJ (L++ [x]) q':=by
 have hno:q.φ x.id=none:=h.free x.id fun y hy _=>mH y hy
 refine⟨by rw[e1,DS hx,h.len],by rw[e2,hno,DS hx,h.cnt];rfl,fun y hy hp=>?_,fun y hy=>?_,fun i hi=>?_,by rw[e1,e3];exact Hp.Fs h.ord _,fun y hy=>?_⟩
 ·rw[e1,e3,e4];rcases kR.1 hy with hy|hy
  ·obtain⟨t,h1,h2⟩:=h.held y hy hp;exact⟨t,by rw[cT _ _ (mH y hy)];exact h1,(Hp.FF _ _).2 (.inl h2)⟩
  obtain rfl:y=x:=oX;exact⟨q.hn,ft _ _ _,(Hp.FF _ _).2 (.inr rfl)⟩
 ·rw[e1,e3] at hy;rcases(Hp.FF _ _).1 hy with hy|rfl
  ·obtain⟨z,hz,r1,r2,r3⟩:=h.items y hy;exact⟨z,zR _ hz,r1,r2,by rw[e4,cT _ _ (mH z hz)];exact r3⟩
  exact⟨x,dM,hx,rfl,by rw[e4];exact ft _ _ _⟩
 ·have Km:i≠x.id:=fun e=>hi x dM hx e.symm
  rw[e4,cT _ _ Km];exact h.free i fun y hy=>hi y (zR _ hy)
 rcases kR.1 hy with hy|hy
 ·exact h.ids y hy
 obtain rfl:y=x:=oX;exact hid
structure bo(S:Nat→Prop)(w:World)(b n au:Nat)(aA next aq:Int)(L:List bS)(q:bI): Prop where
 bg:cG S w b n au aA next aq L.length q
 bits: ∀ i,i<n→(hasB q.ws i=true↔∃ x∈L,x.aw=i)
 cw: ∀ x∈L,x.aw<n∧q.sb x.aw=x
 under: ∀ j,j<q.m→(q.f j).state=1→∃ x∈L,(q.f j).id=x.id
 listed: ∀ x∈L,∃ j,j<q.m∧(q.f j).state=1∧(q.f j).id=x.id∧(q.f j).v=x.aw
 small:q.hl≤L.length∧(q.hn≤next∧(q.hn=next→∃ x∈L,x.id=next))∧q.hm≤L.length∧1≤n∧n≤1024
 qo:mJ L q
theorem bo.tbl{au:Nat} {next:Int} {L:List bS}{q:bI}(h:bo S w b n au aA next aq L q)(a v:Int): km.jH q.f q.m a v↔∃ x∈L,x.id=a∧(x.aw:Int)=v:=by
 constructor
 ·rintro⟨j,hj,h1,h2,h3⟩;obtain⟨x,hx,e⟩:=h.under j hj h1;obtain⟨i,hi,i1,i2,i3⟩:=h.listed x hx;obtain rfl:=h.bg.ids.tab.uniq i j hi hj i1 h1 (i2.trans e.symm);exact⟨x,hx,e.symm.trans h2,i3.symm.trans h3⟩
 rintro⟨x,hx,rfl,rfl⟩;obtain⟨i,hi,i1,i2,i3⟩:=h.listed x hx;exact⟨i,hi,i1,i2,i3⟩
theorem bo.idr{au:Nat} {next:Int} {L:List bS}{q:bI}(h:bo S w b n au aA next aq L q): ∀ i,i<q.m→(q.f i).state=1→0≤(q.f i).id∧(q.f i).id<4294967296:=fun i hi hs=>by
 obtain⟨x,hx,e⟩:=h.under i hi hs;rw[e];exact h.qo.ids x hx
theorem Jm(ws:Nat→Nat)(i j:Nat): hasB (fun k=>if k=i / 64 then ws k|||2 ^ (i % 64)else ws k) j=(hasB ws j||decide (j=i)):=by
 unfold hasB;show(if j / 64=i / 64 then ws (j / 64)|||2 ^ (i % 64)else ws (j / 64)).testBit (j % 64)=_
 by_cases h:j / 64=i / 64
 ·rw[if_pos h,Nat.testBit_or,Nat.testBit_two_pow];congr 1;rw[Bool.eq_iff_iff,decide_eq_true_eq,decide_eq_true_eq];omega
 rw[if_neg h];have:decide (j=i)=false:=decide_eq_false (fun e=>h mA);rw[this,Bool.or_false]
theorem Ea(p g c n i:Nat)(ws:Nat→Nat)(w:World)(h:fU w p g c n ws)(hi:i<n)(hn:n≤1000000): Calls af 164 #[.pointer (some ⟨p,0,none⟩),.int .i64 i] w fun e w'=>e= .returned (.int .i64 0)∧fU w' p g c n (fun j=>if j=i / 64 then ws j|||2 ^ (i % 64)else ws j)∧w.grownBy w' (some g):=by
 have HC:=aa (yj.RL p g c n i ws w h hi hn);clear h;go_enter Tryz.func164,Tryz.ntmps164;exact ab8
theorem rU(sb:Nat→bS)(i:Nat)(x:bS): cK (fun i=>jf (sb i)) i (jf x)=fun j=>jf (cK sb i x j):=by
 funext j;unfold cK;by_cases h:j=i
 ·simp[h]
 simp[h]
theorem bo.more{T:Nat→Prop} {w':World} {au:Nat} {next:Int} {L:List bS}{x:bS}{q:bI}(h:bo S w b n au aA next aq L q)(mH: ∀ y∈L,y.id≠x.id)(kC: ∀ y∈L,y.aw≠x.aw)(hx:x.aw<n)
  {q':bI} (hc:cG T w' b n au aA next aq (L.length+1) q') (h1:q'.ws=fun j=>if j=x.aw / 64 then q.ws j|||2 ^ (x.aw % 64)else q.ws j) (h2: ∀ a v,km.jH q'.f q'.m a v↔km.jH q.f q.m a v∨(a=x.id∧v=(x.aw:Int))) (h3:q'.sb=cK q.sb x.aw x) (h5:q'.hl≤L.length+1∧(q'.hn≤next∧(q'.hn=next→∃ y∈L++ [x],y.id=next))∧q'.hm≤L.length+1) (h6:mJ (L++ [x]) q') :
  bo T w' b n au aA next aq (L++ [x]) q':=by
 have hl:(L++ [x]).length=L.length+1:=dM;refine⟨by rw[hl];exact hc,fun j hj=>?_,fun y hy=>?_,fun j hj hs=>?_,fun y hy=>?_,by rw[hl];exact⟨h5.1,h5.2.1,h5.2.2,h.small.2.2.2⟩,h6⟩
 ·rw[h1,Jm,Bool.or_eq_true,h.bits j hj,decide_eq_true_eq];constructor
  ·rintro(⟨y,hy,e⟩|e)
   ·exact⟨y,by simp[hy],e⟩
   exact⟨x,dM,e.symm⟩
  rintro⟨y,hy,e⟩;rcases kR.1 hy with hy|hy
  ·exact .inl ⟨y,hy,e⟩
  obtain rfl:y=x:=oX;exact .inr e.symm
 ·rw[h3];rcases kR.1 hy with hy|hy
  ·refine⟨(h.cw y hy).1,?_⟩;rw[bn _ _ (kC y hy)];exact(h.cw y hy).2
  obtain rfl:y=x:=oX;exact⟨hx,bL _ _ _⟩
 ·rcases(h2 _ _).1 ⟨j,hj,hs,rfl,rfl⟩with hu|⟨e,_⟩
  ·obtain⟨y,hy,e,_⟩:=(h.tbl _ _).1 hu;exact⟨y,by simp[hy],e.symm⟩
  exact⟨x,dM,e⟩
 ·have:km.jH q'.f q'.m y.id (y.aw:Int):=by
   rw[h2];rcases kR.1 hy with hy|hy
   ·exact .inl ((h.tbl _ _).2 ⟨y,hy,rfl,rfl⟩)
   obtain rfl:y=x:=oX;exact .inr ⟨rfl,rfl⟩
  exact this
theorem Nz{w3 w4:World} {au:Nat} {next:Int} {len vb:Nat}{q:bI}{cs:Array Value}(h:cG S w b n au aA next aq len q)(hv:w.heap.size=vb)(ha:aG w3 vb 171 cs)(hg:w3.drew.grownBy w4 (some q.sg)): aG w4 vb 171 cs:=by
 obtain⟨_,_,_,_,_,⟨_,a⟩⟩:=h.BR;have h1:=a.lt;exact(hg.block vb ha.lt (fun e=>l9)).trans ha
def afw(S:Nat→Prop)(w:World)(b n au:Nat)(aA next aq:Int)(L:List bS)(q:bI)(x:bS)(e:Ending)(w':World): Prop:=
 (∃ v,e= .returned v)∧(∃ q',bo (fun k=>(S k∨w.heap.size≤k)∧k<w'.heap.size) w' b n au aA next aq (L++ [x]) q'∧q'.hn≤q.hn+1)∧aI S w w'
theorem Uo(S:Nat→Prop)(b n au:Nat)(aA next aq:Int)(L:List bS)(x:bS)(q:bI)(w:World)(h:bo S w b n au aA next aq L q)(hid:0≤x.id∧x.id<4294967296)(mH: ∀ y∈L,y.id≠x.id)(kC: ∀ y∈L,y.aw≠x.aw)(hx:x.aw<n)(hl:L.length<au)(LZ:0≤x.aR∧x.aR≤1099511627776)(V5:q.hn<x.id∧x.id≤next):
  Calls af 158 #[.pointer (some ⟨b,0,none⟩),.agg #[.int .u32 x.id,.int .i64 x.aw,.int .i64 x.aR]] w (afw S w b n au aA next aq L q x):=by
 have hq:=h.small;have acR: ∀ j,j<q.m→(q.f j).state=1→(q.f j).id≠x.id:=fun j hj hs e=>by
  obtain⟨y,hy,YU⟩:=h.under j hj hs;exact mH y hy (by rw[←YU,e])
 have hl4:L.length<4096:=by have:=h.bg.ids.bj;omega
 have MX:=aa h.idr;have HH:=aa h;have HNO:=aa acR;clear h acR;go_enter Tryz.func158,Tryz.ntmps158;go_wp2_with fail;have hb1:Below w.heap.size w (w.alloc (.cells #[.int .u32 x.id,.int .i64 x.aw,.int .i64 x.aR] 171)):=ay (ar _ _) _;have bp:aG (w.alloc (.cells #[.int .u32 x.id,.int .i64 x.aw,.int .i64 x.aR] 171)) w.heap.size 171 #[.int .u32 x.id,.int .i64 x.aw,.int .i64 x.aR]:=aG.fresh w _ _;obtain⟨w1,a8⟩:=ae (w.alloc (.cells #[.int .u32 x.id,.int .i64 x.aw,.int .i64 x.aR] 171));obtain⟨vb,oh⟩:=ae w.heap.size;rw[a8] at hb1 bp ⊢;rw[oh] at bp ⊢;clear a8;have hc1:=HH.o.bg.ak hb1;have sx:aI S w w1:=(aI.refl S w).ak hb1;have x7:w1.cell? ⟨b,7,none⟩=some (.pointer (some ⟨q.ip,0,none⟩)):=hc1.own.cell 7;have y0:=bp.cl 0;have y1:=bp.cl 1;have ku:=aa hc1;have dF:=aa bp;have iN:=aa sx;have yN:=aa oh;clear hc1 bp sx oh hb1;go_still_tail 8,bh;change wpList _ _ _ _ _ w1.drew;go_wp2_with fail;have wF:=ku.o.ak (az (ar _ _));refine(km.ail q.ip q.ig q.m au L.length q.gr x.id x.aw q.f w1.drew wF.ids hid MX.o HNO.o hl).mono ?_;rintro e w2 ⟨rfl,⟨f2,gs2,Km,QG⟩,hTi⟩;have hc2:=wF.vN hTi Km;have hlt:=HH.o.bg.ids.lt;have gZ:aG w2 vb 171 #[.int .u32 x.id,.int .i64 x.aw,.int .i64 x.aR]:=hTi.arr (show aG w1.drew vb _ _ from dF.o) (by have:=yN.o;omega);have hf:=HH.o.bg.bB;have jE:aI S w w2:=(iN.o.ak (az (ar _ _))).trans (hTi.mono fun k _ hk=>by rcases hk with rfl|rfl;exact hf.2.2.2.1;exact hf.2.2.2.2.1);have x6:w2.cell? ⟨b,6,none⟩=some (.pointer (some ⟨q.tp,0,none⟩)):=hc2.own.cell 6;clear x7 y0 y1 wF;have y1:=gZ.cl 1;have Ek:=aa hc2;have jB:=aa gZ;have gI:=aa jE;have HUN:=aa QG;clear hc2 gZ jE QG Km hTi ku dF iN hlt;go_wp2_with fail;go_still_tail 6,bh;change wpList _ _ _ _ _ w2.drew;go_wp2_with fail;have wF:=Ek.o.ak (az (ar _ _));refine(Ea q.tp q.tg q.tc n x.aw q.ws w2.drew wF.taken hx ai).mono ?_;rintro e w3 ⟨rfl,Y7,hg3⟩;have Kt:aI (· =q.tg) w2.drew w3:=(aI.refl _ _).grown hg3 (fun k e=>.inl Ad);have hc3:=wF.qd Kt Y7;obtain⟨_,_,⟨_,atg⟩,_⟩:=HH.o.bg.BR;have dE:aG w3 vb 171 #[.int .u32 x.id,.int .i64 x.aw,.int .i64 x.aR]:=Kt.arr (show aG w2.drew vb _ _ from jB.o) (by have:=yN.o;have:=atg.lt;omega);have ki:aI S w w3:=(gI.o.ak (az (ar _ _))).trans (Kt.mono fun k _ hk=>by subst hk;exact hf.2.2.1);clear x6 y1 wF Ek jB gI Kt Y7 hg3 atg;have x8:w3.cell? ⟨b,8,none⟩=some (.slice (some ⟨q.sg,0,none⟩) n q.sc):=hc3.own.cell 8;have y0:=dE.cl 0;have y1:=dE.cl 1;have y2:=dE.cl 2;have QE:(x.aw:Int)<(n:Int):=ai;have hx0:(0:Int)≤(x.aw:Int):=ai;have sZ:(n:Int)≤1024:=ai;have RD:=aa hc3;have pC:=aa dE;have iJ:=aa ki;have iu:=aa (hc3.ak (az (ar _ _))).gh;clear hc3 dE ki;go_wp2_with fail;go_still_tail 8,bh;change wpList _ _ _ _ _ w3.drew;refine cX rfl 171 _ _ rfl iu.o (fun _=>rfl) x.aw hx rfl (jf x) rfl rfl (sD x) eV ?_;intro w4 hr4 hg4 tL;have y2':w4.cell? ⟨vb,2,none⟩=some (.int .i64 x.aR):=by exact(Nz HH.o.bg yN.o pC.o hg4).cell 2
 have nV:=aa hr4;have uV:=aa hg4;clear hr4 hg4 tL x8 y0 y1 y2;have Jo:aI (· =q.sg) w3.drew w4:=(aI.refl _ _).grown uV.o (fun k e=>.inl Ad);have hr4:=nV.o;rw[rU] at hr4;have Ks:=(RD.o.ak (az (ar _ _))).nB Jo hr4;have oa:=Nz HH.o.bg yN.o pC.o uV.o;have jK:aI S w w4:=(iJ.o.ak (az (ar _ _))).trans (Jo.mono fun k _ hk=>E9);have RB:=aa Ks;have pB:=aa oa;have nU:=aa jK;clear RD pC iJ iu nV uV Jo hr4 Ks oa jK;by_cases h0:x.aR=0
 ·have h0': ¬(0:Int)<x.aR:=by omega
  go_wp2_with fail;refine bodyPost_end (results_none Tryz.results158 _ _ _) rfl ⟨⟨_,rfl⟩,⟨_,HH.o.more mH kC hx (RB.o.mono (T:=fun k=>(S k∨w.heap.size≤k)∧k<w4.heap.size) (fun k hk=>⟨.inl hk,RB.o.lt k hk⟩) (fun k hk=>hk.2)) rfl HUN.o rfl ⟨Nat.le_succ_of_le hq.1,⟨by show q.hn≤next;omega,fun e=>absurd e (by show ¬q.hn=next;omega)⟩,Nat.le_succ_of_le hq.2.2.1⟩ (HH.o.qo.akP (Int.not_lt.2 ai) hid rfl rfl rfl rfl),by show q.hn≤q.hn+1;omega⟩,nU.o⟩
 ·have h0':(0:Int)<x.aR:=by omega
  have H0:=aa h0;clear h0;have x9:w4.cell? ⟨b,9,none⟩=some (.pointer (some ⟨q.hp,0,none⟩)):=RB.o.own.cell 9;have x10:w4.cell? ⟨b,10,none⟩=some (.map (some q.mb)):=RB.o.own.cell 10;have y0:=pB.o.cl 0;have y1:=pB.o.cl 1;go_wp2_with fail;refine dL bh ?_;refine bm.any (S:=(fun w'=>w'.cell? ⟨b,9,none⟩=some (.pointer (some ⟨q.hp,0,none⟩))∧w'.cell? ⟨b,10,none⟩=some (.map (some q.mb))∧w'.cell? ⟨vb,0,none⟩=some (.int .u32 x.id)∧w'.cell? ⟨vb,2,none⟩=some (.int .i64 x.aR))) (t:=19) _ _ _ _ ?_;have hHeld:=(show(fun w'=>w'.cell? ⟨b,9,none⟩=some (.pointer (some ⟨q.hp,0,none⟩))∧w'.cell? ⟨b,10,none⟩=some (.map (some q.mb))∧w'.cell? ⟨vb,0,none⟩=some (.int .u32 x.id)∧w'.cell? ⟨vb,2,none⟩=some (.int .i64 x.aR)) w4.drew from⟨x9,x10,y0,y2'⟩);refine tt 0 ?_;refine tt 1 ?_;refine tt 2 ?_;refine tt 3 ?_;refine tt 4 ?_;refine tt 5 ?_;refine tt 6 ?_;refine tt 7 ?_;refine tt 8 ?_;refine tt 9 ?_;refine tt 10 ?_;refine tt 11 ?_;refine tt 12 ?_;refine tt 13 ?_;refine tt 14 ?_;refine bm.step (i:=15) bh bh rfl (fun K hK=>?_);go_simp;refine(Hp.aaX q.H q.hp q.hl q.hn q.hf x.aR x.id w4.drew (RB.o.ak (az (ar _ _))).due ai ai).mono ?_;rintro e w5 ⟨rfl,D3,hTp⟩;have wF:=RB.o.ak (az (ar _ _));have FM:=wF.WN hTp D3;have gB:aG w5 vb 171 #[.int .u32 x.id,.int .i64 x.aw,.int .i64 x.aR]:=hTp.arr (show aG w4.drew vb _ _ from pB.o) (fun hk=>by have h1:=HH.o.bg.lt vb (HH.o.bg.apart vb hk).1;have h2:=yN.o;omega);have oH:aI S w w5:=(nU.o.ak (az (ar _ _))).trans (hTp.mono fun k _ hk=>(HH.o.bg.apart k hk).1);have x9':w5.cell? ⟨b,9,none⟩=some (.pointer (some ⟨q.hp,0,none⟩)):=FM.own.cell 9;have agd:w5.cell? ⟨b,10,none⟩=some (.map (some q.mb)):=FM.own.cell 10;have y0':=gB.cl 0;have agc:=gB.cl 2;have M3:=aa FM;have pz:=aa oH;clear wF FM gB oH D3 hTp;go_wp2_with fail;refine hK.out _ _ (by first|exact⟨x9',agd,y0',agc⟩) (fun FT=>?_);clear hK K;try simp only[aZ]
  refine tp 16 ?_;refine tp 17 ?_;refine tp 18 ?_;refine bm.last bh ?_;refine kD 19 bh bh ?_;simp only[List.drop_succ_cons,List.drop_zero];refine gm rfl _ _ _ 100 rfl 39 3 .u32 Tryz.underlying39 Tryz.underlying3 Tryz.underlying100 q.mb q.hm q.φ rfl M3.o.held P4 x.id q.hn rfl rfl (WalkArith.wf_u32 ai) (WalkArith.wf_i64 (by have:=HH.o.bg.due.bound;omega)) ?_;intro w6 CA kr;have hTm:aI (· =q.mb) w5 w6:=(aI.refl _ _).grown kr (fun k e=>.inl Ad);have hc6:=M3.o.DR hTm CA;have pW:aI S w w6:=pz.o.trans (hTm.mono fun k _ hk=>by subst hk;exact HH.o.bg.bB.2.2.2.2.2);have HC6:=aa hc6;have vn:=aa pW;have HZ:=aa hTm.size;have HZ4:=aa nU.o.size;clear CA kr hTm hc6 pW M3 pz x9 x10 y0 y1 x9' agd y0' agc FT hHeld RB pB nU;go_wp2_with fail;refine bodyPost_end (results_none Tryz.results158 _ _ _) rfl ⟨⟨_,rfl⟩,⟨_,HH.o.more mH kC hx (HC6.o.mono (T:=fun k=>(S k∨w.heap.size≤k)∧k<w6.heap.size) (fun k hk=>?_) (fun k hk=>hk.2)) rfl HUN.o rfl ⟨by show q.hl+1≤_;omega,⟨by show q.hn+1≤next;omega,fun e=>⟨x,dM,by have e2:q.hn+1=next:=e;omega⟩⟩,?_⟩ (HH.o.qo.push h0' hid mH rfl rfl rfl rfl),by show q.hn+1≤q.hn+1;omega⟩,vn.o⟩
  ·have h1:=HZ.o;have h2:=HZ4.o;refine⟨?_,aU hk.2 h1⟩;rcases hk.1 with hk|hk
   ·exact .inl hk
   have Hb:w4.heap.size≤k:=hk;exact .inr ai
  show(if(q.φ x.id).isSome=true then q.hm else q.hm+1)≤_
  split <;>omega
end Bk
end
section
namespace Bk
def B3(n au:Nat)(aA:Int)(w:World)(e:Ending)(w':World): Prop:=∃ b S q,e= .returned (.tuple #[.pointer (some ⟨b,0,none⟩),.int .i64 0])∧bo S w' b n au aA 1 0 [] q∧(∀ k,S k→w.heap.size≤k)∧Below w.heap.size w w'
theorem BO{f:Nat→Slot}{t:Nat}(h: ∀ i,(f i).state≠t): ∀ n,km.cnt f t n=0
 | 0=>rfl
 | n+1=>by rw[km.cnt,BO h n,if_neg (h n)]
theorem UE{n au:Nat}{aA:Int}{w w1 w5 w6 w7 w8 w9 vg:World}{sh sg mb b tp tg ip ig m hp:Nat}(uI:w.heap.size=sh)(hn:1≤n∧n≤1024)(hc:1≤au∧au≤4096)
  (hb1:Below w.heap.size w w1) (dU:Below w1.heap.size w1 w5) (sk:aP (· =sg) w5 171 3 (.slice (some ⟨sg,0,none⟩) n n) n (fun _=>jf ⟨0,0,0⟩)) (rJ:dt af 39 3 .u32 w5 mb 0 (fun _=>none))
  (fF:w1.heap.size≤sg∧w1.heap.size≤mb∧w1.heap.size≤b) (Bv:aG w5 b 102 #[.int .i64 n,.int .i64 au,.int .i64 aA,.bool true,.int .i64 0,.int .u32 1,.pointer none,.pointer none,.slice (some ⟨sg,0,none⟩) n n,.pointer none,.map (some mb)])
  (hS6:fU w6 tp tg ((n+63) / 64) n (fun _=>0)) (h61:w5.heap.size≤tp∧w5.heap.size≤tg) (mZ:Below w5.heap.size w5 w6) (T67:aI (· =b) w6 w7)
  (hI8:km.dR w8 ip ig m au 0 0 0 (fun _=>⟨0,0,0⟩)) (h81:(2*au≤m∧m≤4*au)∧(w7.heap.size≤ip∧w7.heap.size≤ig)) (mY:Below w7.heap.size w7 w8) (T89:aI (· =b) w8 w9)
  (Wr:bP (fun k=>w9.heap.size≤k) vg hp 0 0 (fun _=>⟨0,0,0⟩)) (vT:Below w9.heap.size w9 vg) (Bw:aG vg b 102 #[.int .i64 n,.int .i64 au,.int .i64 aA,.bool true,.int .i64 0,.int .u32 1,.pointer (some ⟨tp,0,none⟩),.pointer (some ⟨ip,0,none⟩),.slice (some ⟨sg,0,none⟩) n n,.pointer none,.map (some mb)]) :
  B3 n au aA w (.returned (.tuple #[.pointer (some ⟨b,0,none⟩),.int .i64 0])) (vg.setCell ⟨b,9,none⟩ (.pointer (some ⟨hp,0,none⟩))):=by
 have Xi:aI (· =b) vg (vg.setCell ⟨b,9,none⟩ (.pointer (some ⟨hp,0,none⟩))):=(aI.refl (fun k=>k=b) vg).put (p:=⟨b,9,none⟩) (.inl rfl) _;have akc:(vg.setCell ⟨b,9,none⟩ (.pointer (some ⟨hp,0,none⟩))).heap.size=vg.heap.size:=dM;have hown:=Bw.put 9 (.pointer (some ⟨hp,0,none⟩));obtain⟨CM,QF⟩:=ae (vg.setCell ⟨b,9,none⟩ (.pointer (some ⟨hp,0,none⟩)));rw[QF] at Xi akc hown ⊢;have akX:aI (· =b) w9 CM:=((aI.refl _ _).ak vT).trans Xi;have afp:=T89.trans akX;have akY:aI (· =b) w7 CM:=((aI.refl _ _).ak mY).trans afp;have afq:=T67.trans akY;have afr:aI (· =b) w5 CM:=((aI.refl _ _).ak mZ).trans afq;have z1:=hb1.size;have z5:=dU.size;have z6:=mZ.size;have z7:=T67.size;have z8:=mY.size;have z9:=T89.size;have z10:=vT.size;obtain⟨cs,asg⟩:=sk.arr;have lsg:=asg.lt;have lmb:=rJ.lt;have lb:=Bv.lt;have ltp:=hS6.own.lt;obtain⟨cur,L5,_⟩:=hS6.row;have ltg:tg<w6.heap.size:=aG.lt (t:=22) (cs:=cur) L5;have lip:=hI8.own.lt;have lig:=hI8.rows.lt;have nsg: ¬sg=b:=iq asg Bv aM;have nmb: ¬mb=b:=fun e=>Hp.dp rJ Bv e.symm
 refine⟨b,fun k=>w.heap.size≤k∧k<CM.heap.size,{tp:=tp,tg:=tg,tc:=(n+63) / 64,ip:=ip,ig:=ig,m:=m,gr:=0,sg:=sg,sc:=n,hp:=hp,hl:=0,mb:=mb,hm:=0,ws:=fun _=>0,f:=fun _=>⟨0,0,0⟩,sb:=fun _=>⟨0,0,0⟩,hn:=0,hf:=fun _=>⟨0,0,0⟩,φ:=fun _=>none,H:=fun k=>w9.heap.size≤k∧k<CM.heap.size},rfl,⟨⟨hown,?_,?_,?_,?_,?_,?_,?_,fun k hk=>hk.2⟩,?_,?_,?_,?_,?_,⟨rfl,rfl,(fun x hx=>by cases hx),(fun y ⟨i,hi,_⟩=>absurd hi (Nat.not_lt_zero _)),(fun _ _=>rfl),(fun i h1 h2=>absurd h2 (Nat.not_lt_zero _)),(fun x hx=>by cases hx)⟩⟩,fun k hk=>hk.1,?_⟩
 ·exact uP hS6 (afq.block tp ltp ai) (afq.block tg ltg ai)
 ·have akN:km.CE (fun _=>⟨0,0,0⟩) m:=⟨fun i _=>Nat.zero_le _,fun i j _ _ h=>mC,fun id e _ h=>mC⟩;have hc1:km.cnt (fun _=>(⟨0,0,0⟩:Slot)) 1 m=0:=BO (fun _=>(by decide:(0:Nat)≠1)) m;have hc2:km.cnt (fun _=>(⟨0,0,0⟩:Slot)) 2 m=0:=BO (fun _=>(by decide:(0:Nat)≠2)) m;exact eW.same (w:=w8) ⟨⟨0,hI8⟩,akN,hc1,hc2,(show 0≤au∧2*au≤m∧1≤au∧au≤4096∧m≤16384 from ai)⟩ (afp.block ip lip ai) (afp.block ig lig ai)
 ·exact(sk.NU (afr.block sg lsg nsg)).mono fun k hk _=>by have:k=sg:=hk;omega
 ·exact(Wr.same fun k hk hk2=>Xi.block k hk2 (by have:w9.heap.size≤k:=hk;omega)).mono fun k hk hk2=>⟨hk,hk2⟩
 ·exact rJ.same (afr.block mb lmb nmb)
 ·exact⟨⟨ai,ai⟩,⟨(show w.heap.size≤tp from ai),(show tp<CM.heap.size from ai)⟩,⟨(show w.heap.size≤tg from ai),(show tg<CM.heap.size from ai)⟩,⟨(show w.heap.size≤ip from ai),(show ip<CM.heap.size from ai)⟩,⟨(show w.heap.size≤ig from ai),(show ig<CM.heap.size from ai)⟩,⟨(show w.heap.size≤mb from ai),(show mb<CM.heap.size from ai)⟩⟩
 ·intro k hk;obtain⟨h1,h2⟩:w9.heap.size≤k∧k<CM.heap.size:=hk;exact⟨⟨ai,h2⟩,ai,(show k≠tp from ai),(show k≠tg from ai),(show k≠ip from ai),(show k≠ig from ai),(show k≠sg from ai),(show k≠mb from ai)⟩
 ·intro i hi;have:hasB (fun _=>0) i=false:=by unfold hasB;exact Nat.zero_testBit _
  rw[this];simp
 ·intro x hx;cases hx
 ·intro j hj h;cases h
 ·intro x hx;cases hx
 ·exact⟨aY _,⟨(by decide:(0:Int)≤1),fun e=>absurd (show(0:Int)=1 from e) aM⟩,aY _,hn⟩
 ·have T1:aI (· =b) w1 CM:=((aI.refl _ _).ak dU).trans afr;exact aI.nz hb1 T1 (fun k hk=>by have:k=b:=hk;omega)
theorem O4(n au:Nat)(aA:Int)(w:World)(h:tP.Ct n au aA=true): Calls af 31 #[.agg #[.int .i64 n,.int .i64 au,.int .i64 aA]] w (B3 n au aA w):=by
 obtain⟨i0,hi,hz0,hz1,hz2⟩:=info_parts JK;have fw:=tP.lR h;have VZ:=@run_makeMap af;have HC:=aa (fun W=>tP.D9 n au aA W h);have sZ:1≤n∧n≤1024:=ai;have aai:1≤au∧au≤4096:=ai;have hnz: ¬(n:Int)<0:=ai;clear h fw;go_enter Tryz.func31,Tryz.ntmps31;go_wp2_with fail;refine(HC.o _).mono ?_;rintro e w1 ⟨rfl,hb1⟩;have Y8:=(aG.fresh w 80 #[.int .i64 n,.int .i64 au,.int .i64 aA]).ah hb1;have Wv:=av (ay (ar w.heap.size w) (.cells #[.int .i64 n,.int .i64 au,.int .i64 aA] 80)) hb1;obtain⟨sh,uI⟩:=ae w.heap.size;rw[uI] at Y8 ⊢;have Hj:=aa uI;have tu: ∀ w',Below w1.heap.size w1 w'→(w'.cell? ⟨sh,0,none⟩=some (.int .i64 n)∧w'.cell? ⟨sh,1,none⟩=some (.int .i64 au)∧w'.cell? ⟨sh,2,none⟩=some (.int .i64 aA)∧Below w1.heap.size w1 w'):=fun w' hb=>⟨(Y8.ah hb).cell 0,(Y8.ah hb).cell 1,(Y8.ah hb).cell 2,hb⟩
 have tu:=aa tu;have bA:=aa Wv;have HA0:=aa Y8;clear hb1 Y8 Wv uI;go_wp2_with fail;refine tW (S:=(fun w'=>w'.cell? ⟨sh,0,none⟩=some (.int .i64 n)∧w'.cell? ⟨sh,1,none⟩=some (.int .i64 au)∧w'.cell? ⟨sh,2,none⟩=some (.int .i64 aA)∧Below w1.heap.size w1 w')) NL fun hHeld=>?_
 refine lA 0 1 2 3 ?_;refine qh 4 5 (fun K hK=>?_) fun K hK=>?_
 ·rw[if_pos iI];refine mS _ (.tmp 14) (.tmp 14) 98 rfl 171 i0 (.agg #[.int .u32 0,.int .i64 0,.int .i64 0]) 3 Tryz.underlying98 hi hz0 hz1 rfl aM n rfl rfl (by rw[hz2];omega) P4 ?_;intro w4 hr4 hg4;have hb4:Below w1.heap.size w1 w4:=Below.grown (az (ar _ _)) hg4 (aY _) dM;obtain⟨sg,YY⟩:=ae w1.heap.size;have y6:aP (· =sg) w4 171 3 (.slice (some ⟨sg,0,none⟩) n n) n (fun _=>jf ⟨0,0,0⟩):=YY▸hr4;rw[show(World.drew w1).heap.size=sg from YY];have nV:=aa y6;have gj:=aa hb4;have Zd:=aa YY;clear hr4 hg4 y6 YY;refine hK.out _ _ (tu.o _ gj.o) (fun lI=>?_);clear hK K;try simp only[aZ]
  refine cJ 5 fun K hK=>?_
  go_simp;go_wp2_with fail;refine hK.out _ _ (tu.o _ (ay gj.o _)) (fun ju=>?_);clear hK K;try simp only[aZ]
  refine ty 6 ?_;refine cJ 7 fun K hK=>?_
  go_simp;go_wp2_with fail;refine hK.out _ _ (tu.o _ (ay (ay gj.o _) _)) (fun o8=>?_);clear hK K;try simp only[aZ]
  refine ty 8 ?_;refine bM ?_;have Bv:aG ((w4.alloc (.map #[] 0)).alloc (.cells #[.int .i64 n,.int .i64 au,.int .i64 aA,.bool true,.int .i64 0,.int .u32 1,.pointer none,.pointer none,.slice (some ⟨sg,0,none⟩) n n,.pointer none,.map (some w4.heap.size)] 102)) (w4.heap.size+1) 102 #[.int .i64 n,.int .i64 au,.int .i64 aA,.bool true,.int .i64 0,.int .u32 1,.pointer none,.pointer none,.slice (some ⟨sg,0,none⟩) n n,.pointer none,.map (some (w4.heap.size))]:=aG.new dM;have dU:Below w1.heap.size w1 ((w4.alloc (.map #[] 0)).alloc (.cells #[.int .i64 n,.int .i64 au,.int .i64 aA,.bool true,.int .i64 0,.int .u32 1,.pointer none,.pointer none,.slice (some ⟨sg,0,none⟩) n n,.pointer none,.map (some w4.heap.size)] 102)):=ay (ay gj.o _) _;have sk:aP (· =sg) ((w4.alloc (.map #[] 0)).alloc (.cells #[.int .i64 n,.int .i64 au,.int .i64 aA,.bool true,.int .i64 0,.int .u32 1,.pointer none,.pointer none,.slice (some ⟨sg,0,none⟩) n n,.pointer none,.map (some w4.heap.size)] 102)) 171 3 (.slice (some ⟨sg,0,none⟩) n n) n (fun _=>jf ⟨0,0,0⟩):=nV.o.ah (ay (ay (ar _ _) _) _);have rJ:dt af 39 3 .u32 ((w4.alloc (.map #[] 0)).alloc (.cells #[.int .i64 n,.int .i64 au,.int .i64 aA,.bool true,.int .i64 0,.int .u32 1,.pointer none,.pointer none,.slice (some ⟨sg,0,none⟩) n n,.pointer none,.map (some w4.heap.size)] 102)) (w4.heap.size) 0 (fun _=>none):=(dt.made _ _ _ _ w4).alloc _;have fF:w1.heap.size≤sg∧w1.heap.size≤(w4.heap.size)∧w1.heap.size≤(w4.heap.size+1):=by
   have h1:=Zd.o;have h2:w1.heap.size≤w4.heap.size:=gj.o.size;omega
  obtain⟨w5,jD⟩:=ae ((w4.alloc (.map #[] 0)).alloc (.cells #[.int .i64 n,.int .i64 au,.int .i64 aA,.bool true,.int .i64 0,.int .u32 1,.pointer none,.pointer none,.slice (some ⟨sg,0,none⟩) n n,.pointer none,.map (some w4.heap.size)] 102));rw[jD] at Bv dU sk rJ;rw[show((w4.alloc (.map #[] 0)).alloc (.cells #[.int .i64 n,.int .i64 au,.int .i64 aA,.bool true,.int .i64 0,.int .u32 1,.pointer none,.pointer none,.slice (some ⟨sg,0,none⟩) n n,.pointer none,.map (some w4.heap.size)] 102))=w5 from jD];obtain⟨b,hb⟩:=ae ((w4.heap.size+1));obtain⟨mb,Y0⟩:=ae ((w4.heap.size));exact acK
 go_simp;go_wp2_with fail;refine hK.out _ _ (tu.o _ (ay (az (ar _ _)) _)) (fun ju=>?_);clear hK K;try simp only[aZ]
 refine cJ 4 fun K hK=>?_
 rw[if_pos iI];refine mS _ (.tmp 14) (.tmp 14) 98 rfl 171 i0 (.agg #[.int .u32 0,.int .i64 0,.int .i64 0]) 3 Tryz.underlying98 hi hz0 hz1 rfl aM n rfl rfl (by rw[hz2];omega) P4 ?_;intro w4 hr4 hg4;have hb4:Below w1.heap.size w1 w4:=Below.grown (ay (az (ar _ _)) _) hg4 dM dM;obtain⟨sg,YY⟩:=ae (w1.heap.size+1);have hsz:(w1.alloc (.map #[] 0)).drew.heap.size=sg:=by rw[←YY];simp
 have xO:dt af 39 3 .u32 w4 w1.heap.size 0 (fun _=>none):=(dt.made _ _ _ _ w1.drew).same (hg4.block _ dM dM);have y6:aP (· =sg) w4 171 3 (.slice (some ⟨sg,0,none⟩) n n) n (fun _=>jf ⟨0,0,0⟩):=hsz▸hr4;rw[show(w1.alloc (.map #[] 0)).drew.heap.size=sg from hsz];have nV:=aa y6;have gj:=aa hb4;have Zd:=aa (show w1.heap.size≤sg∧sg<w4.heap.size by have:=y6.form ai;obtain⟨_,_,e,_,_,_,l⟩:=this;injection e with e;injection e with e;injection e with e;subst e;omega);have Zk:=aa xO;clear hr4 hg4 y6 YY hsz xO hb4;refine hK.out _ _ (tu.o _ gj.o) (fun lI=>?_);clear hK K;try simp only[aZ]
 refine ty 6 ?_;refine cJ 7 fun K hK=>?_
 go_simp;go_wp2_with fail;refine hK.out _ _ (tu.o _ (ay gj.o _)) (fun o8=>?_);clear hK K;try simp only[aZ]
 refine ty 8 ?_;refine bM ?_;have Bv:aG (w4.alloc (.cells #[.int .i64 n,.int .i64 au,.int .i64 aA,.bool true,.int .i64 0,.int .u32 1,.pointer none,.pointer none,.slice (some ⟨sg,0,none⟩) n n,.pointer none,.map (some w1.heap.size)] 102)) (w4.heap.size) 102 #[.int .i64 n,.int .i64 au,.int .i64 aA,.bool true,.int .i64 0,.int .u32 1,.pointer none,.pointer none,.slice (some ⟨sg,0,none⟩) n n,.pointer none,.map (some (w1.heap.size))]:=aG.new dM;have dU:Below w1.heap.size w1 (w4.alloc (.cells #[.int .i64 n,.int .i64 au,.int .i64 aA,.bool true,.int .i64 0,.int .u32 1,.pointer none,.pointer none,.slice (some ⟨sg,0,none⟩) n n,.pointer none,.map (some w1.heap.size)] 102)):=ay gj.o _;have sk:aP (· =sg) (w4.alloc (.cells #[.int .i64 n,.int .i64 au,.int .i64 aA,.bool true,.int .i64 0,.int .u32 1,.pointer none,.pointer none,.slice (some ⟨sg,0,none⟩) n n,.pointer none,.map (some w1.heap.size)] 102)) 171 3 (.slice (some ⟨sg,0,none⟩) n n) n (fun _=>jf ⟨0,0,0⟩):=nV.o.ah (ay (ar _ _) _);have rJ:dt af 39 3 .u32 (w4.alloc (.cells #[.int .i64 n,.int .i64 au,.int .i64 aA,.bool true,.int .i64 0,.int .u32 1,.pointer none,.pointer none,.slice (some ⟨sg,0,none⟩) n n,.pointer none,.map (some w1.heap.size)] 102)) (w1.heap.size) 0 (fun _=>none):=Zk.o.alloc _;have fF:w1.heap.size≤sg∧w1.heap.size≤(w1.heap.size)∧w1.heap.size≤(w4.heap.size):=by
  have h1:=Zd.o;have h2:w1.heap.size≤w4.heap.size:=gj.o.size;omega
 obtain⟨w5,jD⟩:=ae (w4.alloc (.cells #[.int .i64 n,.int .i64 au,.int .i64 aA,.bool true,.int .i64 0,.int .u32 1,.pointer none,.pointer none,.slice (some ⟨sg,0,none⟩) n n,.pointer none,.map (some w1.heap.size)] 102));rw[jD] at Bv dU sk rJ;rw[show(w4.alloc (.cells #[.int .i64 n,.int .i64 au,.int .i64 aA,.bool true,.int .i64 0,.int .u32 1,.pointer none,.pointer none,.slice (some ⟨sg,0,none⟩) n n,.pointer none,.map (some w1.heap.size)] 102))=w5 from jD];obtain⟨b,hb⟩:=ae ((w4.heap.size));obtain⟨mb,Y0⟩:=ae w1.heap.size;exact acK
