import Derived.Test.YtemighjbfanenaaGreatDoorPk13
import Derived.Test.YtemighjbfanenaaGreatDoorPk14
set_option linter.all false
set_option maxRecDepth 100000
set_option maxHeartbeats 16000000
namespace Go.Proofs.YtemighjbfanenaaGreatDoor
open RowKit
open yy (fS hasB)
open ki (eU Slot)
open Hp (eJ bR)
open And renaming intro→dy
open Go.Proofs.Tryz renaming prog→af
open List renaming mem_append_left→Ao,mem_append→kQ
open Nat renaming lt_of_lt_of_le→aW,le_refl→aQ
open RowKit.Below renaming refl→au
theorem acU{p:Prop}(h:p:=by
 simp only[hb] at BW rK ⊢;simp only[Y3] at BW rK ⊢;have ft:w1.heap.size≤sg∧w1.heap.size≤mb∧w1.heap.size≤b:=aj;have Yv:=aa BW;have eA:=aa dX;have qL:=aa su;have Gq:=aa rK;have oP:=aa ft;clear iX hb Y3 BW dX su rK ft mj gH Zi jt o9 mC hHeld;have c0:w5.cell? ⟨sh,0,none⟩=some (.int .i64 n):=(tB.o _ eA.o).1;go_wp2_with fail;refine(yy.uW n aj _).mono ?_;rintro e w6 ⟨tp,tg,rfl,hS6,h61,h62,mY⟩;have Wt:=Yv.o.ai mY;have ag5: ¬sh=b:=by have h1:=HA0.o.lt;have h2:=oP.o;omega
 have amC: ¬b=sh:=fun e=>ag5 e.symm
 have d1:w6.cell? ⟨sh,1,none⟩=some (.int .i64 ar):=((HA0.o.ai eA.o).ai mY).cell 1;have k6:w6.cell? ⟨b,6,none⟩=some (.pointer none):=Wt.cell 6;have m6:=Wt.mark 6;have R8:=Wt.lt;have HS6:=aa hS6;have H61:=aa (dy h61 h62);have ij:=aa mY;have alH:=aa Wt;clear hS6 h61 h62 mY Wt c0;go_wp2_with fail;have ae0:=alH.o.put 6 (.pointer (some ⟨tp,0,none⟩));have T67:=(aI.refl (· =b) w6).put (p:=⟨b,6,none⟩) (.inl rfl) (.pointer (some ⟨tp,0,none⟩));obtain⟨w7,wQ⟩:=ae (w6.setCell ⟨b,6,none⟩ (.pointer (some ⟨tp,0,none⟩)));rw[wQ] at ae0 T67 ⊢;have Nl:=aa ae0;have alb:=aa T67;clear wQ ae0 T67 d1 k6 m6 R8;refine(ki.uW ar aap.1 aap.2 w7).mono ?_;rintro e w8 ⟨ip,ig,m,rfl,hI8,hm8,ahr,h81,h82,mX⟩;have Ws:=Nl.o.ai mX;have k7:w8.cell? ⟨b,7,none⟩=some (.pointer none):=Ws.cell 7;have m7:=Ws.mark 7;have hl8:=Ws.lt;have HI8:=aa hI8;have H81:=aa (dy (dy hm8 ahr) (dy h81 h82));have py:=aa mX;have alG:=aa Ws;clear hI8 hm8 ahr h81 h82 mX Ws;go_wp2_with fail;have aeZ:=alG.o.put 7 (.pointer (some ⟨ip,0,none⟩));have T89:=(aI.refl (· =b) w8).put (p:=⟨b,7,none⟩) (.inl rfl) (.pointer (some ⟨ip,0,none⟩));obtain⟨w9,jH⟩:=ae (w8.setCell ⟨b,7,none⟩ (.pointer (some ⟨ip,0,none⟩)));rw[jH] at aeZ T89 ⊢;have alF:=aa aeZ;have ala:=aa T89;clear jH aeZ T89 k7 m7 hl8;refine(Hp.uW w9).mono ?_;rintro e vq ⟨hp,rfl,WA,wy⟩;have BZ:=alF.o.ai wy;have k9:vq.cell? ⟨b,9,none⟩=some (.pointer none):=BZ.cell 9;have m9:=BZ.mark 9;have ahv:=BZ.lt;have alw:=aa WA;have alJ:=aa wy;have aju:=aa BZ;clear WA wy BZ;go_wp2_with fail;go_ret2;exact UQ Pu.o tu aap bz.o eA.o qL.o Gq.o oP.o Yv.o HS6.o H61.o ij.o alb.o HI8.o H81.o py.o ala.o alw.o alJ.o aju.o):p:=h
theorem aci{p:Prop}(h:p:=by
 go_wp2_with fail;refine HC.o.mono ?_;rintro e w1 ⟨rfl,h1,h2⟩;have H1:=aa h1;have H2:=aa h2;clear h1 h2;go_wp2_with fail;go_ret;exact⟨rfl,H1.o,H2.o⟩):p:=h
theorem lW{p:Prop}(h:p:=by injection e with e;omega):p:=h
theorem N5{p:Prop}(h:p:=by exact tB.o _ (az (au _ _))):p:=h
theorem Fs{p:Prop}(h:p:=by subst hk;exact HH.o.bf.fW.block _ rfl):p:=h
theorem oV{p:Prop}(h:p:=by simpa using hy):p:=h
section
section
namespace tR
theorem Et(a b c:Int)(w:World)(h:CL a b c=true):
  Calls af 90 #[.agg #[.int .i64 a,.int .i64 b,.int .i64 c]] w fun e w'=>e= .returned (.int .i64 0)∧Below w.heap.size w w':=by
 obtain⟨h1,h2,h3,h4,h5,h6⟩:=lL h;clear h;go_enter Tryz.func90,Tryz.ntmps90;go_wp2;go_ret;exact⟨rfl,(au _ _).alloc (aQ _) _⟩
theorem W8(a b c:Int)(w:World)(h:CL a b c=false):
  Calls af 90 #[.agg #[.int .i64 a,.int .i64 b,.int .i64 c]] w fun e w'=>e= .returned (.int .i64 90)∧Below w.heap.size w w':=by
 have HH:=aa (UN h);clear h;go_enter Tryz.func90,Tryz.ntmps90;go_wp2;all_goals first
  | (go_ret;exact⟨rfl,(au _ _).alloc (aQ _) _⟩)
  | (exfalso;have:=HH.o;(try simp at *);omega)
theorem nH(a b c:Int)(w:World)(h:CL a b c=true):
  Calls af 109 #[.agg #[.int .i64 a,.int .i64 b,.int .i64 c]] w fun e w'=>e= .returned (.int .i64 0)∧Below w.heap.size w w':=by
 obtain⟨h1,h2,h3,h4,h5,h6⟩:=lL h;clear h;go_enter Tryz.func109,Tryz.ntmps109;go_wp2;go_ret;exact⟨rfl,(au _ _).alloc (aQ _) _⟩
end tR
end
section
namespace Bk
structure bS where
 id:Int
 aw:Nat
 aS:Int
def je(x:bS): List Value:=[.int .u32 x.id,.int .i64 x.aw,.int .i64 x.aS]
theorem sH(x:bS): ∀ u∈je x,u.oneCell'=true:=by
 intro u hu;simp only[je,List.mem_cons,List.not_mem_nil,or_false] at hu;rcases hu with rfl|rfl|rfl <;>rfl
theorem J6: (af.info? 171).map (fun i=>(i.zero,i.size,i.bytes))=some (some (.agg #[.int .u32 0,.int .i64 0,.int .i64 0]),3,24):=br
theorem eT: (af.info? 171).map (·.size)=some 3:=br
structure bH where
 tp:Nat
 tg:Nat
 tc:Nat
 ip:Nat
 ig:Nat
 m:Nat
 sg:Nat
 sc:Nat
 hp:Nat
 hl:Nat
 mb:Nat
 hm:Nat
 ws:Nat→Nat
 gr:Nat
 f:Nat→Slot
 sb:Nat→bS
 hn:Int
 hf:Nat→eJ
 φ:Int→Option Int
 H:Nat→Prop
structure cC(S:Nat→Prop)(w:World)(b n ar:Nat)(aA next aq:Int)(len:Nat)(q:bH): Prop where
 own:aG w b 102 #[.int .i64 n,.int .i64 ar,.int .i64 aA,.bool true,.int .i64 aq,.int .u32 next,.pointer (some ⟨q.tp,0,none⟩),.pointer (some ⟨q.ip,0,none⟩),.slice (some ⟨q.sg,0,none⟩) n q.sc,.pointer (some ⟨q.hp,0,none⟩),.map (some q.mb)]
 taken:fS w q.tp q.tg q.tc n q.ws
 ids:eU w q.ip q.ig q.m ar len q.gr q.f
 fW:aM S w 171 3 (.slice (some ⟨q.sg,0,none⟩) n q.sc) n (fun i=>je (q.sb i))
 due:bR q.H w q.hp q.hl q.hn q.hf
 held:dp af 39 3 .u32 w q.mb q.hm q.φ
 bA:S b∧S q.tp∧S q.tg∧S q.ip∧S q.ig∧S q.mb
 apart: ∀ k,q.H k→S k∧k≠b∧k≠q.tp∧k≠q.tg∧k≠q.ip∧k≠q.ig∧k≠q.sg∧k≠q.mb
 lt: ∀ k,S k→k<w.heap.size
section
variable {S:Nat→Prop}{w w':World}{b n ar:Nat}{aA next aq:Int}{len:Nat}{q:bH}
theorem cC.Ce(h:cC S w b n ar aA next aq len q): (∃ cs,aG w b 102 cs)∧(∃ cs,aG w q.tp 312 cs)∧(∃ cs,aG w q.tg 22 cs)∧(∃ cs,aG w q.ip 315 cs)∧(∃ cs,aG w q.ig 358 cs)∧(∃ cs,aG w q.sg 171 cs):=by
 obtain⟨cur,h1,_⟩:=h.taken.row;obtain⟨s,hs⟩:=h.ids.cQ;obtain⟨akY,h2,_⟩:=hs.rows;exact⟨⟨_,h.own⟩,⟨_,h.taken.own⟩,⟨cur,h1⟩,⟨_,hs.own⟩,⟨akY,h2⟩,h.fW.arr⟩
variable{T:Nat→Prop}
theorem uU{p g c n:Nat}{ws:Nat→Nat}(h:fS w p g c n ws)(hp:w'.heap[p]? =w.heap[p]?)(hg:w'.heap[g]? =w.heap[g]?): fS w' p g c n ws:=by
 obtain⟨cur,h1,h2⟩:=h.row;exact⟨hp.trans h.own,⟨cur,hg.trans h1,h2⟩,h.small,h.apart⟩
theorem cC.qw(h:cC S w b n ar aA next aq len q)(ht:aI T w w')(hT: ¬T b): aG w' b 102 #[.int .i64 n,.int .i64 ar,.int .i64 aA,.bool true,.int .i64 aq,.int .u32 next,.pointer (some ⟨q.tp,0,none⟩),.pointer (some ⟨q.ip,0,none⟩),.slice (some ⟨q.sg,0,none⟩) n q.sc,.pointer (some ⟨q.hp,0,none⟩),.map (some q.mb)]:=ht.arr h.own hT
theorem cC.lC(h:cC S w b n ar aA next aq len q)(ht:aI T w w')(h1: ¬T q.tp)(h2: ¬T q.tg): fS w' q.tp q.tg q.tc n q.ws:=by
 obtain⟨_,⟨_,a1⟩,⟨_,a2⟩,_⟩:=h.Ce;exact uU h.taken (ht.block _ a1.lt h1) (ht.block _ a2.lt h2)
theorem cC.qx(h:cC S w b n ar aA next aq len q)(ht:aI T w w')(h1: ¬T q.ip)(h2: ¬T q.ig): eU w' q.ip q.ig q.m ar len q.gr q.f:=
 h.ids.same (ht.block _ h.ids.lt.1 h1) (ht.block _ h.ids.lt.2 h2)
theorem cC.lD(h:cC S w b n ar aA next aq len q)(ht:aI T w w')(h1: ¬T q.sg): aM S w' 171 3 (.slice (some ⟨q.sg,0,none⟩) n q.sc) n (fun i=>je (q.sb i)):=by
 obtain⟨_,_,_,_,_,⟨_,a⟩⟩:=h.Ce;exact h.fW.Od (ht.block _ a.lt h1)
theorem cC.tr(h:cC S w b n ar aA next aq len q)(ht:aI T w w')(h1: ∀ k,q.H k→¬T k): bR q.H w' q.hp q.hl q.hn q.hf:=
 h.due.same fun k hk hl=>ht.block k hl (h1 k hk)
theorem cC.nL(h:cC S w b n ar aA next aq len q)(ht:aI T w w')(h1: ¬T q.mb): dp af 39 3 .u32 w' q.mb q.hm q.φ:=
 h.held.same (ht.block _ h.held.lt h1)
theorem cC.ak(h:cC S w b n ar aA next aq len q)(hb:Below w.heap.size w w'): cC S w' b n ar aA next aq len q:=by
 have ht:aI (fun _=>False) w w':=⟨hb.os,hb.tape,hb.output,hb.size,fun k hk _=>hb.block k hk⟩;exact⟨h.qw ht id,h.lC ht id id,h.qx ht id id,h.lD ht id,h.tr ht (fun _ _=>id),h.nL ht id,h.bA,h.apart,fun k hk=>aW (h.lt k hk) hb.size⟩
theorem cC.same(h:cC S w b n ar aA next aq len q)(hz:w.heap.size≤w'.heap.size)(hk: ∀ k,S k→k<w.heap.size→w'.heap[k]? =w.heap[k]?): cC S w' b n ar aA next aq len q:=by
 obtain⟨⟨_,a0⟩,⟨_,a1⟩,⟨_,a2⟩,⟨_,a3⟩,⟨_,a4⟩,⟨_,a5⟩⟩:=h.Ce;obtain⟨s0,s1,s2,s3,s4,s5⟩:=h.bA;exact⟨(hk b s0 a0.lt).trans h.own,uU h.taken (hk _ s1 a1.lt) (hk _ s2 a2.lt),h.ids.same (hk _ s3 a3.lt) (hk _ s4 a4.lt),h.fW.Od (hk _ (h.fW.block _ rfl) a5.lt),h.due.same fun k hH hl=>hk k (h.apart k hH).1 hl,h.held.same (hk _ s5 h.held.lt),h.bA,h.apart,fun k hk=>aW (h.lt k hk) hz⟩
theorem cC.mono(h:cC S w b n ar aA next aq len q)(p9: ∀ k,S k→T k)(hT: ∀ k,T k→k<w.heap.size): cC T w b n ar aA next aq len q:=
 ⟨h.own,h.taken,h.ids,h.fW.mono fun k hk _=>p9 k hk,h.due,h.held,⟨p9 _ h.bA.1,p9 _ h.bA.2.1,p9 _ h.bA.2.2.1,p9 _ h.bA.2.2.2.1,p9 _ h.bA.2.2.2.2.1,p9 _ h.bA.2.2.2.2.2⟩,fun k hk=>⟨p9 k (h.apart k hk).1,(h.apart k hk).2⟩,hT⟩
theorem cC.vX(h:cC S w b n ar aA next aq len q)(ht:aI (fun k=>k=q.ip∨k=q.ig) w w'){agN gr:Nat}{f:Nat→Slot}(hi:eU w' q.ip q.ig q.m ar agN gr f): cC S w' b n ar aA next aq agN {q with gr:=gr,f:=f}:=by
 obtain⟨⟨_,a0⟩,⟨_,a1⟩,⟨_,a2⟩,⟨_,a3⟩,⟨_,a4⟩,⟨_,a5⟩⟩:=h.Ce;have ne: ∀ {p:Nat} {t:TypeId} {cs:Array Value},aG w p t cs→t≠315→t≠358→¬(p=q.ip∨p=q.ig):=fun a h1 h2 e=>by
  rcases e with e|e
  ·exact iB a a3 h1 e
  exact iB a a4 h2 e
 exact⟨h.qw ht (ne a0 aN aN),h.lC ht (ne a1 aN aN) (ne a2 aN aN),hi,h.lD ht (ne a5 aN aN),h.tr ht (fun k hk e=>by rcases e with e|e;exact(h.apart k hk).2.2.2.2.1 e;exact(h.apart k hk).2.2.2.2.2.1 e),h.nL ht (fun e=>by rcases e with e|e;exact Hp.dm h.held a3 e.symm;exact Hp.dm h.held a4 e.symm),h.bA,h.apart,fun k hk=>aW (h.lt k hk) ht.size⟩
theorem cC.qj(h:cC S w b n ar aA next aq len q)(ht:aI (· =q.tg) w w'){ws:Nat→Nat}(hi:fS w' q.tp q.tg q.tc n ws): cC S w' b n ar aA next aq len {q with ws:=ws}:=by
 obtain⟨⟨_,a0⟩,⟨_,a1⟩,⟨_,a2⟩,⟨_,a3⟩,⟨_,a4⟩,⟨_,a5⟩⟩:=h.Ce;exact⟨h.qw ht (iB a0 a2 aN),hi,h.qx ht (iB a3 a2 aN) (iB a4 a2 aN),h.lD ht (iB a5 a2 aN),h.tr ht (fun k hk=>(h.apart k hk).2.2.2.1),h.nL ht (fun e=>Hp.dm h.held a2 e.symm),h.bA,h.apart,fun k hk=>aW (h.lt k hk) ht.size⟩
theorem cC.nE(h:cC S w b n ar aA next aq len q)(ht:aI (· =q.sg) w w'){sb:Nat→bS}(hi:aM S w' 171 3 (.slice (some ⟨q.sg,0,none⟩) n q.sc) n (fun i=>je (sb i))): cC S w' b n ar aA next aq len {q with sb:=sb}:=by
 obtain⟨⟨_,a0⟩,⟨_,a1⟩,⟨_,a2⟩,⟨_,a3⟩,⟨_,a4⟩,⟨_,a5⟩⟩:=h.Ce;exact⟨h.qw ht (iB a0 a5 aN),h.lC ht (iB a1 a5 aN) (iB a2 a5 aN),h.qx ht (iB a3 a5 aN) (iB a4 a5 aN),hi,h.tr ht (fun k hk=>(h.apart k hk).2.2.2.2.2.2.1),h.nL ht (fun e=>Hp.dm h.held a5 e.symm),h.bA,h.apart,fun k hk=>aW (h.lt k hk) ht.size⟩
theorem cC.D8(h:cC S w b n ar aA next aq len q)(ht:aI (· =q.mb) w w'){hm:Nat}{φ:Int→Option Int}(hi:dp af 39 3 .u32 w' q.mb hm φ): cC S w' b n ar aA next aq len {q with hm:=hm,φ:=φ}:=by
 obtain⟨⟨_,a0⟩,⟨_,a1⟩,⟨_,a2⟩,⟨_,a3⟩,⟨_,a4⟩,⟨_,a5⟩⟩:=h.Ce;exact⟨h.qw ht (Hp.dm h.held a0),h.lC ht (Hp.dm h.held a1) (Hp.dm h.held a2),h.qx ht (Hp.dm h.held a3) (Hp.dm h.held a4),h.lD ht (Hp.dm h.held a5),h.tr ht (fun k hk=>(h.apart k hk).2.2.2.2.2.2.2),hi,h.bA,h.apart,fun k hk=>aW (h.lt k hk) ht.size⟩
theorem cC.WW(h:cC S w b n ar aA next aq len q)(ht:aI q.H w w'){hl:Nat}{hn:Int}{hf:Nat→eJ}(hi:bR (fun k=>q.H k∨w.heap.size≤k) w' q.hp hl hn hf):
  cC (fun k=>(S k∨w.heap.size≤k)∧k<w'.heap.size) w' b n ar aA next aq len {q with hl:=hl,hn:=hn,hf:=hf,H:=fun k=>(q.H k∨w.heap.size≤k)∧k<w'.heap.size}:=by
 obtain⟨⟨_,a0⟩,⟨_,a1⟩,⟨_,a2⟩,⟨_,a3⟩,⟨_,a4⟩,⟨_,a5⟩⟩:=h.Ce;have l0:=a0.lt;have l1:=a1.lt;have l2:=a2.lt;have l3:=a3.lt;have l4:=a4.lt;have l6:=a5.lt;have l5:=h.held.lt;have hz:=ht.size;have hno: ∀ x,(∀ k,q.H k→k≠x)→¬q.H x:=fun x hx e=>hx x e rfl
 refine⟨h.qw ht (hno _ fun k hk=>(h.apart k hk).2.1),h.lC ht (hno _ fun k hk=>(h.apart k hk).2.2.1) (hno _ fun k hk=>(h.apart k hk).2.2.2.1),h.qx ht (hno _ fun k hk=>(h.apart k hk).2.2.2.2.1) (hno _ fun k hk=>(h.apart k hk).2.2.2.2.2.1),(h.lD ht (hno _ fun k hk=>(h.apart k hk).2.2.2.2.2.2.1)).mono fun k hk hk2=>⟨.inl hk,hk2⟩,hi.mono fun k hk hk2=>⟨hk,hk2⟩,h.nL ht (hno _ fun k hk=>(h.apart k hk).2.2.2.2.2.2.2),⟨⟨.inl h.bA.1,(show b<w'.heap.size from aj)⟩,⟨.inl h.bA.2.1,(show q.tp<w'.heap.size from aj)⟩,⟨.inl h.bA.2.2.1,(show q.tg<w'.heap.size from aj)⟩,⟨.inl h.bA.2.2.2.1,(show q.ip<w'.heap.size from aj)⟩,⟨.inl h.bA.2.2.2.2.1,(show q.ig<w'.heap.size from aj)⟩,⟨.inl h.bA.2.2.2.2.2,(show q.mb<w'.heap.size from aj)⟩⟩,fun k hk=>?_,fun k hk=>hk.2⟩;obtain⟨hk,hk3⟩:=hk;rcases hk with hk|hk
 ·exact⟨⟨.inl (h.apart k hk).1,hk3⟩,(h.apart k hk).2⟩
 ·exact⟨⟨.inr hk,hk3⟩,(show k≠b from aj),(show k≠q.tp from aj),(show k≠q.tg from aj),(show k≠q.ip from aj),(show k≠q.ig from aj),(show k≠q.sg from aj),(show k≠q.mb from aj)⟩
end
end Bk
end
section
namespace Bk
def ke(L:List bS): Nat:=(L.filter fun x=>decide (0<x.aS)).length
theorem JF(L:List bS): ke L≤L.length:=List.length_filter_le _ _
variable{S:Nat→Prop}{w:World}{b n:Nat}{aA aq:Int}
theorem D9{L:List bS}{x:bS}(h:0<x.aS): ke (L++ [x])=ke L+1:=by unfold ke;rw[List.filter_append];simp[h]
theorem JE{L:List bS}{x:bS}(h: ¬0<x.aS): ke (L++ [x])=ke L:=by unfold ke;rw[List.filter_append];simp[h]
structure mE(L:List bS)(q:bH): Prop where
 len:q.hl=ke L
 cnt:q.hm=ke L
 held: ∀ x∈L,0<x.aS→∃ h,q.φ x.id=some h∧Hp.In q.hf q.hl ⟨x.aS,x.id,h⟩
 items: ∀ y,Hp.In q.hf q.hl y→∃ x∈L,0<x.aS∧y=⟨x.aS,x.id,y.bc⟩∧q.φ x.id=some y.bc
 free: ∀ i,(∀ x∈L,0<x.aS→x.id≠i)→q.φ i=none
 ord:Hp.Ordered q.hf q.hl
 ids: ∀ x∈L,0≤x.id∧x.id<4294967296
theorem mE.akT{L:List bS}{q q':bH}(h:mE L q){x:bS}(hx: ¬0<x.aS)(hid:0≤x.id∧x.id<4294967296)(e1:q'.hl=q.hl)(e2:q'.hm=q.hm)(e3:q'.hf=q.hf)(e4:q'.φ=q.φ): mE (L++ [x]) q':=by
 refine⟨by rw[e1,JE hx,h.len],by rw[e2,JE hx,h.cnt],fun y hy hp=>?_,fun y hy=>?_,fun i hi=>?_,by rw[e1,e3];exact h.ord,fun y hy=>?_⟩
 ·rw[e1,e3,e4];rcases kQ.1 hy with hy|hy
  ·exact h.held y hy hp
  obtain rfl:y=x:=oV;exact absurd hp hx
 ·rw[e1,e3] at hy;obtain⟨z,hz,r⟩:=h.items y hy;exact⟨z,Ao _ hz,by rw[e4];exact r⟩
 ·rw[e4];exact h.free i fun y hy=>hi y (Ao _ hy)
 rcases kQ.1 hy with hy|hy
 ·exact h.ids y hy
 obtain rfl:y=x:=oV;exact hid
theorem mE.push{L:List bS}{q q':bH}(h:mE L q){x:bS}(hx:0<x.aS)(hid:0≤x.id∧x.id<4294967296)(mB: ∀ y∈L,y.id≠x.id)(e1:q'.hl=q.hl+1)(e2:q'.hm=if(q.φ x.id).isSome=true then q.hm else q.hm+1)(e3:q'.hf=Hp.gl (cH q.hf q.hl ⟨x.aS,x.id,q.hn⟩) (q.hl+1) q.hl)(e4:q'.φ=tN q.φ x.id (some q.hn)): mE (L++ [x]) q':=by
 have hno:q.φ x.id=none:=h.free x.id fun y hy _=>mB y hy
 refine⟨by rw[e1,D9 hx,h.len],by rw[e2,hno,D9 hx,h.cnt];rfl,fun y hy hp=>?_,fun y hy=>?_,fun i hi=>?_,by rw[e1,e3];exact Hp.FL h.ord _,fun y hy=>?_⟩
 ·rw[e1,e3,e4];rcases kQ.1 hy with hy|hy
  ·obtain⟨t,h1,h2⟩:=h.held y hy hp;exact⟨t,by rw[cP _ _ (mB y hy)];exact h1,(Hp.FY _ _).2 (.inl h2)⟩
  obtain rfl:y=x:=oV;exact⟨q.hn,fo _ _ _,(Hp.FY _ _).2 (.inr rfl)⟩
 ·rw[e1,e3] at hy;rcases(Hp.FY _ _).1 hy with hy|rfl
  ·obtain⟨z,hz,r1,r2,r3⟩:=h.items y hy;exact⟨z,Ao _ hz,r1,r2,by rw[e4,cP _ _ (mB z hz)];exact r3⟩
  exact⟨x,dR,hx,rfl,by rw[e4];exact fo _ _ _⟩
 ·have KI:i≠x.id:=fun e=>hi x dR hx e.symm
  rw[e4,cP _ _ KI];exact h.free i fun y hy=>hi y (Ao _ hy)
 rcases kQ.1 hy with hy|hy
 ·exact h.ids y hy
 obtain rfl:y=x:=oV;exact hid
structure bm(S:Nat→Prop)(w:World)(b n ar:Nat)(aA next aq:Int)(L:List bS)(q:bH): Prop where
 bf:cC S w b n ar aA next aq L.length q
 bits: ∀ i,i<n→(hasB q.ws i=true↔∃ x∈L,x.aw=i)
 cQ: ∀ x∈L,x.aw<n∧q.sb x.aw=x
 under: ∀ j,j<q.m→(q.f j).state=1→∃ x∈L,(q.f j).id=x.id
 listed: ∀ x∈L,∃ j,j<q.m∧(q.f j).state=1∧(q.f j).id=x.id∧(q.f j).v=x.aw
 small:q.hl≤L.length∧(q.hn≤next∧(q.hn=next→∃ x∈L,x.id=next))∧q.hm≤L.length∧1≤n∧n≤1024
 qy:mE L q
theorem bm.tbl{ar:Nat} {next:Int} {L:List bS}{q:bH}(h:bm S w b n ar aA next aq L q)(a v:Int): ki.jE q.f q.m a v↔∃ x∈L,x.id=a∧(x.aw:Int)=v:=by
 constructor
 ·rintro⟨j,hj,h1,h2,h3⟩;obtain⟨x,hx,e⟩:=h.under j hj h1;obtain⟨i,hi,i1,i2,i3⟩:=h.listed x hx;obtain rfl:=h.bf.ids.tab.uniq i j hi hj i1 h1 (i2.trans e.symm);exact⟨x,hx,e.symm.trans h2,i3.symm.trans h3⟩
 rintro⟨x,hx,rfl,rfl⟩;obtain⟨i,hi,i1,i2,i3⟩:=h.listed x hx;exact⟨i,hi,i1,i2,i3⟩
theorem bm.idr{ar:Nat} {next:Int} {L:List bS}{q:bH}(h:bm S w b n ar aA next aq L q): ∀ i,i<q.m→(q.f i).state=1→0≤(q.f i).id∧(q.f i).id<4294967296:=fun i hi hs=>by
 obtain⟨x,hx,e⟩:=h.under i hi hs;rw[e];exact h.qy.ids x hx
theorem JJ(ws:Nat→Nat)(i j:Nat): hasB (fun k=>if k=i / 64 then ws k|||2 ^ (i % 64)else ws k) j=(hasB ws j||decide (j=i)):=by
 unfold hasB;show(if j / 64=i / 64 then ws (j / 64)|||2 ^ (i % 64)else ws (j / 64)).testBit (j % 64)=_
 by_cases h:j / 64=i / 64
 ·rw[if_pos h,Nat.testBit_or,Nat.testBit_two_pow];congr 1;rw[Bool.eq_iff_iff,decide_eq_true_eq,decide_eq_true_eq];omega
 rw[if_neg h];have:decide (j=i)=false:=decide_eq_false (fun e=>h mm);rw[this,Bool.or_false]
theorem Ev(p g c n i:Nat)(ws:Nat→Nat)(w:World)(h:fS w p g c n ws)(hi:i<n)(hn:n≤1000000): Calls af 164 #[.pointer (some ⟨p,0,none⟩),.int .i64 i] w fun e w'=>e= .returned (.int .i64 0)∧fS w' p g c n (fun j=>if j=i / 64 then ws j|||2 ^ (i % 64)else ws j)∧w.grownBy w' (some g):=by
 have HC:=aa (yy.RZ p g c n i ws w h hi hn);clear h;go_enter Tryz.func164,Tryz.ntmps164;exact aci
theorem rV(sb:Nat→bS)(i:Nat)(x:bS): cH (fun i=>je (sb i)) i (je x)=fun j=>je (cH sb i x j):=by
 funext j;unfold cH;by_cases h:j=i
 ·simp[h]
 simp[h]
theorem bm.more{T:Nat→Prop} {w':World} {ar:Nat} {next:Int} {L:List bS}{x:bS}{q:bH}(h:bm S w b n ar aA next aq L q)(mB: ∀ y∈L,y.id≠x.id)(kA: ∀ y∈L,y.aw≠x.aw)(hx:x.aw<n)
  {q':bH} (hc:cC T w' b n ar aA next aq (L.length+1) q') (h1:q'.ws=fun j=>if j=x.aw / 64 then q.ws j|||2 ^ (x.aw % 64)else q.ws j) (h2: ∀ a v,ki.jE q'.f q'.m a v↔ki.jE q.f q.m a v∨(a=x.id∧v=(x.aw:Int))) (h3:q'.sb=cH q.sb x.aw x) (h5:q'.hl≤L.length+1∧(q'.hn≤next∧(q'.hn=next→∃ y∈L++ [x],y.id=next))∧q'.hm≤L.length+1) (h6:mE (L++ [x]) q') :
  bm T w' b n ar aA next aq (L++ [x]) q':=by
 have hl:(L++ [x]).length=L.length+1:=dR;refine⟨by rw[hl];exact hc,fun j hj=>?_,fun y hy=>?_,fun j hj hs=>?_,fun y hy=>?_,by rw[hl];exact⟨h5.1,h5.2.1,h5.2.2,h.small.2.2.2⟩,h6⟩
 ·rw[h1,JJ,Bool.or_eq_true,h.bits j hj,decide_eq_true_eq];constructor
  ·rintro(⟨y,hy,e⟩|e)
   ·exact⟨y,by simp[hy],e⟩
   exact⟨x,dR,e.symm⟩
  rintro⟨y,hy,e⟩;rcases kQ.1 hy with hy|hy
  ·exact .inl ⟨y,hy,e⟩
  obtain rfl:y=x:=oV;exact .inr e.symm
 ·rw[h3];rcases kQ.1 hy with hy|hy
  ·refine⟨(h.cQ y hy).1,?_⟩;rw[bl _ _ (kA y hy)];exact(h.cQ y hy).2
  obtain rfl:y=x:=oV;exact⟨hx,bM _ _ _⟩
 ·rcases(h2 _ _).1 ⟨j,hj,hs,rfl,rfl⟩with hu|⟨e,_⟩
  ·obtain⟨y,hy,e,_⟩:=(h.tbl _ _).1 hu;exact⟨y,by simp[hy],e.symm⟩
  exact⟨x,dR,e⟩
 ·have:ki.jE q'.f q'.m y.id (y.aw:Int):=by
   rw[h2];rcases kQ.1 hy with hy|hy
   ·exact .inl ((h.tbl _ _).2 ⟨y,hy,rfl,rfl⟩)
   obtain rfl:y=x:=oV;exact .inr ⟨rfl,rfl⟩
  exact this
theorem NR{w3 w4:World} {ar:Nat} {next:Int} {len vb:Nat}{q:bH}{cs:Array Value}(h:cC S w b n ar aA next aq len q)(hv:w.heap.size=vb)(ha:aG w3 vb 171 cs)(hg:w3.drew.grownBy w4 (some q.sg)): aG w4 vb 171 cs:=by
 obtain⟨_,_,_,_,_,⟨_,a⟩⟩:=h.Ce;have h1:=a.lt;exact(hg.block vb ha.lt (fun e=>lW)).trans ha
def afF(S:Nat→Prop)(w:World)(b n ar:Nat)(aA next aq:Int)(L:List bS)(q:bH)(x:bS)(e:Ending)(w':World): Prop:=
 (∃ v,e= .returned v)∧(∃ q',bm (fun k=>(S k∨w.heap.size≤k)∧k<w'.heap.size) w' b n ar aA next aq (L++ [x]) q'∧q'.hn≤q.hn+1)∧aI S w w'
theorem UB(S:Nat→Prop)(b n ar:Nat)(aA next aq:Int)(L:List bS)(x:bS)(q:bH)(w:World)(h:bm S w b n ar aA next aq L q)(hid:0≤x.id∧x.id<4294967296)(mB: ∀ y∈L,y.id≠x.id)(kA: ∀ y∈L,y.aw≠x.aw)(hx:x.aw<n)(hl:L.length<ar)(Ml:0≤x.aS∧x.aS≤1099511627776)(Wi:q.hn<x.id∧x.id≤next):
  Calls af 158 #[.pointer (some ⟨b,0,none⟩),.agg #[.int .u32 x.id,.int .i64 x.aw,.int .i64 x.aS]] w (afF S w b n ar aA next aq L q x):=by
 have hq:=h.small;have ac0: ∀ j,j<q.m→(q.f j).state=1→(q.f j).id≠x.id:=fun j hj hs e=>by
  obtain⟨y,hy,YY⟩:=h.under j hj hs;exact mB y hy (by rw[←YY,e])
 have hl4:L.length<4096:=by have:=h.bf.ids.bg;omega
 have Nf:=aa h.idr;have HH:=aa h;have HNO:=aa ac0;clear h ac0;go_enter Tryz.func158,Tryz.ntmps158;go_wp2_with fail;have hb1:Below w.heap.size w (w.alloc (.cells #[.int .u32 x.id,.int .i64 x.aw,.int .i64 x.aS] 171)):=ax (au _ _) _;have bt:aG (w.alloc (.cells #[.int .u32 x.id,.int .i64 x.aw,.int .i64 x.aS] 171)) w.heap.size 171 #[.int .u32 x.id,.int .i64 x.aw,.int .i64 x.aS]:=aG.fresh w _ _;obtain⟨w1,aZ⟩:=ae (w.alloc (.cells #[.int .u32 x.id,.int .i64 x.aw,.int .i64 x.aS] 171));obtain⟨vb,oh⟩:=ae w.heap.size;rw[aZ] at hb1 bt ⊢;rw[oh] at bt ⊢;clear aZ;have hc1:=HH.o.bf.ak hb1;have sB:aI S w w1:=(aI.refl S w).ak hb1;have x7:w1.cell? ⟨b,7,none⟩=some (.pointer (some ⟨q.ip,0,none⟩)):=hc1.own.cell 7;have y0:=bt.cl 0;have y1:=bt.cl 1;have kR:=aa hc1;have dz:=aa bt;have jq:=aa sB;have zb:=aa oh;clear hc1 bt sB oh hb1;go_still_tail 8,br;change wpList _ _ _ _ _ w1.drew;go_wp2_with fail;have wR:=kR.o.ak (az (au _ _));refine(ki.aiq q.ip q.ig q.m ar L.length q.gr x.id x.aw q.f w1.drew wR.ids hid Nf.o HNO.o hl).mono ?_;rintro e w2 ⟨rfl,⟨f2,gs2,KI,QS⟩,hTi⟩;have hc2:=wR.vX hTi KI;have hlt:=HH.o.bf.ids.lt;have ia:aG w2 vb 171 #[.int .u32 x.id,.int .i64 x.aw,.int .i64 x.aS]:=hTi.arr (show aG w1.drew vb _ _ from dz.o) (by have:=zb.o;omega);have hf:=HH.o.bf.bA;have jB:aI S w w2:=(jq.o.ak (az (au _ _))).trans (hTi.mono fun k _ hk=>by rcases hk with rfl|rfl;exact hf.2.2.2.1;exact hf.2.2.2.2.1);have x6:w2.cell? ⟨b,6,none⟩=some (.pointer (some ⟨q.tp,0,none⟩)):=hc2.own.cell 6;clear x7 y0 y1 wR;have y1:=ia.cl 1;have zB:=aa hc2;have iZ:=aa ia;have gh:=aa jB;have HUN:=aa QS;clear hc2 ia jB QS KI hTi kR dz jq hlt;go_wp2_with fail;go_still_tail 6,br;change wpList _ _ _ _ _ w2.drew;go_wp2_with fail;have wR:=zB.o.ak (az (au _ _));refine(Ev q.tp q.tg q.tc n x.aw q.ws w2.drew wR.taken hx aj).mono ?_;rintro e w3 ⟨rfl,Zb,hg3⟩;have KP:aI (· =q.tg) w2.drew w3:=(aI.refl _ _).grown hg3 (fun k e=>.inl AD);have hc3:=wR.qj KP Zb;obtain⟨_,_,⟨_,atg⟩,_⟩:=HH.o.bf.Ce;have dD:aG w3 vb 171 #[.int .u32 x.id,.int .i64 x.aw,.int .i64 x.aS]:=KP.arr (show aG w2.drew vb _ _ from iZ.o) (by have:=zb.o;have:=atg.lt;omega);have kf:aI S w w3:=(gh.o.ak (az (au _ _))).trans (KP.mono fun k _ hk=>by subst hk;exact hf.2.2.1);clear x6 y1 wR zB iZ gh KP Zb hg3 atg;have x8:w3.cell? ⟨b,8,none⟩=some (.slice (some ⟨q.sg,0,none⟩) n q.sc):=hc3.own.cell 8;have y0:=dD.cl 0;have y1:=dD.cl 1;have y2:=dD.cl 2;have QQ:(x.aw:Int)<(n:Int):=aj;have hx0:(0:Int)≤(x.aw:Int):=aj;have tu:(n:Int)≤1024:=aj;have RR:=aa hc3;have pB:=aa dD;have jF:=aa kf;have gM:=aa (hc3.ak (az (au _ _))).fW;clear hc3 dD kf;go_wp2_with fail;go_still_tail 8,br;change wpList _ _ _ _ _ w3.drew;refine cU rfl 171 _ _ rfl gM.o (fun _=>rfl) x.aw hx rfl (je x) rfl rfl (sH x) eT ?_;intro w4 hr4 hg4 sr;have y2':w4.cell? ⟨vb,2,none⟩=some (.int .i64 x.aS):=by exact(NR HH.o.bf zb.o pB.o hg4).cell 2
 have mj:=aa hr4;have ve:=aa hg4;clear hr4 hg4 sr x8 y0 y1 y2;have JL:aI (· =q.sg) w3.drew w4:=(aI.refl _ _).grown ve.o (fun k e=>.inl AD);have hr4:=mj.o;rw[rV] at hr4;have KO:=(RR.o.ak (az (au _ _))).nE JL hr4;have mZ:=NR HH.o.bf zb.o pB.o ve.o;have jJ:aI S w w4:=(jF.o.ak (az (au _ _))).trans (JL.mono fun k _ hk=>Fs);have RQ:=aa KO;have pA:=aa mZ;have nX:=aa jJ;clear RR pB jF gM mj ve JL hr4 KO mZ jJ;by_cases h0:x.aS=0
 ·have h0': ¬(0:Int)<x.aS:=by omega
  go_wp2_with fail;refine bodyPost_end (results_none Tryz.results158 _ _ _) rfl ⟨⟨_,rfl⟩,⟨_,HH.o.more mB kA hx (RQ.o.mono (T:=fun k=>(S k∨w.heap.size≤k)∧k<w4.heap.size) (fun k hk=>⟨.inl hk,RQ.o.lt k hk⟩) (fun k hk=>hk.2)) rfl HUN.o rfl ⟨Nat.le_succ_of_le hq.1,⟨by show q.hn≤next;omega,fun e=>absurd e (by show ¬q.hn=next;omega)⟩,Nat.le_succ_of_le hq.2.2.1⟩ (HH.o.qy.akT (Int.not_lt.2 aj) hid rfl rfl rfl rfl),by show q.hn≤q.hn+1;omega⟩,nX.o⟩
 ·have h0':(0:Int)<x.aS:=by omega
  have H0:=aa h0;clear h0;have x9:w4.cell? ⟨b,9,none⟩=some (.pointer (some ⟨q.hp,0,none⟩)):=RQ.o.own.cell 9;have x10:w4.cell? ⟨b,10,none⟩=some (.map (some q.mb)):=RQ.o.own.cell 10;have y0:=pA.o.cl 0;have y1:=pA.o.cl 1;go_wp2_with fail;refine dI br ?_;refine bj.any (S:=(fun w'=>w'.cell? ⟨b,9,none⟩=some (.pointer (some ⟨q.hp,0,none⟩))∧w'.cell? ⟨b,10,none⟩=some (.map (some q.mb))∧w'.cell? ⟨vb,0,none⟩=some (.int .u32 x.id)∧w'.cell? ⟨vb,2,none⟩=some (.int .i64 x.aS))) (t:=19) _ _ _ _ ?_;have hHeld:=(show(fun w'=>w'.cell? ⟨b,9,none⟩=some (.pointer (some ⟨q.hp,0,none⟩))∧w'.cell? ⟨b,10,none⟩=some (.map (some q.mb))∧w'.cell? ⟨vb,0,none⟩=some (.int .u32 x.id)∧w'.cell? ⟨vb,2,none⟩=some (.int .i64 x.aS)) w4.drew from⟨x9,x10,y0,y2'⟩);refine tt 0 ?_;refine tt 1 ?_;refine tt 2 ?_;refine tt 3 ?_;refine tt 4 ?_;refine tt 5 ?_;refine tt 6 ?_;refine tt 7 ?_;refine tt 8 ?_;refine tt 9 ?_;refine tt 10 ?_;refine tt 11 ?_;refine tt 12 ?_;refine tt 13 ?_;refine tt 14 ?_;refine bj.step (i:=15) br br rfl (fun K hK=>?_);go_simp;refine(Hp.aa4 q.H q.hp q.hl q.hn q.hf x.aS x.id w4.drew (RQ.o.ak (az (au _ _))).due aj aj).mono ?_;rintro e w5 ⟨rfl,Ej,hTp⟩;have wR:=RQ.o.ak (az (au _ _));have F5:=wR.WW hTp Ej;have fX:aG w5 vb 171 #[.int .u32 x.id,.int .i64 x.aw,.int .i64 x.aS]:=hTp.arr (show aG w4.drew vb _ _ from pA.o) (fun hk=>by have h1:=HH.o.bf.lt vb (HH.o.bf.apart vb hk).1;have h2:=zb.o;omega);have oG:aI S w w5:=(nX.o.ak (az (au _ _))).trans (hTp.mono fun k _ hk=>(HH.o.bf.apart k hk).1);have x9':w5.cell? ⟨b,9,none⟩=some (.pointer (some ⟨q.hp,0,none⟩)):=F5.own.cell 9;have agn:w5.cell? ⟨b,10,none⟩=some (.map (some q.mb)):=F5.own.cell 10;have y0':=fX.cl 0;have agm:=fX.cl 2;have Nj:=aa F5;have px:=aa oG;clear wR F5 fX oG Ej hTp;go_wp2_with fail;refine hK.out _ _ (by first|exact⟨x9',agn,y0',agm⟩) (fun Gc=>?_);clear hK K;try simp only[aY]
  refine tp 16 ?_;refine tp 17 ?_;refine tp 18 ?_;refine bj.last br ?_;refine kB 19 br br ?_;simp only[List.drop_succ_cons,List.drop_zero];refine gj rfl _ _ _ 100 rfl 39 3 .u32 Tryz.underlying39 Tryz.underlying3 Tryz.underlying100 q.mb q.hm q.φ rfl Nj.o.held Qf x.id q.hn rfl rfl (WalkArith.wf_u32 aj) (WalkArith.wf_i64 (by have:=HH.o.bf.due.bound;omega)) ?_;intro w6 CS kq;have hTm:aI (· =q.mb) w5 w6:=(aI.refl _ _).grown kq (fun k e=>.inl AD);have hc6:=Nj.o.D8 hTm CS;have pV:aI S w w6:=px.o.trans (hTm.mono fun k _ hk=>by subst hk;exact HH.o.bf.bA.2.2.2.2.2);have HC6:=aa hc6;have vy:=aa pV;have HZ:=aa hTm.size;have HZ4:=aa nX.o.size;clear CS kq hTm hc6 pV Nj px x9 x10 y0 y1 x9' agn y0' agm Gc hHeld RQ pA nX;go_wp2_with fail;refine bodyPost_end (results_none Tryz.results158 _ _ _) rfl ⟨⟨_,rfl⟩,⟨_,HH.o.more mB kA hx (HC6.o.mono (T:=fun k=>(S k∨w.heap.size≤k)∧k<w6.heap.size) (fun k hk=>?_) (fun k hk=>hk.2)) rfl HUN.o rfl ⟨by show q.hl+1≤_;omega,⟨by show q.hn+1≤next;omega,fun e=>⟨x,dR,by have e2:q.hn+1=next:=e;omega⟩⟩,?_⟩ (HH.o.qy.push h0' hid mB rfl rfl rfl rfl),by show q.hn+1≤q.hn+1;omega⟩,vy.o⟩
  ·have h1:=HZ.o;have h2:=HZ4.o;refine⟨?_,aW hk.2 h1⟩;rcases hk.1 with hk|hk
   ·exact .inl hk
   have Hz:w4.heap.size≤k:=hk;exact .inr aj
  show(if(q.φ x.id).isSome=true then q.hm else q.hm+1)≤_
  split <;>omega
end Bk
end
section
namespace Bk
def Cm(n ar:Nat)(aA:Int)(w:World)(e:Ending)(w':World): Prop:=∃ b S q,e= .returned (.tuple #[.pointer (some ⟨b,0,none⟩),.int .i64 0])∧bm S w' b n ar aA 1 0 [] q∧(∀ k,S k→w.heap.size≤k)∧Below w.heap.size w w'
theorem B'{f:Nat→Slot}{t:Nat}(h: ∀ i,(f i).state≠t): ∀ n,ki.cnt f t n=0
 | 0=>rfl
 | n+1=>by rw[ki.cnt,B' h n,if_neg (h n)]
theorem UQ{n ar:Nat}{aA:Int}{w w1 w5 w6 w7 w8 w9 vq:World}{sh sg mb b tp tg ip ig m hp:Nat}(uL:w.heap.size=sh)(hn:1≤n∧n≤1024)(hc:1≤ar∧ar≤4096)
  (hb1:Below w.heap.size w w1) (dX:Below w1.heap.size w1 w5) (su:aM (· =sg) w5 171 3 (.slice (some ⟨sg,0,none⟩) n n) n (fun _=>je ⟨0,0,0⟩)) (rK:dp af 39 3 .u32 w5 mb 0 (fun _=>none))
  (ft:w1.heap.size≤sg∧w1.heap.size≤mb∧w1.heap.size≤b) (BW:aG w5 b 102 #[.int .i64 n,.int .i64 ar,.int .i64 aA,.bool true,.int .i64 0,.int .u32 1,.pointer none,.pointer none,.slice (some ⟨sg,0,none⟩) n n,.pointer none,.map (some mb)])
  (hS6:fS w6 tp tg ((n+63) / 64) n (fun _=>0)) (h61:w5.heap.size≤tp∧w5.heap.size≤tg) (mY:Below w5.heap.size w5 w6) (T67:aI (· =b) w6 w7)
  (hI8:ki.dS w8 ip ig m ar 0 0 0 (fun _=>⟨0,0,0⟩)) (h81:(2*ar≤m∧m≤4*ar)∧(w7.heap.size≤ip∧w7.heap.size≤ig)) (mX:Below w7.heap.size w7 w8) (T89:aI (· =b) w8 w9)
  (WA:bR (fun k=>w9.heap.size≤k) vq hp 0 0 (fun _=>⟨0,0,0⟩)) (wy:Below w9.heap.size w9 vq) (BZ:aG vq b 102 #[.int .i64 n,.int .i64 ar,.int .i64 aA,.bool true,.int .i64 0,.int .u32 1,.pointer (some ⟨tp,0,none⟩),.pointer (some ⟨ip,0,none⟩),.slice (some ⟨sg,0,none⟩) n n,.pointer none,.map (some mb)]) :
  Cm n ar aA w (.returned (.tuple #[.pointer (some ⟨b,0,none⟩),.int .i64 0])) (vq.setCell ⟨b,9,none⟩ (.pointer (some ⟨hp,0,none⟩))):=by
 have Xq:aI (· =b) vq (vq.setCell ⟨b,9,none⟩ (.pointer (some ⟨hp,0,none⟩))):=(aI.refl (fun k=>k=b) vq).put (p:=⟨b,9,none⟩) (.inl rfl) _;have akf:(vq.setCell ⟨b,9,none⟩ (.pointer (some ⟨hp,0,none⟩))).heap.size=vq.heap.size:=dR;have hown:=BZ.put 9 (.pointer (some ⟨hp,0,none⟩));obtain⟨C9,QR⟩:=ae (vq.setCell ⟨b,9,none⟩ (.pointer (some ⟨hp,0,none⟩)));rw[QR] at Xq akf hown ⊢;have ak1:aI (· =b) w9 C9:=((aI.refl _ _).ak wy).trans Xq;have afy:=T89.trans ak1;have ak2:aI (· =b) w7 C9:=((aI.refl _ _).ak mX).trans afy;have afz:=T67.trans ak2;have afA:aI (· =b) w5 C9:=((aI.refl _ _).ak mY).trans afz;have z1:=hb1.size;have z5:=dX.size;have z6:=mY.size;have z7:=T67.size;have z8:=mX.size;have z9:=T89.size;have z10:=wy.size;obtain⟨cs,asg⟩:=su.arr;have lsg:=asg.lt;have lmb:=rK.lt;have lb:=BW.lt;have ltp:=hS6.own.lt;obtain⟨cur,Mm,_⟩:=hS6.row;have ltg:tg<w6.heap.size:=aG.lt (t:=22) (cs:=cur) Mm;have lip:=hI8.own.lt;have lig:=hI8.rows.lt;have nsg: ¬sg=b:=iB asg BW aN;have nmb: ¬mb=b:=fun e=>Hp.dm rK BW e.symm
 refine⟨b,fun k=>w.heap.size≤k∧k<C9.heap.size,{tp:=tp,tg:=tg,tc:=(n+63) / 64,ip:=ip,ig:=ig,m:=m,gr:=0,sg:=sg,sc:=n,hp:=hp,hl:=0,mb:=mb,hm:=0,ws:=fun _=>0,f:=fun _=>⟨0,0,0⟩,sb:=fun _=>⟨0,0,0⟩,hn:=0,hf:=fun _=>⟨0,0,0⟩,φ:=fun _=>none,H:=fun k=>w9.heap.size≤k∧k<C9.heap.size},rfl,⟨⟨hown,?_,?_,?_,?_,?_,?_,?_,fun k hk=>hk.2⟩,?_,?_,?_,?_,?_,⟨rfl,rfl,(fun x hx=>by cases hx),(fun y ⟨i,hi,_⟩=>absurd hi (Nat.not_lt_zero _)),(fun _ _=>rfl),(fun i h1 h2=>absurd h2 (Nat.not_lt_zero _)),(fun x hx=>by cases hx)⟩⟩,fun k hk=>hk.1,?_⟩
 ·exact uU hS6 (afz.block tp ltp aj) (afz.block tg ltg aj)
 ·have akQ:ki.CV (fun _=>⟨0,0,0⟩) m:=⟨fun i _=>Nat.zero_le _,fun i j _ _ h=>mq,fun id e _ h=>mq⟩;have hc1:ki.cnt (fun _=>(⟨0,0,0⟩:Slot)) 1 m=0:=B' (fun _=>(by decide:(0:Nat)≠1)) m;have hc2:ki.cnt (fun _=>(⟨0,0,0⟩:Slot)) 2 m=0:=B' (fun _=>(by decide:(0:Nat)≠2)) m;exact eU.same (w:=w8) ⟨⟨0,hI8⟩,akQ,hc1,hc2,(show 0≤ar∧2*ar≤m∧1≤ar∧ar≤4096∧m≤16384 from aj)⟩ (afy.block ip lip aj) (afy.block ig lig aj)
 ·exact(su.Od (afA.block sg lsg nsg)).mono fun k hk _=>by have:k=sg:=hk;omega
 ·exact(WA.same fun k hk hk2=>Xq.block k hk2 (by have:w9.heap.size≤k:=hk;omega)).mono fun k hk hk2=>⟨hk,hk2⟩
 ·exact rK.same (afA.block mb lmb nmb)
 ·exact⟨⟨aj,aj⟩,⟨(show w.heap.size≤tp from aj),(show tp<C9.heap.size from aj)⟩,⟨(show w.heap.size≤tg from aj),(show tg<C9.heap.size from aj)⟩,⟨(show w.heap.size≤ip from aj),(show ip<C9.heap.size from aj)⟩,⟨(show w.heap.size≤ig from aj),(show ig<C9.heap.size from aj)⟩,⟨(show w.heap.size≤mb from aj),(show mb<C9.heap.size from aj)⟩⟩
 ·intro k hk;obtain⟨h1,h2⟩:w9.heap.size≤k∧k<C9.heap.size:=hk;exact⟨⟨aj,h2⟩,aj,(show k≠tp from aj),(show k≠tg from aj),(show k≠ip from aj),(show k≠ig from aj),(show k≠sg from aj),(show k≠mb from aj)⟩
 ·intro i hi;have:hasB (fun _=>0) i=false:=by unfold hasB;exact Nat.zero_testBit _
  rw[this];simp
 ·intro x hx;cases hx
 ·intro j hj h;cases h
 ·intro x hx;cases hx
 ·exact⟨aQ _,⟨(by decide:(0:Int)≤1),fun e=>absurd (show(0:Int)=1 from e) aN⟩,aQ _,hn⟩
 ·have T1:aI (· =b) w1 C9:=((aI.refl _ _).ak dX).trans afA;exact aI.nD hb1 T1 (fun k hk=>by have:k=b:=hk;omega)
theorem Ph(n ar:Nat)(aA:Int)(w:World)(h:tR.CL n ar aA=true): Calls af 31 #[.agg #[.int .i64 n,.int .i64 ar,.int .i64 aA]] w (Cm n ar aA w):=by
 obtain⟨i0,hi,hz0,hz1,hz2⟩:=info_parts J6;have fq:=tR.lL h;have V8:=@run_makeMap af;have HC:=aa (fun W=>tR.Et n ar aA W h);have tu:1≤n∧n≤1024:=aj;have aap:1≤ar∧ar≤4096:=aj;have hnz: ¬(n:Int)<0:=aj;clear h fq;go_enter Tryz.func31,Tryz.ntmps31;go_wp2_with fail;refine(HC.o _).mono ?_;rintro e w1 ⟨rfl,hb1⟩;have Zc:=(aG.fresh w 80 #[.int .i64 n,.int .i64 ar,.int .i64 aA]).ai hb1;have WE:=av (ax (au w.heap.size w) (.cells #[.int .i64 n,.int .i64 ar,.int .i64 aA] 80)) hb1;obtain⟨sh,uL⟩:=ae w.heap.size;rw[uL] at Zc ⊢;have Pu:=aa uL;have tB: ∀ w',Below w1.heap.size w1 w'→(w'.cell? ⟨sh,0,none⟩=some (.int .i64 n)∧w'.cell? ⟨sh,1,none⟩=some (.int .i64 ar)∧w'.cell? ⟨sh,2,none⟩=some (.int .i64 aA)∧Below w1.heap.size w1 w'):=fun w' hb=>⟨(Zc.ai hb).cell 0,(Zc.ai hb).cell 1,(Zc.ai hb).cell 2,hb⟩
 have tB:=aa tB;have bz:=aa WE;have HA0:=aa Zc;clear hb1 Zc WE uL;go_wp2_with fail;refine ud (S:=(fun w'=>w'.cell? ⟨sh,0,none⟩=some (.int .i64 n)∧w'.cell? ⟨sh,1,none⟩=some (.int .i64 ar)∧w'.cell? ⟨sh,2,none⟩=some (.int .i64 aA)∧Below w1.heap.size w1 w')) N5 fun hHeld=>?_
 refine lu 0 1 2 3 ?_;refine qp 4 5 (fun K hK=>?_) fun K hK=>?_
 ·rw[if_pos im];refine mR _ (.tmp 14) (.tmp 14) 98 rfl 171 i0 (.agg #[.int .u32 0,.int .i64 0,.int .i64 0]) 3 Tryz.underlying98 hi hz0 hz1 rfl aN n rfl rfl (by rw[hz2];omega) Qf ?_;intro w4 hr4 hg4;have hb4:Below w1.heap.size w1 w4:=Below.grown (az (au _ _)) hg4 (aQ _) dR;obtain⟨sg,Y1⟩:=ae w1.heap.size;have zq:aM (· =sg) w4 171 3 (.slice (some ⟨sg,0,none⟩) n n) n (fun _=>je ⟨0,0,0⟩):=Y1▸hr4;rw[show(World.drew w1).heap.size=sg from Y1];have mj:=aa zq;have gH:=aa hb4;have Zi:=aa Y1;clear hr4 hg4 zq Y1;refine hK.out _ _ (tB.o _ gH.o) (fun mC=>?_);clear hK K;try simp only[aY]
  refine cG 5 fun K hK=>?_
  go_simp;go_wp2_with fail;refine hK.out _ _ (tB.o _ (ax gH.o _)) (fun jt=>?_);clear hK K;try simp only[aY]
  refine ty 6 ?_;refine cG 7 fun K hK=>?_
  go_simp;go_wp2_with fail;refine hK.out _ _ (tB.o _ (ax (ax gH.o _) _)) (fun o9=>?_);clear hK K;try simp only[aY]
  refine ty 8 ?_;refine bO ?_;have BW:aG ((w4.alloc (.map #[] 0)).alloc (.cells #[.int .i64 n,.int .i64 ar,.int .i64 aA,.bool true,.int .i64 0,.int .u32 1,.pointer none,.pointer none,.slice (some ⟨sg,0,none⟩) n n,.pointer none,.map (some w4.heap.size)] 102)) (w4.heap.size+1) 102 #[.int .i64 n,.int .i64 ar,.int .i64 aA,.bool true,.int .i64 0,.int .u32 1,.pointer none,.pointer none,.slice (some ⟨sg,0,none⟩) n n,.pointer none,.map (some (w4.heap.size))]:=aG.new dR;have dX:Below w1.heap.size w1 ((w4.alloc (.map #[] 0)).alloc (.cells #[.int .i64 n,.int .i64 ar,.int .i64 aA,.bool true,.int .i64 0,.int .u32 1,.pointer none,.pointer none,.slice (some ⟨sg,0,none⟩) n n,.pointer none,.map (some w4.heap.size)] 102)):=ax (ax gH.o _) _;have su:aM (· =sg) ((w4.alloc (.map #[] 0)).alloc (.cells #[.int .i64 n,.int .i64 ar,.int .i64 aA,.bool true,.int .i64 0,.int .u32 1,.pointer none,.pointer none,.slice (some ⟨sg,0,none⟩) n n,.pointer none,.map (some w4.heap.size)] 102)) 171 3 (.slice (some ⟨sg,0,none⟩) n n) n (fun _=>je ⟨0,0,0⟩):=mj.o.ai (ax (ax (au _ _) _) _);have rK:dp af 39 3 .u32 ((w4.alloc (.map #[] 0)).alloc (.cells #[.int .i64 n,.int .i64 ar,.int .i64 aA,.bool true,.int .i64 0,.int .u32 1,.pointer none,.pointer none,.slice (some ⟨sg,0,none⟩) n n,.pointer none,.map (some w4.heap.size)] 102)) (w4.heap.size) 0 (fun _=>none):=(dp.made _ _ _ _ w4).alloc _;have ft:w1.heap.size≤sg∧w1.heap.size≤(w4.heap.size)∧w1.heap.size≤(w4.heap.size+1):=by
   have h1:=Zi.o;have h2:w1.heap.size≤w4.heap.size:=gH.o.size;omega
  obtain⟨w5,iX⟩:=ae ((w4.alloc (.map #[] 0)).alloc (.cells #[.int .i64 n,.int .i64 ar,.int .i64 aA,.bool true,.int .i64 0,.int .u32 1,.pointer none,.pointer none,.slice (some ⟨sg,0,none⟩) n n,.pointer none,.map (some w4.heap.size)] 102));rw[iX] at BW dX su rK;rw[show((w4.alloc (.map #[] 0)).alloc (.cells #[.int .i64 n,.int .i64 ar,.int .i64 aA,.bool true,.int .i64 0,.int .u32 1,.pointer none,.pointer none,.slice (some ⟨sg,0,none⟩) n n,.pointer none,.map (some w4.heap.size)] 102))=w5 from iX];obtain⟨b,hb⟩:=ae ((w4.heap.size+1));obtain⟨mb,Y3⟩:=ae ((w4.heap.size));exact acU
 go_simp;go_wp2_with fail;refine hK.out _ _ (tB.o _ (ax (az (au _ _)) _)) (fun jt=>?_);clear hK K;try simp only[aY]
 refine cG 4 fun K hK=>?_
 rw[if_pos im];refine mR _ (.tmp 14) (.tmp 14) 98 rfl 171 i0 (.agg #[.int .u32 0,.int .i64 0,.int .i64 0]) 3 Tryz.underlying98 hi hz0 hz1 rfl aN n rfl rfl (by rw[hz2];omega) Qf ?_;intro w4 hr4 hg4;have hb4:Below w1.heap.size w1 w4:=Below.grown (ax (az (au _ _)) _) hg4 dR dR;obtain⟨sg,Y1⟩:=ae (w1.heap.size+1);have hsz:(w1.alloc (.map #[] 0)).drew.heap.size=sg:=by rw[←Y1];simp
 have xZ:dp af 39 3 .u32 w4 w1.heap.size 0 (fun _=>none):=(dp.made _ _ _ _ w1.drew).same (hg4.block _ dR dR);have zq:aM (· =sg) w4 171 3 (.slice (some ⟨sg,0,none⟩) n n) n (fun _=>je ⟨0,0,0⟩):=hsz▸hr4;rw[show(w1.alloc (.map #[] 0)).drew.heap.size=sg from hsz];have mj:=aa zq;have gH:=aa hb4;have Zi:=aa (show w1.heap.size≤sg∧sg<w4.heap.size by have:=zq.form aj;obtain⟨_,_,e,_,_,_,l⟩:=this;injection e with e;injection e with e;injection e with e;subst e;omega);have Zr:=aa xZ;clear hr4 hg4 zq Y1 hsz xZ hb4;refine hK.out _ _ (tB.o _ gH.o) (fun mC=>?_);clear hK K;try simp only[aY]
 refine ty 6 ?_;refine cG 7 fun K hK=>?_
 go_simp;go_wp2_with fail;refine hK.out _ _ (tB.o _ (ax gH.o _)) (fun o9=>?_);clear hK K;try simp only[aY]
 refine ty 8 ?_;refine bO ?_;have BW:aG (w4.alloc (.cells #[.int .i64 n,.int .i64 ar,.int .i64 aA,.bool true,.int .i64 0,.int .u32 1,.pointer none,.pointer none,.slice (some ⟨sg,0,none⟩) n n,.pointer none,.map (some w1.heap.size)] 102)) (w4.heap.size) 102 #[.int .i64 n,.int .i64 ar,.int .i64 aA,.bool true,.int .i64 0,.int .u32 1,.pointer none,.pointer none,.slice (some ⟨sg,0,none⟩) n n,.pointer none,.map (some (w1.heap.size))]:=aG.new dR;have dX:Below w1.heap.size w1 (w4.alloc (.cells #[.int .i64 n,.int .i64 ar,.int .i64 aA,.bool true,.int .i64 0,.int .u32 1,.pointer none,.pointer none,.slice (some ⟨sg,0,none⟩) n n,.pointer none,.map (some w1.heap.size)] 102)):=ax gH.o _;have su:aM (· =sg) (w4.alloc (.cells #[.int .i64 n,.int .i64 ar,.int .i64 aA,.bool true,.int .i64 0,.int .u32 1,.pointer none,.pointer none,.slice (some ⟨sg,0,none⟩) n n,.pointer none,.map (some w1.heap.size)] 102)) 171 3 (.slice (some ⟨sg,0,none⟩) n n) n (fun _=>je ⟨0,0,0⟩):=mj.o.ai (ax (au _ _) _);have rK:dp af 39 3 .u32 (w4.alloc (.cells #[.int .i64 n,.int .i64 ar,.int .i64 aA,.bool true,.int .i64 0,.int .u32 1,.pointer none,.pointer none,.slice (some ⟨sg,0,none⟩) n n,.pointer none,.map (some w1.heap.size)] 102)) (w1.heap.size) 0 (fun _=>none):=Zr.o.alloc _;have ft:w1.heap.size≤sg∧w1.heap.size≤(w1.heap.size)∧w1.heap.size≤(w4.heap.size):=by
  have h1:=Zi.o;have h2:w1.heap.size≤w4.heap.size:=gH.o.size;omega
 obtain⟨w5,iX⟩:=ae (w4.alloc (.cells #[.int .i64 n,.int .i64 ar,.int .i64 aA,.bool true,.int .i64 0,.int .u32 1,.pointer none,.pointer none,.slice (some ⟨sg,0,none⟩) n n,.pointer none,.map (some w1.heap.size)] 102));rw[iX] at BW dX su rK;rw[show(w4.alloc (.cells #[.int .i64 n,.int .i64 ar,.int .i64 aA,.bool true,.int .i64 0,.int .u32 1,.pointer none,.pointer none,.slice (some ⟨sg,0,none⟩) n n,.pointer none,.map (some w1.heap.size)] 102))=w5 from iX];obtain⟨b,hb⟩:=ae ((w4.heap.size));obtain⟨mb,Y3⟩:=ae w1.heap.size;exact acU
