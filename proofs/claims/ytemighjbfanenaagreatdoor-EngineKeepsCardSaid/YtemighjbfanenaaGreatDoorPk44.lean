import Derived.Test.YtemighjbfanenaaGreatDoorPk28
import Derived.Test.YtemighjbfanenaaGreatDoorPk43
set_option linter.all false
set_option maxRecDepth 100000
set_option maxHeartbeats 16000000
namespace Go.Proofs.YtemighjbfanenaaGreatDoor
open RowKit
open Cr (cn)
open Rf (iH)
open En (EU dJ KM sN KL sM Es Live Cb cR Rec Rp gh Rq Kk tu uP oy Re uG yD fF aF cV rS lj sX dc)
open Oc (Bs aN rU eZ dm)
open Bk (fQ)
open Fl (Ki gz)
open Classical renaming byContradiction→Ql
open Go.IntKind renaming wrap_i64→nX
open Nat renaming le_trans→bf,lt_of_lt_of_le→aP
open Tryz renaming prog→af
section
namespace En
variable{aA G C:Nat→Nat}{w W W':World}{e b0 bA bR x n:Nat}{wt v7 v:Value}{cs:Array Value}{c7:Nat→List Value}
theorem bw.else{S:Nat→Prop}{w':World} {q:sM}{es:Es}(h:bw aA w e q wt es)(ht:aG S w w')(hS:∀k,S k→aA k=0)(hc:cn w')(hr:gh w'): bw aA w' e q wt es:=by
 have no:∀ {k r:Nat},aA k=r→r≠0→¬S k:=fun hk hr hs=>hr (hk.symm.trans (hS _ hs))
 have r:=h.rest;exact⟨⟨r.does.same (ht.block _ r.does.lt (no r.r6 aM)),(cC ..).cG r.log ht (fun k hk=>no hk aM),(aC ..).cG r.dev ht (fun k hk=>no hk aM),iI r.book ht (fun k hk=>no hk aM),r.slots.cG ht (no r.r7.1 aM) (no r.r7.2.1 aM) (no r.r7.2.2 aM),r.r5,r.r6,r.r7,fun k hk=>aP (r.lt k hk) ht.size,hc,hr,r.lh⟩,
  ht.arr h.own (no r.r5 aM),h.aK.same fun g hg hl=>ht.block g hl (no hg aM)⟩
structure Kp(b0 bA bR x e n:Nat)(cs:Array Value)(q:sM)(v7:Value)(c7:Nat→List Value)(aA:Nat→Nat)(wt:Value)(G C:Nat→Nat)(v:Value)(L:List By)(es:Es)(w W:World): Prop where
 live:Live b0 aA W e q wt es
 own:aD W x iH cs
 x0:aA x=0∧x<bR
 asks:aO (fun k=>bA≤k∧k<bR) W 41 5 v7 n c7
 aaa:∀k,aA k≠0→¬(bA≤k∧k<bR)
 outs:cR bR W v L G C
 free:∀k,Re v L G k→aA k=0
 yJ:Below w.heap.size w W
 le:w.heap.size≤b0∧w.heap.size≤bR∧bR≤W.heap.size∧b0≤W.heap.size
 long:∀y∈L,y≠ []∧y.length≤100
theorem Kp.keep{q:sM}{L:List By}{es:Es}(h:Kp b0 bA bR x e n cs q v7 c7 aA wt G C v L es w W)(hb:Below W.heap.size W W'): Kp b0 bA bR x e n cs q v7 c7 aA wt G C v L es w W':=
 ⟨h.live.ai hb,h.own.keep hb,h.x0,h.asks.keep hb,h.aaa,h.outs.keep hb,h.free,ar h.yJ hb,⟨h.le.1,h.le.2.1,bf h.le.2.2.1 hb.size,bf h.le.2.2.2 hb.size⟩,h.long⟩
theorem Kp.done{q:sM}{eI:Nat→Nat} {wF:Value} {L:List By}{es es':Es}(h:Kp b0 bA bR x e n cs q v7 c7 aA wt G C v L es w W)
  (hL:Live b0 eI W' e q wF es') (hr:∀k,eI k≠0→aA k≠0∨W.heap.size≤k) (ht:aG (fun k=>aA k≠0) W W'):Kp b0 bA bR x e n cs q v7 c7 eI wF G C v L es' w W':=by
 have new:∀k,aA k=0→k<W.heap.size→eI k=0:=fun k h0 hk=>Ql fun hne=>by
  rcases hr k hne with a|a
  ·exact a h0
  omega
 refine⟨hL,ht.arr h.own (fun k=>k h.x0.1),⟨new x h.x0.1 (aP h.x0.2 h.le.2.2.1),h.x0.2⟩,h.asks.same fun g hg hl=>ht.block g hl (fun k=>h.aaa g k hg),fun k hk hz=>?_,h.outs.cG ht (fun k hk hne=>hne (h.free k (.inl hk))) (fun i hi hne=>hne (h.free _ (.inr ⟨i,hi,rfl⟩))),fun k hk=>new k (h.free k hk) (h.outs.lt k hk).2,Cb.base h.live h.yJ h.le.1 ht,⟨h.le.1,h.le.2.1,bf h.le.2.2.1 ht.size,bf h.le.2.2.2 ht.size⟩,h.long⟩;rcases hr k hk with a|a
 ·exact h.aaa k a hz
 ·have:=h.le.2.2.1;omega
theorem Kp.app{z:Nat} {q:sM}{H D:Nat→Nat} {v' v2:Value} {L M:List By}{es:Es}(h:Kp b0 bA bR x e n cs q v7 c7 aA wt G C v L es w W)
  (hz:∀k,Re v L G k→k<z) (ry:bR≤z) (k:cR z W v' M H D) (hrz:∀k,aA k≠0→k<z) (hM:∀y∈M,y≠ []∧y.length≤100) (hc:cn w) (hr:gh w)
  (ho:W'.ownsRow bR 34 1 v2 (L.length+M.length) (flat (uG L G C) L.length++flat (uG M H D) M.length)) (hg:W.grownBy W' v.ownBlock) (hat:v2.ownBlock=v.ownBlock∨v2.ownBlock=some W.heap.size) :
  Kp b0 bA bR x e n cs q v7 c7 aA wt (oy L.length G H) (oy L.length C D) v2 (L++M) es w W':=by
 have mN:∀j,v.ownBlock=some j→bR≤j∧aA j=0:=fun j hj=>⟨(h.outs.lt j (.inl hj)).1,h.free j (.inl hj)⟩
 have ht:aG (fun j=>v.ownBlock=some j) W W':=⟨hg.os,hg.tape,hg.output,hg.size,fun j hj hne=>hg.block j hj (fun e=>hne e.symm)⟩;have afY:Below w.heap.size w W':=aG.fresh ht h.yJ fun j hj=>bf h.le.2.1 (mN j hj).1
 have hO:=h.outs.app k hz ry ho hg;refine⟨⟨h.live.dQ.else ht (fun j hj=>(mN j hj).2) (hc.keep afY) (hr.keep afY),h.live.inv,h.live.may,h.live.bytes,h.live.news⟩,ht.arr h.own (fun hj=>by have:=(mN x hj).1;have:=h.x0.2;omega),h.x0,h.asks.same fun g hg2 hl=>ht.block g hl (fun hj=>by have:=(mN g hj).1;omega),h.aaa,hO,fun j hj=>?_,afY,⟨h.le.1,h.le.2.1,bf h.le.2.2.1 hg.size,bf h.le.2.2.2 hg.size⟩,fun y hy=>?_⟩
 ·refine Ql fun hne=>?_
  have hjz:=hrz j hne;rcases hj with hj|⟨i,hi,hj⟩
  ·rcases hat with ha|ha
   ·exact hne (h.free j (.inl (ha.symm.trans hj)))
   rw[ha] at hj;injection hj with hj
   have:=h.live.dQ.rest.lt j hne;omega
  rw[List.length_append] at hi;unfold oy at hj;by_cases h1:i<L.length
  ·rw[if_pos h1] at hj;exact hne (h.free j (.inr ⟨i,h1,hj⟩))
  rw[if_neg h1] at hj;have:=(k.each (i-L.length) ag).2.2.1;omega
 ·rcases List.mem_append.1 hy with hy|hy
  ·exact h.long y hy
  exact hM y hy
end En
end
section
namespace Rf
open En (bw Kp)
theorem aaB(sh lg:Int)(wide:Bool)(ep sq:Nat)(he:ep<18446744073709551616)(hs:sq<18446744073709551616): (F2 sh lg wide ep sq).Inv∧(F2 sh lg wide ep sq).rg.bytes (F2 sh lg wide ep sq).dev.dk.size≤900000:=by
 obtain⟨h1,h2,h3,h4⟩:=Vi sh;have hm:Rn wide=64∨Rn wide=128:=by cases wide;exact .inl rfl;exact .inr rfl
 obtain⟨k,hk,hk2,hk4,_⟩:=AZ h1 h2 hm;have pX:mdK sh (Rn wide)=k:=by unfold mdK;rw[hk];rfl
 have hlg:(lg%8).toNat≤7:=ag;have hn:mdN sh lg (Rn wide)=2*k+1+(lg%8).toNat:=by unfold mdN;rw[pX]
 refine⟨?_,?_⟩
 ·unfold F2;refine tu ag ag ag (by rw[hn];omega) ag (by rw[pX];omega) (by rw[hn,pX];omega) he hs
 unfold F2;show(mdN sh lg (Rn wide)-2*mdK sh (Rn wide))*Rn wide≤900000
 rw[hn,pX];rcases hm with h|h <;>rw[h] <;>omega
theorem Ny(b:dJ)(hb:b.Ok)(hc:b.ak+1≤1099511627776): (⟨5,0,0,0,b.ak+1⟩:Rec).ok=true∧(b.apply ⟨5,0,0,0,b.ak+1⟩).2.ak=b.ak+1:=by
 have h0:=hb.ak.1;have fz:(⟨5,0,0,0,b.ak+1⟩:Rec).ok=true:=by
  unfold Rec.ok;simp only[Bool.and_eq_true];refine⟨⟨⟨⟨aM,aM⟩,aM⟩,aM⟩,?_⟩;simp[En.dK,En.within];omega
 refine⟨fz,?_⟩;unfold dJ.apply;rw[if_neg ux,if_neg (by show ¬(5:Int)=1;decide),if_pos (show(5:Int)=5 from rfl)];show(b.tick (b.ak+1)).2.ak=b.ak+1
 unfold dJ.tick;rw[if_neg (show ¬b.ak+1≤b.ak from ag)]
theorem xY{S:Nat→Prop}{w:World}{b:Nat}{bk:dJ}(h:fQ S w b bk): Calls af 16 #[.pointer (some ⟨b,0,none⟩)] w fun e w'=>e=.returned (.int .i64 bk.ak)∧w'=w:=by
 obtain⟨x,hx⟩:=h;exact Bk.sO hx.bg
theorem VC(L:List En.By)(G C:Nat→Nat)(n:Nat): (flat (uG L G C) n).length=n*1:=bZ (sz:=1) (fun _=>rfl) n
theorem Jb(L:List En.By)(G C:Nat→Nat):∀n,∀u∈flat (uG L G C) n,u.oneCell'=true
 | 0,u,hu=>by simp[flat] at hu
 | n+1,u,hu=>by
  rw[flat] at hu;rcases List.mem_append.1 hu with hu|hu
  ·exact Jb L G C n u hu
  simp[uG] at hu;subst hu;rfl
theorem Yk{l:List iX}(h:∀a∈l,a.Ok){j:Nat}(hj:j<min l.length 40): (Nx l j).sJ∧(Nx l j).bS≤8:=by
 have hl:j<l.length:=ag;have e:l.getD j ⟨0,0,0,0,0⟩=l[j]:=by rw[List.getD_eq_getElem?_getD,List.getElem?_eq_getElem hl];rfl
 have fz:=OQ (h l[j] (List.getElem_mem hl)) (i:=j) ag;refine⟨by unfold Nx;rw[e];exact fz.may,?_⟩;unfold Nx iX.rq;dsimp only;split
 ·omega
 decide
theorem Q4(M:List Rp):∀y∈M.map cV,y≠ []∧y.length≤100:=fun y hy=>by
 obtain⟨r,_,rfl⟩:=List.mem_map.1 hy;have:=rS r;exact⟨fun h0=>by rw[h0] at this;simp at this,ag⟩
end Rf
end
section
namespace Rf
open En (bw Kp)
def adZ(w:World)(e:Ending)(w':World): Prop:=e=.returned (.bool true)∧Below w.heap.size w w'
theorem WJ(s:StN)(hs:s.Ok)(l:List iX)(fz:∀a∈l,a.Ok)(A:Option Addr)(c:Nat)(w:World)(hA:Oe w A l)(hl:l.length≤70368744177664)(JN:cn w)(hrt:gh w):
  Calls af 3 #[.agg (OT s),.slice A l.length c] w (adZ w):=by
 obtain⟨i0,hi,hz0,hz1,hz2⟩:=info_parts gz;obtain⟨xs,Df⟩:=ae w.heap.size;obtain⟨w1,aX⟩:=ae (w.alloc (.cells (OT s) 24));have Iq:=aa (aH aX Df);have bu:=aa (aJ aX);have HA:=aa hA;have uq:=aa fz;have Dy:=aa JN;have HRT:=aa hrt;have HS:=aa hs;have HLL:=aa hl;obtain⟨n,hn⟩:=ae (min l.length 40);have an2:n≤40:=ag;have HN:=aa hn;clear hA fz JN hrt hs hl hn;go_enter Tryz.func3,Tryz.ntmps3;go_wp2_with fail;clear aX Df;refine(Yh w1 (Dy.o.keep bu.o) (HRT.o.keep bu.o)).mono ?_;rintro en w2 ⟨rfl,hb⟩;have Ip:=Iq.jS hb;have cx:=bu.eo hb;clear hb Iq bu;go_wp2_with (refine aB rfl 24 (.tmp 2) rfl xs 24 (OT s) Ip.o rfl _ Tryz.underlying24 rfl p8 ?_);refine(TP s w2).mono ?_;rintro en w3 ⟨rfl,hb⟩;have ek:=cx.eo hb;clear hb Ip cx;go_wp2_with fail;refine(D8 s.shape s.log s.wide 0 0 HS.o.shape HS.o.log aM aM w3 (Dy.o.keep ek.o) (HRT.o.keep ek.o)).mono ?_;rintro en w4 ⟨P,rfl,hM⟩;have HM:=aa hM;have gI:=aa (ar ek.o hM.ai);clear hM;go_wp2_with fail;refine(abA l uq.o A c w4 (HA.o.keep gI.o) HLL.o).mono ?_;rintro en w5 ⟨v7,rfl,hR,hb⟩;rw[HN.o] at hR;obtain⟨A7,c7,rfl⟩:=hR.any;obtain⟨cs,hcs⟩:∃cs:Array Value,cs= #[.pointer (some ⟨P.q.p,0,none⟩),.pointer (some ⟨P.e,0,none⟩),.pointer (some ⟨P.q.rl,0,none⟩),.pointer (some ⟨P.q.sl,0,none⟩),.pointer (some ⟨P.m,0,none⟩),.pointer (some ⟨P.v,0,none⟩)]:=⟨_,rfl⟩;have kZ:=aa (show cs[1]? =some (.pointer (some ⟨P.e,0,none⟩))by rw[hcs];rfl);have HK0:=aa (show Kp w3.heap.size w4.heap.size w5.heap.size P.x P.e n cs P.q (.slice A7 n c7) (Dt l) P.aA (.slice none 0 0) (fun _=>0) (fun _=>0) (.slice none 0 0) [] (F2 s.shape s.log s.wide 0 0) w w5 from by
  have hm:=HM.o;have hb4:=hm.ai;obtain⟨m1,m2⟩:=aaB s.shape s.log s.wide 0 0 aM aM;have hz:=ek.o.size;have hz4:=hb4.size;have KX:=hb.size;have ha:aD w4 P.x iH cs:=by rw[hcs];exact hm.own
  exact⟨⟨hm.eng.ai hb,m1,(fun r hr=>by cases hr),m2,hm.news⟩,ha.keep hb,⟨hm.xno,aP ha.lt KX⟩,hR.mono (fun k hk K0=>⟨hk,K0⟩),fun k hk hz=>by have:=hm.eng.rest.lt k hk;omega,cR.nil _ _,(fun k hk=>by
   rcases hk with hk|⟨i,hi,_⟩
   ·cases hk
   exact absurd hi (Nat.not_lt_zero _)),ar gI.o hb,⟨hz,ag,Nat.le_refl _,ag⟩,fun y hy=>by cases hy⟩)
 clear hR hb HM hcs gI ek HA HS;go_wp2_with fail;go_loopw [8,9] (fun v8 i wr=>∃(j:Nat) (aA:Nat→Nat) (wt:Value) (G C:Nat→Nat) (L:List En.By) (es:Es),j≤n∧i=.int .i64 j∧Kp w3.heap.size w4.heap.size w5.heap.size P.x P.e n cs P.q (.slice A7 n c7) (Dt l) aA wt G C v8 L es w wr∧L.length≤65*j∧es.bk.ak≤8*j) (fun _ i _=>(n-intOf i).toNat)
 case atStart=>exact⟨0,P.aA,_,_,_,[],_,Nat.zero_le _,rfl,HK0.o,Nat.zero_le _,Int.le_refl _⟩
 case round=>
  obtain⟨j,aA,wt,G,C,L,es,hj,rfl,hK,hL,PD⟩:=hrel;by_cases h2:j<n
  ·have h2':(j:Int)<(n:Int):=by omega
   obtain⟨hqm,hqt⟩:=Yk uq.o (j:=j) (by rw[HN.o];exact h2);obtain⟨g7,cap,hv,_,_,_,_⟩:=hK.asks.form ag;injection hv with e1 _ e2
   subst e1 e2;have rB:=aa hK.asks;obtain⟨q,hq⟩:=ae (Nx l j);have vw:=aa (show Dt l j= [.int .i64 q.ax,.int .u32 q.tag,.int .u32 q.id,.int .i64 q.av,.int .i64 q.bS] by unfold Dt;rw[hq];rfl);rw[hq] at hqm hqt;have HQM:=aa hqm;have HQT:=aa hqt;have HK:=aa hK;have HL:=aa hL;have jH:=aa PD;clear hqm hqt hK hL PD hq HK0;go_wp2_with (refine fx rfl 41 _ rfl rB.o (fun _=>rfl) j h2 iN _ Tryz.underlying41 rfl aF ?_;rw[vw.o]);refine(Kk q HQM.o wr).mono ?_;rintro en w6 ⟨g,cb,rfl,hblk,sk,hg,kB⟩;have Zo:=aa (HK.o.keep kB);have eX:=aa hblk;have x1:w6.cell? ⟨P.x,1,none⟩=some (.pointer (some ⟨P.e,0,none⟩)):=(Zo.o.own.cell 1).trans kZ.o;clear hblk sk hg kB rB vw;go_wp2_with fail;refine(Zo.o.live.ask Zo.o.le.2.2.2 HQM.o (some ⟨g,0,none⟩) cb (eC.bs eX.o) (dm _ _)).mono ?_;rintro en w7 ⟨v',H,D,z,eI,wF,rfl,hO,hz,hLv,hrz,vq,ht⟩;have Zn:=aa (Zo.o.done hLv vq ht);have HZ:=aa (show(∀k,Re u8 L G k→k<z)∧w5.heap.size≤z from⟨fun k hk=>aP (Zo.o.outs.lt k hk).2 hz,bf Zo.o.le.2.2.1 hz⟩);have HO:=aa hO;have HRZ:=aa hrz;have Li:=aa (show(es.rep q).2.bk.ak≤8*((j+1:Nat):Int)from by have:=HK.o.live.inv.X8 HQM.o.good;have:=jH.o;have:=HQT.o;omega);have HML:=aa (show((es.rep q).1.map cV).length≤65 from by rw[List.length_map];exact(HK.o.live.inv.abn HQM.o.good).short (by have:=HK.o.live.inv.full;have:=HK.o.live.inv.bk.az;omega));have HMB:=aa (Q4 (es.rep q).1);have Sw:=aa (yD (base:=w5.heap.size) Zn.o.outs.row.own (fun k hk=>Zn.o.outs.new k hk));clear hO hLv hrz vq ht hz x1;rcases HO.o.row.own.2 with⟨hv,h0⟩|⟨g',cap',cur,hv,_⟩
   ·subst hv;have HM0:=aa (show(es.rep q).1.map cV= [] from List.eq_nil_of_length_eq_zero h0);clear h0;go_wp2_with (at_builtin;refine wpList_append_own_none rfl (.tmp 40) (.tmp 46) 33 rfl w5.heap.size 34 i0 1 Tryz.underlying33 hi u8 L.length _ rfl Sw.o rfl ?_);go_roundw
    case rel=>exact⟨j+1,eI,wF,G,C,L,(es.rep q).2,h2,by go_num,Zn.o,wX,Li.o⟩
    case measure=>simp[intOf];omega
   subst hv;have Lc:=aa (World.ownsRow.cells HO.o.row.own (g:=g') rfl);obtain⟨m,hm⟩:=ae (((es.rep q).1.map cV).length);have HM:=aa hm;have an5:m≤65:=by have:=HML.o;omega
   have aoa:L.length≤2600:=wX;rw[hm] at Lc;go_wp2_with (at_builtin;(refine wpList_append_own_at _ rfl (.tmp 40) (.tmp 46) 33 rfl w5.heap.size 34 i0 (.slice none 0 0) 1 24 Tryz.underlying33 hi hz0 hz1 hz2 rfl aM u8 L.length _ rfl Sw.o ⟨g',0,none⟩ m cap' (flat (uG ((es.rep q).1.map cV) H D) m) (by first|rfl|(rw[←hm];rfl)) (VC _ _ _ m) Lc.o (Jb _ _ _ m) iM ag Zn.o.le.2.2.1 ?_);intro v2 w8 gM hg2 mW aja;have Sy:=aa gM;have tR:=aa hg2;have HAT:=aa aja;clear gM hg2 mW aja);go_roundw
   case rel=>
    have ho:=Sy.o;rw[←HM.o] at ho;exact⟨j+1,eI,wF,_,_,L++(es.rep q).1.map cV,(es.rep q).2,h2,by go_num,Zn.o.app HZ.o.1 HZ.o.2 HO.o HRZ.o HMB.o Dy.o HRT.o ho tR.o HAT.o,by rw[List.length_append];have:=HL.o;have:=HML.o;omega,Li.o⟩
   case measure=>simp[intOf];omega
  obtain rfl:j=n:=ag;have hup:=hK.live.inv.up;have hbo:=hK.live.inv.bk;have HK:=aa hK;have hLn:L.length≤2600:=ag;obtain⟨ck,hce⟩:=ae es.bk.ak;rw[hce] at PD;have hc0:0≤ck:=by rw[←hce];exact hbo.ak.1
  have hc1:ck≤320:=ag;have HCE:=aa hce;have HUP:=aa hup;have nW:=aa hbo;have HRC:=aa (Ny es.bk hbo (by rw[hce];omega));have ur:=aa (show(∀y∈L,y≠ [])∧(∀y∈L,y.length≤100000)∧(∀y∈L,y.length≤100000000)from⟨fun y hy=>(hK.long y hy).1,fun y hy=>by have:=(hK.long y hy).2;omega,fun y hy=>by have:=(hK.long y hy).2;omega⟩);have aX:IntKind.i64.wrap (ck+1)=ck+1:=Fu;have hw2:wrap64 (ck+1)=ck+1:=Fa;have hw3:IntKind.i64.wrap (ck+1-1)=ck:=Fu;have hw4:wrap64 (ck+1-1)=ck:=Fa;clear hup hbo hK hL PD hce HK0 h2 hj;go_wp2_with fail;refine(KM L ur.o.1 ur.o.2.1 ag u8 wr (HK.o.outs.rws ur.o.1)).mono ?_;rintro en w6 ⟨v12,G2,C2,rfl,hO2,kB⟩;have Zo:=aa (HK.o.keep kB);have Zf:=aa (hO2.rws ur.o.1);have x1:w6.cell? ⟨P.x,1,none⟩=some (.pointer (some ⟨P.e,0,none⟩)):=(Zo.o.own.cell 1).trans kZ.o;clear hO2 kB HK;go_wp2_with fail;refine(sN Zo.o.live.dQ HUP.o nW.o).mono ?_;rintro en w7 ⟨b,S,rfl,cK,hS,pc⟩;have eX:=aa cK;have NN:=aa hS;have pj:=aa pc;clear cK hS pc x1;go_wp2_with fail;refine(xY eX.o).mono ?_;rintro en wq ⟨rfl,hw⟩;rw[hw,HCE.o];clear hw wq;go_wp2_with fail;refine(show Calls af 15 #[.pointer (some ⟨b,0,none⟩),.agg #[.int .i64 5,.int .u32 0,.int .i64 0,.int .i64 0,.int .i64 (ck+1)]] w7 (Bk.mG S w7 b (es.bk.apply ⟨5,0,0,0,ck+1⟩))from by have h9:=HRC.o.1;rw[HCE.o] at h9;exact Bk.Cz S b es.bk w7 ⟨5,0,0,0,ck+1⟩ eX.o nW.o h9).mono ?_;rintro en w8 ⟨rfl,ht,XD⟩;have ru:=aa (show Below w6.heap.size w6 w8 from aG.fresh ht pj.o NN.o);have HK8:=aa (Zo.o.keep ru.o);have ake:=aa (Zf.o.keep ru.o);have ZD:=aa XD;have x1:w8.cell? ⟨P.x,1,none⟩=some (.pointer (some ⟨P.e,0,none⟩)):=(HK8.o.own.cell 1).trans kZ.o;clear ht XD eX pj ru Zo Zf;go_wp2_with fail;refine(sN HK8.o.live.dQ HUP.o nW.o).mono ?_;rintro en w9 ⟨b3,S3,rfl,XC,Ti,BJ⟩;have HK9:=aa (HK8.o.keep BJ);have akd:=aa (ake.o.keep BJ);have SN:=aa (lG ZD.o BJ);have akK:=aa XC;clear XC Ti BJ x1 HK8 ake ZD;go_wp2_with fail;refine(xY akK.o).mono ?_;rintro en wq ⟨rfl,hw⟩;rw[hw,HCE.o];clear hw wq;go_wp2_with fail;refine(xY SN.o).mono ?_;rintro en wq ⟨rfl,hw⟩;have h9:=HRC.o.2;rw[HCE.o] at h9;rw[hw,h9];clear hw wq h9;go_wp2_with fail;refine(Ki L u8 v12 w9 (HK9.o.outs.rws ur.o.1) akd.o ur.o.2.2 ag).mono ?_;rintro en tX ⟨rfl,vX⟩;have abX:=aa (HK9.o.keep vX);clear vX HK9 akd akK SN;go_wp2_with fail;refine(EU abX.o.outs ur.o.1 ur.o.2.1 ag).mono ?_;rintro en yS ⟨rfl,hz⟩;have HF:=aa (show adZ w (.returned (.bool true)) yS from⟨rfl,aG.fresh hz abX.o.yJ fun k hk=>bf abX.o.le.2.1 hk⟩);clear hz abX;go_wp2_with fail;go_ret;exact HF.o
