import Derived.Test.YtemighjbfanenaaGreatDoorPk42
set_option linter.all false
set_option maxRecDepth 100000
set_option maxHeartbeats 16000000
namespace Go.Proofs.YtemighjbfanenaaGreatDoor
open RowKit
open En (bG dI aC bw sM df PY Lg uW cC cR zF Rg fV Kl Rp gh Rq PR Sl qz J2 yI aF cV Mq lj sX dc)
open Eg (im PW jB sH jM KW)
open Bk (fQ bl cA GS ZP bD dF)
open Oc (Bs aN le rU eZ dm val)
open Cr (cn)
open Go.IntKind renaming wrap_u32→Qm
open Go.Obj renaming cells→G6
open Go.Value renaming oneCell'→eA
open List renaming length_replicate→kT
open Nat renaming le_trans→bf,le_of_eq→fX
open RowKit.Below renaming refl→aq
open Tryz renaming prog→af,underlying80→oL,underlying120→tz
theorem Wo{p:Prop}(h:p:=by
 rw[show 2*(k:Int)=((2*k:Nat):Int) from ag,show(n:Int)-((2*k:Nat):Int)=((n-2*k:Nat):Int) from ag];exact h9):p:=h
theorem jv{p:Prop}(h:p:=by have c':_=xx:=c;omega):p:=h
theorem DR{p:Prop}(h:p:=by rw[h2.cell];exact Vy rfl rfl i u hi):p:=h
theorem xj{p:Prop}(h:p:=by rw[hwd];exact ic.o _ HY.o HL.o):p:=h
theorem FF{p:Prop}(h:p:=by have:=(HSR.o j hj).1;have c':j=xx:=c;omega):p:=h
theorem xe{p:Prop}(h:p:=by exact ic.o _ HY.o HL.o):p:=h
theorem L8{p:Prop}(h:p:=by have c':j=xx:=c;rcases hj with hj|hj <;>omega):p:=h
theorem LX{p:Prop}(h:p:=by have c':j=xx:=c;have:=HTR.o j hj;omega):p:=h
theorem Fh{p:Prop}(h:p:=by have Ei:j=xx:=hj;omega):p:=h
section
namespace Rf
theorem p8: (af.info? 24).map (·.size)=some 6:=aW
theorem FU: (af.info? 41).map (fun i=>(i.zero,i.size,i.bytes))=some (some (.agg #[.int .i64 0,.int .u32 0,.int .u32 0,.int .i64 0,.int .i64 0]),5,32):=aW
structure StN where
 shape:Int
 log:Int
 wide:Bool
 ep:Nat
 sq:Nat
 odd:Int
def OT(s:StN): Array Value:=#[.int .i64 s.shape,.int .i64 s.log,.bool s.wide,.int .u64 (s.ep:Int),.int .u64 (s.sq:Int),.int .i64 s.odd]
structure StN.Ok(s:StN): Prop where
 shape: -9223372036854775808≤s.shape∧s.shape≤9223372036854775807
 log: -9223372036854775808≤s.log∧s.log≤9223372036854775807
def stU(s:StN): StN:=⟨s.shape,s.log,s.wide,0,0,0⟩
theorem Vv(w:World): Calls af 30 #[] w fun e w'=>e=.returned (.agg (OT ⟨110,4,false,1,0,0⟩))∧Below w.heap.size w w':=by
 go_enter Tryz.func30,Tryz.ntmps30;go_wp2_with fail;refine bodyPost_ret (dx Tryz.results30 _ iN (aI 24 (aD.fresh w 24 (OT ⟨110,4,false,1,0,0⟩)) _ Tryz.underlying24 rfl p8)) rfl ?_;exact⟨rfl,aw (aq _ _) _⟩
theorem TP(s:StN)(w:World): Calls af 9 #[.agg (OT s)] w fun e w'=>e=.returned (.agg (OT (stU s)))∧Below w.heap.size w w':=by
 obtain⟨x,hx⟩:=ae w.heap.size;obtain⟨w0,hw0⟩:=ae (w.alloc (.cells (OT s) 24));obtain⟨y,hy⟩:=ae w0.heap.size;obtain⟨w1,aX⟩:=ae (w0.alloc (.cells #[.int .i64 0,.int .i64 0,.bool false,.int .u64 0,.int .u64 0,.int .i64 0] 24));have hS:aD w1 x 24 (OT s):=by rw[←aX,←hw0,←hx];exact(aD.fresh w _ _).alloc _
 have HA:=aa (show aD w1 y 24 (OT ⟨0,0,false,0,0,0⟩)by rw[←aX,←hy];exact aD.fresh w0 _ _);have HB:=aa (show Below w.heap.size w w1 by rw[←aX,←hw0];exact aw (aw (aq _ _) _) _);have HY:=aa (show w.heap.size≤y by rw[←hy,←hw0];simp);have c0:w1.cell? ⟨x,0,none⟩=some (.int .i64 s.shape):=hS.cell 0;have c1:w1.cell? ⟨x,1,none⟩=some (.int .i64 s.log):=hS.cell 1;have c2:w1.cell? ⟨x,2,none⟩=some (.bool s.wide):=hS.cell 2;clear hS;go_enter Tryz.func9,Tryz.ntmps9;go_wp2_with (refine aj rfl 24 (.tmp 2) _ rfl y 24 _ (OT (stU s)) HA.o rfl rfl rfl p8 (by simp[OT,eA]) ?_;intro w9 dE dL gL;have pn:=aa dE;have rp:=aa dL;clear dE dL gL);refine bodyPost_ret (dx Tryz.results9 _ iN (aI 24 pn.o _ Tryz.underlying24 rfl p8)) rfl ?_;exact⟨rfl,HB.o.grown rp.o HB.o.size (fun k e=>by injection e with e;have:=HY.o;omega)⟩
def Oe(w:World)(A:Option Addr)(l:List iX): Prop:=l≠ []→∃g off,A=some ⟨g,off,none⟩∧g<w.heap.size∧∀i (h:i<l.length),w.rangeAt g (off+i*5) (jO l[i]).toList
theorem Oe.keep{w w':World}{A:Option Addr}{l:List iX}(h:Oe w A l)(hb:Below w.heap.size w w'): Oe w' A l:=fun hne=>by
 obtain⟨g,off,h1,h2,h3⟩:=h hne;exact⟨g,off,h1,Nat.lt_of_lt_of_le h2 hb.size,fun i hi j u hj=>(hb.cell (p:=⟨g,off+i*5+j,none⟩) h2).trans (h3 i hi j u hj)⟩
def Mh(a:iX)(i:Nat): iX:=⟨a.ax,a.id,a.av,a.bS,(i:Int)+1⟩
def Nx(l:List iX)(i:Nat): Rq:=(Mh (l.getD i ⟨0,0,0,0,0⟩) i).rq
def Dt(l:List iX)(i:Nat): List Value:=(dc (Nx l i)).toList
theorem OQ{a:iX}(h:a.Ok){i:Nat}(hi:i<1000000): (Mh a i).Ok:=⟨h.ax,h.id,h.av,h.bS,by show 0≤(i:Int)+1∧(i:Int)+1<4294967296;omega⟩
def aeE(l:List iX)(w:World)(e:Ending)(w':World): Prop:=∃v,e=.returned v∧aO (fun k=>w.heap.size≤k) w' 41 5 v (min l.length 40) (Dt l)∧Below w.heap.size w w'
theorem abA(l:List iX)(fz:∀a∈l,a.Ok)(A:Option Addr)(c:Nat)(w:World)(hA:Oe w A l)(hl:l.length≤70368744177664): Calls af 10 #[.slice A l.length c] w (aeE l w):=by
 obtain⟨j0,hj,hz0,hz1,hz2⟩:=info_parts FU;have HA:=aa hA;have uq:=aa fz;clear hA fz;go_enter Tryz.func10,Tryz.ntmps10;go_wp2_with fail;go_loopw [3,4] (fun v3 i wr=>∃j:Nat,j≤min l.length 40∧i=.int .i64 j∧aO (fun k=>w.heap.size≤k) wr 41 5 v3 j (Dt l)∧Below w.heap.size w wr) (fun _ i _=>(40-intOf i).toNat)
 case atStart=>exact⟨0,Nat.zero_le _,rfl,aO.nil _ _ _ _ _,aq _ _⟩
 case round=>
  obtain⟨j,S9,rfl,hR,hbr⟩:=hrel;by_cases h2:j<min l.length 40
  ·have h2':(j:Int)<(l.length:Int):=by omega
   have h3':(j:Int)<40:=ag;have HJ:=aa h2;have hlt:j<l.length:=ag;obtain⟨g,off,rfl,oT,hcell⟩:=(HA.o.keep hbr) (fun h0=>by rw[h0] at hlt;simp at hlt);obtain⟨a,ha⟩:=ae (l[j]);have HCE:=aa (hcell j hlt);rw[ha] at HCE;have ajb:a.Ok:=uq.o a (by rw[←ha];exact List.getElem_mem hlt);have vw:=aa (show Dt l j=(dc (Mh a j).rq).toList by unfold Dt Nx;rw[List.getD_eq_getElem?_getD,List.getElem?_eq_getElem hlt,ha];rfl);have Jz:=fun W=>B7 (Mh a j) (OQ ajb ag) W
   obtain⟨q,hq⟩:=ae ((Mh a j).rq);rw[hq] at Jz vw;have GB:=aa (show ∀W,Calls af 56 #[.agg (jO (Mh a j))] W fun e w'=>e=.returned (.agg #[.int .i64 q.ax,.int .u32 q.tag,.int .u32 q.id,.int .i64 q.av,.int .i64 q.bS])∧Below W.heap.size W w' from Jz);clear Jz hq;have hcv:IntKind.u32.wrap (j:Int)=(j:Int):=by rw[Qm];omega
   have amo:IntKind.u32.wrap ((j:Int)+1)=(j:Int)+1:=by rw[Qm];omega
   have HR:=aa hR;have ZA:=aa hbr;clear hcell ajb hR hbr oT ha;obtain⟨xb,Dg⟩:=ae wr.heap.size;obtain⟨w4,hw4⟩:=ae (wr.alloc (.cells #[.int .i64 0,.int .i64 0,.int .i64 0,.int .i64 0,.int .u32 0] 63));have po:=aa (aH hw4 Dg);have gI:=aa (aJ hw4);have rE:=aa Dg;go_upto_region 6 with(first|(refine wpList_load_mid rfl 63 (.tmp 18) rfl g (off+j*5) rfl (jO a).toList _ HCE.o Tryz.underlying63 rfl ask_size ?_)|(refine aj rfl 63 (.tmp 5) _ rfl xb 63 _ (jO a) po.o rfl rfl rfl ask_size (by simp[jO,eA]) ?_;intro w5 fY cJ hs5;have eQ:=aa (show Below wr.heap.size wr w5 from br gI.o cJ (fX rE.o));have o6:=aa fY;clear fY cJ hs5))
   have o1:w5.cell? ⟨xb,4,none⟩=some (.int .u32 a.tag):=o6.o.cell 4;have m1:=o6.o.mark 4;obtain⟨w6,mM⟩:=ae (w5.setCell ⟨xb,4,none⟩ (.int .u32 ((j:Int)+1)));have wA:=aa (show aD w6 xb 63 (jO (Mh a j))by rw[←mM];exact o6.o.put 4 _);have jy:=aa (show Below wr.heap.size wr w6 by rw[←mM];exact eQ.o.setCell (fX rE.o) _);go_upto_region 7 with fail
   try rw[mM]
   clear mM o1 m1;go_wp2_with (refine aB rfl 63 (.tmp 5) rfl xb 63 _ wA.o rfl _ Tryz.underlying63 rfl ask_size ?_);refine(GB.o w6).mono ?_;rintro e w7 ⟨rfl,pc⟩;have pj:=jy.eo pc;have ru:=aa (aw (ar jy.o pc) (.cells #[.int .i64 q.ax,.int .u32 q.tag,.int .u32 q.id,.int .i64 q.av,.int .i64 q.bS] 41));have La:=aa (HR.o.keep ru.o);have Lc:=aa (ik w7 [.int .i64 q.ax,.int .u32 q.tag,.int .u32 q.id,.int .i64 q.av,.int .i64 q.bS] 41);clear pc;go_wp2_with (refine gO _ rfl (.tmp 24) (.tmp 27) 31 rfl 41 j0 (.agg #[.int .i64 0,.int .u32 0,.int .u32 0,.int .i64 0,.int .i64 0]) 5 32 Tryz.underlying31 hj hz0 hz1 hz2 rfl aM _ j _ rfl La.o ⟨w7.heap.size,0,none⟩ 1 [.int .i64 q.ax,.int .u32 q.tag,.int .u32 q.id,.int .i64 q.av,.int .i64 q.bS] rfl rfl Lc.o (by intro u hu;simp at hu;rcases hu with rfl|rfl|rfl|rfl|rfl <;>rfl) iM ag ?_;intro ga ca w9 JD dL;have HR9:=aa JD;have rp:=aa dL;clear JD dL);go_roundw
   case rel=>
    have hz8:=pj.o.size;have xL:=ZA.o.size;refine⟨j+1,HJ.o,by go_num,?_,(ar ZA.o ru.o).grown rp.o (ar ZA.o ru.o).size (fun k e=>HR.o.block k e)⟩;have he:cO (Dt l) j [.int .i64 q.ax,.int .u32 q.tag,.int .u32 q.id,.int .i64 q.av,.int .i64 q.bS]=Dt l:=by
     funext i;unfold cO;by_cases h:i=j
     ·rw[if_pos h,h,vw.o];rfl
     rw[if_neg h]
    have h9:=HR9.o;rw[he] at h9;exact h9.mono fun k hk _=>by
     rcases hk with hk|hk
     ·exact hk
     have h7:(w7.alloc (.cells #[.int .i64 q.ax,.int .u32 q.tag,.int .u32 q.id,.int .i64 q.av,.int .i64 q.bS] 41)).heap.size=w7.heap.size+1:=dA;omega
   case measure=>simp[intOf];omega
  obtain rfl:j=min l.length 40:=ag;have HF:=aa (show aeE l w (.returned _) wr from⟨_,rfl,hR,hbr⟩);by_cases h40:l.length<40
  ·have e1:min l.length 40=l.length:=by omega
   rw[e1];have n1:¬(l.length:Int)<(l.length:Int):=ag;clear hR hbr h2 S9;go_wp2_with fail;go_ret;exact HF.o
  have e1:min l.length 40=40:=ag;rw[e1];clear hR hbr h2 S9;by_cases h41:l.length=40
  ·have n1:¬(40:Int)<(l.length:Int):=by omega
   go_wp2_with fail;go_ret;exact HF.o
  have n1:(40:Int)<(l.length:Int):=ag;go_wp2_with fail;go_ret;exact HF.o
end Rf
end
section
namespace En
section
variable {aA:Nat→Nat}{w:World}{e:Nat}{q:sM}{wt:Value}{es:Es}
theorem uT(h:bw aA w e q wt es)(hu:es.up=true): Calls af 24 #[.pointer (some ⟨e,0,none⟩)] w fun en w'=>en=.returned (.int .i64 es.aK.length)∧w'=w:=by
 obtain⟨A,c,hv⟩:=h.aK.any;have x5:w.cell? ⟨e,5,none⟩=some (.slice A es.aK.length c):=by have:=h.own.cell 5;rw[hv] at this;exact this
 have HR:=aa (sH h.own);rw[hu] at HR;clear h hv;go_enter Tryz.func24,Tryz.ntmps24;go_wp2_with fail;refine ah HR.o ?_;go_wp2_with fail;go_ret;exact⟨rfl,rfl⟩
theorem Cx(h:bw aA w e q wt es)(hu:es.up=true): Calls af 25 #[.pointer (some ⟨e,0,none⟩)] w fun en w'=>en=.returned (.int .u64 (es.log.dO:Nat))∧w'=w:=by
 have x2:w.cell? ⟨e,2,none⟩=some (.pointer (some ⟨q.lq,0,none⟩)):=h.own.cell 2;have HR:=aa (sH h.own);have HL:=aa (show Calls af 79 #[.pointer (some ⟨q.lq,0,none⟩)] w fun en w'=>en=.returned (.int .u64 (es.log.dO:Nat))∧w'=w from by obtain⟨v,hv⟩:=h.rest.log;exact Kz hv);rw[hu] at HR;clear h;go_enter Tryz.func25,Tryz.ntmps25;go_wp2_with fail;refine ah HR.o ?_;go_wp2_with fail;refine ah HL.o ?_;go_wp2_with fail;go_ret;exact⟨rfl,rfl⟩
def KL(bk:dJ)(w:World)(en:Ending)(w':World): Prop:=∃b S,en=.returned (.pointer (some ⟨b,0,none⟩))∧fQ S w' b bk∧(∀k,S k→w.heap.size≤k)∧Below w.heap.size w w'
theorem sN(h:bw aA w e q wt es)(hu:es.up=true)(hk:es.bk.Ok): Calls af 14 #[.pointer (some ⟨e,0,none⟩)] w (KL es.bk w):=by
 have x4:w.cell? ⟨e,4,none⟩=some (.pointer (some ⟨q.bk,0,none⟩)):=h.own.cell 4;have HR:=aa (sH h.own);obtain⟨x,hx⟩:=h.rest.book;have HC:=aa (GS hx hk.ajy);rw[hu] at HR;clear h hx;go_enter Tryz.func14,Tryz.ntmps14;go_wp2_with fail;refine ah HR.o ?_;go_wp2_with fail;refine HC.o.mono ?_;rintro en w1 ⟨b,S,q',rfl,h1,h2,h3⟩;have HF:=aa (show KL es.bk w (.returned (.pointer (some ⟨b,0,none⟩))) w1 from⟨b,S,rfl,⟨q',h1⟩,h2,h3⟩);clear h1 h2 h3;go_wp2_with fail;go_ret;exact HF.o
end
end En
end
section
namespace En
structure Live(base:Nat)(aA:Nat→Nat)(w:World)(e:Nat)(q:sM)(wt:Value)(es:Es): Prop where
 dQ:bw aA w e q wt es
 inv:es.Inv
 may:∀r∈es.aK,r.sJ
 bytes:es.rg.bytes es.dev.dk.size≤900000
 news:∀k,aA k≠0→base≤k
variable{aA:Nat→Nat}{w:World}{e:Nat}{wt:Value}
theorem Live.ai{base:Nat}{w':World} {q:sM}{es:Es}(h:Live base aA w e q wt es)(hb:Below w.heap.size w w'): Live base aA w' e q wt es:=⟨h.dQ.ai hb,h.inv,h.may,h.bytes,h.news⟩
def Cb(base:Nat)(aA:Nat→Nat)(e:Nat)(q:sM)(l:List Rp)(es':Es)(w:World)(en:Ending)(w':World): Prop:=
 ∃v G C z eI wF,en=.returned v∧cR z w' v (l.map cV) G C∧w.heap.size≤z∧Live base eI w' e q wF es'∧(∀k,eI k≠0→k<z)∧(∀k,eI k≠0→aA k≠0∨w.heap.size≤k)∧aG (fun k=>aA k≠0) w w'
theorem Es.Gp(e:Es){rq:Rq}(h:rq.sJ): e.Io (lj rq)=e.rep rq:=by unfold Es.Io;rw[xE h];rfl
theorem Live.next{es:Es}(hi:es.Inv)(hm:∀r∈es.aK,r.sJ)(b:By)(Bz:(bI b).2=0→(bI b).1.sJ): (es.Io b).2.Inv∧(∀r∈(es.Io b).2.aK,r.sJ)∧es.Kin (es.Io b).2:=by
 unfold Es.Io;by_cases hg:(bI b).2=0
 ·rw[if_pos hg];have hq:=(Bz hg).good;exact⟨(hi.abn hq).inv,(hi.OY hm hq).2,hi.kin hq⟩
 rw[if_neg hg];exact⟨hi,hm,Es.Kin.refl _⟩
theorem Live.J1{base:Nat}{q:sM}{es:Es}(h:Live base aA w e q wt es)(hb:base≤w.heap.size)(b:By)(A:Option Addr)(c:Nat)(hB:Bs w A b)(hA:rU A)(hl:b.length≤70368744177664)(Bz:(bI b).2=0→(bI b).1.sJ):
  Calls af 12 #[.pointer (some ⟨e,0,none⟩),.slice A b.length c] w (Cb base aA e q (es.Io b).1 (es.Io b).2 w):=by
 refine(ab9 h.dQ h.inv h.may h.bytes b A c hB hA hl Bz).mono ?_;rintro en w' ⟨v,G,C,wc,rfl,hO,hz,⟨eI,wF,a1,a2,a3⟩,hbw⟩;obtain⟨n1,n2,n3⟩:=Live.next h.inv h.may b Bz;refine⟨v,G,C,wc.heap.size,eI,wF,rfl,hO,hz,⟨a1.ai hbw,n1,n2,by rw[n3.size,n3.rg];exact h.bytes,fun k hk=>?_⟩,a1.rest.lt,a2,a3.ai hbw⟩;rcases a2 k hk with h1|h1
 ·exact h.news k h1
 ·omega
theorem Live.ask{base:Nat}{q:sM}{es:Es}(h:Live base aA w e q wt es)(hb:base≤w.heap.size){rq:Rq}(hq:rq.sJ)(A:Option Addr)(c:Nat)(hB:Bs w A (lj rq))(hA:rU A):
  Calls af 12 #[.pointer (some ⟨e,0,none⟩),.slice A (lj rq).length c] w (Cb base aA e q (es.rep rq).1 (es.rep rq).2 w):=by
 have:=h.J1 hb (lj rq) A c hB hA (by have:=(sX (q:=rq)).2;omega) (fun _=>by rw[xE hq];exact hq)
 rwa [es.Gp hq] at this
theorem Cb.base{base:Nat}{w0 w':World} {q:sM}{es:Es}(h:Live base aA w e q wt es)(hb:Below w0.heap.size w0 w)(h0:w0.heap.size≤base)(ht:aG (fun k=>aA k≠0) w w'): Below w0.heap.size w0 w':=
 aG.fresh ht hb fun k hk=>bf h0 (h.news k hk)
end En
end
section
namespace Rf
theorem Jh: (af.info? 122).map (·.size)=some 7:=aW
theorem ni: (af.info? 120).map (·.size)=some 2:=aW
variable{b m k n s x e:Nat}{cs:Array Value}{w w':World}{lg sl bk:Option Addr}{wt mp:Value}
theorem AZ{a:Nat} (ha:1≤a∧a≤12)(hb:1≤b∧b≤8)(hm:m=64∨m=128):∃k:Nat,tS.slot a b m=(k:Int)∧2≤k∧k≤4∧tS.Rk a b m=((2*k+1:Nat):Int):=by
 have e:min (a:Int) (b:Int)=((min a b:Nat):Int):=ag;rcases hm with rfl|rfl
 ·unfold tS.Rk tS.slot tS.image tS.up;refine⟨(1+(20+14*min (a:Int) b+64-1)/64).toNat,?_,?_,?_,?_⟩ <;>omega
 unfold tS.Rk tS.slot tS.image tS.up;refine⟨(1+(20+14*min (a:Int) b+128-1)/128).toNat,?_,?_,?_,?_⟩ <;>omega
theorem Vy{u v:Value}(h1:cs[k]? =some u)(h2:cs[k+1]? =some v):∀(j:Nat) (x:Value),[u,v][j]? =some x→cs[k+j]? =some x:=fun j x hx=>by
 match j,hx with
 | 0,hx=>injection hx with hx;subst hx;exact h1
 | 1,hx=>injection hx with hx;subst hx;exact h2
 | j+2,hx=>simp at hx
theorem aD.F0{a:Nat} {t u:TypeId}{ds:Array Value} (h:aD w a t cs)(k:aD w b u ds)(ht:t≠u): a≠b:=by
 rintro rfl;have h1:some (G6 cs t (0,0))=some (G6 ds u (0,0)):=Eq.trans (Eq.symm h) k;injection h1 with h1
 injection h1 with _ h2
 exact ht h2
abbrev iH: TypeId:=49
theorem ZO.put(h:ZO w k n s)(hx:aD w x iH cs)(h0:∀A l c,cs[0]?≠some (.slice A l c))(ht:aG (· =x) w w'): ZO w' k n s:=by
 obtain⟨g,c,A,c0,h1,h2,h3⟩:=h.ex;have e1:k≠x:=aD.F0 h1 hx aM;have e2:g≠x:=by
  rintro rfl;rw[hx.cell 0] at h2;exact h0 _ _ _ h2
 exact⟨⟨g,c,A,c0,ht.arr h1 e1,(ht.cells h3 e2 0).trans h2,Nat.lt_of_lt_of_le h3 ht.size⟩,h.pos⟩
theorem Qc.put(h:Qc w m k n s)(hx:aD w x iH cs)(h0:∀A l c,cs[0]?≠some (.slice A l c))(ht:aG (· =x) w w'): Qc w' m k n s:=by
 obtain⟨a,b,c,h1⟩:=h.own;exact⟨⟨a,b,c,ht.arr h1 (aD.F0 h1 hx aM)⟩,h.dk.put hx h0 ht⟩
theorem B6.put{r f c:Nat} (h:B6 w r m k n s f c)(hx:aD w x iH cs)(h0:∀A l c,cs[0]?≠some (.slice A l c))(ht:aG (· =x) w w'): B6 w' r m k n s f c:=
 ⟨ht.arr h.own (aD.F0 h.own hx aM),h.dv.put hx h0 ht⟩
theorem _root_.Go.Proofs.YtemighjbfanenaaGreatDoor.Eg.jB.acI{l:List (Int × Value)}(h:Eg.jB w b l)(ht:aG (· =x) w w')(hx:b≠x): Eg.jB w' b l:=fG.same h (ht.block _ (fG.lt h) hx)
theorem _root_.Go.Proofs.YtemighjbfanenaaGreatDoor.Eg.jB.afm{l:List (Int × Value)}{t:TypeId}(h:Eg.jB w b l)(k:aD w b t cs): False:=by
 obtain⟨D,⟨es,ak,hb,r⟩,hs,hf⟩:=h;have h1:some (Obj.map es ak)=some (G6 cs t (0,0)):=Eq.trans (Eq.symm hb) k;injection h1 with h1
 cases h1
theorem _root_.Go.Proofs.YtemighjbfanenaaGreatDoor.Eg.im.Ji{up:Bool}(h:im w e up lg sl bk wt mp)(hb:Below w.heap.size w w'): im w' e up lg sl bk wt mp:=aD.keep h hb
theorem _root_.Go.Proofs.YtemighjbfanenaaGreatDoor.Eg.im.ahD{S:Nat→Prop}{up:Bool}(h:im w e up lg sl bk wt mp)(ht:aG S w w')(hS:¬S e): im w' e up lg sl bk wt mp:=ht.arr h hS
theorem lG{S:Nat→Prop}{bk:En.dJ}(h:Bk.fQ S w b bk)(hb:Below w.heap.size w w'): Bk.fQ S w' b bk:=by obtain⟨x,hx⟩:=h;exact⟨x,hx.ai hb⟩
theorem ajw{mb:Nat} {up:Bool}{l:List (Int × Value)}(hE:im w e up lg sl bk wt mp)(hM:Eg.jB w mb l): e≠mb:=by
 rintro rfl;have hA:aD w e 68 _:=hE;exact hM.afm hA
structure MdP where
 x:Nat
 e:Nat
 m:Nat
 v:Nat
 q:sM
 aA:Nat→Nat
structure ad4(w w':World)(es:En.Es)(P:MdP): Prop where
 own:aD w' P.x iH #[.pointer (some ⟨P.q.p,0,none⟩),.pointer (some ⟨P.e,0,none⟩),.pointer (some ⟨P.q.rl,0,none⟩),.pointer (some ⟨P.q.sl,0,none⟩),.pointer (some ⟨P.m,0,none⟩),.pointer (some ⟨P.v,0,none⟩)]
 eng:bw P.aA w' P.e P.q (.slice none 0 0) es
 news:∀k,P.aA k≠0→w.heap.size≤k
 xno:P.aA P.x=0
 anH:w.heap.size≤P.x
 ai:Below w.heap.size w w'
def mdK(sh:Int)(m:Nat): Nat:=(tS.slot (FP sh).1 (FP sh).2.1 m).toNat
def mdN(sh lg:Int)(m:Nat): Nat:=2*mdK sh m+1+(lg%8).toNat
def Rn(wide:Bool): Nat:=if wide then 128 else 64
def F2(sh lg:Int)(wide:Bool)(ep sq:Nat): En.Es:=yI (FP sh).1 (FP sh).2.1 (FP sh).2.2 (mdN sh lg (Rn wide)) (Rn wide) (mdK sh (Rn wide)) ep sq
def zG(sh lg:Int)(wide:Bool)(ep sq:Nat)(w:World)(en:Ending)(w':World): Prop:=∃P,en=.returned (.tuple #[.pointer (some ⟨P.x,0,none⟩),.bool true])∧ad4 w w' (F2 sh lg wide ep sq) P
abbrev cqa(p vm xx:Nat)(W:World): Prop:=aD W xx iH #[.pointer (some ⟨p,0,none⟩),.pointer none,.pointer none,.pointer none,.pointer (some ⟨vm,0,none⟩),.pointer none]
abbrev cqb(xl m k n:Nat)(W:World): Prop:=aD W xl 122 #[.int .i64 m,.int .i64 0,.int .i64 k,.int .i64 k,.int .i64 k,.int .i64 (2*(k:Int)),.int .i64 ((n:Int)-2*(k:Int))]
theorem D8(sh lg:Int)(wide:Bool)(ep sq:Nat)(uJ: -9223372036854775808≤sh∧sh≤9223372036854775807)(hlg: -9223372036854775808≤lg∧lg≤9223372036854775807)(M4:ep<18446744073709551616)(hsq:sq<18446744073709551616)(w:World)(JN:cn w)(hrt:gh w):
  Calls af 8 #[.agg #[.int .i64 sh,.int .i64 lg,.bool wide,.int .u64 (ep:Int),.int .u64 (sq:Int),.int .i64 0]] w (zG sh lg wide ep sq w):=by
 obtain⟨hsa,k8,hsc⟩:=Vi sh;obtain⟨a,ha⟩:=ae ((FP sh).1);obtain⟨b,hb⟩:=ae ((FP sh).2.1);obtain⟨c,hc⟩:=ae ((FP sh).2.2);have HS:=aa (fT sh uJ);rw[ha,hb,hc] at HS;rw[ha] at hsa;rw[hb] at k8;rw[hc] at hsc;obtain⟨m,hm⟩:=ae (Rn wide);have Xj:m=64∨m=128:=by rw[←hm];unfold Rn;cases wide;exact .inl rfl;exact .inr rfl
 obtain⟨k,hk,hk2,hk4,Xf⟩:=AZ hsa k8 Xj;have pX:mdK sh m=k:=by unfold mdK;rw[ha,hb,hk];rfl
 obtain⟨j,hj⟩:=ae ((lg%8).toNat);have hj8:lg%8=(j:Int):=ag;obtain⟨n,hn⟩:=ae (2*k+1+j);have HEQ:=aa (show F2 sh lg wide ep sq=yI a b c n m k ep sq from by unfold F2 mdN;rw[hm,pX,ha,hb,hc,hj,hn]);have uq:=aa (show tS.CF a b c=true by unfold tS.CF;exact decide_eq_true ag);have hz:tS.Pb m=true:=by rcases Xj with rfl|rfl <;>rfl
 have vT:n=2*k+1+j∧j≤7:=⟨hn.symm,ag⟩;have HND:=aa (fun W=>tS.xF a b c m W uq.o hz);rw[Xf] at HND;have NR:=aa (fun W=>tS.Vq n m a b c W uq.o (by unfold tS.okD;rw[hz,decide_eq_true (show(1:Int)≤(n:Int) from ag),decide_eq_true (show(n:Int)≤65536 from ag),decide_eq_true (show(n:Int)*(m:Int)≤67108864 by rcases Xj with rfl|rfl <;>omega)];rfl) (by rw[Xf];omega));rw[hk] at NR;have HDV:=aa (show ∀W,Calls af 45 #[.int .i64 n,.bool wide] W (GR n m W)from fun W=>by have:=SU n wide ag W;unfold Rn at hm;rw[hm] at this;exact this);have Lc:=aa (fun W=>Bk.PV a b c W uq.o);have HK:=aa (show 2≤k∧k≤4∧n=2*k+1+j∧j≤7∧64≤m∧m≤128 from⟨hk2,hk4,vT.1,vT.2,ag,ag⟩);have HAB:=aa (show((1≤a∧a≤1024)∧(1≤b∧b≤4096)∧1≤c∧c≤64)from ag);have am4:=aa (YQ a b c HAB.o);have HP8:=aa (fun W=>oD lg 8 hlg aM W);rw[hj8] at HP8;have NS:=aa (fun W=>oD 0 6 aM aM W);have HM:=aa hm;have Dy:=aa JN;have HRT:=aa hrt;have HEP:=aa (show ep<18446744073709551616∧sq<18446744073709551616 from⟨M4,hsq⟩);have hnk:(2*(k:Int))+1+(j:Int)=(n:Int):=ag;clear ha hb hc hsa k8 hsc hk Xf uJ hlg hk2 hk4 hm Xj pX hj hj8 hn hz vT JN hrt M4 hsq;obtain⟨xa,jb⟩:=ae w.heap.size;obtain⟨w0,hw0⟩:=ae (w.alloc (.cells #[.int .i64 sh,.int .i64 lg,.bool wide,.int .u64 (ep:Int),.int .u64 (sq:Int),.int .i64 0] 24));have Iv:=aa (aJ hw0);have HX0:=aa (aH hw0 jb);have c0:=HX0.o.cl 0;go_enter Tryz.func8,Tryz.ntmps8;go_wp2_with fail;clear hw0 jb c0;refine(HS.o w0).mono ?_;rintro e w1 ⟨rfl,hb1⟩;have bu:=Iv.eo hb1;have Iq:=HX0.jS hb1;clear hb1 HS Iv HX0;obtain⟨xs,Df⟩:=ae w1.heap.size;obtain⟨w2,hw2⟩:=ae (w1.alloc (.cells #[.int .i64 0,.int .i64 0,.int .i64 0] 80));have jI:=aa (aH hw2 Df);have cx:=aa (aJ hw2);have HXS:=aa Df;go_upto_region 3 with(refine aj rfl 80 _ _ rfl xs 80 _ #[.int .i64 a,.int .i64 b,.int .i64 c] jI.o rfl rfl rfl dF ie ?_;intro w3 dB hg3 hs3;have pq:=aa dB;have BJ:=(show Below w1.heap.size w1 w3 from br cx.o hg3 (fX HXS.o));have ek:=bu.eo BJ;have NL:=Iq.jS BJ;clear dB hg3 hs3 BJ)
 clear Df hw2 jI cx HXS Iq bu;have c2:=NL.o.cl 2;go_upto_if 39 with fail
 clear c2;go_cut [5] from 40 to 40 (fun s5 wc=>s5=.int .i64 (m:Int)∧wc=w3)
 case first=>
  have HMM:=HM.o;cases wide with
  | true=>
   have e5:(m:Int)=128:=by rw[←HMM];rfl
   go_wp2_with fail;go_meet;exact⟨by rw[e5],rfl⟩
  | false=>
   have e5:(m:Int)=64:=by rw[←HMM];rfl
   go_wp2_with fail;go_meet;exact⟨by rw[e5],rfl⟩
 case rest=>
  obtain⟨rfl,hwc⟩:=hcut;subst hwc;have HA:=pq;have HB:=ek;have HX:=NL;go_wp2_with (refine aB rfl 80 _ rfl xs 80 _ HA.o rfl _ oL rfl dF ?_);refine(HND.o _).mono ?_;rintro e w5 ⟨rfl,hb⟩;have HA:=HA.jS hb;have HB:=HB.eo hb;have HX:=HX.jS hb;clear hb;have c1:=HX.o.cl 1;go_wp2_with fail;refine ah (HP8.o _) ?_;clear c1;have hwn:wrap64 (n:Int)=(n:Int):=by have:=HK.o;unfold wrap64;omega
  go_wp2_with (refine aB rfl 80 _ rfl xs 80 _ HA.o rfl _ oL rfl dF ?_);refine(NR.o _).mono ?_;rintro e w6 ⟨rfl,hb⟩;have HA:=HA.jS hb;have HB:=HB.eo hb;have HX:=HX.jS hb;clear hb;obtain⟨xl,Ed⟩:=ae w6.heap.size;obtain⟨w7,zx⟩:=ae (w6.alloc (.cells #[.int .i64 0,.int .i64 0,.int .i64 0,.int .i64 0,.int .i64 0,.int .i64 0,.int .i64 0] 122));have Zm:=aa (aH zx Ed);have pj:=aa (aJ zx);have HXL:=aa Ed;go_upto_region 8 with(refine aj rfl 122 _ _ rfl xl 122 _ #[.int .i64 m,.int .i64 0,.int .i64 k,.int .i64 k,.int .i64 k,.int .i64 (2*(k:Int)),.int .i64 ((n:Int)-2*(k:Int))] Zm.o rfl rfl rfl Jh ie ?_;intro w8 dE dL gL;have HL:=aa dE;have ru:=aa (show Below w6.heap.size w6 w8 from br pj.o dL (fX HXL.o));clear dE dL gL)
  have hb:=ru.o;clear Ed zx Zm pj HXL;have HA:=HA.jS hb;have HB:=HB.eo hb;have HX:=HX.jS hb;clear hb;have c5:=HX.o.cl 5;go_wp2_with fail;refine ah (NS.o _) ?_;clear c5;obtain⟨xx,hxx⟩:=ae w8.heap.size;obtain⟨w9,jT⟩:=ae (w8.alloc (.cells #[.pointer none,.pointer none,.pointer none,.pointer none,.pointer none,.pointer none] 49));have hb:=aJ jT;have HY:=aa (show aD w9 xx iH #[.pointer none,.pointer none,.pointer none,.pointer none,.pointer none,.pointer none] by rw[←jT,←hxx];exact aD.fresh w8 _ _);have Cf:=aa (show w.heap.size≤xx∧xa<xx∧xs<xx∧xl<xx from by have h1:=HB.o.size;have h2:=HX.o.lt;have h3:=HA.o.lt;have h4:=HL.o.lt;omega);have HA:=HA.jS hb;have HB:=HB.eo hb;have HX:=HX.jS hb;have HL:=HL.jS hb;clear hb;have c2:=HX.o.cl 2;go_wp2_with fail;clear jT hxx;refine(HDV.o w9).mono ?_;rintro e tX ⟨p,vm,kd,S,rfl,h1,h2,h3,h4,hb,xM⟩;have HD:=aa h1;have HSR:=aa h2;have HV:=aa h4;have HMA:=aa (show vm<tX.heap.size∧w9.heap.size≤vm∧xx<w9.heap.size from⟨h3.lt,xM,HY.o.lt⟩);have HY:=HY.jS hb;clear h1 h2 h3 h4 xM c2;have HA:=HA.jS hb;have HB:=HB.eo hb;have HX:=HX.jS hb;have HL:=HL.jS hb;clear hb;have y0:=HY.o.cl 0;have m0:=HY.o.mark 0;have Nc:aD (tX.setCell ⟨xx,0,none⟩ (.pointer (some ⟨p,0,none⟩))) xx iH #[.pointer (some ⟨p,0,none⟩),.pointer none,.pointer none,.pointer none,.pointer none,.pointer none]:=HY.o.put 0 _;have y4:(tX.setCell ⟨xx,0,none⟩ (.pointer (some ⟨p,0,none⟩))).cell? ⟨xx,4,none⟩=some (.pointer none):=Nc.cell 4;have m4:=Nc.mark 4;obtain⟨yS,RG⟩:=ae ((tX.setCell ⟨xx,0,none⟩ (.pointer (some ⟨p,0,none⟩))).setCell ⟨xx,4,none⟩ (.pointer (some ⟨vm,0,none⟩)));have YZ:=aa (show aD yS xx iH #[.pointer (some ⟨p,0,none⟩),.pointer none,.pointer none,.pointer none,.pointer (some ⟨vm,0,none⟩),.pointer none] by rw[←RG];exact Nc.put 4 _);have ht:aG (· =xx) tX yS:=by rw[←RG];exact(aG.at tX xx 0 _).B1 4 _
  have qX:∀A l c,(#[.pointer none,.pointer none,.pointer none,.pointer none,.pointer none,.pointer none]:Array Value)[0]?≠some (.slice A l c):=fun A l c h=>by simp at h
  have hx9:=Cf.o;have hma:=HMA.o;have HA:=aa (ht.arr HA.o ag);have HX:=aa (ht.arr HX.o ag);have HL:=aa (ht.arr HL.o ag);have HD:=aa ((aC p _).cG HD.o ht (fun j hj c=>FF));have HV:=aa (HV.o.put HY.o qX ht);have HB:=aa (aG.fresh ht HB.o (fun j hj=>Fh));have ajS:=aa ht.size;have HY:=YZ;clear ht qX hx9 hma YZ Nc;go_upto_region 17 with fail
  try rw[RG]
  clear RG y0 y4 m0 m4;have c5:=HX.o.cl 5;go_wp2_with fail;refine ah (NS.o _) ?_;clear c5;go_upto_region 23 with fail
  have ic:=aa (show ∀W,cqa p vm xx W→cqb xl m k n W→(W.cell? ⟨xx,0,none⟩=some (.pointer (some ⟨p,0,none⟩))∧W.rangeAt xl 1 [.int .i64 0,.int .i64 k])from fun W h1 h2=>⟨h1.cell 0,fun i u hi=>DR⟩);obtain⟨wd,hwd⟩:=ae yS.drew;have hb:Below yS.heap.size yS wd:=mR;have xL:=hb.size;have HA:=HA.jS hb;have HB:=HB.eo hb;have HX:=HX.jS hb;have HL:=HL.jS hb;have HD:=aa ((aC p _).ai HD.o hb);have HV:=aa (HV.o.keep hb);have HY:=HY.jS hb;clear hb;refine wp_region_held_drew (S:=(fun W=>W.cell? ⟨xx,0,none⟩=some (.pointer (some ⟨p,0,none⟩))∧W.rangeAt xl 1 [.int .i64 0,.int .i64 k])) aW xj (fun hHeld=>?_);rw[hwd] at hHeld ⊢;clear hwd;refine kW 0 1 2 3 ?_;refine ty 4 ?_;refine fj 5 (some 132) hHeld 120 (.tmp 131) xl 1 [.int .i64 0,.int .i64 k] _ (fun w' h=>h.2) tz rfl ni ?_;try simp only[aQ]
  refine cD 6 fun K hK=>?_
  go_simp;have JB:Calls af 49 #[.pointer (some ⟨p,0,none⟩),.agg #[.int .i64 0,.int .i64 k]] wd (Kl p ⟨0,k⟩ m wd):=by
   have hk9:=HK.o;have tM:(⟨J2 n m,false,-1,0⟩:bG).dk.dr.length=n:=kT;have h9:=zF (g:=⟨0,k⟩) HD.o (by show 1≤k;omega) (by rw[tM];show 0+(k)≤n;omega);exact h9
  refine JB.mono ?_;rintro e QK ⟨ra,rfl,JD,hrg,hb⟩;clear JB;have fM:=aa hrg;have HQ0:=aa (show wd.heap.size≤ra∧ra<QK.heap.size from⟨JD,hrg.own.lt⟩);have aee:=aa (show yS.heap.size≤wd.heap.size from xL);clear JD hrg;have HA:=HA.jS hb;have HB:=HB.eo hb;have HX:=HX.jS hb;have HL:=HL.jS hb;have HD:=aa ((aC p _).ai HD.o hb);have HV:=aa (HV.o.keep hb);have HY:=HY.jS hb;clear hb;go_wp2_with fail;refine bW hK xe fun K2=>?_
  clear hK K;refine kW 7 8 9 10 ?_;refine ty 11 ?_;refine bF ?_;clear K2 hHeld ic xL;go_upto_region 24 with fail
  have ic:=aa (show ∀W,cqa p vm xx W→cqb xl m k n W→(W.cell? ⟨xx,0,none⟩=some (.pointer (some ⟨p,0,none⟩))∧W.rangeAt xl 3 [.int .i64 k,.int .i64 k])from fun W h1 h2=>⟨h1.cell 0,fun i u hi=>DR⟩);obtain⟨wd,hwd⟩:=ae QK.drew;have hb:Below QK.heap.size QK wd:=mR;have xL:=hb.size;have HA:=HA.jS hb;have HB:=HB.eo hb;have HX:=HX.jS hb;have HL:=HL.jS hb;have HD:=aa ((aC p _).ai HD.o hb);have HV:=aa (HV.o.keep hb);have HY:=HY.jS hb;have fM:=aa (fM.o.keep hb);clear hb;refine wp_region_held_drew (S:=(fun W=>W.cell? ⟨xx,0,none⟩=some (.pointer (some ⟨p,0,none⟩))∧W.rangeAt xl 3 [.int .i64 k,.int .i64 k])) aW xj (fun hHeld=>?_);rw[hwd] at hHeld ⊢;clear hwd;refine kW 0 1 2 3 ?_;refine ty 4 ?_;refine fj 5 (some 142) hHeld 120 (.tmp 141) xl 3 [.int .i64 k,.int .i64 k] _ (fun w' h=>h.2) tz rfl ni ?_;try simp only[aQ]
  refine cD 6 fun K hK=>?_
  go_simp;have JB:Calls af 49 #[.pointer (some ⟨p,0,none⟩),.agg #[.int .i64 k,.int .i64 k]] wd (Kl p ⟨k,k⟩ m wd):=by
   have hk9:=HK.o;have tM:(⟨J2 n m,false,-1,0⟩:bG).dk.dr.length=n:=kT;have h9:=zF (g:=⟨k,k⟩) HD.o (by show 1≤k;omega) (by rw[tM];show k+(k)≤n;omega);exact h9
  refine JB.mono ?_;rintro e TM ⟨rb,rfl,JD,hrg,hb⟩;clear JB;have gG:=aa hrg;have vx:=aa (show wd.heap.size≤rb∧rb<TM.heap.size from⟨JD,hrg.own.lt⟩);have aed:=aa (show QK.heap.size≤wd.heap.size from xL);clear JD hrg;have HA:=HA.jS hb;have HB:=HB.eo hb;have HX:=HX.jS hb;have HL:=HL.jS hb;have HD:=aa ((aC p _).ai HD.o hb);have HV:=aa (HV.o.keep hb);have HY:=HY.jS hb;have fM:=aa (fM.o.keep hb);clear hb;go_wp2_with fail;refine bW hK xe fun K2=>?_
  clear hK K;refine kW 7 8 9 10 ?_;refine ty 11 ?_;refine bF ?_;clear K2 hHeld ic xL;go_upto_region 25 with fail
  have ic:=aa (show ∀W,cqa p vm xx W→cqb xl m k n W→(W.cell? ⟨xx,0,none⟩=some (.pointer (some ⟨p,0,none⟩))∧W.rangeAt xl 5 [.int .i64 (2*(k:Int)),.int .i64 ((n:Int)-2*(k:Int))])from fun W h1 h2=>⟨h1.cell 0,fun i u hi=>DR⟩);obtain⟨wd,hwd⟩:=ae TM.drew;have hb:Below TM.heap.size TM wd:=mR;have xL:=hb.size;have HA:=HA.jS hb;have HB:=HB.eo hb;have HX:=HX.jS hb;have HL:=HL.jS hb;have HD:=aa ((aC p _).ai HD.o hb);have HV:=aa (HV.o.keep hb);have HY:=HY.jS hb;have fM:=aa (fM.o.keep hb);have gG:=aa (gG.o.keep hb);clear hb;refine wp_region_held_drew (S:=(fun W=>W.cell? ⟨xx,0,none⟩=some (.pointer (some ⟨p,0,none⟩))∧W.rangeAt xl 5 [.int .i64 (2*(k:Int)),.int .i64 ((n:Int)-2*(k:Int))])) aW xj (fun hHeld=>?_);rw[hwd] at hHeld ⊢;clear hwd;refine kW 0 1 2 3 ?_;refine ty 4 ?_;refine fj 5 (some 152) hHeld 120 (.tmp 151) xl 5 [.int .i64 (2*(k:Int)),.int .i64 ((n:Int)-2*(k:Int))] _ (fun w' h=>h.2) tz rfl ni ?_;try simp only[aQ]
  refine cD 6 fun K hK=>?_
  go_simp;have JB:Calls af 49 #[.pointer (some ⟨p,0,none⟩),.agg #[.int .i64 (2*(k:Int)),.int .i64 ((n:Int)-2*(k:Int))]] wd (Kl p ⟨2*k,n-2*k⟩ m wd):=by
   have hk9:=HK.o;have tM:(⟨J2 n m,false,-1,0⟩:bG).dk.dr.length=n:=kT;have h9:=zF (g:=⟨2*k,n-2*k⟩) HD.o (by show 1≤n-2*k;omega) (by rw[tM];show 2*k+(n-2*k)≤n;omega);exact Wo
  refine JB.mono ?_;rintro e w14 ⟨rl,rfl,JD,hrg,hb⟩;clear JB;have iA:=aa hrg;have rC:=aa (show wd.heap.size≤rl∧rl<w14.heap.size from⟨JD,hrg.own.lt⟩);have aec:=aa (show TM.heap.size≤wd.heap.size from xL);clear JD hrg;have HA:=HA.jS hb;have HB:=HB.eo hb;have HX:=HX.jS hb;have HL:=HL.jS hb;have HD:=aa ((aC p _).ai HD.o hb);have HV:=aa (HV.o.keep hb);have HY:=HY.jS hb;have fM:=aa (fM.o.keep hb);have gG:=aa (gG.o.keep hb);clear hb;go_wp2_with fail;refine bW hK xe fun K2=>?_
  clear hK K;refine kW 7 8 9 10 ?_;refine ty 11 ?_;refine bF ?_;clear K2 hHeld ic xL;go_upto_region 26 with fail
  have ic:=aa (show ∀W,cqa p vm xx W→cqb xl m k n W→(W.cell? ⟨xx,4,none⟩=some (.pointer (some ⟨vm,0,none⟩))∧W.rangeAt xl 1 [.int .i64 0,.int .i64 k])from fun W h1 h2=>⟨h1.cell 4,fun i u hi=>DR⟩);obtain⟨wd,hwd⟩:=ae w14.drew;have hb:Below w14.heap.size w14 wd:=mR;have xL:=hb.size;have HA:=HA.jS hb;have HB:=HB.eo hb;have HX:=HX.jS hb;have HL:=HL.jS hb;have HD:=aa ((aC p _).ai HD.o hb);have HV:=aa (HV.o.keep hb);have HY:=HY.jS hb;have fM:=aa (fM.o.keep hb);have gG:=aa (gG.o.keep hb);have iA:=aa (iA.o.keep hb);clear hb;refine wp_region_held_drew (S:=(fun W=>W.cell? ⟨xx,4,none⟩=some (.pointer (some ⟨vm,0,none⟩))∧W.rangeAt xl 1 [.int .i64 0,.int .i64 k])) aW xj (fun hHeld=>?_);rw[hwd] at hHeld ⊢;clear hwd;refine kW 0 1 2 3 ?_;refine ty 4 ?_;refine fj 5 (some 162) hHeld 120 (.tmp 161) xl 1 [.int .i64 0,.int .i64 k] _ (fun w' h=>h.2) tz rfl ni ?_;try simp only[aQ]
  refine cD 6 fun K hK=>?_
  go_simp;have JB:Calls af 50 #[.pointer (some ⟨vm,0,none⟩),.agg #[.int .i64 0,.int .i64 k]] wd (fun e w'=>∃r,e=.returned (.tuple #[.pointer (some ⟨r,0,none⟩),.int .i64 0])∧B6 w' r vm kd n m (0) (k)∧wd.heap.size≤r∧Below wd.heap.size wd w'):=by
   have hk9:=HK.o;have h9:=Gy (f:=0) (c:=k) HV.o ag ag ag;exact h9
  refine JB.mono ?_;rintro e w15 ⟨qa,rfl,hrg,JD,hb⟩;clear JB JD;have jD:=aa hrg;have aeb:=aa (show w14.heap.size≤w15.heap.size from bf xL hb.size);clear hrg;have HA:=HA.jS hb;have HB:=HB.eo hb;have HX:=HX.jS hb;have HL:=HL.jS hb;have HD:=aa ((aC p _).ai HD.o hb);have HV:=aa (HV.o.keep hb);have HY:=HY.jS hb;have fM:=aa (fM.o.keep hb);have gG:=aa (gG.o.keep hb);have iA:=aa (iA.o.keep hb);clear hb;go_wp2_with fail;refine bW hK xe fun K2=>?_
  clear hK K;refine kW 7 8 9 10 ?_;refine ty 11 ?_;refine bF ?_;clear K2 hHeld ic xL;go_upto_region 27 with fail
  have ic:=aa (show ∀W,cqa p vm xx W→cqb xl m k n W→(W.cell? ⟨xx,4,none⟩=some (.pointer (some ⟨vm,0,none⟩))∧W.rangeAt xl 3 [.int .i64 k,.int .i64 k])from fun W h1 h2=>⟨h1.cell 4,fun i u hi=>DR⟩);obtain⟨wd,hwd⟩:=ae w15.drew;have hb:Below w15.heap.size w15 wd:=mR;have xL:=hb.size;have HA:=HA.jS hb;have HB:=HB.eo hb;have HX:=HX.jS hb;have HL:=HL.jS hb;have HD:=aa ((aC p _).ai HD.o hb);have HV:=aa (HV.o.keep hb);have HY:=HY.jS hb;have fM:=aa (fM.o.keep hb);have gG:=aa (gG.o.keep hb);have iA:=aa (iA.o.keep hb);have jD:=aa (jD.o.keep hb);clear hb;refine wp_region_held_drew (S:=(fun W=>W.cell? ⟨xx,4,none⟩=some (.pointer (some ⟨vm,0,none⟩))∧W.rangeAt xl 3 [.int .i64 k,.int .i64 k])) aW xj (fun hHeld=>?_);rw[hwd] at hHeld ⊢;clear hwd;refine kW 0 1 2 3 ?_;refine ty 4 ?_;refine fj 5 (some 172) hHeld 120 (.tmp 171) xl 3 [.int .i64 k,.int .i64 k] _ (fun w' h=>h.2) tz rfl ni ?_;try simp only[aQ]
  refine cD 6 fun K hK=>?_
  go_simp;have JB:Calls af 50 #[.pointer (some ⟨vm,0,none⟩),.agg #[.int .i64 k,.int .i64 k]] wd (fun e w'=>∃r,e=.returned (.tuple #[.pointer (some ⟨r,0,none⟩),.int .i64 0])∧B6 w' r vm kd n m (k) (k)∧wd.heap.size≤r∧Below wd.heap.size wd w'):=by
   have hk9:=HK.o;have h9:=Gy (f:=k) (c:=k) HV.o ag ag ag;exact h9
  refine JB.mono ?_;rintro e w16 ⟨qb,rfl,hrg,JD,hb⟩;clear JB JD;have kL:=aa hrg;have aea:=aa (show w15.heap.size≤w16.heap.size from bf xL hb.size);clear hrg;have HA:=HA.jS hb;have HB:=HB.eo hb;have HX:=HX.jS hb;have HL:=HL.jS hb;have HD:=aa ((aC p _).ai HD.o hb);have HV:=aa (HV.o.keep hb);have HY:=HY.jS hb;have fM:=aa (fM.o.keep hb);have gG:=aa (gG.o.keep hb);have iA:=aa (iA.o.keep hb);have jD:=aa (jD.o.keep hb);clear hb;go_wp2_with fail;refine bW hK xe fun K2=>?_
  clear hK K;refine kW 7 8 9 10 ?_;refine ty 11 ?_;refine bF ?_;clear K2 hHeld ic xL;go_upto_region 28 with fail
  have ic:=aa (show ∀W,cqa p vm xx W→cqb xl m k n W→(W.cell? ⟨xx,4,none⟩=some (.pointer (some ⟨vm,0,none⟩))∧W.rangeAt xl 5 [.int .i64 (2*(k:Int)),.int .i64 ((n:Int)-2*(k:Int))])from fun W h1 h2=>⟨h1.cell 4,fun i u hi=>DR⟩);obtain⟨wd,hwd⟩:=ae w16.drew;have hb:Below w16.heap.size w16 wd:=mR;have xL:=hb.size;have HA:=HA.jS hb;have HB:=HB.eo hb;have HX:=HX.jS hb;have HL:=HL.jS hb;have HD:=aa ((aC p _).ai HD.o hb);have HV:=aa (HV.o.keep hb);have HY:=HY.jS hb;have fM:=aa (fM.o.keep hb);have gG:=aa (gG.o.keep hb);have iA:=aa (iA.o.keep hb);have jD:=aa (jD.o.keep hb);have kL:=aa (kL.o.keep hb);clear hb;refine wp_region_held_drew (S:=(fun W=>W.cell? ⟨xx,4,none⟩=some (.pointer (some ⟨vm,0,none⟩))∧W.rangeAt xl 5 [.int .i64 (2*(k:Int)),.int .i64 ((n:Int)-2*(k:Int))])) aW xj (fun hHeld=>?_);rw[hwd] at hHeld ⊢;clear hwd;refine kW 0 1 2 3 ?_;refine ty 4 ?_;refine fj 5 (some 182) hHeld 120 (.tmp 181) xl 5 [.int .i64 (2*(k:Int)),.int .i64 ((n:Int)-2*(k:Int))] _ (fun w' h=>h.2) tz rfl ni ?_;try simp only[aQ]
  refine cD 6 fun K hK=>?_
  go_simp;have JB:Calls af 50 #[.pointer (some ⟨vm,0,none⟩),.agg #[.int .i64 (2*(k:Int)),.int .i64 ((n:Int)-2*(k:Int))]] wd (fun e w'=>∃r,e=.returned (.tuple #[.pointer (some ⟨r,0,none⟩),.int .i64 0])∧B6 w' r vm kd n m (2*k) (n-2*k)∧wd.heap.size≤r∧Below wd.heap.size wd w'):=by
   have hk9:=HK.o;have h9:=Gy (f:=2*k) (c:=n-2*k) HV.o ag ag ag;exact Wo
  refine JB.mono ?_;rintro e w17 ⟨ql,rfl,hrg,JD,hb⟩;clear JB JD;have jC:=aa hrg;have ad9:=aa (show w16.heap.size≤w17.heap.size from bf xL hb.size);clear hrg;have HA:=HA.jS hb;have HB:=HB.eo hb;have HX:=HX.jS hb;have HL:=HL.jS hb;have HD:=aa ((aC p _).ai HD.o hb);have HV:=aa (HV.o.keep hb);have HY:=HY.jS hb;have fM:=aa (fM.o.keep hb);have gG:=aa (gG.o.keep hb);have iA:=aa (iA.o.keep hb);have jD:=aa (jD.o.keep hb);have kL:=aa (kL.o.keep hb);clear hb;go_wp2_with fail;refine bW hK xe fun K2=>?_
  clear hK K;refine kW 7 8 9 10 ?_;refine ty 11 ?_;refine bF ?_;clear K2 hHeld ic xL;go_upto_region 29 with fail
  go_wp2_with fail;refine(PR (sl:=⟨⟨0,k⟩,⟨k,k⟩⟩) fM.o gG.o rfl HK.o.1).mono ?_;rintro e w18 ⟨sl,rfl,gL,MS,hb⟩;have pT:=aa MS;have HQS:=aa (show w17.heap.size≤sl∧sl<w18.heap.size from⟨gL,MS.own.lt⟩);clear gL MS;have HA:=HA.jS hb;have HB:=HB.eo hb;have HX:=HX.jS hb;have HL:=HL.jS hb;have HD:=aa ((aC p _).ai HD.o hb);have HV:=aa (HV.o.keep hb);have HY:=HY.jS hb;have fM:=aa (fM.o.keep hb);have gG:=aa (gG.o.keep hb);have iA:=aa (iA.o.keep hb);have jD:=aa (jD.o.keep hb);have kL:=aa (kL.o.keep hb);have jC:=aa (jC.o.keep hb);clear hb;have c3:=HX.o.cl 3;have c4:=HX.o.cl 4;go_wp2_with fail;clear c3 c4;refine(PY iA.o ep sq HEP.o.1 HEP.o.2).mono ?_;rintro e TK ⟨lq,rfl,hl9,hlg,hb⟩;have ur:=aa hlg;have HQL:=aa (show w18.heap.size≤lq∧lq<TK.heap.size from⟨hl9,(cC _ _ _ _ _ _).lt hlg lq (.inl rfl)⟩);clear hl9 hlg;have HA:=HA.jS hb;have HB:=HB.eo hb;have HX:=HX.jS hb;have HL:=HL.jS hb;have HD:=aa ((aC p _).ai HD.o hb);have HV:=aa (HV.o.keep hb);have HY:=HY.jS hb;have fM:=aa (fM.o.keep hb);have gG:=aa (gG.o.keep hb);have iA:=aa (iA.o.keep hb);have jD:=aa (jD.o.keep hb);have kL:=aa (kL.o.keep hb);have jC:=aa (jC.o.keep hb);have pT:=aa (pT.o.keep hb);clear hb;go_wp2_with (refine aB rfl 80 _ rfl xs 80 _ HA.o rfl _ oL rfl dF ?_);refine(Lc.o TK).mono ?_;rintro e IH ⟨bk,TT,qq,rfl,cK,hTT,hb⟩;have eX:=aa (show Bk.fQ TT IH bk ⟨a,b,c,1,0,[]⟩from⟨qq,cK⟩);have HTR:=aa (show ∀j,TT j→TK.heap.size≤j∧j<IH.heap.size from fun j hj=>⟨hTT j hj,cK.bg.lt j hj⟩);have agQ:=aa hb.size;clear cK hTT;have HA:=HA.jS hb;have HB:=HB.eo hb;have HX:=HX.jS hb;have HL:=HL.jS hb;have HD:=aa ((aC p _).ai HD.o hb);have HV:=aa (HV.o.keep hb);have HY:=HY.jS hb;have fM:=aa (fM.o.keep hb);have gG:=aa (gG.o.keep hb);have iA:=aa (iA.o.keep hb);have jD:=aa (jD.o.keep hb);have kL:=aa (kL.o.keep hb);have jC:=aa (jC.o.keep hb);have pT:=aa (pT.o.keep hb);have ur:=aa ((cC _ _ _ _ _ _).ai ur.o hb);clear hb;have Sx:=aa (show xx<ra∧xx<rb∧xx<rl∧xx<sl∧xx<lq∧xx<TK.heap.size∧vm<ra∧ra<rb∧rb<rl∧rl<sl∧sl<lq∧lq<TK.heap.size from by have h1:=HMA.o;have h2:=ajS.o;have a1:=aee.o;have a2:=aed.o;have a3:=aec.o;have a4:=aeb.o;have a5:=aea.o;have a6:=ad9.o;have q0:=HQ0.o;have q1:=vx.o;have q2:=rC.o;have q3:=HQS.o;have q4:=HQL.o;omega);clear ajS aee aed aec aeb aea ad9 HQ0 vx rC HQS HQL;go_upto_region 36 with fail
  have PF:=HY.o;have yy0:(IH).cell? ⟨xx,2,none⟩=some (.pointer none):=PF.cell 2;have mm0:=PF.mark 2;have Nc:aD ((IH).setCell ⟨xx,2,none⟩ (.pointer (some ⟨rl,0,none⟩))) xx iH #[.pointer (some ⟨p,0,none⟩),.pointer none,.pointer (some ⟨rl,0,none⟩),.pointer none,.pointer (some ⟨vm,0,none⟩),.pointer none]:=PF.put 2 _;have yy1:((IH).setCell ⟨xx,2,none⟩ (.pointer (some ⟨rl,0,none⟩))).cell? ⟨xx,3,none⟩=some (.pointer none):=Nc.cell 3;have mm1:=Nc.mark 3;have hY2:aD (((IH).setCell ⟨xx,2,none⟩ (.pointer (some ⟨rl,0,none⟩))).setCell ⟨xx,3,none⟩ (.pointer (some ⟨sl,0,none⟩))) xx iH #[.pointer (some ⟨p,0,none⟩),.pointer none,.pointer (some ⟨rl,0,none⟩),.pointer (some ⟨sl,0,none⟩),.pointer (some ⟨vm,0,none⟩),.pointer none]:=Nc.put 3 _;obtain⟨TJ,jT⟩:=ae (((IH).setCell ⟨xx,2,none⟩ (.pointer (some ⟨rl,0,none⟩))).setCell ⟨xx,3,none⟩ (.pointer (some ⟨sl,0,none⟩)));have YZ:=aa (show aD TJ xx iH #[.pointer (some ⟨p,0,none⟩),.pointer none,.pointer (some ⟨rl,0,none⟩),.pointer (some ⟨sl,0,none⟩),.pointer (some ⟨vm,0,none⟩),.pointer none] by rw[←jT];exact hY2);have ht:aG (· =xx) IH TJ:=by rw[←jT];exact(aG.at IH xx 2 _).B1 3 _
  have qX:∀A l c,(#[.pointer (some ⟨p,0,none⟩),.pointer none,.pointer none,.pointer none,.pointer (some ⟨vm,0,none⟩),.pointer none]:Array Value)[0]?≠some (.slice A l c):=fun A l c h=>by simp at h
  have hx9:=Cf.o;have hma:=HMA.o;have ho:=Sx.o;have xL:=ht.size;have HA:=aa (ht.arr HA.o ag);have HB:=aa (aG.fresh ht HB.o (fun j hj=>Fh));have HX:=aa (ht.arr HX.o ag);have HL:=aa (ht.arr HL.o ag);have HD:=aa ((aC p _).cG HD.o ht (fun j hj c=>FF));have HV:=aa (Qc.put HV.o HY.o qX ht);have fM:=aa (fV.cG fM.o ht (fun c=>jv));have gG:=aa (fV.cG gG.o ht (fun c=>jv));have iA:=aa (fV.cG iA.o ht (fun c=>jv));have jD:=aa (B6.put jD.o HY.o qX ht);have kL:=aa (B6.put kL.o HY.o qX ht);have jC:=aa (B6.put jC.o HY.o qX ht);have pT:=aa (qz.cG pT.o ht (fun c=>jv) (fun c=>jv) (fun c=>jv));have ur:=aa ((cC _ _ _ _ _ _).cG ur.o ht (fun j hj c=>L8));have eX:=aa (En.iI eX.o ht (fun j hj c=>LX));have ad8:=aa (show IH.heap.size≤TJ.heap.size from xL);have HY:=YZ;clear ht qX hx9 hma ho xL YZ PF Nc hY2;go_upto_region 37 with fail
  try rw[jT]
  clear jT yy0 mm0 yy1 mm1;go_wp2_with fail;obtain⟨lv,hlv⟩:=ur.o;obtain⟨bq,hbq⟩:=eX.o;refine(PW hlv pT.o hbq.bg ⟨HAB.o.1.1,HAB.o.1.2⟩).mono ?_;rintro e w22 ⟨ee,mb,rfl,hE,hM,hee,MW,hb⟩;clear hlv hbq;have HE:=aa hE;have GG:=aa hM;have HEM:=aa (show TK.heap.size≤IH.heap.size∧IH.heap.size≤ee∧IH.heap.size≤mb∧ee≠mb from⟨agQ.o,bf ad8.o hee,bf ad8.o MW,ajw hE hM⟩);clear hE hM hee MW;have HA:=HA.jS hb;have HB:=HB.eo hb;have HX:=HX.jS hb;have HL:=HL.jS hb;have HD:=aa ((aC p _).ai HD.o hb);have HV:=aa (HV.o.keep hb);have HY:=HY.jS hb;have fM:=aa (fM.o.keep hb);have gG:=aa (gG.o.keep hb);have iA:=aa (iA.o.keep hb);have jD:=aa (jD.o.keep hb);have kL:=aa (kL.o.keep hb);have jC:=aa (jC.o.keep hb);have pT:=aa (pT.o.keep hb);have ur:=aa ((cC _ _ _ _ _ _).ai ur.o hb);have eX:=aa (lG eX.o hb);clear hb;have Sx:=aa (show xx<ra∧xx<rb∧xx<rl∧xx<sl∧xx<lq∧xx<TK.heap.size∧vm<ra∧ra<rb∧rb<rl∧rl<sl∧sl<lq∧lq<TK.heap.size∧TK.heap.size≤IH.heap.size∧IH.heap.size≤ee∧IH.heap.size≤mb from by have:=Sx.o;have:=HEM.o;omega);have PF:=HY.o;have yy0:(w22).cell? ⟨xx,1,none⟩=some (.pointer none):=PF.cell 1;have mm0:=PF.mark 1;have Nc:aD ((w22).setCell ⟨xx,1,none⟩ (.pointer (some ⟨ee,0,none⟩))) xx iH #[.pointer (some ⟨p,0,none⟩),.pointer (some ⟨ee,0,none⟩),.pointer (some ⟨rl,0,none⟩),.pointer (some ⟨sl,0,none⟩),.pointer (some ⟨vm,0,none⟩),.pointer none]:=PF.put 1 _;obtain⟨w23,jT⟩:=ae ((w22).setCell ⟨xx,1,none⟩ (.pointer (some ⟨ee,0,none⟩)));have YZ:=aa (show aD w23 xx iH #[.pointer (some ⟨p,0,none⟩),.pointer (some ⟨ee,0,none⟩),.pointer (some ⟨rl,0,none⟩),.pointer (some ⟨sl,0,none⟩),.pointer (some ⟨vm,0,none⟩),.pointer none] by rw[←jT];exact Nc);have ht:aG (· =xx) w22 w23:=by rw[←jT];exact aG.at w22 xx 1 _
  have qX:∀A l c,(#[.pointer (some ⟨p,0,none⟩),.pointer none,.pointer (some ⟨rl,0,none⟩),.pointer (some ⟨sl,0,none⟩),.pointer (some ⟨vm,0,none⟩),.pointer none]:Array Value)[0]?≠some (.slice A l c):=fun A l c h=>by simp at h
  have hx9:=Cf.o;have hma:=HMA.o;have ho:=Sx.o;have xL:=ht.size;have HA:=aa (ht.arr HA.o ag);have HB:=aa (aG.fresh ht HB.o (fun j hj=>Fh));have HX:=aa (ht.arr HX.o ag);have HL:=aa (ht.arr HL.o ag);have HD:=aa ((aC p _).cG HD.o ht (fun j hj c=>FF));have HV:=aa (Qc.put HV.o HY.o qX ht);have fM:=aa (fV.cG fM.o ht (fun c=>jv));have gG:=aa (fV.cG gG.o ht (fun c=>jv));have iA:=aa (fV.cG iA.o ht (fun c=>jv));have jD:=aa (B6.put jD.o HY.o qX ht);have kL:=aa (B6.put kL.o HY.o qX ht);have jC:=aa (B6.put jC.o HY.o qX ht);have pT:=aa (qz.cG pT.o ht (fun c=>jv) (fun c=>jv) (fun c=>jv));have ur:=aa ((cC _ _ _ _ _ _).cG ur.o ht (fun j hj c=>L8));have eX:=aa (En.iI eX.o ht (fun j hj c=>LX));have HE:=aa (im.ahD HE.o ht (fun c=>jv));have GG:=aa (jB.acI GG.o ht (fun c=>jv));have anG:=aa (show w22.heap.size≤w23.heap.size from xL);have HY:=YZ;clear ht qX hx9 hma ho xL YZ PF Nc;go_upto_region 38 with fail
  try rw[jT]
  clear jT yy0 mm0;go_wp2_with fail;refine(YR jD.o kL.o HK.o.1 AF AF).mono ?_;rintro e w24 ⟨qs,rfl,hq,hqz,hb⟩;clear hq hqz;have HA:=HA.jS hb;have HB:=HB.eo hb;have HX:=HX.jS hb;have HL:=HL.jS hb;have HD:=aa ((aC p _).ai HD.o hb);have HV:=aa (HV.o.keep hb);have HY:=HY.jS hb;have fM:=aa (fM.o.keep hb);have gG:=aa (gG.o.keep hb);have iA:=aa (iA.o.keep hb);have jD:=aa (jD.o.keep hb);have kL:=aa (kL.o.keep hb);have jC:=aa (jC.o.keep hb);have pT:=aa (pT.o.keep hb);have ur:=aa ((cC _ _ _ _ _ _).ai ur.o hb);have eX:=aa (lG eX.o hb);have HE:=aa (im.Ji HE.o hb);have GG:=aa (GG.o.keep hb);clear hb;go_wp2_with (refine aB rfl 80 _ rfl xs 80 _ HA.o rfl _ oL rfl dF ?_);refine(am4.o w24).mono ?_;rintro e w25 ⟨qk,rfl,hq,hqz,hb⟩;clear hq hqz;have HA:=HA.jS hb;have HB:=HB.eo hb;have HX:=HX.jS hb;have HL:=HL.jS hb;have HD:=aa ((aC p _).ai HD.o hb);have HV:=aa (HV.o.keep hb);have HY:=HY.jS hb;have fM:=aa (fM.o.keep hb);have gG:=aa (gG.o.keep hb);have iA:=aa (iA.o.keep hb);have jD:=aa (jD.o.keep hb);have kL:=aa (kL.o.keep hb);have jC:=aa (jC.o.keep hb);have pT:=aa (pT.o.keep hb);have ur:=aa ((cC _ _ _ _ _ _).ai ur.o hb);have eX:=aa (lG eX.o hb);have HE:=aa (im.Ji HE.o hb);have GG:=aa (GG.o.keep hb);clear hb;have c3:=HX.o.cl 3;have c4:=HX.o.cl 4;go_wp2_with fail;clear c3 c4;refine(YS ql (ep:Int) (sq:Int) w25).mono ?_;rintro e w26 ⟨qg,rfl,hq,hqz,hb⟩;clear hq hqz;have HA:=HA.jS hb;have HB:=HB.eo hb;have HX:=HX.jS hb;have HL:=HL.jS hb;have HD:=aa ((aC p _).ai HD.o hb);have HV:=aa (HV.o.keep hb);have HY:=HY.jS hb;have fM:=aa (fM.o.keep hb);have gG:=aa (gG.o.keep hb);have iA:=aa (iA.o.keep hb);have jD:=aa (jD.o.keep hb);have kL:=aa (kL.o.keep hb);have jC:=aa (jC.o.keep hb);have pT:=aa (pT.o.keep hb);have ur:=aa ((cC _ _ _ _ _ _).ai ur.o hb);have eX:=aa (lG eX.o hb);have HE:=aa (im.Ji HE.o hb);have GG:=aa (GG.o.keep hb);clear hb;go_wp2_with fail;refine(Sg qg qs qk w26).mono ?_;rintro e w27 ⟨vv,rfl,hq,hqz,hb⟩;clear hq hqz;have HA:=HA.jS hb;have HB:=HB.eo hb;have HX:=HX.jS hb;have HL:=HL.jS hb;have HD:=aa ((aC p _).ai HD.o hb);have HV:=aa (HV.o.keep hb);have HY:=HY.jS hb;have fM:=aa (fM.o.keep hb);have gG:=aa (gG.o.keep hb);have iA:=aa (iA.o.keep hb);have jD:=aa (jD.o.keep hb);have kL:=aa (kL.o.keep hb);have jC:=aa (jC.o.keep hb);have pT:=aa (pT.o.keep hb);have ur:=aa ((cC _ _ _ _ _ _).ai ur.o hb);have eX:=aa (lG eX.o hb);have HE:=aa (im.Ji HE.o hb);have GG:=aa (GG.o.keep hb);clear hb;have PF:=HY.o;have yy0:(w27).cell? ⟨xx,5,none⟩=some (.pointer none):=PF.cell 5;have mm0:=PF.mark 5;have Nc:aD ((w27).setCell ⟨xx,5,none⟩ (.pointer (some ⟨vv,0,none⟩))) xx iH #[.pointer (some ⟨p,0,none⟩),.pointer (some ⟨ee,0,none⟩),.pointer (some ⟨rl,0,none⟩),.pointer (some ⟨sl,0,none⟩),.pointer (some ⟨vm,0,none⟩),.pointer (some ⟨vv,0,none⟩)]:=PF.put 5 _;obtain⟨w28,jT⟩:=ae ((w27).setCell ⟨xx,5,none⟩ (.pointer (some ⟨vv,0,none⟩)));have YZ:=aa (show aD w28 xx iH #[.pointer (some ⟨p,0,none⟩),.pointer (some ⟨ee,0,none⟩),.pointer (some ⟨rl,0,none⟩),.pointer (some ⟨sl,0,none⟩),.pointer (some ⟨vm,0,none⟩),.pointer (some ⟨vv,0,none⟩)] by rw[←jT];exact Nc);have ht:aG (· =xx) w27 w28:=by rw[←jT];exact aG.at w27 xx 5 _
  have qX:∀A l c,(#[.pointer (some ⟨p,0,none⟩),.pointer (some ⟨ee,0,none⟩),.pointer (some ⟨rl,0,none⟩),.pointer (some ⟨sl,0,none⟩),.pointer (some ⟨vm,0,none⟩),.pointer none]:Array Value)[0]?≠some (.slice A l c):=fun A l c h=>by simp at h
  have hx9:=Cf.o;have hma:=HMA.o;have ho:=Sx.o;have xL:=ht.size;have HA:=aa (ht.arr HA.o ag);have HB:=aa (aG.fresh ht HB.o (fun j hj=>Fh));have HX:=aa (ht.arr HX.o ag);have HL:=aa (ht.arr HL.o ag);have HD:=aa ((aC p _).cG HD.o ht (fun j hj c=>FF));have HV:=aa (Qc.put HV.o HY.o qX ht);have fM:=aa (fV.cG fM.o ht (fun c=>jv));have gG:=aa (fV.cG gG.o ht (fun c=>jv));have iA:=aa (fV.cG iA.o ht (fun c=>jv));have jD:=aa (B6.put jD.o HY.o qX ht);have kL:=aa (B6.put kL.o HY.o qX ht);have jC:=aa (B6.put jC.o HY.o qX ht);have pT:=aa (qz.cG pT.o ht (fun c=>jv) (fun c=>jv) (fun c=>jv));have ur:=aa ((cC _ _ _ _ _ _).cG ur.o ht (fun j hj c=>L8));have eX:=aa (En.iI eX.o ht (fun j hj c=>LX));have HE:=aa (im.ahD HE.o ht (fun c=>jv));have GG:=aa (jB.acI GG.o ht (fun c=>jv));have anF:=aa (show w27.heap.size≤w28.heap.size from xL);have HY:=YZ;clear ht qX hx9 hma ho xL YZ PF Nc;go_upto_region 41 with fail
  try rw[jT]
  clear jT yy0 mm0;obtain⟨wd,hwd⟩:=ae w28.drew;have hb:Below w28.heap.size w28 wd:=mR;have HA:=HA.jS hb;have HB:=HB.eo hb;have HX:=HX.jS hb;have HL:=HL.jS hb;have HD:=aa ((aC p _).ai HD.o hb);have HV:=aa (HV.o.keep hb);have HY:=HY.jS hb;have fM:=aa (fM.o.keep hb);have gG:=aa (gG.o.keep hb);have iA:=aa (iA.o.keep hb);have jD:=aa (jD.o.keep hb);have kL:=aa (kL.o.keep hb);have jC:=aa (jC.o.keep hb);have pT:=aa (pT.o.keep hb);have ur:=aa ((cC _ _ _ _ _ _).ai ur.o hb);have eX:=aa (lG eX.o hb);have HE:=aa (im.Ji HE.o hb);have GG:=aa (GG.o.keep hb);clear hb;refine wp_region_held_drew (S:=(fun W=>W.cell? ⟨xx,1,none⟩=some (.pointer (some ⟨ee,0,none⟩)))) aW (by rw[hwd];exact HY.o.cell 1) (fun hHeld=>?_);rw[hwd] at hHeld ⊢;clear hwd;refine nZ 0 1 2 3 4 5 6 7 ?_;refine kW 8 9 10 11 ?_;refine bF ?_;clear hHeld;have HF:=aa (show zG sh lg wide ep sq w (.returned (.tuple #[.pointer (some ⟨xx,0,none⟩),.bool true])) wd from by
   have ho:=Sx.o;have hx9:=Cf.o;have hma:=HMA.o;have hem:=HEM.o;have hz:=HB.o.size;have hsr:=HSR.o;have htr:=HTR.o;rw[show zG sh lg wide ep sq w=fun en w'=>∃P,en=.returned (.tuple #[.pointer (some ⟨P.x,0,none⟩),.bool true])∧ad4 w w' (yI a b c n m k ep sq) P from by unfold zG;rw[HEQ.o]]
   classical
   obtain⟨aA,Bv⟩:∃f:Nat→Nat,f=fun j=>if j=lq∨j=rl then 1 else if S j then 2 else if TT j then 3 else if j=ee then 5 else if j=mb then 6 else if j=sl∨j=ra∨j=rb then 7 else 0:=⟨_,rfl⟩
   have r1:∀j,(j=lq∨j=rl)→aA j=1:=fun j hj=>by rw[Bv];exact if_pos hj
   have r2:∀j,S j→aA j=2:=fun j hj=>by
    have:=hsr j hj;rw[Bv];show(if _ then _ else _)=_;rw[if_neg ag,if_pos hj]
   have nS:∀j,vm≤j→¬S j:=fun j h c=>by have:=(hsr j c).2;omega
   have r3:∀j,TT j→aA j=3:=fun j hj=>by
    have:=htr j hj;rw[Bv];show(if _ then _ else _)=_;rw[if_neg ag,if_neg (nS j ag),if_pos hj]
   have nT1:∀j,j<TK.heap.size→¬TT j:=fun j h c=>by have:=(htr j c).1;omega
   have nT2:∀j,IH.heap.size≤j→¬TT j:=fun j h c=>by have:=(htr j c).2;omega
   have r5:aA ee=5:=by rw[Bv];show(if _ then _ else _)=_;rw[if_neg ag,if_neg (nS ee ag),if_neg (nT2 ee ag),if_pos rfl]
   have r6:aA mb=6:=by rw[Bv];show(if _ then _ else _)=_;rw[if_neg ag,if_neg (nS mb ag),if_neg (nT2 mb ag),if_neg ag,if_pos rfl]
   have r7:∀j,(j=sl∨j=ra∨j=rb)→aA j=7:=fun j hj=>by rw[Bv];show(if _ then _ else _)=_;rw[if_neg ag,if_neg (nS j ag),if_neg (nT1 j ag),if_neg ag,if_neg ag,if_pos hj]
   have rn:∀j,aA j≠0→j=lq∨j=rl∨S j∨TT j∨j=ee∨j=mb∨j=sl∨j=ra∨j=rb:=fun j hj=>by
    rw[Bv] at hj;have Ei:(if j=lq∨j=rl then 1 else if S j then 2 else if TT j then 3 else if j=ee then 5 else if j=mb then 6 else if j=sl∨j=ra∨j=rb then 7 else 0)≠0:=hj;by_cases a1:j=lq∨j=rl
    ·rcases a1 with a|a;exact .inl a;exact .inr (.inl a)
    by_cases a2:S j
    ·exact .inr (.inr (.inl a2))
    by_cases a3:TT j
    ·exact .inr (.inr (.inr (.inl a3)))
    by_cases a4:j=ee
    ·exact .inr (.inr (.inr (.inr (.inl a4))))
    by_cases a5:j=mb
    ·exact .inr (.inr (.inr (.inr (.inr (.inl a5)))))
    by_cases a6:j=sl∨j=ra∨j=rb
    ·exact .inr (.inr (.inr (.inr (.inr (.inr a6)))))
    rw[if_neg a1,if_neg a2,if_neg a3,if_neg a4,if_neg a5,if_neg a6] at Ei;exact absurd rfl Ei
   have rlo:∀j,aA j≠0→xx<j:=fun j hj=>by
    rcases rn j hj with h|h|h|h|h|h|h|h|h
    ·omega
    ·omega
    ·have:=(hsr j h).1;omega
    ·have:=(htr j h).1;omega
    all_goals omega
   have rlt:∀j,aA j≠0→j<wd.heap.size:=fun j hj=>by
    have q1:=(cC _ _ _ _ _ _).lt ur.o;rcases rn j hj with h|h|h|h|h|h|h|h|h
    ·exact q1 j (.inl h)
    ·exact q1 j (.inr h)
    ·exact(aC p _).lt HD.o j h
    ·obtain⟨x,hx⟩:=eX.o;exact hx.bg.lt j h
    ·subst h;exact aD.lt HE.o
    ·subst h;exact GG.o.lt
    ·subst h;exact pT.o.own.lt
    ·subst h;exact pT.o.a.own.lt
    subst h;exact pT.o.b.own.lt
   have ahE:∀j,j<w.heap.size→aA j=0:=fun j hj=>by
    by_cases c:aA j=0
    ·exact c
    have:=rlo j c;omega
   refine⟨⟨xx,ee,vm,vv,⟨lq,rl,sl,ra,rb,p,bk,mb⟩,aA⟩,rfl,⟨HY.o,⟨⟨GG.o,?_,?_,?_,pT.o,r5,r6,⟨r7 _ (.inl rfl),r7 _ (.inr (.inl rfl)),r7 _ (.inr (.inr rfl))⟩,rlt,Dy.o.keep HB.o,HRT.o.keep HB.o,⟨ahE _ Dy.o.lt,ahE _ HRT.o.lt⟩⟩,HE.o,aO.nil _ _ _ _ _⟩,fun j hj=>by have:=rlo j hj;show w.heap.size≤j;omega,?_,hx9.1,HB.o⟩⟩
   ·exact(cC _ _ _ _ _ _).mono ur.o r1 (fun j (hj:aA j=1)=>rlt j (by rw[hj];decide))
   ·exact(aC p _).mono HD.o r2 (fun j (hj:aA j=2)=>rlt j (by rw[hj];decide))
   ·obtain⟨x,hx⟩:=eX.o;exact⟨x,hx.wide r3 (fun j (hj:aA j=3)=>rlt j (by rw[hj];decide))⟩
   show aA xx=0
   by_cases c:aA xx=0
   ·exact c
   have:=rlo xx c;omega)
  go_wp2_with fail;go_ret2;exact HF.o
end Rf
end
section
namespace Rf
open En (Es Live Cb KL uT Cx sN)
def mf(b0 x e:Nat)(cs:Array Value)(q:sM)(es:Es)(w W:World): Prop:=∃aA wt,Live b0 aA W e q wt es∧aD W x iH cs∧aA x=0∧Below w.heap.size w W∧w.heap.size≤b0∧b0≤W.heap.size
variable{b0 x e n:Nat}{cs:Array Value}{w W:World}
theorem mf.keep{q:sM}{es:Es}{W':World} (h:mf b0 x e cs q es w W)(hb:Below W.heap.size W W'): mf b0 x e cs q es w W':=by
 obtain⟨aA,wt,h1,h2,h3,h4,h5,h6⟩:=h;exact⟨aA,wt,h1.ai hb,h2.keep hb,h3,ar h4 hb,h5,bf h6 hb.size⟩
theorem mf.one{q:sM}{es:Es}(hc:cs[1]? =some (.pointer (some ⟨e,0,none⟩)))(h:mf b0 x e cs q es w W): W.cell? ⟨x,1,none⟩=some (.pointer (some ⟨e,0,none⟩)):=by
 obtain⟨_,_,_,h2,_⟩:=h;exact(h2.cell 1).trans hc
def YT(n:Nat)(R:World→Prop)(en:Ending)(w':World): Prop:=∃A c,en=.returned (.slice A n c)∧R w'
theorem mf.J1{q:sM}{es:Es}(h:mf b0 x e cs q es w W)(b:En.By)(A:Option Addr)(c:Nat)(hB:Bs W A b)(hA:rU A)(hl:b.length≤70368744177664)(Bz:(En.bI b).2=0→(En.bI b).1.sJ)(hn:(es.Io b).1.length=n):
  Calls af 12 #[.pointer (some ⟨e,0,none⟩),.slice A b.length c] W (YT n (mf b0 x e cs q (es.Io b).2 w)):=by
 obtain⟨aA,wt,h1,h2,h3,h4,h5,h6⟩:=h;refine(h1.J1 h6 b A c hB hA hl Bz).mono fun en W' ho=>?_
 obtain⟨v,G,C,z,eI,wF,rfl,hO,hz,hL,hlt,hr,ht⟩:=ho;obtain⟨A',c',hv⟩:=hO.row.any;refine⟨A',c',by rw[hv,List.length_map,hn],eI,wF,hL,ht.arr h2 (fun k=>k h3),Classical.byContradiction fun hne=>?_,En.Cb.base h1 h4 h5 ht,h5,bf h6 ht.size⟩;rcases hr x hne with k|k
 ·exact k h3
 ·have:=h2.lt;omega
theorem mf.ask{q:sM}{es:Es}(h:mf b0 x e cs q es w W){rq:Rq}(hq:rq.sJ)(A:Option Addr)(c:Nat)(hB:Bs W A (lj rq))(hA:rU A)(hn:(es.rep rq).1.length=n):
  Calls af 12 #[.pointer (some ⟨e,0,none⟩),.slice A (lj rq).length c] W (YT n (mf b0 x e cs q (es.rep rq).2 w)):=by
 have:=h.J1 (lj rq) A c hB hA (by have:=(sX (q:=rq)).2;omega) (fun _=>by rw[En.xE hq];exact hq) (n:=n) (by rw[es.Gp hq];exact hn)
 rwa [es.Gp hq] at this
theorem O8{B:Nat} {A:Option Addr}{c:Nat}{xs:List Value}{e:TypeId}{s:Nat}(h:W.ownsRow B e s (.slice A n c) n xs): rU A:=by
 rcases h.2 with⟨hv,_⟩|⟨g,cap,cur,hv,_⟩
 ·injection hv with e1;subst e1;exact eZ
 injection hv with e1;subst e1;exact dm _ _
theorem abp(w:World): Bs (w.alloc (.cells #[.int .u8 0] 5)) (some ⟨w.heap.size,0,none⟩) [0]:=by
 refine eC.bs ⟨_,aD.fresh w _ _,fun j u hu=>?_⟩;have h9:(#[Value.int .u8 0]:Array Value)[j]? =(aN [0])[j]?:=by simp[aN,Oc.fJ]
 rw[h9];exact hu
theorem Nt:¬(En.bI [0]).2=0:=aM
theorem abw: (Dr.Io [0]).1.length=1:=by unfold Es.Io;rw[if_neg Nt];rfl
theorem abv: (Dr.Io [0]).2=Dr:=by unfold Es.Io;rw[if_neg Nt]
theorem Yh(w:World)(JN:cn w)(hrt:gh w): Calls af 7 #[] w fun e w'=>e=.returned (.bool true)∧Below w.heap.size w w':=by
 have Dy:=aa JN;have HRT:=aa hrt;clear JN hrt;go_enter Tryz.func7,Tryz.ntmps7;go_wp2_with fail;refine(Vv w).mono ?_;rintro e w1 ⟨rfl,hb1⟩;have bu:=aa hb1;have akF:=aa (Dy.o.keep hb1);have akf:=aa (HRT.o.keep hb1);clear hb1;go_wp2_with fail;refine(D8 110 4 false 1 0 aM aM aM aM w1 akF.o akf.o).mono ?_;rintro e w2 ⟨P,rfl,hM⟩;have jI:=aa (show mf w1.heap.size P.x P.e _ P.q Nu w w2 from⟨P.aA,_,⟨hM.eng,abu,(fun r hr=>by cases hr),Yi,hM.news⟩,hM.own,hM.xno,ar bu.o hM.ai,bu.o.size,hM.ai.size⟩);obtain⟨cs,hcs⟩:∃cs:Array Value,cs= #[.pointer (some ⟨P.q.p,0,none⟩),.pointer (some ⟨P.e,0,none⟩),.pointer (some ⟨P.q.rl,0,none⟩),.pointer (some ⟨P.q.sl,0,none⟩),.pointer (some ⟨P.m,0,none⟩),.pointer (some ⟨P.v,0,none⟩)]:=⟨_,rfl⟩;have kZ:=aa (show cs[1]? =some (.pointer (some ⟨P.e,0,none⟩))by rw[hcs];rfl);rw[←hcs] at jI;clear hcs;clear hM Dy HRT akF akf bu;go_wp2_with fail;obtain⟨wd3,hwd⟩:=ae ((w2).drew);have HD:=aa (jI.o.keep (show Below _ _ wd3 from mR));refine wp_region_held_drew (S:=(fun W=>W.cell? ⟨P.x,1,none⟩=some (.pointer (some ⟨P.e,0,none⟩)))) aW (by rw[hwd];exact mf.one kZ.o HD.o) (fun hHeld=>?_);rw[hwd] at hHeld ⊢;clear hwd;refine kW 0 1 2 3 ?_;refine ty 4 ?_;refine cD 5 fun K hK=>?_
 go_simp;refine(KP Yj PM wd3).mono ?_;rintro e wb3 ⟨A,c,rfl,ho,hb⟩;have HB:=aa (HD.o.keep hb);have HOB:=aa ho;clear ho hb;go_wp2_with fail;refine bW hK (by exact mf.one kZ.o HB.o) fun jA=>?_
 clear hK K;refine cD 6 fun K hK=>?_
 go_simp;refine(mf.ask HB.o PM.may A c (Bs.own HOB.o) (O8 HOB.o) agA).mono ?_;rintro e w3 ⟨A2,c2,rfl,hq⟩;have jE:=aa hq;clear hq HOB HB HD;go_wp2_with fail;refine bW hK (by exact mf.one kZ.o jE.o) fun qp=>?_
 clear hK K;refine ty 7 ?_;refine bF ?_;clear hHeld jA qp;have x1:=mf.one kZ.o jE.o;go_wp2_with fail;refine ah (show Calls af 24 #[.pointer (some ⟨P.e,0,none⟩)] w3 fun en w'=>en=.returned (.int .i64 1)∧w'=w3 from by obtain⟨aA,wt,h1,_⟩:=jE.o;have:=uT h1.dQ agy;rwa [show(Nu.rep Yj.rq).2.aK.length=1 from abt] at this) ?_;clear x1;go_wp2_with fail;obtain⟨wd4,hwd⟩:=ae ((w3).drew);have HD:=aa (jE.o.keep (show Below _ _ wd4 from mR));refine wp_region_held_drew (S:=(fun W=>W.cell? ⟨P.x,1,none⟩=some (.pointer (some ⟨P.e,0,none⟩)))) aW (by rw[hwd];exact mf.one kZ.o HD.o) (fun hHeld=>?_);rw[hwd] at hHeld ⊢;clear hwd;refine kW 0 1 2 3 ?_;refine ty 4 ?_;refine cD 5 fun K hK=>?_
 go_simp;refine(KP aby PL wd4).mono ?_;rintro e wb4 ⟨A,c,rfl,ho,hb⟩;have HB:=aa (HD.o.keep hb);have HOB:=aa ho;clear ho hb;go_wp2_with fail;refine bW hK (by exact mf.one kZ.o HB.o) fun jA=>?_
 clear hK K;refine cD 6 fun K hK=>?_
 go_simp;refine(mf.ask HB.o PL.may A c (Bs.own HOB.o) (O8 HOB.o) agz).mono ?_;rintro e w4 ⟨A2,c2,rfl,hq⟩;have tQ:=aa hq;clear hq HOB HB HD;go_wp2_with fail;refine bW hK (by exact mf.one kZ.o tQ.o) fun qp=>?_
 clear hK K;refine ty 7 ?_;refine bF ?_;clear hHeld jA qp;have tQ:=aa (show mf w1.heap.size P.x P.e cs P.q Dr w w4 from tQ.o);have x1:=mf.one kZ.o tQ.o;obtain⟨w5,jK⟩:=ae (w4.alloc (.cells #[.int .u8 0] 5));obtain⟨g5,cJ⟩:=ae w4.heap.size;have Zh:=aa (tQ.o.keep (show Below w4.heap.size w4 w5 by rw[←jK];exact aw (aq _ _) _));have Lj:=aa (show Bs w5 (some ⟨g5,0,none⟩) [0] from by rw[←jK,←cJ];exact abp w4);go_wp2_with fail;refine(show Calls af 12 #[.pointer (some ⟨P.e,0,none⟩),.slice (some ⟨g5,0,none⟩) 1 1] w5 (YT 1 (mf w1.heap.size P.x P.e cs P.q Dr w))from by have:=mf.J1 Zh.o [0] (some ⟨g5,0,none⟩) 1 Lj.o (dm _ _) aM (fun h=>absurd h Nt) abw;rwa [abv] at this).mono ?_;rintro en w6 ⟨A3,c3,rfl,hq⟩;have Lb:=aa hq;have x1:=mf.one kZ.o hq;clear hq tQ Zh Lj jK cJ;go_wp2_with fail;refine ah (show Calls af 25 #[.pointer (some ⟨P.e,0,none⟩)] w6 fun en w'=>en=.returned (.int .u64 2)∧w'=w6 from by obtain⟨aA,wt,h1,_⟩:=Lb.o;have:=Cx h1.dQ Gu;rwa [agC] at this) ?_;go_wp2_with fail;refine ah (show Calls af 24 #[.pointer (some ⟨P.e,0,none⟩)] w6 fun en w'=>en=.returned (.int .i64 0)∧w'=w6 from by obtain⟨aA,wt,h1,_⟩:=Lb.o;have:=uT h1.dQ Gu;rwa [abr] at this) ?_;go_wp2_with fail;refine ah (show Calls af 23 #[.pointer (some ⟨P.e,0,none⟩)] w6 fun en w'=>en=.returned (.bool true)∧w'=w6 from by obtain⟨aA,wt,h1,_⟩:=Lb.o;have:=sH h1.dQ.own;rwa [Gu] at this) ?_;go_wp2_with fail;refine(show Calls af 14 #[.pointer (some ⟨P.e,0,none⟩)] w6 (KL Dr.bk w6)from by obtain⟨aA,wt,h1,_⟩:=Lb.o;exact sN h1.dQ Gu h1.inv.bk).mono ?_;rintro en w7 ⟨b,S,rfl,cK,hS,pc⟩;have HLN:=aa (show Calls af 41 #[.pointer (some ⟨b,0,none⟩)] w7 fun en w'=>en=.returned (.int .i64 2)∧w'=w7 from by obtain⟨y,hy⟩:=cK;have:=Bk.uX hy.bg;rwa [agB] at this);have HF:=aa (show Below w.heap.size w w7 from by obtain⟨_,_,_,_,_,h4,_⟩:=Lb.o;exact ar h4 pc);clear cK hS pc x1 Lb;go_wp2_with fail;refine ah HLN.o ?_;go_wp2_with fail;go_ret;exact⟨rfl,HF.o⟩
