import Derived.Test.YtemighjbfanenaaGreatDoorPk23
set_option linter.all false
set_option maxRecDepth 100000
set_option maxHeartbeats 16000000
namespace Go.Proofs.YtemighjbfanenaaGreatDoor
open List renaming getElem?_toArray→GZ,getElem?_cons_zero→Ow,getElem?_cons_succ→ZY
open RowKit
open Oc (Bs gj fJ aN bn le rU eZ dm val)
open Cr (cn iy)
open Go.Instr renaming index→j9
open Go.Value renaming oneCell'→eA
open List renaming getElem?_eq_some_iff→nY
open Nat renaming le_trans→bf,zero_le→cu
open RowKit.Below renaming refl→aq
open Tryz renaming prog→af,results299→na,underlying129→cm
theorem adD{p:Prop}(h:p:=by
 have pN:(er != 0)=true:=wW;have HQ:=aa (show(eb,bb,db)=(er,(none:Option By),D')from Uf);have jV:=aa oU;clear oU Y' Sp;go_wp2_with (first|(refine aj rfl 129 _ _ rfl rr 129 _ #[.int .u64 0,.int .u64 0,.int .i64 0,.int .u32 0] gH.o.res rfl rfl rfl aY (cz Hd.zero) ?_;intro wz il eT hsz;have lI:=aa il;have iP:=aa eT;clear il eT hsz));refine bodyPost_ret (cW na _ iN (aI 129 lI.o _ cm rfl aY)) rfl ?_;have hR:R=⟨er,Hd.zero,[],0,D'⟩:=by
  have q0:=HQ.o;injection q0 with q1 q2
  injection q2 with q2 q3
  rw[HR.o];unfold kG;rw[HTA.o];simp only[Tm.o.1,Tm.o.2,if_true,HTB.o,q1,q2,q3,if_neg jV.o]
 rw[hR];exact(gH.o).o (R:=⟨er,Hd.zero,[],0,D'⟩) HS.o iP.o rfl (fun hne=>absurd rfl hne) (cu _)):p:=h
theorem adC{p:Prop}(h:p:=by
 have pN:(er != 0)=true:=wW;have HQ:=aa (show(ea,ba,da)=(er,(none:Option By),D')from Uf);have jV:=aa oU;clear oU Y' Sp;go_wp2_with (first|(refine aj rfl 129 _ _ rfl rr 129 _ #[.int .u64 0,.int .u64 0,.int .i64 0,.int .u32 0] gH.o.res rfl rfl rfl aY (cz Hd.zero) ?_;intro wz il eT hsz;have lI:=aa il;have iP:=aa eT;clear il eT hsz));refine bodyPost_ret (cW na _ iN (aI 129 lI.o _ cm rfl aY)) rfl ?_;have hR:R=⟨er,Hd.zero,[],0,D'⟩:=by
  have q0:=HQ.o;injection q0 with q1 q2
  injection q2 with q2 q3
  rw[HR.o];unfold kG;rw[HTA.o];simp only[q1,q2,q3,if_neg jV.o]
 rw[hR];exact(gH.o).o (R:=⟨er,Hd.zero,[],0,D'⟩) HS.o iP.o rfl (fun hne=>absurd rfl hne) (cu _)):p:=h
theorem adx{p:Prop}(h:p:=by
 have HI:=aa hI;have Tm:=aa (show(ea=0∧ba=none)∧eb=0∧bb=none from⟨q0,q1,q2⟩);clear hI q0 q1 q2;go_wp2_with (first|(refine aj rfl 129 _ _ rfl rr 129 _ #[.int .u64 0,.int .u64 0,.int .i64 0,.int .u32 0] HI.o.res rfl rfl rfl aY (cz Hd.zero) ?_;intro wz il eT hsz;have lI:=aa il;have iP:=aa eT;clear il eT hsz));refine bodyPost_ret (cW na _ iN (aI 129 lI.o _ cm rfl aY)) rfl ?_;have hR:R=⟨0,Hd.zero,[],-1,db⟩:=afc;rw[hR];exact(HI.o).o (R:=⟨0,Hd.zero,[],-1,db⟩) HS.o iP.o rfl (fun hne=>absurd rfl hne) (cu _)):p:=h
theorem ads{p:Prop}(h:p:=by
 have hT:(eb,bb,db)=((0:Int),(none:Option By),da):=by rw[←HTB.o];unfold cZ;rw[if_pos hz]
 injection hT with q1 q2
 injection q2 with q2 q3
 have HQ:=aa (show eb=0∧bb=none∧db=da from⟨q1,q2,q3⟩);clear hz q1 q2 q3;go_wp2_with fail;go_roundw
 case rel=>
  obtain⟨q1,q2,q3⟩:=HQ.o;exact .inr (.inr ⟨rfl,Tm.o,q1,q2,Uc⟩)
 case measure=>simp[intOf]):p:=h
theorem adr{p:Prop}(h:p:=by
 have hT:(ea,ba,da)=((0:Int),(none:Option By),d2):=by rw[←HTA.o];unfold cZ;rw[if_pos hz]
 injection hT with q1 q2
 injection q2 with q2 q3
 have HQ:=aa (show ea=0∧ba=none∧da=d2 from⟨q1,q2,q3⟩);clear hz q1 q2 q3;go_wp2_with fail;go_roundw
 case rel=>
  obtain⟨q1,q2,q3⟩:=HQ.o;exact .inr (.inl ⟨rfl,q1,q2,Uc⟩)
 case measure=>simp[intOf]):p:=h
theorem adn{p:Prop}(h:p:=by
 have HQ:=aa (show(eb,bb,db)=((0:Int),(none:Option By),D')from Uj);clear mA Cj;go_wp2_with fail;go_roundw
 case rel=>
  have q0:=HQ.o;injection q0 with q1 q2
  injection q2 with q2 q3
  exact .inr (.inr ⟨rfl,Tm.o,q1,q2,Va⟩)
 case measure=>simp[intOf]):p:=h
theorem adl{p:Prop}(h:p:=by
 have HQ:=aa (show(ea,ba,da)=((0:Int),(none:Option By),D')from Uj);clear mA Cj;go_wp2_with fail;go_roundw
 case rel=>
  have q0:=HQ.o;injection q0 with q1 q2
  injection q2 with q2 q3
  exact .inr (.inl ⟨rfl,q1,q2,Va⟩)
 case measure=>simp[intOf]):p:=h
theorem ac8{p:Prop}(h:p:=by
 have q0:=HQ.o;injection q0 with q1 q2
 injection q2 with q2 q3
 rw[HR.o];unfold kG;rw[HTA.o];simp only[Tm.o.1,Tm.o.2,if_true,HTB.o,q1,q2,q3];rfl):p:=h
theorem acX{p:Prop}(h:p:=by
 have q0:=HQ.o;injection q0 with q1 q2
 injection q2 with q2 q3
 rw[HR.o];unfold kG;rw[HTA.o];simp only[q1,q2,q3];rfl):p:=h
theorem acO{p:Prop}(h:p:=by
 rw[hR];exact(gH.o.ai (ay (aq _ _))).o (R:=⟨0,h2,bs,1,D'⟩) HS.o iP.o rfl (fun hne=>acB) Li.o):p:=h
theorem acN{p:Prop}(h:p:=by
 rw[hR];exact(gH.o.ai (ay (aq _ _))).o (R:=⟨0,h1,bs,0,D'⟩) HS.o iP.o rfl (fun hne=>acB) Li.o):p:=h
theorem Wx{p:Prop}(h:p:=by
 go_wp2_with fail;go_roundw
 case rel=>exact⟨1,ag,OO,OE,aw HB.o _⟩
 case measure=>simp[intOf]):p:=h
theorem Ww{p:Prop}(h:p:=by
 go_wp2_with fail;go_roundw
 case rel=>exact⟨2,ag,OO,OE,aw HB.o _⟩
 case measure=>simp[intOf]):p:=h
theorem Wv{p:Prop}(h:p:=by
 go_wp2_with fail;go_roundw
 case rel=>exact⟨3,ag,OO,OE,aw HB.o _⟩
 case measure=>simp[intOf]):p:=h
theorem Wu{p:Prop}(h:p:=by
 go_wp2_with fail;go_roundw
 case rel=>exact⟨4,ag,OO,OE,aw HB.o _⟩
 case measure=>simp[intOf]):p:=h
theorem Wp{p:Prop}(h:p:=by
 intro j v h;have hj:j<4:=(nY.1 h).1;rcases(show j=0∨j=1∨j=2∨j=3 from ag)with rfl|rfl|rfl|rfl <;>exact h):p:=h
theorem OO{p:Prop}(h:p:=by first|(rw[←HM.o];simp[mq,PK,HC.o])|(rw[←HM.o];simp[mq,PK,HC.o];done)):p:=h
theorem Am{p:Prop}(h:p:=by assumption):p:=h
theorem acB{p:Prop}(h:p:=by obtain⟨g',q1,q2,q3⟩:=eX.o hne;exact⟨g',q1,q2,q3.same rfl⟩):p:=h
theorem OE{p:Prop}(h:p:=by first|rfl|go_num):p:=h
theorem Va{p:Prop}(h:p:=by rw[q3];exact gH.o.ai (ay (aq _ _))):p:=h
theorem afc{p:Prop}(h:p:=by rw[HR.o];unfold kG;rw[HTA.o];simp only[Tm.o.1.1,Tm.o.1.2,if_true,HTB.o,Tm.o.2.1,Tm.o.2.2]):p:=h
theorem FJ{p:Prop}(h:p:=by obtain⟨g',rfl,_,wH⟩:=eX.o hn;exact wH.bs hn):p:=h
theorem Fy{p:Prop}(h:p:=by rw[beq_eq_false_iff_ne];exact mA):p:=h
theorem uz{p:Prop}(h:p:=by simp at *;omega):p:=h
theorem Fv{p:Prop}(h:p:=by rw[beq_eq_false_iff_ne];exact hz):p:=h
theorem Ul{p:Prop}(h:p:=by injection e with e;subst e;exact .inr (by omega)):p:=h
theorem Ff{p:Prop}(h:p:=by rw[Cj.o,if_pos mA]):p:=h
theorem Uj{p:Prop}(h:p:=by rw[Cj.o,if_neg mA]):p:=h
theorem Fe{p:Prop}(h:p:=by have:=vd.o;omega):p:=h
theorem Fc{p:Prop}(h:p:=by rw[Y'.o,if_pos oU]):p:=h
theorem Uf{p:Prop}(h:p:=by rw[Y'.o,if_neg oU]):p:=h
theorem Uc{p:Prop}(h:p:=by rw[q3];exact HI.o):p:=h
theorem rI{p:Prop}(h:p:=by exact m3):p:=h
theorem E5{p:Prop}(h:p:=by exact⟨o1,l1⟩):p:=h
theorem E4{p:Prop}(h:p:=by exact⟨o0,l0⟩):p:=h
section
namespace En
theorem Vo(g:Rg):∀(ps:List Piece) (d:bG) (acc:By),(H7 g d ps acc).2.2.dk=d.dk
 | [],d,acc=>rfl
 | x::ps,d,acc=>by
  rw[H7];split
  ·rw[Vo g ps];exact bG.lK _ _
  exact bG.lK _ _
theorem Rg.lK(g:Rg)(d:bG)(at_ n:Int): (g.read d at_ n).2.2.dk=d.dk:=by
 unfold Rg.read;split
 ·rfl
 exact Vo g _ _ _
theorem nH(g:Rg)(d:bG): (cX g d).2.2.dk=d.dk:=by
 unfold cX;split <;>exact Rg.lK _ _ _ _
theorem Et(g:Rg)(d:bG): (cX g d).2.1.len≤g.bytes d.dk.size:=by
 unfold cX;split
 ·simp only;split
  ·split
   ·omega
   exact cu _
  exact cu _
 exact cu _
theorem ko(s:Sl)(d:bG)(i:Nat)(h:Hd): (cZ s d i h).2.2.dk=d.dk:=by
 unfold cZ;split
 ·rfl
 split <;>exact Rg.lK _ _ _ _
theorem WC(s:Sl)(d:bG)(i j:Nat)(hi hj:Hd): (kG s d i j hi hj).dev.dk=d.dk:=by
 unfold kG;split
 ·split
  ·exact ko _ _ _ _
  split
  ·split <;>exact(ko _ _ _ _).trans (ko _ _ _ _)
  exact(ko _ _ _ _).trans (ko _ _ _ _)
 exact ko _ _ _ _
theorem Pm(s:Sl)(d:bG): (s.load d).dev.dk=d.dk:=by
 unfold Sl.load;split
 ·split
  ·split <;>exact(WC _ _ _ _ _ _).trans ((nH _ _).trans (nH _ _))
  exact(nH _ _).trans (nH _ _)
 exact nH _ _
def hds(a b:Hd): Array Value:=#[.int .u64 (a.gen:Nat),.int .u64 (a.lZ:Nat),.int .i64 (a.len:Nat),.int .u32 (a.sum:Nat),.int .u64 (b.gen:Nat),.int .u64 (b.lZ:Nat),.int .i64 (b.len:Nat),.int .u32 (b.sum:Nat)]
structure tO(S:Nat→Prop)(w:World)(rr hb p:Nat)(D:bG)(a b:Hd)(W:World): Prop where
 fu:aD W hb 468 (hds a b)
 res:aD W rr 129 #[.int .u64 0,.int .u64 0,.int .i64 0,.int .u32 0]
 dev:dI p D S W
 cG:aG S w W
 rz:w.heap.size≤rr∧w.heap.size≤hb∧rr≠hb
variable{S:Nat→Prop}{w W W':World}{rr hb p:Nat}
theorem tO.ai{D:bG}{a b:Hd}(h:tO S w rr hb p D a b W)(hb':Below W.heap.size W W'): tO S w rr hb p D a b W':=
 ⟨h.fu.keep hb',h.res.keep hb',(aC p D).ai h.dev hb',h.cG.ai hb',h.rz⟩
theorem tO.step{D D':bG}{a b:Hd}(h:tO S w rr hb p D a b W)(hS:∀k,S k→k<w.heap.size)(hD:dI p D' S W')(ht:aG S W W'): tO S w rr hb p D' a b W':=by
 have h1:=h.rz;exact⟨ht.arr h.fu (fun hs=>by have:=hS _ hs;omega),ht.arr h.res (fun hs=>by have:=hS _ hs;omega),hD,h.cG.trans ht,h.rz⟩
theorem tO.put{D:bG}{a b a' b':Hd}(h:tO S w rr hb p D a b W)(hS:∀k,S k→k<w.heap.size)(hA:aD W' hb 468 (hds a' b'))(hg:W.grownBy W' (some hb)): tO S w rr hb p D a' b' W':=by
 have h1:=h.rz;refine⟨hA,h.res.grown hg ag,(aC p D).same h.dev hg.size (fun k hk=>hg.block k ((aC p D).lt h.dev k hk) (fun e=>by injection e with e;subst e;have:=hS _ hk;omega)),h.cG.grown hg (fun k e=>Ul),h.rz⟩
def YU(S:Nat→Prop)(p:Nat)(R:Ld)(w:World)(e:Ending)(w':World): Prop:=
 (∃A c,e=.returned (.tuple #[.agg (od R.hd),.slice A R.body.length c,.int .i64 R.at_,.int .i64 R.err])∧(R.body≠ []→∃g,A=some ⟨g,0,none⟩∧w.heap.size≤g∧eC w' 5 g R.body)∧R.body.length≤c)∧dI p R.dev S w'∧aG S w w'
theorem tO.o{D:bG}{a b:Hd}{R:Ld}{A:Option Addr}{c:Nat}(h:tO S w rr hb p D a b W)(hS:∀k,S k→k<w.heap.size)(hg:W.grownBy W' (some rr))(hR:R.dev=D)
  (hB:R.body≠ []→∃g,A=some ⟨g,0,none⟩∧w.heap.size≤g∧eC W 5 g R.body) (hc:R.body.length≤c):YU S p R w (.returned (.tuple #[.agg (od R.hd),.slice A R.body.length c,.int .i64 R.at_,.int .i64 R.err])) W':=by
 have h1:=h.rz;subst hR;refine⟨⟨A,c,rfl,fun hne=>?_,hc⟩,(aC p R.dev).same h.dev hg.size (fun k hk=>hg.block k ((aC p R.dev).lt h.dev k hk) (fun e=>by injection e with e;subst e;have:=hS _ hk;omega)),h.cG.grown hg (fun k e=>Ul)⟩;obtain⟨g,rfl,hg2,hbl⟩:=hB hne;refine⟨g,rfl,hg2,hbl.same (hg.block g hbl.lt (fun e=>?_))⟩;injection e with e
 subst e;obtain⟨cur,hq,_⟩:=hbl;have hr:=h.res;unfold aD at hr;rw[hq] at hr;injection hr with hr
 injection hr with _ ht _
 exact absurd ht aM
theorem tO.only{D:bG}{a b:Hd}{x:Nat}(h:tO S w rr hb p D a b W)(hg:W.grownBy W' (some x))(hx:(∀k,S k→k≠x)∧rr≠x∧hb≠x∧w.heap.size≤x): tO S w rr hb p D a b W':=
 ⟨h.fu.grown hg hx.2.2.1,h.res.grown hg hx.2.1,(aC p D).same h.dev hg.size (fun k hk=>hg.block k ((aC p D).lt h.dev k hk) (fun e=>by injection e with e;exact hx.1 k hk e)),h.cG.grown hg (fun k e=>by injection e with e;subst e;exact .inr hx.2.2.2),h.rz⟩
theorem rG: (af.info? 470).map (·.size)=some 2:=aW
theorem Ep(a b:Hd):∀j v,(od a).toList[j]? =some v→(hds a b)[0+j]? =some v:=by
 exact Wp
theorem Eo(a b:Hd):∀j v,(od b).toList[j]? =some v→(hds a b)[4+j]? =some v:=by
 exact Wp
theorem RB(x y:Nat)(W:World): (j9 91 (.agg #[.pointer (some ⟨x,0,none⟩),.pointer (some ⟨y,0,none⟩)]) (.int .i64 0)).run af W=.ok (.agg #[.pointer (some ⟨x,0,none⟩)]) W:=aW
theorem RA(x y:Nat)(W:World): (j9 91 (.agg #[.pointer (some ⟨x,0,none⟩),.pointer (some ⟨y,0,none⟩)]) (.int .i64 1)).run af W=.ok (.agg #[.pointer (some ⟨y,0,none⟩)]) W:=aW
theorem Jq(x y:Int)(W:World): (j9 470 (.agg #[.int .i64 x,.int .i64 y]) (.int .i64 0)).run af W=.ok (.int .i64 x) W:=aW
theorem Jp(x y:Int)(W:World): (j9 470 (.agg #[.int .i64 x,.int .i64 y]) (.int .i64 1)).run af W=.ok (.int .i64 y) W:=aW
theorem Yx{s ra rb:Nat} {sl:Sl}{d:bG}(h:qz w s ra rb p sl d.dk.size)(hD:dI p d S w)(hs:¬S s)(JC:¬S ra)(jc:¬S rb)(ht:cn w)(RI:¬S 1):
  Calls af 299 #[.pointer (some ⟨s,0,none⟩)] w (YU S p (sl.load d) w):=by
 have hS:=(aC p d).lt hD;obtain⟨rr,vq⟩:=ae w.heap.size;obtain⟨w0,hw0⟩:=ae (w.alloc (.cells #[.int .u64 0,.int .u64 0,.int .i64 0,.int .u32 0] 129));obtain⟨hb,hhb⟩:=ae w0.heap.size;obtain⟨w1,aX⟩:=ae (w0.alloc (.cells #[.int .u64 0,.int .u64 0,.int .i64 0,.int .u32 0,.int .u64 0,.int .u64 0,.int .i64 0,.int .u32 0] 468));have hb0:=aJ hw0;have y9:=aJ aX;have ha0:=aH hw0 vq;have ha1:aD w1 hb 468 (hds Hd.zero Hd.zero):=by rw[←aX,←hhb];exact aD.fresh w0 _ _
 have hr1:rr+1=hb:=by rw[←hhb,←hw0,←vq];simp only[World.alloc,Array.size_push]
 have lf:tO S w rr hb p d Hd.zero Hd.zero w1:=⟨ha1,ha0.keep y9,(aC p d).ai hD (ar hb0 y9),aG.aU (ar hb0 y9),ag,ag,ag⟩;have x0:w0.cell? ⟨s,0,none⟩=some (.pointer (some ⟨ra,0,none⟩)):=(h.own.keep hb0).cell 0;obtain⟨e1,h1,d1,hR1⟩:∃e h d',cX sl.a d=(e,h,d'):=⟨_,_,_,rfl⟩;obtain⟨e2,h2,d2,qo⟩:∃e h d',cX sl.b d1=(e,h,d'):=⟨_,_,_,rfl⟩;have vV:d1.dk=d.dk:=by have:=nH sl.a d;rw[hR1] at this;exact this
 have hk2:d2.dk=d.dk:=by have:=nH sl.b d1;rw[qo] at this;exact this.trans vV
 have pN:h1.len≤268435456:=by have:=Et sl.a d;rw[hR1] at this;exact bf this h.a.e8
 have mW:h2.len≤268435456:=by have:=Et sl.b d1;rw[qo,vV] at this;exact bf this h.b.e8
 have adP:sl.load d=if e1=0 then if e2=0 then if h1.gen<h2.gen then kG sl d2 1 0 h2 h1 else kG sl d2 0 1 h1 h2 else⟨e2,Hd.zero,[],0,d2⟩else⟨e1,Hd.zero,[],0,d1⟩:=by unfold Sl.load;rw[hR1];simp only;rw[qo]
 have HH1:=aa (show ∀H0 H1 W W',tO S w rr hb p d H0 H1 W→Below W.heap.size W W'→Calls af 334 #[.agg #[.pointer (some ⟨ra,0,none⟩)]] W' (fun e w3=>e=.returned (.tuple #[.agg (od h1),.int .i64 e1])∧tO S w rr hb p d1 H0 H1 w3)from fun H0 H1 W W' hI hB=>by
  have hI':=hI.ai hB;have HC:=Kh (g:=sl.a) (d:=d) (h.cG hI'.cG hs JC jc).a hI'.dev JC (ht.cG hI'.cG RI) RI;rw[hR1] at HC;exact HC.mono fun e w3 he=>⟨he.1,hI'.step hS he.2.1 he.2.2⟩)
 have HH2:=aa (show ∀H0 H1 W W',tO S w rr hb p d1 H0 H1 W→Below W.heap.size W W'→Calls af 334 #[.agg #[.pointer (some ⟨rb,0,none⟩)]] W' (fun e w3=>e=.returned (.tuple #[.agg (od h2),.int .i64 e2])∧tO S w rr hb p d2 H0 H1 w3)from fun H0 H1 W W' hI hB=>by
  have hI':=hI.ai hB;have HC:=Kh (g:=sl.b) (d:=d1) (by rw[vV];exact(h.cG hI'.cG hs JC jc).b) hI'.dev jc (ht.cG hI'.cG RI) RI;rw[qo] at HC;exact HC.mono fun e w3 he=>⟨he.1,hI'.step hS he.2.1 he.2.2⟩)
 have oH:=aa (show ∀(r:Nat) (g:Rg) (D:bG) (n:Nat) H0 H1 W W',(r=ra∧g=sl.a∨r=rb∧g=sl.b)→D.dk=d.dk→n≤268435456→tO S w rr hb p D H0 H1 W→Below W.heap.size W W'→Calls af 335 #[.pointer (some ⟨r,0,none⟩),.int .i64 d.dk.size,.int .i64 n] W' (fun e w3=>(∃A c,e=.returned (.tuple #[.slice A (g.read D D.dk.size n).2.1.length c,.int .i64 (g.read D D.dk.size n).1])∧((g.read D D.dk.size n).2.1≠ []→∃gg,A=some ⟨gg,0,none⟩∧w.heap.size≤gg∧eC w3 5 gg (g.read D D.dk.size n).2.1)∧(g.read D D.dk.size n).2.1.length≤c)∧tO S w rr hb p (g.read D D.dk.size n).2.2 H0 H1 w3)from fun r g D n H0 H1 W W' hr hk hn hI hB=>by
  have hI':=hI.ai hB;have hsz:=h.a.size;have hrg:fV W' r p g D.dk.size∧¬S r:=by rw[hk];rcases hr with⟨rfl,rfl⟩|⟨rfl,rfl⟩;exact⟨(h.cG hI'.cG hs JC jc).a,JC⟩;exact⟨(h.cG hI'.cG hs JC jc).b,jc⟩
  have HC:=Kq hrg.1 hI'.dev hrg.2 D.dk.size n (by rw[hk];omega) hn;rw[←hk];refine HC.mono fun e w3 he=>?_
  obtain⟨⟨A,c,h1,h2,h3⟩,h4,h5⟩:=he;exact⟨⟨A,c,h1,fun hne=>by obtain⟨gg,e1,e2,e3⟩:=h2 hne;exact⟨gg,e1,bf hI'.cG.size e2,e3⟩,h3⟩,hI'.step hS h4 h5⟩)
 have HRZ:=aa (show ∀(r:Nat) W,(r=ra∨r=rb)→aG S w W→Calls af 128 #[.pointer (some ⟨r,0,none⟩)] W (fun e w'=>e=.returned (.int .i64 d.dk.size)∧w'=W)from fun r W hr hW=>by
  rcases hr with rfl|rfl
  ·exact kJ (h.cG hW hs JC jc).a
  exact kJ (h.cG hW hs JC jc).b)
 have Sw:=aa (show ∀W,aG S w W→aD W s 93 #[.pointer (some ⟨ra,0,none⟩),.pointer (some ⟨rb,0,none⟩)] from fun W hW=>(h.cG hW hs JC jc).own);have Dy:=aa (show ∀W,aG S w W→cn W from fun W hW=>ht.cG hW RI);have HS:=aa hS;have wK:=aa lf;have HLD:=aa adP;have HK1:=aa vV;have HK2:=aa hk2;have HN1:=aa pN;have Tp:=aa mW;have Y9:=aa hw0;have sK:=aa aX;have CQ:=aa vq;have HHB:=aa hhb;obtain⟨size,hsize⟩:=ae d.dk.size;have hsz:=h.a.size;rw[hsize] at HRZ oH hsz;have mi:=aa hsz;have GA:=aa hsize;obtain⟨R,hR⟩:=ae (sl.load d);rw[hR] at HLD ⊢;have hy0:=(wK.o.cG);have y0:w1.cell? ⟨s,0,none⟩=some (.pointer (some ⟨ra,0,none⟩)):=(Sw.o w1 hy0).cell 0;have y1:w1.cell? ⟨s,1,none⟩=some (.pointer (some ⟨rb,0,none⟩)):=(Sw.o w1 hy0).cell 1;have z0:(w0.alloc (.cells #[.int .u64 0,.int .u64 0,.int .i64 0,.int .u32 0,.int .u64 0,.int .u64 0,.int .i64 0,.int .u32 0] 468)).cell? ⟨s,0,none⟩=some (.pointer (some ⟨ra,0,none⟩)):=by rw[sK.o];exact y0
 have z1:(w0.alloc (.cells #[.int .u64 0,.int .u64 0,.int .i64 0,.int .u32 0,.int .u64 0,.int .u64 0,.int .i64 0,.int .u32 0] 468)).cell? ⟨s,1,none⟩=some (.pointer (some ⟨rb,0,none⟩)):=by rw[sK.o];exact y1
 clear hR hS lf adP vV hk2 pN mW hw0 aX vq hhb hsize hsz h hD hs JC jc ht RI hb0 y9 ha0 ha1 hr1 hR1 qo hy0;go_enter Tryz.func299,Tryz.ntmps299;go_wp2_with fail;rw[Y9.o,CQ.o];refine ah (xZ s ra w0 x0) ?_;go_wp2_with fail;rw[sK.o,HHB.o];clear z0 z1;have ix0:=RB ra rb;have ix1:=RA ra rb;go_loopw [23] (fun k wr=>(k=.int .i64 0∧tO S w rr hb p d Hd.zero Hd.zero wr)∨(k=.int .i64 1∧e1=0∧tO S w rr hb p d1 h1 Hd.zero wr)∨(k=.int .i64 2∧e1=0∧e2=0∧tO S w rr hb p d2 h1 h2 wr)) (fun k _=>(2-intOf k).toNat)
 case atStart=>exact .inl ⟨rfl,wK.o⟩
 case round=>
  rcases hrel with⟨rfl,hI⟩|⟨rfl,rfl,hI⟩|⟨rfl,rfl,rfl,hI⟩
  ·have HI:=aa hI;clear hI;go_wp2_with fail;refine(HH1.o _ _ _ _ HI.o (by repeat(first|with_reducible exact aq _ _|with_reducible refine aw ?_ _|with_reducible refine ay ?_|with_reducible refine bK ?_ _|(refine eK ?_ uz _)|with_reducible refine ar ?_ Am))).mono ?_;rintro e w3 ⟨rfl,fw⟩;have gH:=aa fw;clear fw;by_cases he:e1=0
   ·subst he;go_wp2_with (first|(refine iC rfl 129 _ _ rfl hb 0 468 _ (od h1) gH.o.fu rfl rfl (by show 0+4≤8;decide) aY (cz h1) ?_;intro w5 fY cJ hs5;have pV:=aa (gH.o.put (a':=h1) (b':=Hd.zero) HS.o fY cJ);clear fY cJ hs5));go_roundw
    case rel=>exact .inr (.inl ⟨rfl,xg,pV.o⟩)
    case measure=>simp[intOf]
   have pN:(e1 != 0)=true:=by simp[he]
   have HE:=aa he;clear he;go_wp2_with (first|(refine iC rfl 129 _ _ rfl hb 0 468 _ (od h1) gH.o.fu rfl rfl (by show 0+4≤8;decide) aY (cz h1) ?_;intro w5 fY cJ hs5;have pV:=aa (gH.o.put (a':=h1) (b':=Hd.zero) HS.o fY cJ);clear fY cJ hs5)|(refine aj rfl 129 _ _ rfl rr 129 _ #[.int .u64 0,.int .u64 0,.int .i64 0,.int .u32 0] pV.o.res rfl rfl rfl aY (cz Hd.zero) ?_;intro wz il eT hsz;have lI:=aa il;have iP:=aa eT;clear il eT hsz));refine bodyPost_ret (cW na _ iN (aI 129 lI.o _ cm rfl aY)) rfl ?_;have he:=HE.o;rw[show R=⟨e1,Hd.zero,[],0,d1⟩from by rw[HLD.o];simp[he]];exact(pV.o).o (R:=⟨e1,Hd.zero,[],0,d1⟩) HS.o iP.o rfl (fun hne=>absurd rfl hne) (cu _)
  ·have HI:=aa hI;clear hI;go_wp2_with fail;refine(HH2.o _ _ _ _ HI.o (by repeat(first|with_reducible exact aq _ _|with_reducible refine aw ?_ _|with_reducible refine ay ?_|with_reducible refine bK ?_ _|(refine eK ?_ uz _)|with_reducible refine ar ?_ Am))).mono ?_;rintro e w3 ⟨rfl,fw⟩;have gH:=aa fw;clear fw;by_cases he:e2=0
   ·subst he;go_wp2_with (first|(refine iC rfl 129 _ _ rfl hb 4 468 _ (od h2) gH.o.fu rfl rfl (by show 4+4≤8;decide) aY (cz h2) ?_;intro w5 fY cJ hs5;have pV:=aa (gH.o.put (a':=h1) (b':=h2) HS.o fY cJ);clear fY cJ hs5));go_roundw
    case rel=>exact .inr (.inr ⟨rfl,xg,xg,pV.o⟩)
    case measure=>simp[intOf]
   have pN:(e2 != 0)=true:=by simp[he]
   have HE:=aa he;clear he;go_wp2_with (first|(refine iC rfl 129 _ _ rfl hb 4 468 _ (od h2) gH.o.fu rfl rfl (by show 4+4≤8;decide) aY (cz h2) ?_;intro w5 fY cJ hs5;have pV:=aa (gH.o.put (a':=h1) (b':=h2) HS.o fY cJ);clear fY cJ hs5)|(refine aj rfl 129 _ _ rfl rr 129 _ #[.int .u64 0,.int .u64 0,.int .i64 0,.int .u32 0] pV.o.res rfl rfl rfl aY (cz Hd.zero) ?_;intro wz il eT hsz;have lI:=aa il;have iP:=aa eT;clear il eT hsz));refine bodyPost_ret (cW na _ iN (aI 129 lI.o _ cm rfl aY)) rfl ?_;have he:=HE.o;rw[show R=⟨e2,Hd.zero,[],0,d2⟩from by rw[HLD.o];simp[he]];exact(pV.o).o (R:=⟨e2,Hd.zero,[],0,d2⟩) HS.o iP.o rfl (fun hne=>absurd rfl hne) (cu _)
  have HI:=aa hI;have jd:=aa (show(∀k,S k→k≠wr.heap.size)∧rr≠wr.heap.size∧hb≠wr.heap.size∧w.heap.size≤wr.heap.size from⟨fun k hk=>by have:=HS.o _ hk;have:=hI.cG.size;omega,by have:=hI.res.lt;omega,by have:=hI.fu.lt;omega,hI.cG.size⟩);clear hI;by_cases hlt:h1.gen<h2.gen
  ·have BB:((h1.gen:Nat):Int)<((h2.gen:Nat):Int):=by omega
   have HR:=aa (show R=kG sl d2 1 0 h2 h1 from by rw[HLD.o];simp[hlt]);clear HLD;go_wp2_with (first|(refine aj rfl 470 _ _ rfl wr.heap.size 470 _ #[.int .i64 0,.int .i64 1] (aD.fresh wr _ _) rfl rfl rfl rG tZ ?_;intro w5 fY cJ hs5;have Ex:tO S w rr hb p d2 h1 h2 w5:=HI.o.ai (br (aw (aq _ _) _) cJ (Nat.le_refl _));have g0:w5.cell? ⟨hb,0,none⟩=some (.int .u64 (h1.gen:Nat)):=Ex.fu.cell 0;have g4:w5.cell? ⟨hb,4,none⟩=some (.int .u64 (h2.gen:Nat)):=Ex.fu.cell 4;have o6:=aa fY;have pV:=aa Ex;clear fY cJ hs5 Ex)|(refine aj rfl 470 _ _ rfl wr.heap.size 470 _ #[.int .i64 1,.int .i64 0] o6.o rfl rfl rfl rG tZ ?_;intro w6 vt jG WZ;have JX:tO S w rr hb p d2 h1 h2 w6:=pV.o.only jG jd.o;have wA:=aa vt;have lp:=aa JX;clear vt jG WZ JX)|(refine aB rfl 470 _ rfl wr.heap.size 470 _ wA.o rfl _ Tryz.underlying470 rfl rG ?_));clear hlt BB HI jd;obtain⟨ea,ba,da,JT⟩:∃ea ba da,cZ sl d2 1 h2=(ea,ba,da):=⟨_,_,_,rfl⟩;obtain⟨eb,bb,db,hTb⟩:∃eb bb db,cZ sl da 0 h1=(eb,bb,db):=⟨_,_,_,rfl⟩;have HKA:=aa (show da.dk=d.dk from by have:=ko sl d2 1 h2;rw[JT] at this;exact this.trans HK2.o);have HTA:=aa JT;have HTB:=aa hTb;clear JT hTb;have jx0:=Jq 1 0;have jx1:=Jp 1 0;go_loopw [49] (fun k wr=>(k=.int .i64 0∧tO S w rr hb p d2 h1 h2 wr)∨(k=.int .i64 1∧ea=0∧ba=none∧tO S w rr hb p da h1 h2 wr)∨(k=.int .i64 2∧(ea=0∧ba=none)∧eb=0∧bb=none∧tO S w rr hb p db h1 h2 wr)) (fun k _=>(2-intOf k).toNat)
   case atStart=>exact .inl ⟨rfl,lp.o⟩
   case round=>
    rcases hrel with⟨rfl,hI⟩|⟨rfl,q1,q2,hI⟩|⟨rfl,q0,q1,q2,hI⟩
    ·have HI:=aa hI;have o1:wr.cell? ⟨s,1,none⟩=some (.pointer (some ⟨rb,0,none⟩)):=(Sw.o wr hI.cG).cell 1;have g1:wr.cell? ⟨hb,4,none⟩=some (.int .u64 (h2.gen:Nat)):=hI.fu.cell 4;have l1:wr.cell? ⟨hb,6,none⟩=some (.int .i64 (h2.len:Nat)):=hI.fu.cell 6;clear hI;by_cases hz:h2.gen=0
     ·rw[hz] at g1;exact adr
     have hz1:((h2.gen:Nat)==0)=false:=Fv;have hz2:(((h2.gen:Nat):Int)==0)=false:=mK;obtain⟨er,bs,D',CJ⟩:∃er bs D',sl.b.read d2 d2.dk.size h2.len=(er,bs,D'):=⟨_,_,_,rfl⟩;have XG:(ea,ba,da)=(if er=0 then((0:Int),(if iy 0 bs=h2.sum then some bs else none),D')else(er,none,D')):=by rw[←HTA.o];unfold cZ;rw[if_neg hz];rw[show(sl.one 1)=sl.b from rfl,CJ]
     have hbl:bs.length≤268435456:=by
      have h0:=sl.b.rT d2 d2.dk.size h2.len (by rw[HK2.o,GA.o];exact mi.o.1);rw[CJ] at h0;exact bf h0 Tp.o
     have Sp:=aa CJ;have Y':=aa XG;have vd:=aa hbl;clear hz CJ XG hbl;go_wp2_with fail;refine wp_region_held_drew (S:=(fun w'=>w'.cell? ⟨s,1,none⟩=some (.pointer (some ⟨rb,0,none⟩))∧w'.cell? ⟨hb,6,none⟩=some (.int .i64 (h2.len:Nat)))) aW E5 (fun hHeld=>?_);refine cS 0 (some 58) hHeld ?_;refine cS 1 (some 59) hHeld ?_;refine cS 2 (some 60) hHeld ?_;refine cS 3 (some 61) hHeld ?_;refine cS 4 (some 62) hHeld ?_;refine cS 5 (some 63) hHeld ?_;refine cS 6 (some 64) hHeld ?_;refine cS 7 (some 65) hHeld ?_;refine cS 8 (some 66) hHeld ?_;refine cS 9 (some 67) hHeld ?_;refine cS 10 (some 68) hHeld ?_;refine cS 11 (some 69) hHeld ?_;refine cS 12 (some 70) hHeld ?_;refine cS 13 (some 71) hHeld ?_;refine cS 15 (some 73) hHeld ?_;refine cS 16 (some 74) hHeld ?_;refine cS 17 (some 75) hHeld ?_;refine ty 18 ?_;refine cD 14 fun K hK=>?_
     go_simp;refine ah (HRZ.o rb wr.drew (.inr rfl) (HI.o.cG.ai (ay (aq _ _)))) ?_;go_wp2_with fail;refine bW hK E5 fun lN=>?_
     clear hK K;try simp only[aQ]
     refine cD 19 fun K hK=>?_
     go_simp;refine(oH.o rb sl.b d2 h2.len h1 h2 wr wr.drew (.inr ⟨rfl,rfl⟩) HK2.o Tp.o HI.o (ay (aq _ _))).mono ?_;rw[Sp.o];rintro e w3 ⟨⟨A,c,rfl,cK,zB⟩,fw⟩;have o1':w3.cell? ⟨s,1,none⟩=some (.pointer (some ⟨rb,0,none⟩)):=(Sw.o w3 fw.cG).cell 1;have l1':w3.cell? ⟨hb,6,none⟩=some (.int .i64 (h2.len:Nat)):=fw.fu.cell 6;have gH:=aa fw;have eX:=aa cK;have Li:=aa zB;clear fw cK zB;go_wp2_with fail;refine bW hK (by exact⟨o1',l1'⟩) fun eB=>?_
     clear hK K;refine cS 20 (some 57) eB ?_;refine cS 21 (some 78) eB ?_;refine cS 22 (some 79) eB ?_;refine cS 23 (some 13) eB ?_;refine ty 24 ?_;refine bF ?_;by_cases oU:er=0
     ·have Cj:=aa (show(ea,ba,da)=((0:Int),(if iy 0 bs=h2.sum then some bs else none),D')from Fc);subst oU;have m3:w3.cell? ⟨hb,7,none⟩=some (.int .u32 (h2.sum:Nat)):=gH.o.fu.cell 7;clear Y' Sp;go_wp2_with fail;refine sY (S:=(fun w'=>w'.cell? ⟨hb,7,none⟩=some (.int .u32 (h2.sum:Nat)))) rI fun hHeld=>?_
      refine cS 0 (some 84) hHeld ?_;refine cS 2 (some 86) hHeld ?_;refine cS 3 (some 87) hHeld ?_;refine cS 4 (some 88) hHeld ?_;refine ty 5 ?_;refine cD 1 fun K hK=>?_
      go_simp;refine ah (Cr.qy bs A c w3.drew (fun hn=>FJ) (Dy.o w3.drew (gH.o.cG.ai (ay (aq _ _)))) Fe) ?_;go_wp2_with fail;refine bW hK rI fun uM=>?_
      clear hK K;refine ty 6 ?_;refine bF ?_;by_cases mA:iy 0 bs=h2.sum
      ·have k8:((iy 0 bs:Nat)==(h2.sum:Nat))=true:=by simp[mA]
       have Dj:(((iy 0 bs:Nat):Int)==((h2.sum:Nat):Int))=true:=wR;have HQ:=aa (show(ea,ba,da)=((0:Int),some bs,D')from Ff);clear mA Cj;go_wp2_with (first|(refine je rfl 129 _ rfl hb 4 468 _ (od h2).toList gH.o.fu rfl (Eo h1 h2) _ cm rfl aY ?_)|(refine aj rfl 129 _ _ rfl rr 129 _ (od h2) gH.o.res rfl rfl rfl aY (cz h2) ?_;intro wz il eT hsz;have lI:=aa il;have iP:=aa eT;clear il eT hsz));refine bodyPost_ret (cW na _ iN (aI 129 lI.o _ cm rfl aY)) rfl ?_;have hR:R=⟨0,h2,bs,1,D'⟩:=by
        exact acX
       exact acO
      have k8:((iy 0 bs:Nat)==(h2.sum:Nat))=false:=Fy;have Dj:(((iy 0 bs:Nat):Int)==((h2.sum:Nat):Int))=false:=mK;exact adl
     exact adC
    ·have Tm:=aa (show ea=0∧ba=none from⟨q1,q2⟩);clear q1 q2;have HI:=aa hI;have o0:wr.cell? ⟨s,0,none⟩=some (.pointer (some ⟨ra,0,none⟩)):=(Sw.o wr hI.cG).cell 0;have g0:wr.cell? ⟨hb,0,none⟩=some (.int .u64 (h1.gen:Nat)):=hI.fu.cell 0;have l0:wr.cell? ⟨hb,2,none⟩=some (.int .i64 (h1.len:Nat)):=hI.fu.cell 2;clear hI;by_cases hz:h1.gen=0
     ·rw[hz] at g0;exact ads
     have hz1:((h1.gen:Nat)==0)=false:=Fv;have hz2:(((h1.gen:Nat):Int)==0)=false:=mK;obtain⟨er,bs,D',CJ⟩:∃er bs D',sl.a.read da da.dk.size h1.len=(er,bs,D'):=⟨_,_,_,rfl⟩;have XG:(eb,bb,db)=(if er=0 then((0:Int),(if iy 0 bs=h1.sum then some bs else none),D')else(er,none,D')):=by rw[←HTB.o];unfold cZ;rw[if_neg hz];rw[show(sl.one 0)=sl.a from rfl,CJ]
     have hbl:bs.length≤268435456:=by
      have h0:=sl.a.rT da da.dk.size h1.len (by rw[HKA.o,GA.o];exact mi.o.1);rw[CJ] at h0;exact bf h0 HN1.o
     have Sp:=aa CJ;have Y':=aa XG;have vd:=aa hbl;clear hz CJ XG hbl;go_wp2_with fail;refine wp_region_held_drew (S:=(fun w'=>w'.cell? ⟨s,0,none⟩=some (.pointer (some ⟨ra,0,none⟩))∧w'.cell? ⟨hb,2,none⟩=some (.int .i64 (h1.len:Nat)))) aW E4 (fun hHeld=>?_);refine cS 0 (some 58) hHeld ?_;refine cS 1 (some 59) hHeld ?_;refine cS 2 (some 60) hHeld ?_;refine cS 3 (some 61) hHeld ?_;refine cS 4 (some 62) hHeld ?_;refine cS 5 (some 63) hHeld ?_;refine cS 6 (some 64) hHeld ?_;refine cS 7 (some 65) hHeld ?_;refine cS 8 (some 66) hHeld ?_;refine cS 9 (some 67) hHeld ?_;refine cS 10 (some 68) hHeld ?_;refine cS 11 (some 69) hHeld ?_;refine cS 12 (some 70) hHeld ?_;refine cS 13 (some 71) hHeld ?_;refine cS 15 (some 73) hHeld ?_;refine cS 16 (some 74) hHeld ?_;refine cS 17 (some 75) hHeld ?_;refine ty 18 ?_;refine cD 14 fun K hK=>?_
     go_simp;refine ah (HRZ.o ra wr.drew (.inl rfl) (HI.o.cG.ai (ay (aq _ _)))) ?_;go_wp2_with fail;refine bW hK E4 fun lN=>?_
     clear hK K;try simp only[aQ]
     refine cD 19 fun K hK=>?_
     go_simp;refine(oH.o ra sl.a da h1.len h1 h2 wr wr.drew (.inl ⟨rfl,rfl⟩) HKA.o HN1.o HI.o (ay (aq _ _))).mono ?_;rw[Sp.o];rintro e w3 ⟨⟨A,c,rfl,cK,zB⟩,fw⟩;have o0':w3.cell? ⟨s,0,none⟩=some (.pointer (some ⟨ra,0,none⟩)):=(Sw.o w3 fw.cG).cell 0;have l0':w3.cell? ⟨hb,2,none⟩=some (.int .i64 (h1.len:Nat)):=fw.fu.cell 2;have gH:=aa fw;have eX:=aa cK;have Li:=aa zB;clear fw cK zB;go_wp2_with fail;refine bW hK (by exact⟨o0',l0'⟩) fun eB=>?_
     clear hK K;refine cS 20 (some 57) eB ?_;refine cS 21 (some 78) eB ?_;refine cS 22 (some 79) eB ?_;refine cS 23 (some 13) eB ?_;refine ty 24 ?_;refine bF ?_;by_cases oU:er=0
     ·have Cj:=aa (show(eb,bb,db)=((0:Int),(if iy 0 bs=h1.sum then some bs else none),D')from Fc);subst oU;have m3:w3.cell? ⟨hb,3,none⟩=some (.int .u32 (h1.sum:Nat)):=gH.o.fu.cell 3;clear Y' Sp;go_wp2_with fail;refine sY (S:=(fun w'=>w'.cell? ⟨hb,3,none⟩=some (.int .u32 (h1.sum:Nat)))) rI fun hHeld=>?_
      refine cS 0 (some 84) hHeld ?_;refine cS 2 (some 86) hHeld ?_;refine cS 3 (some 87) hHeld ?_;refine cS 4 (some 88) hHeld ?_;refine ty 5 ?_;refine cD 1 fun K hK=>?_
      go_simp;refine ah (Cr.qy bs A c w3.drew (fun hn=>FJ) (Dy.o w3.drew (gH.o.cG.ai (ay (aq _ _)))) Fe) ?_;go_wp2_with fail;refine bW hK rI fun uM=>?_
      clear hK K;refine ty 6 ?_;refine bF ?_;by_cases mA:iy 0 bs=h1.sum
      ·have k8:((iy 0 bs:Nat)==(h1.sum:Nat))=true:=by simp[mA]
       have Dj:(((iy 0 bs:Nat):Int)==((h1.sum:Nat):Int))=true:=wR;have HQ:=aa (show(eb,bb,db)=((0:Int),some bs,D')from Ff);clear mA Cj;go_wp2_with (first|(refine je rfl 129 _ rfl hb 0 468 _ (od h1).toList gH.o.fu rfl (Ep h1 h2) _ cm rfl aY ?_)|(refine aj rfl 129 _ _ rfl rr 129 _ (od h1) gH.o.res rfl rfl rfl aY (cz h1) ?_;intro wz il eT hsz;have lI:=aa il;have iP:=aa eT;clear il eT hsz));refine bodyPost_ret (cW na _ iN (aI 129 lI.o _ cm rfl aY)) rfl ?_;have hR:R=⟨0,h1,bs,0,D'⟩:=by
        exact ac8
       exact acN
      have k8:((iy 0 bs:Nat)==(h1.sum:Nat))=false:=Fy;have Dj:(((iy 0 bs:Nat):Int)==((h1.sum:Nat):Int))=false:=mK;exact adn
     exact adD
    exact adx
  have BB:¬((h1.gen:Nat):Int)<((h2.gen:Nat):Int):=ag;have HR:=aa (show R=kG sl d2 0 1 h1 h2 from by rw[HLD.o];simp[hlt]);clear HLD;go_wp2_with (first|(refine aj rfl 470 _ _ rfl wr.heap.size 470 _ #[.int .i64 0,.int .i64 1] (aD.fresh wr _ _) rfl rfl rfl rG tZ ?_;intro w5 fY cJ hs5;have Ex:tO S w rr hb p d2 h1 h2 w5:=HI.o.ai (br (aw (aq _ _) _) cJ (Nat.le_refl _));have g0:w5.cell? ⟨hb,0,none⟩=some (.int .u64 (h1.gen:Nat)):=Ex.fu.cell 0;have g4:w5.cell? ⟨hb,4,none⟩=some (.int .u64 (h2.gen:Nat)):=Ex.fu.cell 4;have o6:=aa fY;have lp:=aa Ex;clear fY cJ hs5 Ex)|(refine aB rfl 470 _ rfl wr.heap.size 470 _ o6.o rfl _ Tryz.underlying470 rfl rG ?_));clear hlt BB HI jd;obtain⟨ea,ba,da,JT⟩:∃ea ba da,cZ sl d2 0 h1=(ea,ba,da):=⟨_,_,_,rfl⟩;obtain⟨eb,bb,db,hTb⟩:∃eb bb db,cZ sl da 1 h2=(eb,bb,db):=⟨_,_,_,rfl⟩;have HKA:=aa (show da.dk=d.dk from by have:=ko sl d2 0 h1;rw[JT] at this;exact this.trans HK2.o);have HTA:=aa JT;have HTB:=aa hTb;clear JT hTb;have jx0:=Jq 0 1;have jx1:=Jp 0 1;go_loopw [49] (fun k wr=>(k=.int .i64 0∧tO S w rr hb p d2 h1 h2 wr)∨(k=.int .i64 1∧ea=0∧ba=none∧tO S w rr hb p da h1 h2 wr)∨(k=.int .i64 2∧(ea=0∧ba=none)∧eb=0∧bb=none∧tO S w rr hb p db h1 h2 wr)) (fun k _=>(2-intOf k).toNat)
  case atStart=>exact .inl ⟨rfl,lp.o⟩
  case round=>
   rcases hrel with⟨rfl,hI⟩|⟨rfl,q1,q2,hI⟩|⟨rfl,q0,q1,q2,hI⟩
   ·have HI:=aa hI;have o0:wr.cell? ⟨s,0,none⟩=some (.pointer (some ⟨ra,0,none⟩)):=(Sw.o wr hI.cG).cell 0;have g0:wr.cell? ⟨hb,0,none⟩=some (.int .u64 (h1.gen:Nat)):=hI.fu.cell 0;have l0:wr.cell? ⟨hb,2,none⟩=some (.int .i64 (h1.len:Nat)):=hI.fu.cell 2;clear hI;by_cases hz:h1.gen=0
    ·rw[hz] at g0;exact adr
    have hz1:((h1.gen:Nat)==0)=false:=Fv;have hz2:(((h1.gen:Nat):Int)==0)=false:=mK;obtain⟨er,bs,D',CJ⟩:∃er bs D',sl.a.read d2 d2.dk.size h1.len=(er,bs,D'):=⟨_,_,_,rfl⟩;have XG:(ea,ba,da)=(if er=0 then((0:Int),(if iy 0 bs=h1.sum then some bs else none),D')else(er,none,D')):=by rw[←HTA.o];unfold cZ;rw[if_neg hz];rw[show(sl.one 0)=sl.a from rfl,CJ]
    have hbl:bs.length≤268435456:=by
     have h0:=sl.a.rT d2 d2.dk.size h1.len (by rw[HK2.o,GA.o];exact mi.o.1);rw[CJ] at h0;exact bf h0 HN1.o
    have Sp:=aa CJ;have Y':=aa XG;have vd:=aa hbl;clear hz CJ XG hbl;go_wp2_with fail;refine wp_region_held_drew (S:=(fun w'=>w'.cell? ⟨s,0,none⟩=some (.pointer (some ⟨ra,0,none⟩))∧w'.cell? ⟨hb,2,none⟩=some (.int .i64 (h1.len:Nat)))) aW E4 (fun hHeld=>?_);refine cS 0 (some 58) hHeld ?_;refine cS 1 (some 59) hHeld ?_;refine cS 2 (some 60) hHeld ?_;refine cS 3 (some 61) hHeld ?_;refine cS 4 (some 62) hHeld ?_;refine cS 5 (some 63) hHeld ?_;refine cS 6 (some 64) hHeld ?_;refine cS 7 (some 65) hHeld ?_;refine cS 8 (some 66) hHeld ?_;refine cS 9 (some 67) hHeld ?_;refine cS 10 (some 68) hHeld ?_;refine cS 11 (some 69) hHeld ?_;refine cS 12 (some 70) hHeld ?_;refine cS 13 (some 71) hHeld ?_;refine cS 15 (some 73) hHeld ?_;refine cS 16 (some 74) hHeld ?_;refine cS 17 (some 75) hHeld ?_;refine ty 18 ?_;refine cD 14 fun K hK=>?_
    go_simp;refine ah (HRZ.o ra wr.drew (.inl rfl) (HI.o.cG.ai (ay (aq _ _)))) ?_;go_wp2_with fail;refine bW hK E4 fun lN=>?_
    clear hK K;try simp only[aQ]
    refine cD 19 fun K hK=>?_
    go_simp;refine(oH.o ra sl.a d2 h1.len h1 h2 wr wr.drew (.inl ⟨rfl,rfl⟩) HK2.o HN1.o HI.o (ay (aq _ _))).mono ?_;rw[Sp.o];rintro e w3 ⟨⟨A,c,rfl,cK,zB⟩,fw⟩;have o0':w3.cell? ⟨s,0,none⟩=some (.pointer (some ⟨ra,0,none⟩)):=(Sw.o w3 fw.cG).cell 0;have l0':w3.cell? ⟨hb,2,none⟩=some (.int .i64 (h1.len:Nat)):=fw.fu.cell 2;have gH:=aa fw;have eX:=aa cK;have Li:=aa zB;clear fw cK zB;go_wp2_with fail;refine bW hK (by exact⟨o0',l0'⟩) fun eB=>?_
    clear hK K;refine cS 20 (some 57) eB ?_;refine cS 21 (some 78) eB ?_;refine cS 22 (some 79) eB ?_;refine cS 23 (some 13) eB ?_;refine ty 24 ?_;refine bF ?_;by_cases oU:er=0
    ·have Cj:=aa (show(ea,ba,da)=((0:Int),(if iy 0 bs=h1.sum then some bs else none),D')from Fc);subst oU;have m3:w3.cell? ⟨hb,3,none⟩=some (.int .u32 (h1.sum:Nat)):=gH.o.fu.cell 3;clear Y' Sp;go_wp2_with fail;refine sY (S:=(fun w'=>w'.cell? ⟨hb,3,none⟩=some (.int .u32 (h1.sum:Nat)))) rI fun hHeld=>?_
     refine cS 0 (some 84) hHeld ?_;refine cS 2 (some 86) hHeld ?_;refine cS 3 (some 87) hHeld ?_;refine cS 4 (some 88) hHeld ?_;refine ty 5 ?_;refine cD 1 fun K hK=>?_
     go_simp;refine ah (Cr.qy bs A c w3.drew (fun hn=>FJ) (Dy.o w3.drew (gH.o.cG.ai (ay (aq _ _)))) Fe) ?_;go_wp2_with fail;refine bW hK rI fun uM=>?_
     clear hK K;refine ty 6 ?_;refine bF ?_;by_cases mA:iy 0 bs=h1.sum
     ·have k8:((iy 0 bs:Nat)==(h1.sum:Nat))=true:=by simp[mA]
      have Dj:(((iy 0 bs:Nat):Int)==((h1.sum:Nat):Int))=true:=wR;have HQ:=aa (show(ea,ba,da)=((0:Int),some bs,D')from Ff);clear mA Cj;go_wp2_with (first|(refine je rfl 129 _ rfl hb 0 468 _ (od h1).toList gH.o.fu rfl (Ep h1 h2) _ cm rfl aY ?_)|(refine aj rfl 129 _ _ rfl rr 129 _ (od h1) gH.o.res rfl rfl rfl aY (cz h1) ?_;intro wz il eT hsz;have lI:=aa il;have iP:=aa eT;clear il eT hsz));refine bodyPost_ret (cW na _ iN (aI 129 lI.o _ cm rfl aY)) rfl ?_;have hR:R=⟨0,h1,bs,0,D'⟩:=by
       exact acX
      exact acN
     have k8:((iy 0 bs:Nat)==(h1.sum:Nat))=false:=Fy;have Dj:(((iy 0 bs:Nat):Int)==((h1.sum:Nat):Int))=false:=mK;exact adl
    exact adC
   ·have Tm:=aa (show ea=0∧ba=none from⟨q1,q2⟩);clear q1 q2;have HI:=aa hI;have o1:wr.cell? ⟨s,1,none⟩=some (.pointer (some ⟨rb,0,none⟩)):=(Sw.o wr hI.cG).cell 1;have g1:wr.cell? ⟨hb,4,none⟩=some (.int .u64 (h2.gen:Nat)):=hI.fu.cell 4;have l1:wr.cell? ⟨hb,6,none⟩=some (.int .i64 (h2.len:Nat)):=hI.fu.cell 6;clear hI;by_cases hz:h2.gen=0
    ·rw[hz] at g1;exact ads
    have hz1:((h2.gen:Nat)==0)=false:=Fv;have hz2:(((h2.gen:Nat):Int)==0)=false:=mK;obtain⟨er,bs,D',CJ⟩:∃er bs D',sl.b.read da da.dk.size h2.len=(er,bs,D'):=⟨_,_,_,rfl⟩;have XG:(eb,bb,db)=(if er=0 then((0:Int),(if iy 0 bs=h2.sum then some bs else none),D')else(er,none,D')):=by rw[←HTB.o];unfold cZ;rw[if_neg hz];rw[show(sl.one 1)=sl.b from rfl,CJ]
    have hbl:bs.length≤268435456:=by
     have h0:=sl.b.rT da da.dk.size h2.len (by rw[HKA.o,GA.o];exact mi.o.1);rw[CJ] at h0;exact bf h0 Tp.o
    have Sp:=aa CJ;have Y':=aa XG;have vd:=aa hbl;clear hz CJ XG hbl;go_wp2_with fail;refine wp_region_held_drew (S:=(fun w'=>w'.cell? ⟨s,1,none⟩=some (.pointer (some ⟨rb,0,none⟩))∧w'.cell? ⟨hb,6,none⟩=some (.int .i64 (h2.len:Nat)))) aW E5 (fun hHeld=>?_);refine cS 0 (some 58) hHeld ?_;refine cS 1 (some 59) hHeld ?_;refine cS 2 (some 60) hHeld ?_;refine cS 3 (some 61) hHeld ?_;refine cS 4 (some 62) hHeld ?_;refine cS 5 (some 63) hHeld ?_;refine cS 6 (some 64) hHeld ?_;refine cS 7 (some 65) hHeld ?_;refine cS 8 (some 66) hHeld ?_;refine cS 9 (some 67) hHeld ?_;refine cS 10 (some 68) hHeld ?_;refine cS 11 (some 69) hHeld ?_;refine cS 12 (some 70) hHeld ?_;refine cS 13 (some 71) hHeld ?_;refine cS 15 (some 73) hHeld ?_;refine cS 16 (some 74) hHeld ?_;refine cS 17 (some 75) hHeld ?_;refine ty 18 ?_;refine cD 14 fun K hK=>?_
    go_simp;refine ah (HRZ.o rb wr.drew (.inr rfl) (HI.o.cG.ai (ay (aq _ _)))) ?_;go_wp2_with fail;refine bW hK E5 fun lN=>?_
    clear hK K;try simp only[aQ]
    refine cD 19 fun K hK=>?_
    go_simp;refine(oH.o rb sl.b da h2.len h1 h2 wr wr.drew (.inr ⟨rfl,rfl⟩) HKA.o Tp.o HI.o (ay (aq _ _))).mono ?_;rw[Sp.o];rintro e w3 ⟨⟨A,c,rfl,cK,zB⟩,fw⟩;have o1':w3.cell? ⟨s,1,none⟩=some (.pointer (some ⟨rb,0,none⟩)):=(Sw.o w3 fw.cG).cell 1;have l1':w3.cell? ⟨hb,6,none⟩=some (.int .i64 (h2.len:Nat)):=fw.fu.cell 6;have gH:=aa fw;have eX:=aa cK;have Li:=aa zB;clear fw cK zB;go_wp2_with fail;refine bW hK (by exact⟨o1',l1'⟩) fun eB=>?_
    clear hK K;refine cS 20 (some 57) eB ?_;refine cS 21 (some 78) eB ?_;refine cS 22 (some 79) eB ?_;refine cS 23 (some 13) eB ?_;refine ty 24 ?_;refine bF ?_;by_cases oU:er=0
    ·have Cj:=aa (show(eb,bb,db)=((0:Int),(if iy 0 bs=h2.sum then some bs else none),D')from Fc);subst oU;have m3:w3.cell? ⟨hb,7,none⟩=some (.int .u32 (h2.sum:Nat)):=gH.o.fu.cell 7;clear Y' Sp;go_wp2_with fail;refine sY (S:=(fun w'=>w'.cell? ⟨hb,7,none⟩=some (.int .u32 (h2.sum:Nat)))) rI fun hHeld=>?_
     refine cS 0 (some 84) hHeld ?_;refine cS 2 (some 86) hHeld ?_;refine cS 3 (some 87) hHeld ?_;refine cS 4 (some 88) hHeld ?_;refine ty 5 ?_;refine cD 1 fun K hK=>?_
     go_simp;refine ah (Cr.qy bs A c w3.drew (fun hn=>FJ) (Dy.o w3.drew (gH.o.cG.ai (ay (aq _ _)))) Fe) ?_;go_wp2_with fail;refine bW hK rI fun uM=>?_
     clear hK K;refine ty 6 ?_;refine bF ?_;by_cases mA:iy 0 bs=h2.sum
     ·have k8:((iy 0 bs:Nat)==(h2.sum:Nat))=true:=by simp[mA]
      have Dj:(((iy 0 bs:Nat):Int)==((h2.sum:Nat):Int))=true:=wR;have HQ:=aa (show(eb,bb,db)=((0:Int),some bs,D')from Ff);clear mA Cj;go_wp2_with (first|(refine je rfl 129 _ rfl hb 4 468 _ (od h2).toList gH.o.fu rfl (Eo h1 h2) _ cm rfl aY ?_)|(refine aj rfl 129 _ _ rfl rr 129 _ (od h2) gH.o.res rfl rfl rfl aY (cz h2) ?_;intro wz il eT hsz;have lI:=aa il;have iP:=aa eT;clear il eT hsz));refine bodyPost_ret (cW na _ iN (aI 129 lI.o _ cm rfl aY)) rfl ?_;have hR:R=⟨0,h2,bs,1,D'⟩:=by
       exact ac8
      exact acO
     have k8:((iy 0 bs:Nat)==(h2.sum:Nat))=false:=Fy;have Dj:(((iy 0 bs:Nat):Int)==((h2.sum:Nat):Int))=false:=mK;exact adn
    exact adD
   exact adx
end En
end
section
namespace En
def PK(b:Bool)(n:Nat): Nat:=if b=true then n else 0
def mq(a1 a2 a3 a4:Bool): Nat→Nat
 | 0=>1
 | 1=>1+PK a1 4
 | 2=>1+PK a1 4+PK a2 2
 | 3=>1+PK a1 4+PK a2 2+PK a3 8
 | _=>1+PK a1 4+PK a2 2+PK a3 8+PK a4 8
theorem QU(a1 a2 a3 a4:Bool)(i:Nat): mq a1 a2 a3 a4 i≤23:=by
 have h:∀b n,PK b n≤n:=fun b n=>by unfold PK;split <;>omega
 have h1:=h a1 4;have h2:=h a2 2;have h3:=h a3 8;have h4:=h a4 8;unfold mq;split <;>omega
theorem ix0(a1 a2 a3 a4:Bool)(W:World): (j9 501 (.agg #[.bool a1,.int .i64 4,.bool a2,.int .i64 2,.bool a3,.int .i64 8,.bool a4,.int .i64 8]) (.int .i64 0)).run af W=.ok (.agg #[.bool a1,.int .i64 4]) W:=aW
theorem ix1(a1 a2 a3 a4:Bool)(W:World): (j9 501 (.agg #[.bool a1,.int .i64 4,.bool a2,.int .i64 2,.bool a3,.int .i64 8,.bool a4,.int .i64 8]) (.int .i64 1)).run af W=.ok (.agg #[.bool a2,.int .i64 2]) W:=aW
theorem ix2(a1 a2 a3 a4:Bool)(W:World): (j9 501 (.agg #[.bool a1,.int .i64 4,.bool a2,.int .i64 2,.bool a3,.int .i64 8,.bool a4,.int .i64 8]) (.int .i64 2)).run af W=.ok (.agg #[.bool a3,.int .i64 8]) W:=aW
theorem ix3(a1 a2 a3 a4:Bool)(W:World): (j9 501 (.agg #[.bool a1,.int .i64 4,.bool a2,.int .i64 2,.bool a3,.int .i64 8,.bool a4,.int .i64 8]) (.int .i64 3)).run af W=.ok (.agg #[.bool a4,.int .i64 8]) W:=aW
theorem QV(a1 a2 a3 a4:Bool)(w:World): Calls af 376 #[.agg #[.bool a1,.bool a2,.bool a3,.bool a4]] w fun e w'=>e=.returned (.int .i64 (mq a1 a2 a3 a4 4:Nat))∧Below w.heap.size w w':=by
 obtain⟨w1,aX⟩:=ae (w.alloc (.cells #[.bool a1,.bool a2,.bool a3,.bool a4] 266));have hb1:=aJ aX;have bh:aD w1 w.heap.size 266 #[.bool a1,.bool a2,.bool a3,.bool a4]:=by rw[←aX];exact aD.fresh w _ _
 have s0:w1.cell? ⟨w.heap.size,0,none⟩=some (.bool a1):=bh.cell 0;have s1:w1.cell? ⟨w.heap.size,1,none⟩=some (.bool a2):=bh.cell 1;have s2:w1.cell? ⟨w.heap.size,2,none⟩=some (.bool a3):=bh.cell 2;have s3:w1.cell? ⟨w.heap.size,3,none⟩=some (.bool a4):=bh.cell 3;have bu:=aa hb1;have hsz:=QU a1 a2 a3 a4;have mi:=aa hsz;clear hb1 bh hsz;go_enter Tryz.func376,Tryz.ntmps376;go_wp2_with fail;go_loopw [3,19] (fun nv iv wr=>∃i:Nat,i≤4∧nv=.int .i64 (mq a1 a2 a3 a4 i:Nat)∧iv=.int .i64 i∧Below w.heap.size w wr) (fun _ iv _=>(4-intOf iv).toNat)
 case atStart=>exact⟨0,ag,rfl,rfl,bu.o⟩
 case round=>
  obtain⟨i,hi,rfl,rfl,hb⟩:=hrel;have HB:=aa hb;clear hb s0 s1 s2 s3 bu;have hs1:=mi.o i;rcases(show i=0∨i=1∨i=2∨i=3∨i=4 from ag)with rfl|rfl|rfl|rfl|rfl
  ·have K1:=ix0 a1 a2 a3 a4;obtain⟨m,hm⟩:=ae (mq a1 a2 a3 a4 0);rw[hm] at hs1 ⊢;have HM:=aa hm;clear hm;push_cast;obtain⟨c,hc⟩:=ae a1;have HC:=aa hc;cases c
   ·rw[hc] at K1 ⊢;exact Wx
   rw[hc] at K1 ⊢;exact Wx
  ·have K1:=ix1 a1 a2 a3 a4;obtain⟨m,hm⟩:=ae (mq a1 a2 a3 a4 1);rw[hm] at hs1 ⊢;have HM:=aa hm;clear hm;push_cast;obtain⟨c,hc⟩:=ae a2;have HC:=aa hc;cases c
   ·rw[hc] at K1 ⊢;exact Ww
   rw[hc] at K1 ⊢;exact Ww
  ·have K1:=ix2 a1 a2 a3 a4;obtain⟨m,hm⟩:=ae (mq a1 a2 a3 a4 2);rw[hm] at hs1 ⊢;have HM:=aa hm;clear hm;push_cast;obtain⟨c,hc⟩:=ae a3;have HC:=aa hc;cases c
   ·rw[hc] at K1 ⊢;exact Wv
   rw[hc] at K1 ⊢;exact Wv
  ·have K1:=ix3 a1 a2 a3 a4;obtain⟨m,hm⟩:=ae (mq a1 a2 a3 a4 3);rw[hm] at hs1 ⊢;have HM:=aa hm;clear hm;push_cast;obtain⟨c,hc⟩:=ae a4;have HC:=aa hc;cases c
   ·rw[hc] at K1 ⊢;exact Wu
   rw[hc] at K1 ⊢;exact Wu
  have hq:¬((4:Nat):Int)<4:=ag;go_wp2_with fail;go_ret;exact⟨rfl,HB.o⟩
