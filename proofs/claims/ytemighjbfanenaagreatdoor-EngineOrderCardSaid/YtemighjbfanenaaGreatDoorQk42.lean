import Derived.Test.YtemighjbfanenaaGreatDoorQk41
import Derived.Test.YtemighjbfanenaaGreatDoorQk40
set_option linter.all false
set_option maxRecDepth 100000
set_option maxHeartbeats 16000000
namespace Go.Proofs.YtemighjbfanenaaGreatDoor
open RowKit
open Bk (bo cG bI dA)
open En (bJ iW dB aF p4 Ka bD rB di Es O7 Lg uR cI Live Ee kG lL zC Rg fV JQ Rp fp Rq O1 Sl qC Jz yI cN yU kZ sT)
open Eg (ia O5 jv kE jF)
open Cr (cj)
open Oc (Bs aO qV eT cM)
open Go.Obj renaming cells→Gy
open Go.Proofs.Tryz renaming underlying120→tz,underlying80→oU,prog→af
open List renaming length_replicate→kQ
open Nat renaming le_trans→aV
open RowKit.Below renaming refl→ar
theorem Vh{p:Prop}(h:p:=by
 rw[show 2*(k:Int)=((2*k:Nat):Int) from ai,show(n:Int) - ((2*k:Nat):Int)=((n - 2*k:Nat):Int) from ai];exact h9):p:=h
theorem jq{p:Prop}(h:p:=by have c':_=xx:=c;omega):p:=h
theorem Dn{p:Prop}(h:p:=by rw[h2.cell];exact Uu rfl rfl i u hi):p:=h
theorem xn{p:Prop}(h:p:=by rw[hwd];exact fX.o _ HY.o HL.o):p:=h
theorem E8{p:Prop}(h:p:=by have:=(HSR.o j hj).1;have c':j=xx:=c;omega):p:=h
theorem xj{p:Prop}(h:p:=by exact fX.o _ HY.o HL.o):p:=h
theorem Ln{p:Prop}(h:p:=by have c':j=xx:=c;rcases hj with hj|hj <;>omega):p:=h
theorem Lk{p:Prop}(h:p:=by have c':j=xx:=c;have:=HTR.o j hj;omega):p:=h
theorem EL{p:Prop}(h:p:=by have DO:j=xx:=hj;omega):p:=h
section
namespace Rf
theorem IL: (af.info? 122).map (·.size)=some 7:=bh
theorem nk: (af.info? 120).map (·.size)=some 2:=bh
variable{b m k n s x e:Nat}{cs:Array Value}{w w':World}{lg sl bk:Option Addr}{wt mp:Value}
theorem AQ{a:Nat} (ha:1≤a∧a≤12)(hb:1≤b∧b≤8)(hm:m=64∨m=128): ∃ k:Nat,tP.slot a b m=(k:Int)∧2≤k∧k≤4∧tP.Qq a b m=((2*k+1:Nat):Int):=by
 have e:min (a:Int) (b:Int)=((min a b:Nat):Int):=ai;rcases hm with rfl|rfl
 ·unfold tP.Qq tP.slot tP.image tP.up;refine⟨(1+(20+14*min (a:Int) b+64 - 1) / 64).toNat,?_,?_,?_,?_⟩ <;>omega
 unfold tP.Qq tP.slot tP.image tP.up;refine⟨(1+(20+14*min (a:Int) b+128 - 1) / 128).toNat,?_,?_,?_,?_⟩ <;>omega
theorem Uu{u v:Value}(h1:cs[k]? =some u)(h2:cs[k+1]? =some v): ∀ (j:Nat) (x:Value),[u,v][j]? =some x→cs[k+j]? =some x:=fun j x hx=>by
 match j,hx with
 | 0,hx=>injection hx with hx;subst hx;exact h1
 | 1,hx=>injection hx with hx;subst hx;exact h2
 | j+2,hx=>simp at hx
theorem aG.Fx{a:Nat} {t u:TypeId}{ds:Array Value} (h:aG w a t cs)(k:aG w b u ds)(ht:t≠u): a≠b:=by
 rintro rfl;have h1:some (Gy cs t (0,0))=some (Gy ds u (0,0)):=Eq.trans (Eq.symm h) k;injection h1 with h1
 injection h1 with _ h2
 exact ht h2
abbrev iD: TypeId:=49
theorem Yz.put(h:Yz w k n s)(hx:aG w x iD cs)(h0: ∀ A l c,cs[0]?≠some (.slice A l c))(ht:aI (· =x) w w'): Yz w' k n s:=by
 obtain⟨g,c,A,c0,h1,h2,h3⟩:=h.ex;have e1:k≠x:=aG.Fx h1 hx aM;have e2:g≠x:=by
  rintro rfl;rw[hx.cell 0] at h2;exact h0 _ _ _ h2
 exact⟨⟨g,c,A,c0,ht.arr h1 e1,(ht.cells h3 e2 0).trans h2,Nat.lt_of_lt_of_le h3 ht.size⟩,h.pos⟩
theorem Pr.put(h:Pr w m k n s)(hx:aG w x iD cs)(h0: ∀ A l c,cs[0]?≠some (.slice A l c))(ht:aI (· =x) w w'): Pr w' m k n s:=by
 obtain⟨a,b,c,h1⟩:=h.own;exact⟨⟨a,b,c,ht.arr h1 (aG.Fx h1 hx aM)⟩,h.dk.put hx h0 ht⟩
theorem BZ.put{r f c:Nat} (h:BZ w r m k n s f c)(hx:aG w x iD cs)(h0: ∀ A l c,cs[0]?≠some (.slice A l c))(ht:aI (· =x) w w'): BZ w' r m k n s f c:=
 ⟨ht.arr h.own (aG.Fx h.own hx aM),h.dv.put hx h0 ht⟩
theorem _root_.Go.Proofs.YtemighjbfanenaaGreatDoor.Eg.jv.abN{l:List (Int × Value)}(h:Eg.jv w b l)(ht:aI (· =x) w w')(hx:b≠x): Eg.jv w' b l:=fB.same h (ht.block _ (fB.lt h) hx)
theorem _root_.Go.Proofs.YtemighjbfanenaaGreatDoor.Eg.jv.aep{l:List (Int × Value)}{t:TypeId}(h:Eg.jv w b l)(k:aG w b t cs): False:=by
 obtain⟨D,⟨es,aq,hb,r⟩,hs,hf⟩:=h;have h1:some (Obj.map es aq)=some (Gy cs t (0,0)):=Eq.trans (Eq.symm hb) k;injection h1 with h1
 cases h1
theorem _root_.Go.Proofs.YtemighjbfanenaaGreatDoor.Eg.ia.IP{up:Bool}(h:ia w e up lg sl bk wt mp)(hb:Below w.heap.size w w'): ia w' e up lg sl bk wt mp:=aG.ah h hb
theorem _root_.Go.Proofs.YtemighjbfanenaaGreatDoor.Eg.ia.ags{S:Nat→Prop}{up:Bool}(h:ia w e up lg sl bk wt mp)(ht:aI S w w')(hS: ¬S e): ia w' e up lg sl bk wt mp:=ht.arr h hS
theorem lK{S:Nat→Prop}{bk:En.dI}(h:Bk.fL S w b bk)(hb:Below w.heap.size w w'): Bk.fL S w' b bk:=by obtain⟨x,hx⟩:=h;exact⟨x,hx.ak hb⟩
theorem aia{mb:Nat} {up:Bool}{l:List (Int × Value)}(hE:ia w e up lg sl bk wt mp)(hM:Eg.jv w mb l): e≠mb:=by
 rintro rfl;have hA:aG w e 68 _:=hE;exact hM.aep hA
structure MdP where
 x:Nat
 e:Nat
 m:Nat
 v:Nat
 q:rB
 aB:Nat→Nat
structure ac5(w w':World)(es:En.Es)(P:MdP): Prop where
 own:aG w' P.x iD #[.pointer (some ⟨P.q.p,0,none⟩),.pointer (some ⟨P.e,0,none⟩),.pointer (some ⟨P.q.rl,0,none⟩),.pointer (some ⟨P.q.sl,0,none⟩),.pointer (some ⟨P.m,0,none⟩),.pointer (some ⟨P.v,0,none⟩)]
 eng:bD P.aB w' P.e P.q (.slice none 0 0) es
 news: ∀ k,P.aB k≠0→w.heap.size≤k
 xno:P.aB P.x=0
 alR:w.heap.size≤P.x
 ak:Below w.heap.size w w'
def mdK(sh:Int)(m:Nat): Nat:=(tP.slot (Fh sh).1 (Fh sh).2.1 m).toNat
def mdN(sh lg:Int)(m:Nat): Nat:=2*mdK sh m+1+(lg % 8).toNat
def Qt(wide:Bool): Nat:=if wide then 128 else 64
def Fy(sh lg:Int)(wide:Bool)(ep sq:Nat): En.Es:=yI (Fh sh).1 (Fh sh).2.1 (Fh sh).2.2 (mdN sh lg (Qt wide)) (Qt wide) (mdK sh (Qt wide)) ep sq
def zE(sh lg:Int)(wide:Bool)(ep sq:Nat)(w:World)(en:Ending)(w':World): Prop:=∃ P,en= .returned (.tuple #[.pointer (some ⟨P.x,0,none⟩),.bool true])∧ac5 w w' (Fy sh lg wide ep sq) P
theorem DC(sh lg:Int)(wide:Bool)(ep sq:Nat)(uI: -9223372036854775808≤sh∧sh≤9223372036854775807)(hlg: -9223372036854775808≤lg∧lg≤9223372036854775807)(Me:ep<18446744073709551616)(hsq:sq<18446744073709551616)(w:World)(CC:cj w)(hrt:fp w):
  Calls af 8 #[.agg #[.int .i64 sh,.int .i64 lg,.bool wide,.int .u64 (ep:Int),.int .u64 (sq:Int),.int .i64 0]] w (zE sh lg wide ep sq w):=by
 obtain⟨hsa,kU,hsc⟩:=Ue sh;obtain⟨a,ha⟩:=ae ((Fh sh).1);obtain⟨b,hb⟩:=ae ((Fh sh).2.1);obtain⟨c,hc⟩:=ae ((Fh sh).2.2);have HS:=aa (fT sh uI);rw[ha,hb,hc] at HS;rw[ha] at hsa;rw[hb] at kU;rw[hc] at hsc;obtain⟨m,hm⟩:=ae (Qt wide);have VZ:m=64∨m=128:=by rw[←hm];unfold Qt;cases wide;exact .inl rfl;exact .inr rfl
 obtain⟨k,hk,hk2,hk4,VV⟩:=AQ hsa kU VZ;have p5:mdK sh m=k:=by unfold mdK;rw[ha,hb,hk];rfl
 obtain⟨j,hj⟩:=ae ((lg % 8).toNat);have hj8:lg % 8=(j:Int):=ai;obtain⟨n,hn⟩:=ae (2*k+1+j);have HEQ:=aa (show Fy sh lg wide ep sq=yI a b c n m k ep sq from by unfold Fy mdN;rw[hm,p5,ha,hb,hc,hj,hn]);have uk:=aa (show tP.Ct a b c=true by unfold tP.Ct;exact decide_eq_true ai);have hz:tP.Of m=true:=by rcases VZ with rfl|rfl <;>rfl
 have vQ:n=2*k+1+j∧j≤7:=⟨hn.symm,ai⟩;have HND:=aa (fun W=>tP.xH a b c m W uk.o hz);rw[VV] at HND;have MT:=aa (fun W=>tP.Um n m a b c W uk.o (by unfold tP.okD;rw[hz,decide_eq_true (show(1:Int)≤(n:Int) from ai),decide_eq_true (show(n:Int)≤65536 from ai),decide_eq_true (show(n:Int)*(m:Int)≤67108864 by rcases VZ with rfl|rfl <;>omega)];rfl) (by rw[VV];omega));rw[hk] at MT;have HDV:=aa (show ∀ W,Calls af 45 #[.int .i64 n,.bool wide] W (Gj n m W)from fun W=>by have:=RI n wide ai W;unfold Qt at hm;rw[hm] at this;exact this);have Zj:=aa (fun W=>Bk.O4 a b c W uk.o);have HK:=aa (show 2≤k∧k≤4∧n=2*k+1+j∧j≤7∧64≤m∧m≤128 from⟨hk2,hk4,vQ.1,vQ.2,ai,ai⟩);have HAB:=aa (show((1≤a∧a≤1024)∧(1≤b∧b≤4096)∧1≤c∧c≤64)from ai);have ali:=aa (XG a b c HAB.o);have HP8:=aa (fun W=>oO lg 8 hlg aM W);rw[hj8] at HP8;have MU:=aa (fun W=>oO 0 6 aM aM W);have HM:=aa hm;have Df:=aa CC;have HRT:=aa hrt;have HEP:=aa (show ep<18446744073709551616∧sq<18446744073709551616 from⟨Me,hsq⟩);have hnk:(2*(k:Int))+1+(j:Int)=(n:Int):=ai;clear ha hb hc hsa kU hsc hk VV uI hlg hk2 hk4 hm VZ p5 hj hj8 hn hz vQ CC hrt Me hsq;obtain⟨xa,iZ⟩:=ae w.heap.size;obtain⟨w0,hw0⟩:=ae (w.alloc (.cells #[.int .i64 sh,.int .i64 lg,.bool wide,.int .u64 (ep:Int),.int .u64 (sq:Int),.int .i64 0] 24));have Pq:=aa (aK hw0);have HX0:=aa (aJ hw0 iZ);have c0:=HX0.o.cl 0;go_enter Tryz.func8,Tryz.ntmps8;go_wp2_with fail;clear hw0 iZ c0;refine(HS.o w0).mono ?_;rintro e w1 ⟨rfl,hb1⟩;have bA:=Pq.dQ hb1;have Dd:=HX0.jC hb1;clear hb1 HS Pq HX0;obtain⟨xs,CV⟩:=ae w1.heap.size;obtain⟨w2,hw2⟩:=ae (w1.alloc (.cells #[.int .i64 0,.int .i64 0,.int .i64 0] 80));have jB:=aa (aJ hw2 CV);have cu:=aa (aK hw2);have HXS:=aa CV;go_upto_region 3 with(refine aj rfl 80 _ _ rfl xs 80 _ #[.int .i64 a,.int .i64 b,.int .i64 c] jB.o rfl rfl rfl dA AA ?_;intro w3 dE hg3 hs3;have pC:=aa dE;have RZ:=(show Below w1.heap.size w1 w3 from br cu.o hg3 (Nat.le_of_eq HXS.o));have dV:=bA.dQ RZ;have MN:=Dd.jC RZ;clear dE hg3 hs3 RZ)
 clear CV hw2 jB cu HXS Dd bA;have c2:=MN.o.cl 2;go_upto_if 39 with fail
 clear c2;go_cut [5] from 40 to 40 (fun s5 wc=>s5= .int .i64 (m:Int)∧wc=w3)
 case first=>
  have HMM:=HM.o;cases wide with
  | true=>
   have e5:(m:Int)=128:=by rw[←HMM];rfl
   go_wp2_with fail;go_meet;exact⟨by rw[e5],rfl⟩
  | false=>
   have e5:(m:Int)=64:=by rw[←HMM];rfl
   go_wp2_with fail;go_meet;exact⟨by rw[e5],rfl⟩
 case rest=>
  obtain⟨rfl,hwc⟩:=hcut;subst hwc;have HA:=pC;have HB:=dV;have HX:=MN;go_wp2_with (refine aC rfl 80 _ rfl xs 80 _ HA.o rfl _ oU rfl dA ?_);refine(HND.o _).mono ?_;rintro e w5 ⟨rfl,hb⟩;have HA:=aa (HA.o.ah hb);have HB:=HB.dQ hb;have HX:=aa (HX.o.ah hb);clear hb;have c1:=HX.o.cl 1;go_wp2_with fail;refine ag (HP8.o _) ?_;clear c1;have hwn:wrap64 (n:Int)=(n:Int):=by have:=HK.o;unfold wrap64;omega
  go_wp2_with (refine aC rfl 80 _ rfl xs 80 _ HA.o rfl _ oU rfl dA ?_);refine(MT.o _).mono ?_;rintro e w6 ⟨rfl,hb⟩;have HA:=aa (HA.o.ah hb);have HB:=HB.dQ hb;have HX:=aa (HX.o.ah hb);clear hb;obtain⟨xl,zu⟩:=ae w6.heap.size;obtain⟨w7,wE⟩:=ae (w6.alloc (.cells #[.int .i64 0,.int .i64 0,.int .i64 0,.int .i64 0,.int .i64 0,.int .i64 0,.int .i64 0] 122));have Ya:=aa (aJ wE zu);have nc:=aa (aK wE);have HXL:=aa zu;go_upto_region 8 with(refine aj rfl 122 _ _ rfl xl 122 _ #[.int .i64 m,.int .i64 0,.int .i64 k,.int .i64 k,.int .i64 k,.int .i64 (2*(k:Int)),.int .i64 ((n:Int) - 2*(k:Int))] Ya.o rfl rfl rfl IL AA ?_;intro w8 dG dD gJ;have HL:=aa dG;have ou:=aa (show Below w6.heap.size w6 w8 from br nc.o dD (Nat.le_of_eq HXL.o));clear dG dD gJ)
  have hb:=ou.o;clear zu wE Ya nc HXL;have HA:=aa (HA.o.ah hb);have HB:=HB.dQ hb;have HX:=aa (HX.o.ah hb);clear hb;have c5:=HX.o.cl 5;go_wp2_with fail;refine ag (MU.o _) ?_;clear c5;obtain⟨xx,hxx⟩:=ae w8.heap.size;obtain⟨w9,jI⟩:=ae (w8.alloc (.cells #[.pointer none,.pointer none,.pointer none,.pointer none,.pointer none,.pointer none] 49));have hb:=aK jI;have HY:=aa (show aG w9 xx iD #[.pointer none,.pointer none,.pointer none,.pointer none,.pointer none,.pointer none] by rw[←jI,←hxx];exact aG.fresh w8 _ _);have ze:=aa (show w.heap.size≤xx∧xa<xx∧xs<xx∧xl<xx from by have h1:=HB.o.size;have h2:=HX.o.lt;have h3:=HA.o.lt;have h4:=HL.o.lt;omega);have HA:=aa (HA.o.ah hb);have HB:=HB.dQ hb;have HX:=aa (HX.o.ah hb);have HL:=aa (HL.o.ah hb);clear hb;have c2:=HX.o.cl 2;go_wp2_with fail;clear jI hxx;refine(HDV.o w9).mono ?_;rintro e vg ⟨p,vm,kd,S,rfl,h1,h2,h3,h4,hb,xO⟩;have HD:=aa h1;have HSR:=aa h2;have HV:=aa h4;have HMA:=aa (show vm<vg.heap.size∧w9.heap.size≤vm∧xx<w9.heap.size from⟨h3.lt,xO,HY.o.lt⟩);have HY:=HY.jC hb;clear h1 h2 h3 h4 xO c2;have HA:=aa (HA.o.ah hb);have HB:=HB.dQ hb;have HX:=aa (HX.o.ah hb);have HL:=aa (HL.o.ah hb);clear hb;have y0:=HY.o.cl 0;have m0:=HY.o.mark 0;have Ml:aG (vg.setCell ⟨xx,0,none⟩ (.pointer (some ⟨p,0,none⟩))) xx iD #[.pointer (some ⟨p,0,none⟩),.pointer none,.pointer none,.pointer none,.pointer none,.pointer none]:=HY.o.put 0 _;have y4:(vg.setCell ⟨xx,0,none⟩ (.pointer (some ⟨p,0,none⟩))).cell? ⟨xx,4,none⟩=some (.pointer none):=Ml.cell 4;have m4:=Ml.mark 4;obtain⟨CM,QF⟩:=ae ((vg.setCell ⟨xx,0,none⟩ (.pointer (some ⟨p,0,none⟩))).setCell ⟨xx,4,none⟩ (.pointer (some ⟨vm,0,none⟩)));have XP:=aa (show aG CM xx iD #[.pointer (some ⟨p,0,none⟩),.pointer none,.pointer none,.pointer none,.pointer (some ⟨vm,0,none⟩),.pointer none] by rw[←QF];exact Ml.put 4 _);have ht:aI (· =xx) vg CM:=by rw[←QF];exact(aI.at vg xx 0 _).BQ 4 _
  have rh: ∀ A l c,(#[.pointer none,.pointer none,.pointer none,.pointer none,.pointer none,.pointer none]:Array Value)[0]?≠some (.slice A l c):=fun A l c h=>by simp at h
  have Z0:=ze.o;have hma:=HMA.o;have HA:=aa (ht.arr HA.o ai);have HX:=aa (ht.arr HX.o ai);have HL:=aa (ht.arr HL.o ai);have HD:=aa ((aF p _).cR HD.o ht (fun j hj c=>E8));have HV:=aa (HV.o.put HY.o rh ht);have HB:=aa (aI.fresh ht HB.o (fun j hj=>EL));have aiy:=aa ht.size;have HY:=XP;clear ht rh Z0 hma XP Ml;go_upto_region 17 with fail
  try rw[QF]
  clear QF y0 y4 m0 m4;have c5:=HX.o.cl 5;go_wp2_with fail;refine ag (MU.o _) ?_;clear c5;go_upto_region 23 with fail
  have fX:=aa (show ∀ W,aG W xx iD #[.pointer (some ⟨p,0,none⟩),.pointer none,.pointer none,.pointer none,.pointer (some ⟨vm,0,none⟩),.pointer none]→aG W xl 122 #[.int .i64 m,.int .i64 0,.int .i64 k,.int .i64 k,.int .i64 k,.int .i64 (2*(k:Int)),.int .i64 ((n:Int) - 2*(k:Int))]→(W.cell? ⟨xx,0,none⟩=some (.pointer (some ⟨p,0,none⟩))∧W.rangeAt xl 1 [.int .i64 0,.int .i64 k])from fun W h1 h2=>⟨h1.cell 0,fun i u hi=>Dn⟩);obtain⟨wd,hwd⟩:=ae CM.drew;have hb:Below CM.heap.size CM wd:=mU;have uH:=hb.size;have HA:=aa (HA.o.ah hb);have HB:=HB.dQ hb;have HX:=aa (HX.o.ah hb);have HL:=aa (HL.o.ah hb);have HD:=aa ((aF p _).ak HD.o hb);have HV:=aa (HV.o.ah hb);have HY:=aa (HY.o.ah hb);clear hb;refine wp_region_held_drew (S:=(fun W=>W.cell? ⟨xx,0,none⟩=some (.pointer (some ⟨p,0,none⟩))∧W.rangeAt xl 1 [.int .i64 0,.int .i64 k])) bh xn (fun hHeld=>?_);rw[hwd] at hHeld ⊢;clear hwd;refine lA 0 1 2 3 ?_;refine ty 4 ?_;refine fc 5 (some 132) hHeld 120 (.tmp 131) xl 1 [.int .i64 0,.int .i64 k] _ (fun w' h=>h.2) tz rfl nk ?_;try simp only[aZ]
  refine cJ 6 fun K hK=>?_
  go_simp;have I8:Calls af 49 #[.pointer (some ⟨p,0,none⟩),.agg #[.int .i64 0,.int .i64 k]] wd (JQ p ⟨0,k⟩ m wd):=by
   have hk9:=HK.o;have C8:(⟨Jz n m,false,-1,0⟩:bJ).dk.dh.length=n:=kQ;have h9:=zC (g:=⟨0,k⟩) HD.o (by show 1≤k;omega) (by rw[C8];show 0+(k)≤n;omega);exact h9
  refine I8.mono ?_;rintro e Sy ⟨ra,rfl,DI,hrg,hb⟩;clear I8;have fK:=aa hrg;have HQ0:=aa (show wd.heap.size≤ra∧ra<Sy.heap.size from⟨DI,hrg.own.lt⟩);have adh:=aa (show CM.heap.size≤wd.heap.size from uH);clear DI hrg;have HA:=aa (HA.o.ah hb);have HB:=HB.dQ hb;have HX:=aa (HX.o.ah hb);have HL:=aa (HL.o.ah hb);have HD:=aa ((aF p _).ak HD.o hb);have HV:=aa (HV.o.ah hb);have HY:=aa (HY.o.ah hb);clear hb;go_wp2_with fail;refine bW hK xj fun Kn=>?_
  clear hK K;refine lA 7 8 9 10 ?_;refine ty 11 ?_;refine bM ?_;clear Kn hHeld fX uH;go_upto_region 24 with fail
  have fX:=aa (show ∀ W,aG W xx iD #[.pointer (some ⟨p,0,none⟩),.pointer none,.pointer none,.pointer none,.pointer (some ⟨vm,0,none⟩),.pointer none]→aG W xl 122 #[.int .i64 m,.int .i64 0,.int .i64 k,.int .i64 k,.int .i64 k,.int .i64 (2*(k:Int)),.int .i64 ((n:Int) - 2*(k:Int))]→(W.cell? ⟨xx,0,none⟩=some (.pointer (some ⟨p,0,none⟩))∧W.rangeAt xl 3 [.int .i64 k,.int .i64 k])from fun W h1 h2=>⟨h1.cell 0,fun i u hi=>Dn⟩);obtain⟨wd,hwd⟩:=ae Sy.drew;have hb:Below Sy.heap.size Sy wd:=mU;have uH:=hb.size;have HA:=aa (HA.o.ah hb);have HB:=HB.dQ hb;have HX:=aa (HX.o.ah hb);have HL:=aa (HL.o.ah hb);have HD:=aa ((aF p _).ak HD.o hb);have HV:=aa (HV.o.ah hb);have HY:=aa (HY.o.ah hb);have fK:=aa (fK.o.ah hb);clear hb;refine wp_region_held_drew (S:=(fun W=>W.cell? ⟨xx,0,none⟩=some (.pointer (some ⟨p,0,none⟩))∧W.rangeAt xl 3 [.int .i64 k,.int .i64 k])) bh xn (fun hHeld=>?_);rw[hwd] at hHeld ⊢;clear hwd;refine lA 0 1 2 3 ?_;refine ty 4 ?_;refine fc 5 (some 142) hHeld 120 (.tmp 141) xl 3 [.int .i64 k,.int .i64 k] _ (fun w' h=>h.2) tz rfl nk ?_;try simp only[aZ]
  refine cJ 6 fun K hK=>?_
  go_simp;have I8:Calls af 49 #[.pointer (some ⟨p,0,none⟩),.agg #[.int .i64 k,.int .i64 k]] wd (JQ p ⟨k,k⟩ m wd):=by
   have hk9:=HK.o;have C8:(⟨Jz n m,false,-1,0⟩:bJ).dk.dh.length=n:=kQ;have h9:=zC (g:=⟨k,k⟩) HD.o (by show 1≤k;omega) (by rw[C8];show k+(k)≤n;omega);exact h9
  refine I8.mono ?_;rintro e Zr ⟨rb,rfl,DI,hrg,hb⟩;clear I8;have gG:=aa hrg;have vo:=aa (show wd.heap.size≤rb∧rb<Zr.heap.size from⟨DI,hrg.own.lt⟩);have adg:=aa (show Sy.heap.size≤wd.heap.size from uH);clear DI hrg;have HA:=aa (HA.o.ah hb);have HB:=HB.dQ hb;have HX:=aa (HX.o.ah hb);have HL:=aa (HL.o.ah hb);have HD:=aa ((aF p _).ak HD.o hb);have HV:=aa (HV.o.ah hb);have HY:=aa (HY.o.ah hb);have fK:=aa (fK.o.ah hb);clear hb;go_wp2_with fail;refine bW hK xj fun Kn=>?_
  clear hK K;refine lA 7 8 9 10 ?_;refine ty 11 ?_;refine bM ?_;clear Kn hHeld fX uH;go_upto_region 25 with fail
  have fX:=aa (show ∀ W,aG W xx iD #[.pointer (some ⟨p,0,none⟩),.pointer none,.pointer none,.pointer none,.pointer (some ⟨vm,0,none⟩),.pointer none]→aG W xl 122 #[.int .i64 m,.int .i64 0,.int .i64 k,.int .i64 k,.int .i64 k,.int .i64 (2*(k:Int)),.int .i64 ((n:Int) - 2*(k:Int))]→(W.cell? ⟨xx,0,none⟩=some (.pointer (some ⟨p,0,none⟩))∧W.rangeAt xl 5 [.int .i64 (2*(k:Int)),.int .i64 ((n:Int) - 2*(k:Int))])from fun W h1 h2=>⟨h1.cell 0,fun i u hi=>Dn⟩);obtain⟨wd,hwd⟩:=ae Zr.drew;have hb:Below Zr.heap.size Zr wd:=mU;have uH:=hb.size;have HA:=aa (HA.o.ah hb);have HB:=HB.dQ hb;have HX:=aa (HX.o.ah hb);have HL:=aa (HL.o.ah hb);have HD:=aa ((aF p _).ak HD.o hb);have HV:=aa (HV.o.ah hb);have HY:=aa (HY.o.ah hb);have fK:=aa (fK.o.ah hb);have gG:=aa (gG.o.ah hb);clear hb;refine wp_region_held_drew (S:=(fun W=>W.cell? ⟨xx,0,none⟩=some (.pointer (some ⟨p,0,none⟩))∧W.rangeAt xl 5 [.int .i64 (2*(k:Int)),.int .i64 ((n:Int) - 2*(k:Int))])) bh xn (fun hHeld=>?_);rw[hwd] at hHeld ⊢;clear hwd;refine lA 0 1 2 3 ?_;refine ty 4 ?_;refine fc 5 (some 152) hHeld 120 (.tmp 151) xl 5 [.int .i64 (2*(k:Int)),.int .i64 ((n:Int) - 2*(k:Int))] _ (fun w' h=>h.2) tz rfl nk ?_;try simp only[aZ]
  refine cJ 6 fun K hK=>?_
  go_simp;have I8:Calls af 49 #[.pointer (some ⟨p,0,none⟩),.agg #[.int .i64 (2*(k:Int)),.int .i64 ((n:Int) - 2*(k:Int))]] wd (JQ p ⟨2*k,n - 2*k⟩ m wd):=by
   have hk9:=HK.o;have C8:(⟨Jz n m,false,-1,0⟩:bJ).dk.dh.length=n:=kQ;have h9:=zC (g:=⟨2*k,n - 2*k⟩) HD.o (by show 1≤n - 2*k;omega) (by rw[C8];show 2*k+(n - 2*k)≤n;omega);exact Vh
  refine I8.mono ?_;rintro e w14 ⟨rl,rfl,DI,hrg,hb⟩;clear I8;have ir:=aa hrg;have rH:=aa (show wd.heap.size≤rl∧rl<w14.heap.size from⟨DI,hrg.own.lt⟩);have adf:=aa (show Zr.heap.size≤wd.heap.size from uH);clear DI hrg;have HA:=aa (HA.o.ah hb);have HB:=HB.dQ hb;have HX:=aa (HX.o.ah hb);have HL:=aa (HL.o.ah hb);have HD:=aa ((aF p _).ak HD.o hb);have HV:=aa (HV.o.ah hb);have HY:=aa (HY.o.ah hb);have fK:=aa (fK.o.ah hb);have gG:=aa (gG.o.ah hb);clear hb;go_wp2_with fail;refine bW hK xj fun Kn=>?_
  clear hK K;refine lA 7 8 9 10 ?_;refine ty 11 ?_;refine bM ?_;clear Kn hHeld fX uH;go_upto_region 26 with fail
  have fX:=aa (show ∀ W,aG W xx iD #[.pointer (some ⟨p,0,none⟩),.pointer none,.pointer none,.pointer none,.pointer (some ⟨vm,0,none⟩),.pointer none]→aG W xl 122 #[.int .i64 m,.int .i64 0,.int .i64 k,.int .i64 k,.int .i64 k,.int .i64 (2*(k:Int)),.int .i64 ((n:Int) - 2*(k:Int))]→(W.cell? ⟨xx,4,none⟩=some (.pointer (some ⟨vm,0,none⟩))∧W.rangeAt xl 1 [.int .i64 0,.int .i64 k])from fun W h1 h2=>⟨h1.cell 4,fun i u hi=>Dn⟩);obtain⟨wd,hwd⟩:=ae w14.drew;have hb:Below w14.heap.size w14 wd:=mU;have uH:=hb.size;have HA:=aa (HA.o.ah hb);have HB:=HB.dQ hb;have HX:=aa (HX.o.ah hb);have HL:=aa (HL.o.ah hb);have HD:=aa ((aF p _).ak HD.o hb);have HV:=aa (HV.o.ah hb);have HY:=aa (HY.o.ah hb);have fK:=aa (fK.o.ah hb);have gG:=aa (gG.o.ah hb);have ir:=aa (ir.o.ah hb);clear hb;refine wp_region_held_drew (S:=(fun W=>W.cell? ⟨xx,4,none⟩=some (.pointer (some ⟨vm,0,none⟩))∧W.rangeAt xl 1 [.int .i64 0,.int .i64 k])) bh xn (fun hHeld=>?_);rw[hwd] at hHeld ⊢;clear hwd;refine lA 0 1 2 3 ?_;refine ty 4 ?_;refine fc 5 (some 162) hHeld 120 (.tmp 161) xl 1 [.int .i64 0,.int .i64 k] _ (fun w' h=>h.2) tz rfl nk ?_;try simp only[aZ]
  refine cJ 6 fun K hK=>?_
  go_simp;have I8:Calls af 50 #[.pointer (some ⟨vm,0,none⟩),.agg #[.int .i64 0,.int .i64 k]] wd (fun e w'=>∃ r,e= .returned (.tuple #[.pointer (some ⟨r,0,none⟩),.int .i64 0])∧BZ w' r vm kd n m (0) (k)∧wd.heap.size≤r∧Below wd.heap.size wd w'):=by
   have hk9:=HK.o;have h9:=F3 (f:=0) (c:=k) HV.o ai ai ai;exact h9
  refine I8.mono ?_;rintro e w15 ⟨qa,rfl,hrg,DI,hb⟩;clear I8 DI;have jx:=aa hrg;have ade:=aa (show w14.heap.size≤w15.heap.size from aV uH hb.size);clear hrg;have HA:=aa (HA.o.ah hb);have HB:=HB.dQ hb;have HX:=aa (HX.o.ah hb);have HL:=aa (HL.o.ah hb);have HD:=aa ((aF p _).ak HD.o hb);have HV:=aa (HV.o.ah hb);have HY:=aa (HY.o.ah hb);have fK:=aa (fK.o.ah hb);have gG:=aa (gG.o.ah hb);have ir:=aa (ir.o.ah hb);clear hb;go_wp2_with fail;refine bW hK xj fun Kn=>?_
  clear hK K;refine lA 7 8 9 10 ?_;refine ty 11 ?_;refine bM ?_;clear Kn hHeld fX uH;go_upto_region 27 with fail
  have fX:=aa (show ∀ W,aG W xx iD #[.pointer (some ⟨p,0,none⟩),.pointer none,.pointer none,.pointer none,.pointer (some ⟨vm,0,none⟩),.pointer none]→aG W xl 122 #[.int .i64 m,.int .i64 0,.int .i64 k,.int .i64 k,.int .i64 k,.int .i64 (2*(k:Int)),.int .i64 ((n:Int) - 2*(k:Int))]→(W.cell? ⟨xx,4,none⟩=some (.pointer (some ⟨vm,0,none⟩))∧W.rangeAt xl 3 [.int .i64 k,.int .i64 k])from fun W h1 h2=>⟨h1.cell 4,fun i u hi=>Dn⟩);obtain⟨wd,hwd⟩:=ae w15.drew;have hb:Below w15.heap.size w15 wd:=mU;have uH:=hb.size;have HA:=aa (HA.o.ah hb);have HB:=HB.dQ hb;have HX:=aa (HX.o.ah hb);have HL:=aa (HL.o.ah hb);have HD:=aa ((aF p _).ak HD.o hb);have HV:=aa (HV.o.ah hb);have HY:=aa (HY.o.ah hb);have fK:=aa (fK.o.ah hb);have gG:=aa (gG.o.ah hb);have ir:=aa (ir.o.ah hb);have jx:=aa (jx.o.ah hb);clear hb;refine wp_region_held_drew (S:=(fun W=>W.cell? ⟨xx,4,none⟩=some (.pointer (some ⟨vm,0,none⟩))∧W.rangeAt xl 3 [.int .i64 k,.int .i64 k])) bh xn (fun hHeld=>?_);rw[hwd] at hHeld ⊢;clear hwd;refine lA 0 1 2 3 ?_;refine ty 4 ?_;refine fc 5 (some 172) hHeld 120 (.tmp 171) xl 3 [.int .i64 k,.int .i64 k] _ (fun w' h=>h.2) tz rfl nk ?_;try simp only[aZ]
  refine cJ 6 fun K hK=>?_
  go_simp;have I8:Calls af 50 #[.pointer (some ⟨vm,0,none⟩),.agg #[.int .i64 k,.int .i64 k]] wd (fun e w'=>∃ r,e= .returned (.tuple #[.pointer (some ⟨r,0,none⟩),.int .i64 0])∧BZ w' r vm kd n m (k) (k)∧wd.heap.size≤r∧Below wd.heap.size wd w'):=by
   have hk9:=HK.o;have h9:=F3 (f:=k) (c:=k) HV.o ai ai ai;exact h9
  refine I8.mono ?_;rintro e w16 ⟨qb,rfl,hrg,DI,hb⟩;clear I8 DI;have kI:=aa hrg;have adb:=aa (show w15.heap.size≤w16.heap.size from aV uH hb.size);clear hrg;have HA:=aa (HA.o.ah hb);have HB:=HB.dQ hb;have HX:=aa (HX.o.ah hb);have HL:=aa (HL.o.ah hb);have HD:=aa ((aF p _).ak HD.o hb);have HV:=aa (HV.o.ah hb);have HY:=aa (HY.o.ah hb);have fK:=aa (fK.o.ah hb);have gG:=aa (gG.o.ah hb);have ir:=aa (ir.o.ah hb);have jx:=aa (jx.o.ah hb);clear hb;go_wp2_with fail;refine bW hK xj fun Kn=>?_
  clear hK K;refine lA 7 8 9 10 ?_;refine ty 11 ?_;refine bM ?_;clear Kn hHeld fX uH;go_upto_region 28 with fail
  have fX:=aa (show ∀ W,aG W xx iD #[.pointer (some ⟨p,0,none⟩),.pointer none,.pointer none,.pointer none,.pointer (some ⟨vm,0,none⟩),.pointer none]→aG W xl 122 #[.int .i64 m,.int .i64 0,.int .i64 k,.int .i64 k,.int .i64 k,.int .i64 (2*(k:Int)),.int .i64 ((n:Int) - 2*(k:Int))]→(W.cell? ⟨xx,4,none⟩=some (.pointer (some ⟨vm,0,none⟩))∧W.rangeAt xl 5 [.int .i64 (2*(k:Int)),.int .i64 ((n:Int) - 2*(k:Int))])from fun W h1 h2=>⟨h1.cell 4,fun i u hi=>Dn⟩);obtain⟨wd,hwd⟩:=ae w16.drew;have hb:Below w16.heap.size w16 wd:=mU;have uH:=hb.size;have HA:=aa (HA.o.ah hb);have HB:=HB.dQ hb;have HX:=aa (HX.o.ah hb);have HL:=aa (HL.o.ah hb);have HD:=aa ((aF p _).ak HD.o hb);have HV:=aa (HV.o.ah hb);have HY:=aa (HY.o.ah hb);have fK:=aa (fK.o.ah hb);have gG:=aa (gG.o.ah hb);have ir:=aa (ir.o.ah hb);have jx:=aa (jx.o.ah hb);have kI:=aa (kI.o.ah hb);clear hb;refine wp_region_held_drew (S:=(fun W=>W.cell? ⟨xx,4,none⟩=some (.pointer (some ⟨vm,0,none⟩))∧W.rangeAt xl 5 [.int .i64 (2*(k:Int)),.int .i64 ((n:Int) - 2*(k:Int))])) bh xn (fun hHeld=>?_);rw[hwd] at hHeld ⊢;clear hwd;refine lA 0 1 2 3 ?_;refine ty 4 ?_;refine fc 5 (some 182) hHeld 120 (.tmp 181) xl 5 [.int .i64 (2*(k:Int)),.int .i64 ((n:Int) - 2*(k:Int))] _ (fun w' h=>h.2) tz rfl nk ?_;try simp only[aZ]
  refine cJ 6 fun K hK=>?_
  go_simp;have I8:Calls af 50 #[.pointer (some ⟨vm,0,none⟩),.agg #[.int .i64 (2*(k:Int)),.int .i64 ((n:Int) - 2*(k:Int))]] wd (fun e w'=>∃ r,e= .returned (.tuple #[.pointer (some ⟨r,0,none⟩),.int .i64 0])∧BZ w' r vm kd n m (2*k) (n - 2*k)∧wd.heap.size≤r∧Below wd.heap.size wd w'):=by
   have hk9:=HK.o;have h9:=F3 (f:=2*k) (c:=n - 2*k) HV.o ai ai ai;exact Vh
  refine I8.mono ?_;rintro e w17 ⟨ql,rfl,hrg,DI,hb⟩;clear I8 DI;have jw:=aa hrg;have ada:=aa (show w16.heap.size≤w17.heap.size from aV uH hb.size);clear hrg;have HA:=aa (HA.o.ah hb);have HB:=HB.dQ hb;have HX:=aa (HX.o.ah hb);have HL:=aa (HL.o.ah hb);have HD:=aa ((aF p _).ak HD.o hb);have HV:=aa (HV.o.ah hb);have HY:=aa (HY.o.ah hb);have fK:=aa (fK.o.ah hb);have gG:=aa (gG.o.ah hb);have ir:=aa (ir.o.ah hb);have jx:=aa (jx.o.ah hb);have kI:=aa (kI.o.ah hb);clear hb;go_wp2_with fail;refine bW hK xj fun Kn=>?_
  clear hK K;refine lA 7 8 9 10 ?_;refine ty 11 ?_;refine bM ?_;clear Kn hHeld fX uH;go_upto_region 29 with fail
  go_wp2_with fail;refine(O1 (sl:=⟨⟨0,k⟩,⟨k,k⟩⟩) fK.o gG.o rfl HK.o.1).mono ?_;rintro e w18 ⟨sl,rfl,gJ,L6,hb⟩;have pY:=aa L6;have HQS:=aa (show w17.heap.size≤sl∧sl<w18.heap.size from⟨gJ,L6.own.lt⟩);clear gJ L6;have HA:=aa (HA.o.ah hb);have HB:=HB.dQ hb;have HX:=aa (HX.o.ah hb);have HL:=aa (HL.o.ah hb);have HD:=aa ((aF p _).ak HD.o hb);have HV:=aa (HV.o.ah hb);have HY:=aa (HY.o.ah hb);have fK:=aa (fK.o.ah hb);have gG:=aa (gG.o.ah hb);have ir:=aa (ir.o.ah hb);have jx:=aa (jx.o.ah hb);have kI:=aa (kI.o.ah hb);have jw:=aa (jw.o.ah hb);clear hb;have c3:=HX.o.cl 3;have c4:=HX.o.cl 4;go_wp2_with fail;clear c3 c4;refine(O7 ir.o ep sq HEP.o.1 HEP.o.2).mono ?_;rintro e YS ⟨lq,rfl,hl9,hlg,hb⟩;have Ce:=aa hlg;have HQL:=aa (show w18.heap.size≤lq∧lq<YS.heap.size from⟨hl9,(cI _ _ _ _ _ _).lt hlg lq (.inl rfl)⟩);clear hl9 hlg;have HA:=aa (HA.o.ah hb);have HB:=HB.dQ hb;have HX:=aa (HX.o.ah hb);have HL:=aa (HL.o.ah hb);have HD:=aa ((aF p _).ak HD.o hb);have HV:=aa (HV.o.ah hb);have HY:=aa (HY.o.ah hb);have fK:=aa (fK.o.ah hb);have gG:=aa (gG.o.ah hb);have ir:=aa (ir.o.ah hb);have jx:=aa (jx.o.ah hb);have kI:=aa (kI.o.ah hb);have jw:=aa (jw.o.ah hb);have pY:=aa (pY.o.ah hb);clear hb;go_wp2_with (refine aC rfl 80 _ rfl xs 80 _ HA.o rfl _ oU rfl dA ?_);refine(Zj.o YS).mono ?_;rintro e Hy ⟨bk,TT,qq,rfl,cL,hTT,hb⟩;have fC:=aa (show Bk.fL TT Hy bk ⟨a,b,c,1,0,[]⟩from⟨qq,cL⟩);have HTR:=aa (show ∀ j,TT j→YS.heap.size≤j∧j<Hy.heap.size from fun j hj=>⟨hTT j hj,cL.bg.lt j hj⟩);have afB:=aa hb.size;clear cL hTT;have HA:=aa (HA.o.ah hb);have HB:=HB.dQ hb;have HX:=aa (HX.o.ah hb);have HL:=aa (HL.o.ah hb);have HD:=aa ((aF p _).ak HD.o hb);have HV:=aa (HV.o.ah hb);have HY:=aa (HY.o.ah hb);have fK:=aa (fK.o.ah hb);have gG:=aa (gG.o.ah hb);have ir:=aa (ir.o.ah hb);have jx:=aa (jx.o.ah hb);have kI:=aa (kI.o.ah hb);have jw:=aa (jw.o.ah hb);have pY:=aa (pY.o.ah hb);have Ce:=aa ((cI _ _ _ _ _ _).ak Ce.o hb);clear hb;have Ru:=aa (show xx<ra∧xx<rb∧xx<rl∧xx<sl∧xx<lq∧xx<YS.heap.size∧vm<ra∧ra<rb∧rb<rl∧rl<sl∧sl<lq∧lq<YS.heap.size from by have h1:=HMA.o;have h2:=aiy.o;have a1:=adh.o;have a2:=adg.o;have a3:=adf.o;have a4:=ade.o;have a5:=adb.o;have a6:=ada.o;have q0:=HQ0.o;have q1:=vo.o;have q2:=rH.o;have q3:=HQS.o;have q4:=HQL.o;omega);clear aiy adh adg adf ade adb ada HQ0 vo rH HQS HQL;go_upto_region 36 with fail
  have OO:=HY.o;have yy0:(Hy).cell? ⟨xx,2,none⟩=some (.pointer none):=OO.cell 2;have mm0:=OO.mark 2;have Ml:aG ((Hy).setCell ⟨xx,2,none⟩ (.pointer (some ⟨rl,0,none⟩))) xx iD #[.pointer (some ⟨p,0,none⟩),.pointer none,.pointer (some ⟨rl,0,none⟩),.pointer none,.pointer (some ⟨vm,0,none⟩),.pointer none]:=OO.put 2 _;have yy1:((Hy).setCell ⟨xx,2,none⟩ (.pointer (some ⟨rl,0,none⟩))).cell? ⟨xx,3,none⟩=some (.pointer none):=Ml.cell 3;have mm1:=Ml.mark 3;have hY2:aG (((Hy).setCell ⟨xx,2,none⟩ (.pointer (some ⟨rl,0,none⟩))).setCell ⟨xx,3,none⟩ (.pointer (some ⟨sl,0,none⟩))) xx iD #[.pointer (some ⟨p,0,none⟩),.pointer none,.pointer (some ⟨rl,0,none⟩),.pointer (some ⟨sl,0,none⟩),.pointer (some ⟨vm,0,none⟩),.pointer none]:=Ml.put 3 _;obtain⟨RP,jI⟩:=ae (((Hy).setCell ⟨xx,2,none⟩ (.pointer (some ⟨rl,0,none⟩))).setCell ⟨xx,3,none⟩ (.pointer (some ⟨sl,0,none⟩)));have XP:=aa (show aG RP xx iD #[.pointer (some ⟨p,0,none⟩),.pointer none,.pointer (some ⟨rl,0,none⟩),.pointer (some ⟨sl,0,none⟩),.pointer (some ⟨vm,0,none⟩),.pointer none] by rw[←jI];exact hY2);have ht:aI (· =xx) Hy RP:=by rw[←jI];exact(aI.at Hy xx 2 _).BQ 3 _
  have rh: ∀ A l c,(#[.pointer (some ⟨p,0,none⟩),.pointer none,.pointer none,.pointer none,.pointer (some ⟨vm,0,none⟩),.pointer none]:Array Value)[0]?≠some (.slice A l c):=fun A l c h=>by simp at h
  have Z0:=ze.o;have hma:=HMA.o;have ho:=Ru.o;have uH:=ht.size;have HA:=aa (ht.arr HA.o ai);have HB:=aa (aI.fresh ht HB.o (fun j hj=>EL));have HX:=aa (ht.arr HX.o ai);have HL:=aa (ht.arr HL.o ai);have HD:=aa ((aF p _).cR HD.o ht (fun j hj c=>E8));have HV:=aa (Pr.put HV.o HY.o rh ht);have fK:=aa (fV.cR fK.o ht (fun c=>jq));have gG:=aa (fV.cR gG.o ht (fun c=>jq));have ir:=aa (fV.cR ir.o ht (fun c=>jq));have jx:=aa (BZ.put jx.o HY.o rh ht);have kI:=aa (BZ.put kI.o HY.o rh ht);have jw:=aa (BZ.put jw.o HY.o rh ht);have pY:=aa (qC.cR pY.o ht (fun c=>jq) (fun c=>jq) (fun c=>jq));have Ce:=aa ((cI _ _ _ _ _ _).cR Ce.o ht (fun j hj c=>Ln));have fC:=aa (En.gS fC.o ht (fun j hj c=>Lk));have ac9:=aa (show Hy.heap.size≤RP.heap.size from uH);have HY:=XP;clear ht rh Z0 hma ho uH XP OO Ml hY2;go_upto_region 37 with fail
  try rw[jI]
  clear jI yy0 mm0 yy1 mm1;go_wp2_with fail;obtain⟨lv,hlv⟩:=Ce.o;obtain⟨bq,hbq⟩:=fC.o;refine(O5 hlv pY.o hbq.bg ⟨HAB.o.1.1,HAB.o.1.2⟩).mono ?_;rintro e w22 ⟨ee,mb,rfl,hE,hM,hee,Y0,hb⟩;clear hlv hbq;have HE:=aa hE;have F8:=aa hM;have HEM:=aa (show YS.heap.size≤Hy.heap.size∧Hy.heap.size≤ee∧Hy.heap.size≤mb∧ee≠mb from⟨afB.o,aV ac9.o hee,aV ac9.o Y0,aia hE hM⟩);clear hE hM hee Y0;have HA:=aa (HA.o.ah hb);have HB:=HB.dQ hb;have HX:=aa (HX.o.ah hb);have HL:=aa (HL.o.ah hb);have HD:=aa ((aF p _).ak HD.o hb);have HV:=aa (HV.o.ah hb);have HY:=aa (HY.o.ah hb);have fK:=aa (fK.o.ah hb);have gG:=aa (gG.o.ah hb);have ir:=aa (ir.o.ah hb);have jx:=aa (jx.o.ah hb);have kI:=aa (kI.o.ah hb);have jw:=aa (jw.o.ah hb);have pY:=aa (pY.o.ah hb);have Ce:=aa ((cI _ _ _ _ _ _).ak Ce.o hb);have fC:=aa (lK fC.o hb);clear hb;have Ru:=aa (show xx<ra∧xx<rb∧xx<rl∧xx<sl∧xx<lq∧xx<YS.heap.size∧vm<ra∧ra<rb∧rb<rl∧rl<sl∧sl<lq∧lq<YS.heap.size∧YS.heap.size≤Hy.heap.size∧Hy.heap.size≤ee∧Hy.heap.size≤mb from by have:=Ru.o;have:=HEM.o;omega);have OO:=HY.o;have yy0:(w22).cell? ⟨xx,1,none⟩=some (.pointer none):=OO.cell 1;have mm0:=OO.mark 1;have Ml:aG ((w22).setCell ⟨xx,1,none⟩ (.pointer (some ⟨ee,0,none⟩))) xx iD #[.pointer (some ⟨p,0,none⟩),.pointer (some ⟨ee,0,none⟩),.pointer (some ⟨rl,0,none⟩),.pointer (some ⟨sl,0,none⟩),.pointer (some ⟨vm,0,none⟩),.pointer none]:=OO.put 1 _;obtain⟨w23,jI⟩:=ae ((w22).setCell ⟨xx,1,none⟩ (.pointer (some ⟨ee,0,none⟩)));have XP:=aa (show aG w23 xx iD #[.pointer (some ⟨p,0,none⟩),.pointer (some ⟨ee,0,none⟩),.pointer (some ⟨rl,0,none⟩),.pointer (some ⟨sl,0,none⟩),.pointer (some ⟨vm,0,none⟩),.pointer none] by rw[←jI];exact Ml);have ht:aI (· =xx) w22 w23:=by rw[←jI];exact aI.at w22 xx 1 _
  have rh: ∀ A l c,(#[.pointer (some ⟨p,0,none⟩),.pointer none,.pointer (some ⟨rl,0,none⟩),.pointer (some ⟨sl,0,none⟩),.pointer (some ⟨vm,0,none⟩),.pointer none]:Array Value)[0]?≠some (.slice A l c):=fun A l c h=>by simp at h
  have Z0:=ze.o;have hma:=HMA.o;have ho:=Ru.o;have uH:=ht.size;have HA:=aa (ht.arr HA.o ai);have HB:=aa (aI.fresh ht HB.o (fun j hj=>EL));have HX:=aa (ht.arr HX.o ai);have HL:=aa (ht.arr HL.o ai);have HD:=aa ((aF p _).cR HD.o ht (fun j hj c=>E8));have HV:=aa (Pr.put HV.o HY.o rh ht);have fK:=aa (fV.cR fK.o ht (fun c=>jq));have gG:=aa (fV.cR gG.o ht (fun c=>jq));have ir:=aa (fV.cR ir.o ht (fun c=>jq));have jx:=aa (BZ.put jx.o HY.o rh ht);have kI:=aa (BZ.put kI.o HY.o rh ht);have jw:=aa (BZ.put jw.o HY.o rh ht);have pY:=aa (qC.cR pY.o ht (fun c=>jq) (fun c=>jq) (fun c=>jq));have Ce:=aa ((cI _ _ _ _ _ _).cR Ce.o ht (fun j hj c=>Ln));have fC:=aa (En.gS fC.o ht (fun j hj c=>Lk));have HE:=aa (ia.ags HE.o ht (fun c=>jq));have F8:=aa (jv.abN F8.o ht (fun c=>jq));have alQ:=aa (show w22.heap.size≤w23.heap.size from uH);have HY:=XP;clear ht rh Z0 hma ho uH XP OO Ml;go_upto_region 38 with fail
  try rw[jI]
  clear jI yy0 mm0;go_wp2_with fail;refine(XH jx.o kI.o HK.o.1 AE AE).mono ?_;rintro e w24 ⟨qs,rfl,hq,hqz,hb⟩;clear hq hqz;have HA:=aa (HA.o.ah hb);have HB:=HB.dQ hb;have HX:=aa (HX.o.ah hb);have HL:=aa (HL.o.ah hb);have HD:=aa ((aF p _).ak HD.o hb);have HV:=aa (HV.o.ah hb);have HY:=aa (HY.o.ah hb);have fK:=aa (fK.o.ah hb);have gG:=aa (gG.o.ah hb);have ir:=aa (ir.o.ah hb);have jx:=aa (jx.o.ah hb);have kI:=aa (kI.o.ah hb);have jw:=aa (jw.o.ah hb);have pY:=aa (pY.o.ah hb);have Ce:=aa ((cI _ _ _ _ _ _).ak Ce.o hb);have fC:=aa (lK fC.o hb);have HE:=aa (ia.IP HE.o hb);have F8:=aa (F8.o.ah hb);clear hb;go_wp2_with (refine aC rfl 80 _ rfl xs 80 _ HA.o rfl _ oU rfl dA ?_);refine(ali.o w24).mono ?_;rintro e w25 ⟨qk,rfl,hq,hqz,hb⟩;clear hq hqz;have HA:=aa (HA.o.ah hb);have HB:=HB.dQ hb;have HX:=aa (HX.o.ah hb);have HL:=aa (HL.o.ah hb);have HD:=aa ((aF p _).ak HD.o hb);have HV:=aa (HV.o.ah hb);have HY:=aa (HY.o.ah hb);have fK:=aa (fK.o.ah hb);have gG:=aa (gG.o.ah hb);have ir:=aa (ir.o.ah hb);have jx:=aa (jx.o.ah hb);have kI:=aa (kI.o.ah hb);have jw:=aa (jw.o.ah hb);have pY:=aa (pY.o.ah hb);have Ce:=aa ((cI _ _ _ _ _ _).ak Ce.o hb);have fC:=aa (lK fC.o hb);have HE:=aa (ia.IP HE.o hb);have F8:=aa (F8.o.ah hb);clear hb;have c3:=HX.o.cl 3;have c4:=HX.o.cl 4;go_wp2_with fail;clear c3 c4;refine(XI ql (ep:Int) (sq:Int) w25).mono ?_;rintro e w26 ⟨qg,rfl,hq,hqz,hb⟩;clear hq hqz;have HA:=aa (HA.o.ah hb);have HB:=HB.dQ hb;have HX:=aa (HX.o.ah hb);have HL:=aa (HL.o.ah hb);have HD:=aa ((aF p _).ak HD.o hb);have HV:=aa (HV.o.ah hb);have HY:=aa (HY.o.ah hb);have fK:=aa (fK.o.ah hb);have gG:=aa (gG.o.ah hb);have ir:=aa (ir.o.ah hb);have jx:=aa (jx.o.ah hb);have kI:=aa (kI.o.ah hb);have jw:=aa (jw.o.ah hb);have pY:=aa (pY.o.ah hb);have Ce:=aa ((cI _ _ _ _ _ _).ak Ce.o hb);have fC:=aa (lK fC.o hb);have HE:=aa (ia.IP HE.o hb);have F8:=aa (F8.o.ah hb);clear hb;go_wp2_with fail;refine(Rb qg qs qk w26).mono ?_;rintro e w27 ⟨vv,rfl,hq,hqz,hb⟩;clear hq hqz;have HA:=aa (HA.o.ah hb);have HB:=HB.dQ hb;have HX:=aa (HX.o.ah hb);have HL:=aa (HL.o.ah hb);have HD:=aa ((aF p _).ak HD.o hb);have HV:=aa (HV.o.ah hb);have HY:=aa (HY.o.ah hb);have fK:=aa (fK.o.ah hb);have gG:=aa (gG.o.ah hb);have ir:=aa (ir.o.ah hb);have jx:=aa (jx.o.ah hb);have kI:=aa (kI.o.ah hb);have jw:=aa (jw.o.ah hb);have pY:=aa (pY.o.ah hb);have Ce:=aa ((cI _ _ _ _ _ _).ak Ce.o hb);have fC:=aa (lK fC.o hb);have HE:=aa (ia.IP HE.o hb);have F8:=aa (F8.o.ah hb);clear hb;have OO:=HY.o;have yy0:(w27).cell? ⟨xx,5,none⟩=some (.pointer none):=OO.cell 5;have mm0:=OO.mark 5;have Ml:aG ((w27).setCell ⟨xx,5,none⟩ (.pointer (some ⟨vv,0,none⟩))) xx iD #[.pointer (some ⟨p,0,none⟩),.pointer (some ⟨ee,0,none⟩),.pointer (some ⟨rl,0,none⟩),.pointer (some ⟨sl,0,none⟩),.pointer (some ⟨vm,0,none⟩),.pointer (some ⟨vv,0,none⟩)]:=OO.put 5 _;obtain⟨w28,jI⟩:=ae ((w27).setCell ⟨xx,5,none⟩ (.pointer (some ⟨vv,0,none⟩)));have XP:=aa (show aG w28 xx iD #[.pointer (some ⟨p,0,none⟩),.pointer (some ⟨ee,0,none⟩),.pointer (some ⟨rl,0,none⟩),.pointer (some ⟨sl,0,none⟩),.pointer (some ⟨vm,0,none⟩),.pointer (some ⟨vv,0,none⟩)] by rw[←jI];exact Ml);have ht:aI (· =xx) w27 w28:=by rw[←jI];exact aI.at w27 xx 5 _
  have rh: ∀ A l c,(#[.pointer (some ⟨p,0,none⟩),.pointer (some ⟨ee,0,none⟩),.pointer (some ⟨rl,0,none⟩),.pointer (some ⟨sl,0,none⟩),.pointer (some ⟨vm,0,none⟩),.pointer none]:Array Value)[0]?≠some (.slice A l c):=fun A l c h=>by simp at h
  have Z0:=ze.o;have hma:=HMA.o;have ho:=Ru.o;have uH:=ht.size;have HA:=aa (ht.arr HA.o ai);have HB:=aa (aI.fresh ht HB.o (fun j hj=>EL));have HX:=aa (ht.arr HX.o ai);have HL:=aa (ht.arr HL.o ai);have HD:=aa ((aF p _).cR HD.o ht (fun j hj c=>E8));have HV:=aa (Pr.put HV.o HY.o rh ht);have fK:=aa (fV.cR fK.o ht (fun c=>jq));have gG:=aa (fV.cR gG.o ht (fun c=>jq));have ir:=aa (fV.cR ir.o ht (fun c=>jq));have jx:=aa (BZ.put jx.o HY.o rh ht);have kI:=aa (BZ.put kI.o HY.o rh ht);have jw:=aa (BZ.put jw.o HY.o rh ht);have pY:=aa (qC.cR pY.o ht (fun c=>jq) (fun c=>jq) (fun c=>jq));have Ce:=aa ((cI _ _ _ _ _ _).cR Ce.o ht (fun j hj c=>Ln));have fC:=aa (En.gS fC.o ht (fun j hj c=>Lk));have HE:=aa (ia.ags HE.o ht (fun c=>jq));have F8:=aa (jv.abN F8.o ht (fun c=>jq));have alP:=aa (show w27.heap.size≤w28.heap.size from uH);have HY:=XP;clear ht rh Z0 hma ho uH XP OO Ml;go_upto_region 41 with fail
  try rw[jI]
  clear jI yy0 mm0;obtain⟨wd,hwd⟩:=ae w28.drew;have hb:Below w28.heap.size w28 wd:=mU;have HA:=aa (HA.o.ah hb);have HB:=HB.dQ hb;have HX:=aa (HX.o.ah hb);have HL:=aa (HL.o.ah hb);have HD:=aa ((aF p _).ak HD.o hb);have HV:=aa (HV.o.ah hb);have HY:=aa (HY.o.ah hb);have fK:=aa (fK.o.ah hb);have gG:=aa (gG.o.ah hb);have ir:=aa (ir.o.ah hb);have jx:=aa (jx.o.ah hb);have kI:=aa (kI.o.ah hb);have jw:=aa (jw.o.ah hb);have pY:=aa (pY.o.ah hb);have Ce:=aa ((cI _ _ _ _ _ _).ak Ce.o hb);have fC:=aa (lK fC.o hb);have HE:=aa (ia.IP HE.o hb);have F8:=aa (F8.o.ah hb);clear hb;refine wp_region_held_drew (S:=(fun W=>W.cell? ⟨xx,1,none⟩=some (.pointer (some ⟨ee,0,none⟩)))) bh (by rw[hwd];exact HY.o.cell 1) (fun hHeld=>?_);rw[hwd] at hHeld ⊢;clear hwd;refine ov 0 1 2 3 4 5 6 7 ?_;refine lA 8 9 10 11 ?_;refine bM ?_;clear hHeld;have HF:=aa (show zE sh lg wide ep sq w (.returned (.tuple #[.pointer (some ⟨xx,0,none⟩),.bool true])) wd from by
   have ho:=Ru.o;have Z0:=ze.o;have hma:=HMA.o;have hem:=HEM.o;have hz:=HB.o.size;have hsr:=HSR.o;have htr:=HTR.o;rw[show zE sh lg wide ep sq w=fun en w'=>∃ P,en= .returned (.tuple #[.pointer (some ⟨P.x,0,none⟩),.bool true])∧ac5 w w' (yI a b c n m k ep sq) P from by unfold zE;rw[HEQ.o]]
   classical
   obtain⟨aB,Bj⟩: ∃ f:Nat→Nat,f=fun j=>if j=lq∨j=rl then 1 else if S j then 2 else if TT j then 3 else if j=ee then 5 else if j=mb then 6 else if j=sl∨j=ra∨j=rb then 7 else 0:=⟨_,rfl⟩
   have r1: ∀ j,(j=lq∨j=rl)→aB j=1:=fun j hj=>by rw[Bj];exact if_pos hj
   have r2: ∀ j,S j→aB j=2:=fun j hj=>by
    have:=hsr j hj;rw[Bj];show(if _ then _ else _)=_;rw[if_neg ai,if_pos hj]
   have nS: ∀ j,vm≤j→¬S j:=fun j h c=>by have:=(hsr j c).2;omega
   have r3: ∀ j,TT j→aB j=3:=fun j hj=>by
    have:=htr j hj;rw[Bj];show(if _ then _ else _)=_;rw[if_neg ai,if_neg (nS j ai),if_pos hj]
   have nT1: ∀ j,j<YS.heap.size→¬TT j:=fun j h c=>by have:=(htr j c).1;omega
   have nT2: ∀ j,Hy.heap.size≤j→¬TT j:=fun j h c=>by have:=(htr j c).2;omega
   have r5:aB ee=5:=by rw[Bj];show(if _ then _ else _)=_;rw[if_neg ai,if_neg (nS ee ai),if_neg (nT2 ee ai),if_pos rfl]
   have r6:aB mb=6:=by rw[Bj];show(if _ then _ else _)=_;rw[if_neg ai,if_neg (nS mb ai),if_neg (nT2 mb ai),if_neg ai,if_pos rfl]
   have r7: ∀ j,(j=sl∨j=ra∨j=rb)→aB j=7:=fun j hj=>by rw[Bj];show(if _ then _ else _)=_;rw[if_neg ai,if_neg (nS j ai),if_neg (nT1 j ai),if_neg ai,if_neg ai,if_pos hj]
   have rn: ∀ j,aB j≠0→j=lq∨j=rl∨S j∨TT j∨j=ee∨j=mb∨j=sl∨j=ra∨j=rb:=fun j hj=>by
    rw[Bj] at hj;have DO:(if j=lq∨j=rl then 1 else if S j then 2 else if TT j then 3 else if j=ee then 5 else if j=mb then 6 else if j=sl∨j=ra∨j=rb then 7 else 0)≠0:=hj;by_cases a1:j=lq∨j=rl
    ·rcases a1 with a|a;exact .inl a;exact .inr (.inl a)
    by_cases a2:S j
    ·exact .inr (.inr (.inl a2))
    by_cases a3:TT j
    ·exact .inr (.inr (.inr (.inl a3)))
    by_cases a4:j=ee
    ·exact .inr (.inr (.inr (.inr (.inl a4))))
    by_cases a5:j=mb
    ·exact .inr (.inr (.inr (.inr (.inr (.inl a5)))))
    by_cases a6:j=sl∨j=ra∨j=rb
    ·exact .inr (.inr (.inr (.inr (.inr (.inr a6)))))
    rw[if_neg a1,if_neg a2,if_neg a3,if_neg a4,if_neg a5,if_neg a6] at DO;exact absurd rfl DO
   have rlo: ∀ j,aB j≠0→xx<j:=fun j hj=>by
    rcases rn j hj with h|h|h|h|h|h|h|h|h
    ·omega
    ·omega
    ·have:=(hsr j h).1;omega
    ·have:=(htr j h).1;omega
    all_goals omega
   have rlt: ∀ j,aB j≠0→j<wd.heap.size:=fun j hj=>by
    have q1:=(cI _ _ _ _ _ _).lt Ce.o;rcases rn j hj with h|h|h|h|h|h|h|h|h
    ·exact q1 j (.inl h)
    ·exact q1 j (.inr h)
    ·exact(aF p _).lt HD.o j h
    ·obtain⟨x,hx⟩:=fC.o;exact hx.bg.lt j h
    ·subst h;exact aG.lt HE.o
    ·subst h;exact F8.o.lt
    ·subst h;exact pY.o.own.lt
    ·subst h;exact pY.o.a.own.lt
    subst h;exact pY.o.b.own.lt
   have agt: ∀ j,j<w.heap.size→aB j=0:=fun j hj=>by
    by_cases c:aB j=0
    ·exact c
    have:=rlo j c;omega
   refine⟨⟨xx,ee,vm,vv,⟨lq,rl,sl,ra,rb,p,bk,mb⟩,aB⟩,rfl,⟨HY.o,⟨⟨F8.o,?_,?_,?_,pY.o,r5,r6,⟨r7 _ (.inl rfl),r7 _ (.inr (.inl rfl)),r7 _ (.inr (.inr rfl))⟩,rlt,Df.o.ah HB.o,HRT.o.ah HB.o,⟨agt _ Df.o.lt,agt _ HRT.o.lt⟩⟩,HE.o,aP.nil _ _ _ _ _⟩,fun j hj=>by have:=rlo j hj;show w.heap.size≤j;omega,?_,Z0.1,HB.o⟩⟩
   ·exact(cI _ _ _ _ _ _).mono Ce.o r1 (fun j (hj:aB j=1)=>rlt j (by rw[hj];decide))
   ·exact(aF p _).mono HD.o r2 (fun j (hj:aB j=2)=>rlt j (by rw[hj];decide))
   ·obtain⟨x,hx⟩:=fC.o;exact⟨x,hx.wide r3 (fun j (hj:aB j=3)=>rlt j (by rw[hj];decide))⟩
   show aB xx=0
   by_cases c:aB xx=0
   ·exact c
   have:=rlo xx c;omega)
  go_wp2_with fail;go_ret2;exact HF.o
end Rf
end
section
namespace Rf
def mq(b0 x e:Nat)(cs:Array Value)(q:rB)(es:Es)(w W:World): Prop:=∃ aB wt,Live b0 aB W e q wt es∧aG W x iD cs∧aB x=0∧Below w.heap.size w W∧w.heap.size≤b0∧b0≤W.heap.size
variable{b0 x e n:Nat}{cs:Array Value}{w W:World}
theorem mq.ah{q:rB}{es:Es}{W':World} (h:mq b0 x e cs q es w W)(hb:Below W.heap.size W W'): mq b0 x e cs q es w W':=by
 obtain⟨aB,wt,h1,h2,h3,h4,h5,h6⟩:=h;exact⟨aB,wt,h1.ak hb,h2.ah hb,h3,av h4 hb,h5,aV h6 hb.size⟩
theorem mq.one{q:rB}{es:Es}(hc:cs[1]? =some (.pointer (some ⟨e,0,none⟩)))(h:mq b0 x e cs q es w W): W.cell? ⟨x,1,none⟩=some (.pointer (some ⟨e,0,none⟩)):=by
 obtain⟨_,_,_,h2,_⟩:=h;exact(h2.cell 1).trans hc
def XJ(n:Nat)(R:World→Prop)(en:Ending)(w':World): Prop:=∃ A c,en= .returned (.slice A n c)∧R w'
theorem mq.Jy{q:rB}{es:Es}(h:mq b0 x e cs q es w W)(b:En.By)(A:Option Addr)(c:Nat)(hB:Bs W A b)(hA:qV A)(hl:b.length≤70368744177664)(Bo:(En.bK b).2=0→(En.bK b).1.ry)(hn:(es.Hi b).1.length=n):
  Calls af 12 #[.pointer (some ⟨e,0,none⟩),.slice A b.length c] W (XJ n (mq b0 x e cs q (es.Hi b).2 w)):=by
 obtain⟨aB,wt,h1,h2,h3,h4,h5,h6⟩:=h;refine(h1.Jy h6 b A c hB hA hl Bo).mono fun en W' ho=>?_
 obtain⟨v,G,C,z,eN,rC,rfl,hO,hz,hL,hlt,hr,ht⟩:=ho;obtain⟨A',c',hv⟩:=hO.row.any;refine⟨A',c',by rw[hv,List.length_map,hn],eN,rC,hL,ht.arr h2 (fun k=>k h3),Classical.byContradiction fun hne=>?_,En.Ee.base h1 h4 h5 ht,h5,aV h6 ht.size⟩;rcases hr x hne with k|k
 ·exact k h3
 ·have:=h2.lt;omega
theorem mq.ask{q:rB}{es:Es}(h:mq b0 x e cs q es w W){rq:Rq}(hq:rq.ry)(A:Option Addr)(c:Nat)(hB:Bs W A (kZ rq))(hA:qV A)(hn:(es.rep rq).1.length=n):
  Calls af 12 #[.pointer (some ⟨e,0,none⟩),.slice A (kZ rq).length c] W (XJ n (mq b0 x e cs q (es.rep rq).2 w)):=by
 have:=h.Jy (kZ rq) A c hB hA (by have:=(sT (q:=rq)).2;omega) (fun _=>by rw[En.xG hq];exact hq) (n:=n) (by rw[es.FV hq];exact hn)
 rwa [es.FV hq] at this
theorem Oa{B:Nat} {A:Option Addr}{c:Nat}{xs:List Value}{e:TypeId}{s:Nat}(h:W.ownsRow B e s (.slice A n c) n xs): qV A:=by
 rcases h.2 with⟨hv,_⟩|⟨g,cap,cur,hv,_⟩
 ·injection hv with e1;subst e1;exact eT
 injection hv with e1;subst e1;exact cM _ _
theorem aaB(w:World): Bs (w.alloc (.cells #[.int .u8 0] 5)) (some ⟨w.heap.size,0,none⟩) [0]:=by
 refine jO.bs ⟨_,aG.fresh w _ _,fun j u hu=>?_⟩;have h9:(#[Value.int .u8 0]:Array Value)[j]? =(aO [0])[j]?:=by simp[aO,Oc.fG]
 rw[h9];exact hu
theorem My: ¬(En.bK [0]).2=0:=aM
theorem aaH: (Db.Hi [0]).1.length=1:=by unfold Es.Hi;rw[if_neg My];rfl
theorem aaG: (Db.Hi [0]).2=Db:=by unfold Es.Hi;rw[if_neg My]
theorem W6(w:World)(CC:cj w)(hrt:fp w): Calls af 7 #[] w fun e w'=>e= .returned (.bool true)∧Below w.heap.size w w':=by
 have Df:=aa CC;have HRT:=aa hrt;clear CC hrt;go_enter Tryz.func7,Tryz.ntmps7;go_wp2_with fail;refine(Ur w).mono ?_;rintro e w1 ⟨rfl,hb1⟩;have bA:=aa hb1;have ajm:=aa (Df.o.ah hb1);have aiU:=aa (HRT.o.ah hb1);clear hb1;go_wp2_with fail;refine(DC 110 4 false 1 0 aM aM aM aM w1 ajm.o aiU.o).mono ?_;rintro e w2 ⟨P,rfl,hM⟩;have jB:=aa (show mq w1.heap.size P.x P.e _ P.q Mz w w2 from⟨P.aB,_,⟨hM.eng,aaF,(fun r hr=>by cases hr),W7,hM.news⟩,hM.own,hM.xno,av bA.o hM.ak,bA.o.size,hM.ak.size⟩);obtain⟨cs,hcs⟩: ∃ cs:Array Value,cs= #[.pointer (some ⟨P.q.p,0,none⟩),.pointer (some ⟨P.e,0,none⟩),.pointer (some ⟨P.q.rl,0,none⟩),.pointer (some ⟨P.q.sl,0,none⟩),.pointer (some ⟨P.m,0,none⟩),.pointer (some ⟨P.v,0,none⟩)]:=⟨_,rfl⟩;have ku:=aa (show cs[1]? =some (.pointer (some ⟨P.e,0,none⟩))by rw[hcs];rfl);rw[←hcs] at jB;clear hcs;clear hM Df HRT ajm aiU bA;go_wp2_with fail;obtain⟨wd3,hwd⟩:=ae ((w2).drew);have HD:=aa (jB.o.ah (show Below _ _ wd3 from mU));refine wp_region_held_drew (S:=(fun W=>W.cell? ⟨P.x,1,none⟩=some (.pointer (some ⟨P.e,0,none⟩)))) bh (by rw[hwd];exact mq.one ku.o HD.o) (fun hHeld=>?_);rw[hwd] at hHeld ⊢;clear hwd;refine lA 0 1 2 3 ?_;refine ty 4 ?_;refine cJ 5 fun K hK=>?_
 go_simp;refine(Kd W8 OX wd3).mono ?_;rintro e wb3 ⟨A,c,rfl,ho,hb⟩;have HB:=aa (HD.o.ah hb);have HOB:=aa ho;clear ho hb;go_wp2_with fail;refine bW hK (by exact mq.one ku.o HB.o) fun ju=>?_
 clear hK K;refine cJ 6 fun K hK=>?_
 go_simp;refine(mq.ask HB.o OX.may A c (Bs.own HOB.o) (Oa HOB.o) afl).mono ?_;rintro e w3 ⟨A2,c2,rfl,hq⟩;have jy:=aa hq;clear hq HOB HB HD;go_wp2_with fail;refine bW hK (by exact mq.one ku.o jy.o) fun qw=>?_
 clear hK K;refine ty 7 ?_;refine bM ?_;clear hHeld ju qw;have x1:=mq.one ku.o jy.o;go_wp2_with fail;refine ag (show Calls af 24 #[.pointer (some ⟨P.e,0,none⟩)] w3 fun en w'=>en= .returned (.int .i64 1)∧w'=w3 from by obtain⟨aB,wt,h1,_⟩:=jy.o;have:=lL h1.cw afj;rwa [show(Mz.rep W8.rq).2.aD.length=1 from aaE] at this) ?_;clear x1;go_wp2_with fail;obtain⟨wd4,hwd⟩:=ae ((w3).drew);have HD:=aa (jy.o.ah (show Below _ _ wd4 from mU));refine wp_region_held_drew (S:=(fun W=>W.cell? ⟨P.x,1,none⟩=some (.pointer (some ⟨P.e,0,none⟩)))) bh (by rw[hwd];exact mq.one ku.o HD.o) (fun hHeld=>?_);rw[hwd] at hHeld ⊢;clear hwd;refine lA 0 1 2 3 ?_;refine ty 4 ?_;refine cJ 5 fun K hK=>?_
 go_simp;refine(Kd aaJ OW wd4).mono ?_;rintro e wb4 ⟨A,c,rfl,ho,hb⟩;have HB:=aa (HD.o.ah hb);have HOB:=aa ho;clear ho hb;go_wp2_with fail;refine bW hK (by exact mq.one ku.o HB.o) fun ju=>?_
 clear hK K;refine cJ 6 fun K hK=>?_
 go_simp;refine(mq.ask HB.o OW.may A c (Bs.own HOB.o) (Oa HOB.o) afk).mono ?_;rintro e w4 ⟨A2,c2,rfl,hq⟩;have tO:=aa hq;clear hq HOB HB HD;go_wp2_with fail;refine bW hK (by exact mq.one ku.o tO.o) fun qw=>?_
 clear hK K;refine ty 7 ?_;refine bM ?_;clear hHeld ju qw;have tO:=aa (show mq w1.heap.size P.x P.e cs P.q Db w w4 from tO.o);have x1:=mq.one ku.o tO.o;obtain⟨w5,jD⟩:=ae (w4.alloc (.cells #[.int .u8 0] 5));obtain⟨g5,fF⟩:=ae w4.heap.size;have X7:=aa (tO.o.ah (show Below w4.heap.size w4 w5 by rw[←jD];exact ay (ar _ _) _));have KE:=aa (show Bs w5 (some ⟨g5,0,none⟩) [0] from by rw[←jD,←fF];exact aaB w4);go_wp2_with fail;refine(show Calls af 12 #[.pointer (some ⟨P.e,0,none⟩),.slice (some ⟨g5,0,none⟩) 1 1] w5 (XJ 1 (mq w1.heap.size P.x P.e cs P.q Db w))from by have:=mq.Jy X7.o [0] (some ⟨g5,0,none⟩) 1 KE.o (cM _ _) aM (fun h=>absurd h My) aaH;rwa [aaG] at this).mono ?_;rintro en w6 ⟨A3,c3,rfl,hq⟩;have KA:=aa hq;have x1:=mq.one ku.o hq;clear hq tO X7 KE jD fF;go_wp2_with fail;refine ag (show Calls af 25 #[.pointer (some ⟨P.e,0,none⟩)] w6 fun en w'=>en= .returned (.int .u64 2)∧w'=w6 from by obtain⟨aB,wt,h1,_⟩:=KA.o;have:=iW h1.cw FZ;rwa [afn] at this) ?_;go_wp2_with fail;refine ag (show Calls af 24 #[.pointer (some ⟨P.e,0,none⟩)] w6 fun en w'=>en= .returned (.int .i64 0)∧w'=w6 from by obtain⟨aB,wt,h1,_⟩:=KA.o;have:=lL h1.cw FZ;rwa [aaD] at this) ?_;go_wp2_with fail;refine ag (show Calls af 23 #[.pointer (some ⟨P.e,0,none⟩)] w6 fun en w'=>en= .returned (.bool true)∧w'=w6 from by obtain⟨aB,wt,h1,_⟩:=KA.o;have:=kE h1.cw.own;rwa [FZ] at this) ?_;go_wp2_with fail;refine(show Calls af 14 #[.pointer (some ⟨P.e,0,none⟩)] w6 (Ka Db.bk w6)from by obtain⟨aB,wt,h1,_⟩:=KA.o;exact p4 h1.cw FZ h1.inv.bk).mono ?_;rintro en w7 ⟨b,S,rfl,cL,hS,su⟩;have HLN:=aa (show Calls af 41 #[.pointer (some ⟨b,0,none⟩)] w7 fun en w'=>en= .returned (.int .i64 2)∧w'=w7 from by obtain⟨y,hy⟩:=cL;have:=Bk.uS hy.bg;rwa [afm] at this);have HF:=aa (show Below w.heap.size w w7 from by obtain⟨_,_,_,_,_,h4,_⟩:=KA.o;exact av h4 su);clear cL hS su x1 KA;go_wp2_with fail;refine ag HLN.o ?_;go_wp2_with fail;go_ret;exact⟨rfl,HF.o⟩
