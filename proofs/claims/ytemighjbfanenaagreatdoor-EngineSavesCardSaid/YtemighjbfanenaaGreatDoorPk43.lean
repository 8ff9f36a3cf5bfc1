import Derived.Test.YtemighjbfanenaaGreatDoorPk42
import Derived.Test.YtemighjbfanenaaGreatDoorPk41
set_option linter.all false
set_option maxRecDepth 100000
set_option maxHeartbeats 16000000
namespace Go.Proofs.YtemighjbfanenaaGreatDoor
open RowKit
open Bk (bm cC bH dA)
open En (bK CE dF aD sR Ku bC sQ dg Es Pm Lg uX cE Live Ez kD uV zW Rg fT J' Rp fk Rq Pe Sl qH JV yY cJ oY kW sY)
open Eg (ik Pj ju pX jC)
open Cr (cj)
open Oc (Bs aP rh eP cI)
open Go.Obj renaming cells→GS
open Go.Proofs.Tryz renaming underlying80→oQ,underlying120→tD,prog→af
open List renaming length_replicate→kO
open Nat renaming le_trans→aT
open RowKit.Below renaming refl→au
theorem Vs{p:Prop}(h:p:=by
 rw[show 2*(k:Int)=((2*k:Nat):Int) from aj,show(n:Int) - ((2*k:Nat):Int)=((n - 2*k:Nat):Int) from aj];exact h9):p:=h
theorem jn{p:Prop}(h:p:=by have c':_=xx:=c;omega):p:=h
theorem DD{p:Prop}(h:p:=by rw[h2.cell];exact UH rfl rfl i u hi):p:=h
theorem xH{p:Prop}(h:p:=by rw[hwd];exact gi.o _ HY.o HL.o):p:=h
theorem Fq{p:Prop}(h:p:=by have:=(HSR.o j hj).1;have c':j=xx:=c;omega):p:=h
theorem xE{p:Prop}(h:p:=by exact gi.o _ HY.o HL.o):p:=h
theorem LI{p:Prop}(h:p:=by have c':j=xx:=c;rcases hj with hj|hj <;>omega):p:=h
theorem LD{p:Prop}(h:p:=by have c':j=xx:=c;have:=HTR.o j hj;omega):p:=h
theorem E5{p:Prop}(h:p:=by have D7:j=xx:=hj;omega):p:=h
section
namespace Rf
theorem Jb: (af.info? 122).map (·.size)=some 7:=br
theorem ny: (af.info? 120).map (·.size)=some 2:=br
variable{b m k n s x e:Nat}{cs:Array Value}{w w':World}{lg sl bk:Option Addr}{wt mp:Value}
theorem Bo{a:Nat} (ha:1≤a∧a≤12)(hb:1≤b∧b≤8)(hm:m=64∨m=128): ∃ k:Nat,tR.slot a b m=(k:Int)∧2≤k∧k≤4∧tR.QC a b m=((2*k+1:Nat):Int):=by
 have e:min (a:Int) (b:Int)=((min a b:Nat):Int):=aj;rcases hm with rfl|rfl
 ·unfold tR.QC tR.slot tR.image tR.up;refine⟨(1+(20+14*min (a:Int) b+64 - 1) / 64).toNat,?_,?_,?_,?_⟩ <;>omega
 unfold tR.QC tR.slot tR.image tR.up;refine⟨(1+(20+14*min (a:Int) b+128 - 1) / 128).toNat,?_,?_,?_,?_⟩ <;>omega
theorem UH{u v:Value}(h1:cs[k]? =some u)(h2:cs[k+1]? =some v): ∀ (j:Nat) (x:Value),[u,v][j]? =some x→cs[k+j]? =some x:=fun j x hx=>by
 match j,hx with
 | 0,hx=>injection hx with hx;subst hx;exact h1
 | 1,hx=>injection hx with hx;subst hx;exact h2
 | j+2,hx=>simp at hx
theorem aG.FQ{a:Nat} {t u:TypeId}{ds:Array Value} (h:aG w a t cs)(k:aG w b u ds)(ht:t≠u): a≠b:=by
 rintro rfl;have h1:some (GS cs t (0,0))=some (GS ds u (0,0)):=Eq.trans (Eq.symm h) k;injection h1 with h1
 injection h1 with _ h2
 exact ht h2
abbrev gK: TypeId:=49
theorem YH.put(h:YH w k n s)(hx:aG w x gK cs)(h0: ∀ A l c,cs[0]?≠some (.slice A l c))(ht:aI (· =x) w w'): YH w' k n s:=by
 obtain⟨g,c,A,c0,h1,h2,h3⟩:=h.ex;have e1:k≠x:=aG.FQ h1 hx aN;have e2:g≠x:=by
  rintro rfl;rw[hx.cell 0] at h2;exact h0 _ _ _ h2
 exact⟨⟨g,c,A,c0,ht.arr h1 e1,(ht.cells h3 e2 0).trans h2,Nat.lt_of_lt_of_le h3 ht.size⟩,h.pos⟩
theorem PD.put(h:PD w m k n s)(hx:aG w x gK cs)(h0: ∀ A l c,cs[0]?≠some (.slice A l c))(ht:aI (· =x) w w'): PD w' m k n s:=by
 obtain⟨a,b,c,h1⟩:=h.own;exact⟨⟨a,b,c,ht.arr h1 (aG.FQ h1 hx aN)⟩,h.dk.put hx h0 ht⟩
theorem Ci.put{r f c:Nat} (h:Ci w r m k n s f c)(hx:aG w x gK cs)(h0: ∀ A l c,cs[0]?≠some (.slice A l c))(ht:aI (· =x) w w'): Ci w' r m k n s f c:=
 ⟨ht.arr h.own (aG.FQ h.own hx aN),h.dv.put hx h0 ht⟩
theorem _root_.Go.Proofs.YtemighjbfanenaaGreatDoor.Eg.ju.abT{l:List (Int × Value)}(h:Eg.ju w b l)(ht:aI (· =x) w w')(hx:b≠x): Eg.ju w' b l:=fB.same h (ht.block _ (fB.lt h) hx)
theorem _root_.Go.Proofs.YtemighjbfanenaaGreatDoor.Eg.ju.aeA{l:List (Int × Value)}{t:TypeId}(h:Eg.ju w b l)(k:aG w b t cs): False:=by
 obtain⟨D,⟨es,aq,hb,r⟩,hs,hf⟩:=h;have h1:some (Obj.map es aq)=some (GS cs t (0,0)):=Eq.trans (Eq.symm hb) k;injection h1 with h1
 cases h1
theorem _root_.Go.Proofs.YtemighjbfanenaaGreatDoor.Eg.ik.Jd{up:Bool}(h:ik w e up lg sl bk wt mp)(hb:Below w.heap.size w w'): ik w' e up lg sl bk wt mp:=aG.ai h hb
theorem _root_.Go.Proofs.YtemighjbfanenaaGreatDoor.Eg.ik.agB{S:Nat→Prop}{up:Bool}(h:ik w e up lg sl bk wt mp)(ht:aI S w w')(hS: ¬S e): ik w' e up lg sl bk wt mp:=ht.arr h hS
theorem lH{S:Nat→Prop}{bk:En.dK}(h:Bk.fK S w b bk)(hb:Below w.heap.size w w'): Bk.fK S w' b bk:=by obtain⟨x,hx⟩:=h;exact⟨x,hx.ak hb⟩
theorem aif{mb:Nat} {up:Bool}{l:List (Int × Value)}(hE:ik w e up lg sl bk wt mp)(hM:Eg.ju w mb l): e≠mb:=by
 rintro rfl;have hA:aG w e 68 _:=hE;exact hM.aeA hA
structure MdP where
 x:Nat
 e:Nat
 m:Nat
 v:Nat
 q:sQ
 aB:Nat→Nat
structure adg(w w':World)(es:En.Es)(P:MdP): Prop where
 own:aG w' P.x gK #[.pointer (some ⟨P.q.p,0,none⟩),.pointer (some ⟨P.e,0,none⟩),.pointer (some ⟨P.q.rl,0,none⟩),.pointer (some ⟨P.q.sl,0,none⟩),.pointer (some ⟨P.m,0,none⟩),.pointer (some ⟨P.v,0,none⟩)]
 eng:bC P.aB w' P.e P.q (.slice none 0 0) es
 news: ∀ k,P.aB k≠0→w.heap.size≤k
 xno:P.aB P.x=0
 ajQ:w.heap.size≤P.x
 ak:Below w.heap.size w w'
def mdK(sh:Int)(m:Nat): Nat:=(tR.slot (FD sh).1 (FD sh).2.1 m).toNat
def mdN(sh lg:Int)(m:Nat): Nat:=2*mdK sh m+1+(lg % 8).toNat
def QF(wide:Bool): Nat:=if wide then 128 else 64
def Df(sh lg:Int)(wide:Bool)(ep sq:Nat): En.Es:=yY (FD sh).1 (FD sh).2.1 (FD sh).2.2 (mdN sh lg (QF wide)) (QF wide) (mdK sh (QF wide)) ep sq
def zY(sh lg:Int)(wide:Bool)(ep sq:Nat)(w:World)(en:Ending)(w':World): Prop:=∃ P,en= .returned (.tuple #[.pointer (some ⟨P.x,0,none⟩),.bool true])∧adg w w' (Df sh lg wide ep sq) P
theorem xX(sh lg:Int)(wide:Bool)(ep sq:Nat)(uL: -9223372036854775808≤sh∧sh≤9223372036854775807)(hlg: -9223372036854775808≤lg∧lg≤9223372036854775807)(Mw:ep<18446744073709551616)(hsq:sq<18446744073709551616)(w:World)(Eh:cj w)(hrt:fk w):
  Calls af 8 #[.agg #[.int .i64 sh,.int .i64 lg,.bool wide,.int .u64 (ep:Int),.int .u64 (sq:Int),.int .i64 0]] w (zY sh lg wide ep sq w):=by
 obtain⟨hsa,ky,hsc⟩:=Uq sh;obtain⟨a,ha⟩:=ae ((FD sh).1);obtain⟨b,hb⟩:=ae ((FD sh).2.1);obtain⟨c,hc⟩:=ae ((FD sh).2.2);have HS:=aa (gB sh uL);rw[ha,hb,hc] at HS;rw[ha] at hsa;rw[hb] at ky;rw[hc] at hsc;obtain⟨m,hm⟩:=ae (QF wide);have V8:m=64∨m=128:=by rw[←hm];unfold QF;cases wide;exact .inl rfl;exact .inr rfl
 obtain⟨k,hk,hk2,hk4,V4⟩:=Bo hsa ky V8;have p8:mdK sh m=k:=by unfold mdK;rw[ha,hb,hk];rfl
 obtain⟨j,hj⟩:=ae ((lg % 8).toNat);have hj8:lg % 8=(j:Int):=aj;obtain⟨n,hn⟩:=ae (2*k+1+j);have HEQ:=aa (show Df sh lg wide ep sq=yY a b c n m k ep sq from by unfold Df mdN;rw[hm,p8,ha,hb,hc,hj,hn]);have ur:=aa (show tR.CL a b c=true by unfold tR.CL;exact decide_eq_true aj);have hz:tR.Oz m=true:=by rcases V8 with rfl|rfl <;>rfl
 have wh:n=2*k+1+j∧j≤7:=⟨hn.symm,aj⟩;have HND:=aa (fun W=>tR.xR a b c m W ur.o hz);rw[V4] at HND;have Na:=aa (fun W=>tR.Uz n m a b c W ur.o (by unfold tR.okD;rw[hz,decide_eq_true (show(1:Int)≤(n:Int) from aj),decide_eq_true (show(n:Int)≤65536 from aj),decide_eq_true (show(n:Int)*(m:Int)≤67108864 by rcases V8 with rfl|rfl <;>omega)];rfl) (by rw[V4];omega));rw[hk] at Na;have HDV:=aa (show ∀ W,Calls af 45 #[.int .i64 n,.bool wide] W (GA n m W)from fun W=>by have:=RV n wide aj W;unfold QF at hm;rw[hm] at this;exact this);have Zq:=aa (fun W=>Bk.Ph a b c W ur.o);have HK:=aa (show 2≤k∧k≤4∧n=2*k+1+j∧j≤7∧64≤m∧m≤128 from⟨hk2,hk4,wh.1,wh.2,aj,aj⟩);have HAB:=aa (show((1≤a∧a≤1024)∧(1≤b∧b≤4096)∧1≤c∧c≤64)from aj);have aln:=aa (XO a b c HAB.o);have HP8:=aa (fun W=>nc lg 8 hlg aN W);rw[hj8] at HP8;have Nb:=aa (fun W=>nc 0 6 aN aN W);have HM:=aa hm;have CY:=aa Eh;have Zk:=aa hrt;have HEP:=aa (show ep<18446744073709551616∧sq<18446744073709551616 from⟨Mw,hsq⟩);have hnk:(2*(k:Int))+1+(j:Int)=(n:Int):=aj;clear ha hb hc hsa ky hsc hk V4 uL hlg hk2 hk4 hm V8 p8 hj hj8 hn hz wh Eh hrt Mw hsq;obtain⟨xa,iz⟩:=ae w.heap.size;obtain⟨w0,hw0⟩:=ae (w.alloc (.cells #[.int .i64 sh,.int .i64 lg,.bool wide,.int .u64 (ep:Int),.int .u64 (sq:Int),.int .i64 0] 24));have Kt:=aa (aL hw0);have HX0:=aa (aK hw0 iz);have c0:=HX0.o.cl 0;go_enter Tryz.func8,Tryz.ntmps8;go_wp2_with fail;clear hw0 iz c0;refine(HS.o w0).mono ?_;rintro e w1 ⟨rfl,hb1⟩;have bz:=Kt.dP hb1;have Dv:=HX0.js hb1;clear hb1 HS Kt HX0;obtain⟨xs,yT⟩:=ae w1.heap.size;obtain⟨w2,hw2⟩:=ae (w1.alloc (.cells #[.int .i64 0,.int .i64 0,.int .i64 0] 80));have iZ:=aa (aK hw2 yT);have cu:=aa (aL hw2);have HXS:=aa yT;go_upto_region 3 with(refine ah rfl 80 _ _ rfl xs 80 _ #[.int .i64 a,.int .i64 b,.int .i64 c] iZ.o rfl rfl rfl dA AZ ?_;intro w3 dD hg3 hs3;have pB:=aa dD;have Se:=(show Below w1.heap.size w1 w3 from bn cu.o hg3 (Nat.le_of_eq HXS.o));have dV:=bz.dP Se;have Ie:=Dv.js Se;clear dD hg3 hs3 Se)
 clear yT hw2 iZ cu HXS Dv bz;have c2:=Ie.o.cl 2;go_upto_if 39 with fail
 clear c2;go_cut [5] from 40 to 40 (fun s5 wc=>s5= .int .i64 (m:Int)∧wc=w3)
 case first=>
  have HMM:=HM.o;cases wide with
  | true=>
   have e5:(m:Int)=128:=by rw[←HMM];rfl
   go_wp2_with fail;go_meet;exact⟨by rw[e5],rfl⟩
  | false=>
   have e5:(m:Int)=64:=by rw[←HMM];rfl
   go_wp2_with fail;go_meet;exact⟨by rw[e5],rfl⟩
 case rest=>
  obtain⟨rfl,hwc⟩:=hcut;subst hwc;have HA:=pB;have HB:=dV;have HX:=Ie;go_wp2_with (refine aC rfl 80 _ rfl xs 80 _ HA.o rfl _ oQ rfl dA ?_);refine(HND.o _).mono ?_;rintro e w5 ⟨rfl,hb⟩;have HA:=aa (HA.o.ai hb);have HB:=HB.dP hb;have HX:=aa (HX.o.ai hb);clear hb;have c1:=HX.o.cl 1;go_wp2_with fail;refine ag (HP8.o _) ?_;clear c1;have hwn:wrap64 (n:Int)=(n:Int):=by have:=HK.o;unfold wrap64;omega
  go_wp2_with (refine aC rfl 80 _ rfl xs 80 _ HA.o rfl _ oQ rfl dA ?_);refine(Na.o _).mono ?_;rintro e w6 ⟨rfl,hb⟩;have HA:=aa (HA.o.ai hb);have HB:=HB.dP hb;have HX:=aa (HX.o.ai hb);clear hb;obtain⟨xl,Jk⟩:=ae w6.heap.size;obtain⟨w7,wQ⟩:=ae (w6.alloc (.cells #[.int .i64 0,.int .i64 0,.int .i64 0,.int .i64 0,.int .i64 0,.int .i64 0,.int .i64 0] 122));have Yi:=aa (aK wQ Jk);have lI:=aa (aL wQ);have HXL:=aa Jk;go_upto_region 8 with(refine ah rfl 122 _ _ rfl xl 122 _ #[.int .i64 m,.int .i64 0,.int .i64 k,.int .i64 k,.int .i64 k,.int .i64 (2*(k:Int)),.int .i64 ((n:Int) - 2*(k:Int))] Yi.o rfl rfl rfl Jb AZ ?_;intro w8 dE dC gJ;have HL:=aa dE;have py:=aa (show Below w6.heap.size w6 w8 from bn lI.o dC (Nat.le_of_eq HXL.o));clear dE dC gJ)
  have hb:=py.o;clear Jk wQ Yi lI HXL;have HA:=aa (HA.o.ai hb);have HB:=HB.dP hb;have HX:=aa (HX.o.ai hb);clear hb;have c5:=HX.o.cl 5;go_wp2_with fail;refine ag (Nb.o _) ?_;clear c5;obtain⟨xx,hxx⟩:=ae w8.heap.size;obtain⟨w9,jH⟩:=ae (w8.alloc (.cells #[.pointer none,.pointer none,.pointer none,.pointer none,.pointer none,.pointer none] 49));have hb:=aL jH;have HY:=aa (show aG w9 xx gK #[.pointer none,.pointer none,.pointer none,.pointer none,.pointer none,.pointer none] by rw[←jH,←hxx];exact aG.fresh w8 _ _);have zw:=aa (show w.heap.size≤xx∧xa<xx∧xs<xx∧xl<xx from by have h1:=HB.o.size;have h2:=HX.o.lt;have h3:=HA.o.lt;have h4:=HL.o.lt;omega);have HA:=aa (HA.o.ai hb);have HB:=HB.dP hb;have HX:=aa (HX.o.ai hb);have HL:=aa (HL.o.ai hb);clear hb;have c2:=HX.o.cl 2;go_wp2_with fail;clear jH hxx;refine(HDV.o w9).mono ?_;rintro e vq ⟨p,vm,kd,S,rfl,h1,h2,h3,h4,hb,xZ⟩;have HD:=aa h1;have HSR:=aa h2;have HV:=aa h4;have HMA:=aa (show vm<vq.heap.size∧w9.heap.size≤vm∧xx<w9.heap.size from⟨h3.lt,xZ,HY.o.lt⟩);have HY:=HY.js hb;clear h1 h2 h3 h4 xZ c2;have HA:=aa (HA.o.ai hb);have HB:=HB.dP hb;have HX:=aa (HX.o.ai hb);have HL:=aa (HL.o.ai hb);clear hb;have y0:=HY.o.cl 0;have m0:=HY.o.mark 0;have MD:aG (vq.setCell ⟨xx,0,none⟩ (.pointer (some ⟨p,0,none⟩))) xx gK #[.pointer (some ⟨p,0,none⟩),.pointer none,.pointer none,.pointer none,.pointer none,.pointer none]:=HY.o.put 0 _;have y4:(vq.setCell ⟨xx,0,none⟩ (.pointer (some ⟨p,0,none⟩))).cell? ⟨xx,4,none⟩=some (.pointer none):=MD.cell 4;have m4:=MD.mark 4;obtain⟨C9,QR⟩:=ae ((vq.setCell ⟨xx,0,none⟩ (.pointer (some ⟨p,0,none⟩))).setCell ⟨xx,4,none⟩ (.pointer (some ⟨vm,0,none⟩)));have XX:=aa (show aG C9 xx gK #[.pointer (some ⟨p,0,none⟩),.pointer none,.pointer none,.pointer none,.pointer (some ⟨vm,0,none⟩),.pointer none] by rw[←QR];exact MD.put 4 _);have ht:aI (· =xx) vq C9:=by rw[←QR];exact(aI.at vq xx 0 _).Cb 4 _
  have rB: ∀ A l c,(#[.pointer none,.pointer none,.pointer none,.pointer none,.pointer none,.pointer none]:Array Value)[0]?≠some (.slice A l c):=fun A l c h=>by simp at h
  have Z':=zw.o;have hma:=HMA.o;have HA:=aa (ht.arr HA.o aj);have HX:=aa (ht.arr HX.o aj);have HL:=aa (ht.arr HL.o aj);have HD:=aa ((aD p _).cO HD.o ht (fun j hj c=>Fq));have HV:=aa (HV.o.put HY.o rB ht);have HB:=aa (aI.fresh ht HB.o (fun j hj=>E5));have aiC:=aa ht.size;have HY:=XX;clear ht rB Z' hma XX MD;go_upto_region 17 with fail
  try rw[QR]
  clear QR y0 y4 m0 m4;have c5:=HX.o.cl 5;go_wp2_with fail;refine ag (Nb.o _) ?_;clear c5;go_upto_region 23 with fail
  have gi:=aa (show ∀ W,aG W xx gK #[.pointer (some ⟨p,0,none⟩),.pointer none,.pointer none,.pointer none,.pointer (some ⟨vm,0,none⟩),.pointer none]→aG W xl 122 #[.int .i64 m,.int .i64 0,.int .i64 k,.int .i64 k,.int .i64 k,.int .i64 (2*(k:Int)),.int .i64 ((n:Int) - 2*(k:Int))]→(W.cell? ⟨xx,0,none⟩=some (.pointer (some ⟨p,0,none⟩))∧W.rangeAt xl 1 [.int .i64 0,.int .i64 k])from fun W h1 h2=>⟨h1.cell 0,fun i u hi=>DD⟩);obtain⟨wd,hwd⟩:=ae C9.drew;have hb:Below C9.heap.size C9 wd:=mS;have wP:=hb.size;have HA:=aa (HA.o.ai hb);have HB:=HB.dP hb;have HX:=aa (HX.o.ai hb);have HL:=aa (HL.o.ai hb);have HD:=aa ((aD p _).ak HD.o hb);have HV:=aa (HV.o.ai hb);have HY:=aa (HY.o.ai hb);clear hb;refine wp_region_held_drew (S:=(fun W=>W.cell? ⟨xx,0,none⟩=some (.pointer (some ⟨p,0,none⟩))∧W.rangeAt xl 1 [.int .i64 0,.int .i64 k])) br xH (fun hHeld=>?_);rw[hwd] at hHeld ⊢;clear hwd;refine lu 0 1 2 3 ?_;refine ty 4 ?_;refine eZ 5 (some 132) hHeld 120 (.tmp 131) xl 1 [.int .i64 0,.int .i64 k] _ (fun w' h=>h.2) tD rfl ny ?_;try simp only[aY]
  refine cG 6 fun K hK=>?_
  go_simp;have Ju:Calls af 49 #[.pointer (some ⟨p,0,none⟩),.agg #[.int .i64 0,.int .i64 k]] wd (J' p ⟨0,k⟩ m wd):=by
   have hk9:=HK.o;have Dp:(⟨JV n m,false,-1,0⟩:bK).dk.df.length=n:=kO;have h9:=zW (g:=⟨0,k⟩) HD.o (by show 1≤k;omega) (by rw[Dp];show 0+(k)≤n;omega);exact h9
  refine Ju.mono ?_;rintro e SN ⟨ra,rfl,DZ,hrg,hb⟩;clear Ju;have fJ:=aa hrg;have HQ0:=aa (show wd.heap.size≤ra∧ra<SN.heap.size from⟨DZ,hrg.own.lt⟩);have adq:=aa (show C9.heap.size≤wd.heap.size from wP);clear DZ hrg;have HA:=aa (HA.o.ai hb);have HB:=HB.dP hb;have HX:=aa (HX.o.ai hb);have HL:=aa (HL.o.ai hb);have HD:=aa ((aD p _).ak HD.o hb);have HV:=aa (HV.o.ai hb);have HY:=aa (HY.o.ai hb);clear hb;go_wp2_with fail;refine bW hK xE fun KJ=>?_
  clear hK K;refine lu 7 8 9 10 ?_;refine ty 11 ?_;refine bO ?_;clear KJ hHeld gi wP;go_upto_region 24 with fail
  have gi:=aa (show ∀ W,aG W xx gK #[.pointer (some ⟨p,0,none⟩),.pointer none,.pointer none,.pointer none,.pointer (some ⟨vm,0,none⟩),.pointer none]→aG W xl 122 #[.int .i64 m,.int .i64 0,.int .i64 k,.int .i64 k,.int .i64 k,.int .i64 (2*(k:Int)),.int .i64 ((n:Int) - 2*(k:Int))]→(W.cell? ⟨xx,0,none⟩=some (.pointer (some ⟨p,0,none⟩))∧W.rangeAt xl 3 [.int .i64 k,.int .i64 k])from fun W h1 h2=>⟨h1.cell 0,fun i u hi=>DD⟩);obtain⟨wd,hwd⟩:=ae SN.drew;have hb:Below SN.heap.size SN wd:=mS;have wP:=hb.size;have HA:=aa (HA.o.ai hb);have HB:=HB.dP hb;have HX:=aa (HX.o.ai hb);have HL:=aa (HL.o.ai hb);have HD:=aa ((aD p _).ak HD.o hb);have HV:=aa (HV.o.ai hb);have HY:=aa (HY.o.ai hb);have fJ:=aa (fJ.o.ai hb);clear hb;refine wp_region_held_drew (S:=(fun W=>W.cell? ⟨xx,0,none⟩=some (.pointer (some ⟨p,0,none⟩))∧W.rangeAt xl 3 [.int .i64 k,.int .i64 k])) br xH (fun hHeld=>?_);rw[hwd] at hHeld ⊢;clear hwd;refine lu 0 1 2 3 ?_;refine ty 4 ?_;refine eZ 5 (some 142) hHeld 120 (.tmp 141) xl 3 [.int .i64 k,.int .i64 k] _ (fun w' h=>h.2) tD rfl ny ?_;try simp only[aY]
  refine cG 6 fun K hK=>?_
  go_simp;have Ju:Calls af 49 #[.pointer (some ⟨p,0,none⟩),.agg #[.int .i64 k,.int .i64 k]] wd (J' p ⟨k,k⟩ m wd):=by
   have hk9:=HK.o;have Dp:(⟨JV n m,false,-1,0⟩:bK).dk.df.length=n:=kO;have h9:=zW (g:=⟨k,k⟩) HD.o (by show 1≤k;omega) (by rw[Dp];show k+(k)≤n;omega);exact h9
  refine Ju.mono ?_;rintro e ZA ⟨rb,rfl,DZ,hrg,hb⟩;clear Ju;have gF:=aa hrg;have vz:=aa (show wd.heap.size≤rb∧rb<ZA.heap.size from⟨DZ,hrg.own.lt⟩);have adp:=aa (show SN.heap.size≤wd.heap.size from wP);clear DZ hrg;have HA:=aa (HA.o.ai hb);have HB:=HB.dP hb;have HX:=aa (HX.o.ai hb);have HL:=aa (HL.o.ai hb);have HD:=aa ((aD p _).ak HD.o hb);have HV:=aa (HV.o.ai hb);have HY:=aa (HY.o.ai hb);have fJ:=aa (fJ.o.ai hb);clear hb;go_wp2_with fail;refine bW hK xE fun KJ=>?_
  clear hK K;refine lu 7 8 9 10 ?_;refine ty 11 ?_;refine bO ?_;clear KJ hHeld gi wP;go_upto_region 25 with fail
  have gi:=aa (show ∀ W,aG W xx gK #[.pointer (some ⟨p,0,none⟩),.pointer none,.pointer none,.pointer none,.pointer (some ⟨vm,0,none⟩),.pointer none]→aG W xl 122 #[.int .i64 m,.int .i64 0,.int .i64 k,.int .i64 k,.int .i64 k,.int .i64 (2*(k:Int)),.int .i64 ((n:Int) - 2*(k:Int))]→(W.cell? ⟨xx,0,none⟩=some (.pointer (some ⟨p,0,none⟩))∧W.rangeAt xl 5 [.int .i64 (2*(k:Int)),.int .i64 ((n:Int) - 2*(k:Int))])from fun W h1 h2=>⟨h1.cell 0,fun i u hi=>DD⟩);obtain⟨wd,hwd⟩:=ae ZA.drew;have hb:Below ZA.heap.size ZA wd:=mS;have wP:=hb.size;have HA:=aa (HA.o.ai hb);have HB:=HB.dP hb;have HX:=aa (HX.o.ai hb);have HL:=aa (HL.o.ai hb);have HD:=aa ((aD p _).ak HD.o hb);have HV:=aa (HV.o.ai hb);have HY:=aa (HY.o.ai hb);have fJ:=aa (fJ.o.ai hb);have gF:=aa (gF.o.ai hb);clear hb;refine wp_region_held_drew (S:=(fun W=>W.cell? ⟨xx,0,none⟩=some (.pointer (some ⟨p,0,none⟩))∧W.rangeAt xl 5 [.int .i64 (2*(k:Int)),.int .i64 ((n:Int) - 2*(k:Int))])) br xH (fun hHeld=>?_);rw[hwd] at hHeld ⊢;clear hwd;refine lu 0 1 2 3 ?_;refine ty 4 ?_;refine eZ 5 (some 152) hHeld 120 (.tmp 151) xl 5 [.int .i64 (2*(k:Int)),.int .i64 ((n:Int) - 2*(k:Int))] _ (fun w' h=>h.2) tD rfl ny ?_;try simp only[aY]
  refine cG 6 fun K hK=>?_
  go_simp;have Ju:Calls af 49 #[.pointer (some ⟨p,0,none⟩),.agg #[.int .i64 (2*(k:Int)),.int .i64 ((n:Int) - 2*(k:Int))]] wd (J' p ⟨2*k,n - 2*k⟩ m wd):=by
   have hk9:=HK.o;have Dp:(⟨JV n m,false,-1,0⟩:bK).dk.df.length=n:=kO;have h9:=zW (g:=⟨2*k,n - 2*k⟩) HD.o (by show 1≤n - 2*k;omega) (by rw[Dp];show 2*k+(n - 2*k)≤n;omega);exact Vs
  refine Ju.mono ?_;rintro e w14 ⟨rl,rfl,DZ,hrg,hb⟩;clear Ju;have iC:=aa hrg;have rI:=aa (show wd.heap.size≤rl∧rl<w14.heap.size from⟨DZ,hrg.own.lt⟩);have ado:=aa (show ZA.heap.size≤wd.heap.size from wP);clear DZ hrg;have HA:=aa (HA.o.ai hb);have HB:=HB.dP hb;have HX:=aa (HX.o.ai hb);have HL:=aa (HL.o.ai hb);have HD:=aa ((aD p _).ak HD.o hb);have HV:=aa (HV.o.ai hb);have HY:=aa (HY.o.ai hb);have fJ:=aa (fJ.o.ai hb);have gF:=aa (gF.o.ai hb);clear hb;go_wp2_with fail;refine bW hK xE fun KJ=>?_
  clear hK K;refine lu 7 8 9 10 ?_;refine ty 11 ?_;refine bO ?_;clear KJ hHeld gi wP;go_upto_region 26 with fail
  have gi:=aa (show ∀ W,aG W xx gK #[.pointer (some ⟨p,0,none⟩),.pointer none,.pointer none,.pointer none,.pointer (some ⟨vm,0,none⟩),.pointer none]→aG W xl 122 #[.int .i64 m,.int .i64 0,.int .i64 k,.int .i64 k,.int .i64 k,.int .i64 (2*(k:Int)),.int .i64 ((n:Int) - 2*(k:Int))]→(W.cell? ⟨xx,4,none⟩=some (.pointer (some ⟨vm,0,none⟩))∧W.rangeAt xl 1 [.int .i64 0,.int .i64 k])from fun W h1 h2=>⟨h1.cell 4,fun i u hi=>DD⟩);obtain⟨wd,hwd⟩:=ae w14.drew;have hb:Below w14.heap.size w14 wd:=mS;have wP:=hb.size;have HA:=aa (HA.o.ai hb);have HB:=HB.dP hb;have HX:=aa (HX.o.ai hb);have HL:=aa (HL.o.ai hb);have HD:=aa ((aD p _).ak HD.o hb);have HV:=aa (HV.o.ai hb);have HY:=aa (HY.o.ai hb);have fJ:=aa (fJ.o.ai hb);have gF:=aa (gF.o.ai hb);have iC:=aa (iC.o.ai hb);clear hb;refine wp_region_held_drew (S:=(fun W=>W.cell? ⟨xx,4,none⟩=some (.pointer (some ⟨vm,0,none⟩))∧W.rangeAt xl 1 [.int .i64 0,.int .i64 k])) br xH (fun hHeld=>?_);rw[hwd] at hHeld ⊢;clear hwd;refine lu 0 1 2 3 ?_;refine ty 4 ?_;refine eZ 5 (some 162) hHeld 120 (.tmp 161) xl 1 [.int .i64 0,.int .i64 k] _ (fun w' h=>h.2) tD rfl ny ?_;try simp only[aY]
  refine cG 6 fun K hK=>?_
  go_simp;have Ju:Calls af 50 #[.pointer (some ⟨vm,0,none⟩),.agg #[.int .i64 0,.int .i64 k]] wd (fun e w'=>∃ r,e= .returned (.tuple #[.pointer (some ⟨r,0,none⟩),.int .i64 0])∧Ci w' r vm kd n m (0) (k)∧wd.heap.size≤r∧Below wd.heap.size wd w'):=by
   have hk9:=HK.o;have h9:=Gl (f:=0) (c:=k) HV.o aj aj aj;exact h9
  refine Ju.mono ?_;rintro e w15 ⟨qa,rfl,hrg,DZ,hb⟩;clear Ju DZ;have jw:=aa hrg;have adn:=aa (show w14.heap.size≤w15.heap.size from aT wP hb.size);clear hrg;have HA:=aa (HA.o.ai hb);have HB:=HB.dP hb;have HX:=aa (HX.o.ai hb);have HL:=aa (HL.o.ai hb);have HD:=aa ((aD p _).ak HD.o hb);have HV:=aa (HV.o.ai hb);have HY:=aa (HY.o.ai hb);have fJ:=aa (fJ.o.ai hb);have gF:=aa (gF.o.ai hb);have iC:=aa (iC.o.ai hb);clear hb;go_wp2_with fail;refine bW hK xE fun KJ=>?_
  clear hK K;refine lu 7 8 9 10 ?_;refine ty 11 ?_;refine bO ?_;clear KJ hHeld gi wP;go_upto_region 27 with fail
  have gi:=aa (show ∀ W,aG W xx gK #[.pointer (some ⟨p,0,none⟩),.pointer none,.pointer none,.pointer none,.pointer (some ⟨vm,0,none⟩),.pointer none]→aG W xl 122 #[.int .i64 m,.int .i64 0,.int .i64 k,.int .i64 k,.int .i64 k,.int .i64 (2*(k:Int)),.int .i64 ((n:Int) - 2*(k:Int))]→(W.cell? ⟨xx,4,none⟩=some (.pointer (some ⟨vm,0,none⟩))∧W.rangeAt xl 3 [.int .i64 k,.int .i64 k])from fun W h1 h2=>⟨h1.cell 4,fun i u hi=>DD⟩);obtain⟨wd,hwd⟩:=ae w15.drew;have hb:Below w15.heap.size w15 wd:=mS;have wP:=hb.size;have HA:=aa (HA.o.ai hb);have HB:=HB.dP hb;have HX:=aa (HX.o.ai hb);have HL:=aa (HL.o.ai hb);have HD:=aa ((aD p _).ak HD.o hb);have HV:=aa (HV.o.ai hb);have HY:=aa (HY.o.ai hb);have fJ:=aa (fJ.o.ai hb);have gF:=aa (gF.o.ai hb);have iC:=aa (iC.o.ai hb);have jw:=aa (jw.o.ai hb);clear hb;refine wp_region_held_drew (S:=(fun W=>W.cell? ⟨xx,4,none⟩=some (.pointer (some ⟨vm,0,none⟩))∧W.rangeAt xl 3 [.int .i64 k,.int .i64 k])) br xH (fun hHeld=>?_);rw[hwd] at hHeld ⊢;clear hwd;refine lu 0 1 2 3 ?_;refine ty 4 ?_;refine eZ 5 (some 172) hHeld 120 (.tmp 171) xl 3 [.int .i64 k,.int .i64 k] _ (fun w' h=>h.2) tD rfl ny ?_;try simp only[aY]
  refine cG 6 fun K hK=>?_
  go_simp;have Ju:Calls af 50 #[.pointer (some ⟨vm,0,none⟩),.agg #[.int .i64 k,.int .i64 k]] wd (fun e w'=>∃ r,e= .returned (.tuple #[.pointer (some ⟨r,0,none⟩),.int .i64 0])∧Ci w' r vm kd n m (k) (k)∧wd.heap.size≤r∧Below wd.heap.size wd w'):=by
   have hk9:=HK.o;have h9:=Gl (f:=k) (c:=k) HV.o aj aj aj;exact h9
  refine Ju.mono ?_;rintro e w16 ⟨qb,rfl,hrg,DZ,hb⟩;clear Ju DZ;have kF:=aa hrg;have adm:=aa (show w15.heap.size≤w16.heap.size from aT wP hb.size);clear hrg;have HA:=aa (HA.o.ai hb);have HB:=HB.dP hb;have HX:=aa (HX.o.ai hb);have HL:=aa (HL.o.ai hb);have HD:=aa ((aD p _).ak HD.o hb);have HV:=aa (HV.o.ai hb);have HY:=aa (HY.o.ai hb);have fJ:=aa (fJ.o.ai hb);have gF:=aa (gF.o.ai hb);have iC:=aa (iC.o.ai hb);have jw:=aa (jw.o.ai hb);clear hb;go_wp2_with fail;refine bW hK xE fun KJ=>?_
  clear hK K;refine lu 7 8 9 10 ?_;refine ty 11 ?_;refine bO ?_;clear KJ hHeld gi wP;go_upto_region 28 with fail
  have gi:=aa (show ∀ W,aG W xx gK #[.pointer (some ⟨p,0,none⟩),.pointer none,.pointer none,.pointer none,.pointer (some ⟨vm,0,none⟩),.pointer none]→aG W xl 122 #[.int .i64 m,.int .i64 0,.int .i64 k,.int .i64 k,.int .i64 k,.int .i64 (2*(k:Int)),.int .i64 ((n:Int) - 2*(k:Int))]→(W.cell? ⟨xx,4,none⟩=some (.pointer (some ⟨vm,0,none⟩))∧W.rangeAt xl 5 [.int .i64 (2*(k:Int)),.int .i64 ((n:Int) - 2*(k:Int))])from fun W h1 h2=>⟨h1.cell 4,fun i u hi=>DD⟩);obtain⟨wd,hwd⟩:=ae w16.drew;have hb:Below w16.heap.size w16 wd:=mS;have wP:=hb.size;have HA:=aa (HA.o.ai hb);have HB:=HB.dP hb;have HX:=aa (HX.o.ai hb);have HL:=aa (HL.o.ai hb);have HD:=aa ((aD p _).ak HD.o hb);have HV:=aa (HV.o.ai hb);have HY:=aa (HY.o.ai hb);have fJ:=aa (fJ.o.ai hb);have gF:=aa (gF.o.ai hb);have iC:=aa (iC.o.ai hb);have jw:=aa (jw.o.ai hb);have kF:=aa (kF.o.ai hb);clear hb;refine wp_region_held_drew (S:=(fun W=>W.cell? ⟨xx,4,none⟩=some (.pointer (some ⟨vm,0,none⟩))∧W.rangeAt xl 5 [.int .i64 (2*(k:Int)),.int .i64 ((n:Int) - 2*(k:Int))])) br xH (fun hHeld=>?_);rw[hwd] at hHeld ⊢;clear hwd;refine lu 0 1 2 3 ?_;refine ty 4 ?_;refine eZ 5 (some 182) hHeld 120 (.tmp 181) xl 5 [.int .i64 (2*(k:Int)),.int .i64 ((n:Int) - 2*(k:Int))] _ (fun w' h=>h.2) tD rfl ny ?_;try simp only[aY]
  refine cG 6 fun K hK=>?_
  go_simp;have Ju:Calls af 50 #[.pointer (some ⟨vm,0,none⟩),.agg #[.int .i64 (2*(k:Int)),.int .i64 ((n:Int) - 2*(k:Int))]] wd (fun e w'=>∃ r,e= .returned (.tuple #[.pointer (some ⟨r,0,none⟩),.int .i64 0])∧Ci w' r vm kd n m (2*k) (n - 2*k)∧wd.heap.size≤r∧Below wd.heap.size wd w'):=by
   have hk9:=HK.o;have h9:=Gl (f:=2*k) (c:=n - 2*k) HV.o aj aj aj;exact Vs
  refine Ju.mono ?_;rintro e w17 ⟨ql,rfl,hrg,DZ,hb⟩;clear Ju DZ;have jv:=aa hrg;have adl:=aa (show w16.heap.size≤w17.heap.size from aT wP hb.size);clear hrg;have HA:=aa (HA.o.ai hb);have HB:=HB.dP hb;have HX:=aa (HX.o.ai hb);have HL:=aa (HL.o.ai hb);have HD:=aa ((aD p _).ak HD.o hb);have HV:=aa (HV.o.ai hb);have HY:=aa (HY.o.ai hb);have fJ:=aa (fJ.o.ai hb);have gF:=aa (gF.o.ai hb);have iC:=aa (iC.o.ai hb);have jw:=aa (jw.o.ai hb);have kF:=aa (kF.o.ai hb);clear hb;go_wp2_with fail;refine bW hK xE fun KJ=>?_
  clear hK K;refine lu 7 8 9 10 ?_;refine ty 11 ?_;refine bO ?_;clear KJ hHeld gi wP;go_upto_region 29 with fail
  go_wp2_with fail;refine(Pe (sl:=⟨⟨0,k⟩,⟨k,k⟩⟩) fJ.o gF.o rfl HK.o.1).mono ?_;rintro e w18 ⟨sl,rfl,gJ,Mn,hb⟩;have pY:=aa Mn;have HQS:=aa (show w17.heap.size≤sl∧sl<w18.heap.size from⟨gJ,Mn.own.lt⟩);clear gJ Mn;have HA:=aa (HA.o.ai hb);have HB:=HB.dP hb;have HX:=aa (HX.o.ai hb);have HL:=aa (HL.o.ai hb);have HD:=aa ((aD p _).ak HD.o hb);have HV:=aa (HV.o.ai hb);have HY:=aa (HY.o.ai hb);have fJ:=aa (fJ.o.ai hb);have gF:=aa (gF.o.ai hb);have iC:=aa (iC.o.ai hb);have jw:=aa (jw.o.ai hb);have kF:=aa (kF.o.ai hb);have jv:=aa (jv.o.ai hb);clear hb;have c3:=HX.o.cl 3;have c4:=HX.o.cl 4;go_wp2_with fail;clear c3 c4;refine(Pm iC.o ep sq HEP.o.1 HEP.o.2).mono ?_;rintro e YX ⟨lq,rfl,hl9,hlg,hb⟩;have Cx:=aa hlg;have HQL:=aa (show w18.heap.size≤lq∧lq<YX.heap.size from⟨hl9,(cE _ _ _ _ _ _).lt hlg lq (.inl rfl)⟩);clear hl9 hlg;have HA:=aa (HA.o.ai hb);have HB:=HB.dP hb;have HX:=aa (HX.o.ai hb);have HL:=aa (HL.o.ai hb);have HD:=aa ((aD p _).ak HD.o hb);have HV:=aa (HV.o.ai hb);have HY:=aa (HY.o.ai hb);have fJ:=aa (fJ.o.ai hb);have gF:=aa (gF.o.ai hb);have iC:=aa (iC.o.ai hb);have jw:=aa (jw.o.ai hb);have kF:=aa (kF.o.ai hb);have jv:=aa (jv.o.ai hb);have pY:=aa (pY.o.ai hb);clear hb;go_wp2_with (refine aC rfl 80 _ rfl xs 80 _ HA.o rfl _ oQ rfl dA ?_);refine(Zq.o YX).mono ?_;rintro e Ix ⟨bk,TT,qq,rfl,cL,hTT,hb⟩;have fC:=aa (show Bk.fK TT Ix bk ⟨a,b,c,1,0,[]⟩from⟨qq,cL⟩);have HTR:=aa (show ∀ j,TT j→YX.heap.size≤j∧j<Ix.heap.size from fun j hj=>⟨hTT j hj,cL.bf.lt j hj⟩);have afK:=aa hb.size;clear cL hTT;have HA:=aa (HA.o.ai hb);have HB:=HB.dP hb;have HX:=aa (HX.o.ai hb);have HL:=aa (HL.o.ai hb);have HD:=aa ((aD p _).ak HD.o hb);have HV:=aa (HV.o.ai hb);have HY:=aa (HY.o.ai hb);have fJ:=aa (fJ.o.ai hb);have gF:=aa (gF.o.ai hb);have iC:=aa (iC.o.ai hb);have jw:=aa (jw.o.ai hb);have kF:=aa (kF.o.ai hb);have jv:=aa (jv.o.ai hb);have pY:=aa (pY.o.ai hb);have Cx:=aa ((cE _ _ _ _ _ _).ak Cx.o hb);clear hb;have RJ:=aa (show xx<ra∧xx<rb∧xx<rl∧xx<sl∧xx<lq∧xx<YX.heap.size∧vm<ra∧ra<rb∧rb<rl∧rl<sl∧sl<lq∧lq<YX.heap.size from by have h1:=HMA.o;have h2:=aiC.o;have a1:=adq.o;have a2:=adp.o;have a3:=ado.o;have a4:=adn.o;have a5:=adm.o;have a6:=adl.o;have q0:=HQ0.o;have q1:=vz.o;have q2:=rI.o;have q3:=HQS.o;have q4:=HQL.o;omega);clear aiC adq adp ado adn adm adl HQ0 vz rI HQS HQL;go_upto_region 36 with fail
  have O3:=HY.o;have yy0:(Ix).cell? ⟨xx,2,none⟩=some (.pointer none):=O3.cell 2;have mm0:=O3.mark 2;have MD:aG ((Ix).setCell ⟨xx,2,none⟩ (.pointer (some ⟨rl,0,none⟩))) xx gK #[.pointer (some ⟨p,0,none⟩),.pointer none,.pointer (some ⟨rl,0,none⟩),.pointer none,.pointer (some ⟨vm,0,none⟩),.pointer none]:=O3.put 2 _;have yy1:((Ix).setCell ⟨xx,2,none⟩ (.pointer (some ⟨rl,0,none⟩))).cell? ⟨xx,3,none⟩=some (.pointer none):=MD.cell 3;have mm1:=MD.mark 3;have hY2:aG (((Ix).setCell ⟨xx,2,none⟩ (.pointer (some ⟨rl,0,none⟩))).setCell ⟨xx,3,none⟩ (.pointer (some ⟨sl,0,none⟩))) xx gK #[.pointer (some ⟨p,0,none⟩),.pointer none,.pointer (some ⟨rl,0,none⟩),.pointer (some ⟨sl,0,none⟩),.pointer (some ⟨vm,0,none⟩),.pointer none]:=MD.put 3 _;obtain⟨R4,jH⟩:=ae (((Ix).setCell ⟨xx,2,none⟩ (.pointer (some ⟨rl,0,none⟩))).setCell ⟨xx,3,none⟩ (.pointer (some ⟨sl,0,none⟩)));have XX:=aa (show aG R4 xx gK #[.pointer (some ⟨p,0,none⟩),.pointer none,.pointer (some ⟨rl,0,none⟩),.pointer (some ⟨sl,0,none⟩),.pointer (some ⟨vm,0,none⟩),.pointer none] by rw[←jH];exact hY2);have ht:aI (· =xx) Ix R4:=by rw[←jH];exact(aI.at Ix xx 2 _).Cb 3 _
  have rB: ∀ A l c,(#[.pointer (some ⟨p,0,none⟩),.pointer none,.pointer none,.pointer none,.pointer (some ⟨vm,0,none⟩),.pointer none]:Array Value)[0]?≠some (.slice A l c):=fun A l c h=>by simp at h
  have Z':=zw.o;have hma:=HMA.o;have ho:=RJ.o;have wP:=ht.size;have HA:=aa (ht.arr HA.o aj);have HB:=aa (aI.fresh ht HB.o (fun j hj=>E5));have HX:=aa (ht.arr HX.o aj);have HL:=aa (ht.arr HL.o aj);have HD:=aa ((aD p _).cO HD.o ht (fun j hj c=>Fq));have HV:=aa (PD.put HV.o HY.o rB ht);have fJ:=aa (fT.cO fJ.o ht (fun c=>jn));have gF:=aa (fT.cO gF.o ht (fun c=>jn));have iC:=aa (fT.cO iC.o ht (fun c=>jn));have jw:=aa (Ci.put jw.o HY.o rB ht);have kF:=aa (Ci.put kF.o HY.o rB ht);have jv:=aa (Ci.put jv.o HY.o rB ht);have pY:=aa (qH.cO pY.o ht (fun c=>jn) (fun c=>jn) (fun c=>jn));have Cx:=aa ((cE _ _ _ _ _ _).cO Cx.o ht (fun j hj c=>LI));have fC:=aa (En.iJ fC.o ht (fun j hj c=>LD));have adk:=aa (show Ix.heap.size≤R4.heap.size from wP);have HY:=XX;clear ht rB Z' hma ho wP XX O3 MD hY2;go_upto_region 37 with fail
  try rw[jH]
  clear jH yy0 mm0 yy1 mm1;go_wp2_with fail;obtain⟨lv,hlv⟩:=Cx.o;obtain⟨bq,hbq⟩:=fC.o;refine(Pj hlv pY.o hbq.bf ⟨HAB.o.1.1,HAB.o.1.2⟩).mono ?_;rintro e w22 ⟨ee,mb,rfl,hE,hM,hee,Y3,hb⟩;clear hlv hbq;have HE:=aa hE;have Gp:=aa hM;have HEM:=aa (show YX.heap.size≤Ix.heap.size∧Ix.heap.size≤ee∧Ix.heap.size≤mb∧ee≠mb from⟨afK.o,aT adk.o hee,aT adk.o Y3,aif hE hM⟩);clear hE hM hee Y3;have HA:=aa (HA.o.ai hb);have HB:=HB.dP hb;have HX:=aa (HX.o.ai hb);have HL:=aa (HL.o.ai hb);have HD:=aa ((aD p _).ak HD.o hb);have HV:=aa (HV.o.ai hb);have HY:=aa (HY.o.ai hb);have fJ:=aa (fJ.o.ai hb);have gF:=aa (gF.o.ai hb);have iC:=aa (iC.o.ai hb);have jw:=aa (jw.o.ai hb);have kF:=aa (kF.o.ai hb);have jv:=aa (jv.o.ai hb);have pY:=aa (pY.o.ai hb);have Cx:=aa ((cE _ _ _ _ _ _).ak Cx.o hb);have fC:=aa (lH fC.o hb);clear hb;have RJ:=aa (show xx<ra∧xx<rb∧xx<rl∧xx<sl∧xx<lq∧xx<YX.heap.size∧vm<ra∧ra<rb∧rb<rl∧rl<sl∧sl<lq∧lq<YX.heap.size∧YX.heap.size≤Ix.heap.size∧Ix.heap.size≤ee∧Ix.heap.size≤mb from by have:=RJ.o;have:=HEM.o;omega);have O3:=HY.o;have yy0:(w22).cell? ⟨xx,1,none⟩=some (.pointer none):=O3.cell 1;have mm0:=O3.mark 1;have MD:aG ((w22).setCell ⟨xx,1,none⟩ (.pointer (some ⟨ee,0,none⟩))) xx gK #[.pointer (some ⟨p,0,none⟩),.pointer (some ⟨ee,0,none⟩),.pointer (some ⟨rl,0,none⟩),.pointer (some ⟨sl,0,none⟩),.pointer (some ⟨vm,0,none⟩),.pointer none]:=O3.put 1 _;obtain⟨w23,jH⟩:=ae ((w22).setCell ⟨xx,1,none⟩ (.pointer (some ⟨ee,0,none⟩)));have XX:=aa (show aG w23 xx gK #[.pointer (some ⟨p,0,none⟩),.pointer (some ⟨ee,0,none⟩),.pointer (some ⟨rl,0,none⟩),.pointer (some ⟨sl,0,none⟩),.pointer (some ⟨vm,0,none⟩),.pointer none] by rw[←jH];exact MD);have ht:aI (· =xx) w22 w23:=by rw[←jH];exact aI.at w22 xx 1 _
  have rB: ∀ A l c,(#[.pointer (some ⟨p,0,none⟩),.pointer none,.pointer (some ⟨rl,0,none⟩),.pointer (some ⟨sl,0,none⟩),.pointer (some ⟨vm,0,none⟩),.pointer none]:Array Value)[0]?≠some (.slice A l c):=fun A l c h=>by simp at h
  have Z':=zw.o;have hma:=HMA.o;have ho:=RJ.o;have wP:=ht.size;have HA:=aa (ht.arr HA.o aj);have HB:=aa (aI.fresh ht HB.o (fun j hj=>E5));have HX:=aa (ht.arr HX.o aj);have HL:=aa (ht.arr HL.o aj);have HD:=aa ((aD p _).cO HD.o ht (fun j hj c=>Fq));have HV:=aa (PD.put HV.o HY.o rB ht);have fJ:=aa (fT.cO fJ.o ht (fun c=>jn));have gF:=aa (fT.cO gF.o ht (fun c=>jn));have iC:=aa (fT.cO iC.o ht (fun c=>jn));have jw:=aa (Ci.put jw.o HY.o rB ht);have kF:=aa (Ci.put kF.o HY.o rB ht);have jv:=aa (Ci.put jv.o HY.o rB ht);have pY:=aa (qH.cO pY.o ht (fun c=>jn) (fun c=>jn) (fun c=>jn));have Cx:=aa ((cE _ _ _ _ _ _).cO Cx.o ht (fun j hj c=>LI));have fC:=aa (En.iJ fC.o ht (fun j hj c=>LD));have HE:=aa (ik.agB HE.o ht (fun c=>jn));have Gp:=aa (ju.abT Gp.o ht (fun c=>jn));have alU:=aa (show w22.heap.size≤w23.heap.size from wP);have HY:=XX;clear ht rB Z' hma ho wP XX O3 MD;go_upto_region 38 with fail
  try rw[jH]
  clear jH yy0 mm0;go_wp2_with fail;refine(XP jw.o kF.o HK.o.1 Ba Ba).mono ?_;rintro e w24 ⟨qs,rfl,hq,hqz,hb⟩;clear hq hqz;have HA:=aa (HA.o.ai hb);have HB:=HB.dP hb;have HX:=aa (HX.o.ai hb);have HL:=aa (HL.o.ai hb);have HD:=aa ((aD p _).ak HD.o hb);have HV:=aa (HV.o.ai hb);have HY:=aa (HY.o.ai hb);have fJ:=aa (fJ.o.ai hb);have gF:=aa (gF.o.ai hb);have iC:=aa (iC.o.ai hb);have jw:=aa (jw.o.ai hb);have kF:=aa (kF.o.ai hb);have jv:=aa (jv.o.ai hb);have pY:=aa (pY.o.ai hb);have Cx:=aa ((cE _ _ _ _ _ _).ak Cx.o hb);have fC:=aa (lH fC.o hb);have HE:=aa (ik.Jd HE.o hb);have Gp:=aa (Gp.o.ai hb);clear hb;go_wp2_with (refine aC rfl 80 _ rfl xs 80 _ HA.o rfl _ oQ rfl dA ?_);refine(aln.o w24).mono ?_;rintro e w25 ⟨qk,rfl,hq,hqz,hb⟩;clear hq hqz;have HA:=aa (HA.o.ai hb);have HB:=HB.dP hb;have HX:=aa (HX.o.ai hb);have HL:=aa (HL.o.ai hb);have HD:=aa ((aD p _).ak HD.o hb);have HV:=aa (HV.o.ai hb);have HY:=aa (HY.o.ai hb);have fJ:=aa (fJ.o.ai hb);have gF:=aa (gF.o.ai hb);have iC:=aa (iC.o.ai hb);have jw:=aa (jw.o.ai hb);have kF:=aa (kF.o.ai hb);have jv:=aa (jv.o.ai hb);have pY:=aa (pY.o.ai hb);have Cx:=aa ((cE _ _ _ _ _ _).ak Cx.o hb);have fC:=aa (lH fC.o hb);have HE:=aa (ik.Jd HE.o hb);have Gp:=aa (Gp.o.ai hb);clear hb;have c3:=HX.o.cl 3;have c4:=HX.o.cl 4;go_wp2_with fail;clear c3 c4;refine(XQ ql (ep:Int) (sq:Int) w25).mono ?_;rintro e w26 ⟨qg,rfl,hq,hqz,hb⟩;clear hq hqz;have HA:=aa (HA.o.ai hb);have HB:=HB.dP hb;have HX:=aa (HX.o.ai hb);have HL:=aa (HL.o.ai hb);have HD:=aa ((aD p _).ak HD.o hb);have HV:=aa (HV.o.ai hb);have HY:=aa (HY.o.ai hb);have fJ:=aa (fJ.o.ai hb);have gF:=aa (gF.o.ai hb);have iC:=aa (iC.o.ai hb);have jw:=aa (jw.o.ai hb);have kF:=aa (kF.o.ai hb);have jv:=aa (jv.o.ai hb);have pY:=aa (pY.o.ai hb);have Cx:=aa ((cE _ _ _ _ _ _).ak Cx.o hb);have fC:=aa (lH fC.o hb);have HE:=aa (ik.Jd HE.o hb);have Gp:=aa (Gp.o.ai hb);clear hb;go_wp2_with fail;refine(Rw qg qs qk w26).mono ?_;rintro e w27 ⟨vv,rfl,hq,hqz,hb⟩;clear hq hqz;have HA:=aa (HA.o.ai hb);have HB:=HB.dP hb;have HX:=aa (HX.o.ai hb);have HL:=aa (HL.o.ai hb);have HD:=aa ((aD p _).ak HD.o hb);have HV:=aa (HV.o.ai hb);have HY:=aa (HY.o.ai hb);have fJ:=aa (fJ.o.ai hb);have gF:=aa (gF.o.ai hb);have iC:=aa (iC.o.ai hb);have jw:=aa (jw.o.ai hb);have kF:=aa (kF.o.ai hb);have jv:=aa (jv.o.ai hb);have pY:=aa (pY.o.ai hb);have Cx:=aa ((cE _ _ _ _ _ _).ak Cx.o hb);have fC:=aa (lH fC.o hb);have HE:=aa (ik.Jd HE.o hb);have Gp:=aa (Gp.o.ai hb);clear hb;have O3:=HY.o;have yy0:(w27).cell? ⟨xx,5,none⟩=some (.pointer none):=O3.cell 5;have mm0:=O3.mark 5;have MD:aG ((w27).setCell ⟨xx,5,none⟩ (.pointer (some ⟨vv,0,none⟩))) xx gK #[.pointer (some ⟨p,0,none⟩),.pointer (some ⟨ee,0,none⟩),.pointer (some ⟨rl,0,none⟩),.pointer (some ⟨sl,0,none⟩),.pointer (some ⟨vm,0,none⟩),.pointer (some ⟨vv,0,none⟩)]:=O3.put 5 _;obtain⟨w28,jH⟩:=ae ((w27).setCell ⟨xx,5,none⟩ (.pointer (some ⟨vv,0,none⟩)));have XX:=aa (show aG w28 xx gK #[.pointer (some ⟨p,0,none⟩),.pointer (some ⟨ee,0,none⟩),.pointer (some ⟨rl,0,none⟩),.pointer (some ⟨sl,0,none⟩),.pointer (some ⟨vm,0,none⟩),.pointer (some ⟨vv,0,none⟩)] by rw[←jH];exact MD);have ht:aI (· =xx) w27 w28:=by rw[←jH];exact aI.at w27 xx 5 _
  have rB: ∀ A l c,(#[.pointer (some ⟨p,0,none⟩),.pointer (some ⟨ee,0,none⟩),.pointer (some ⟨rl,0,none⟩),.pointer (some ⟨sl,0,none⟩),.pointer (some ⟨vm,0,none⟩),.pointer none]:Array Value)[0]?≠some (.slice A l c):=fun A l c h=>by simp at h
  have Z':=zw.o;have hma:=HMA.o;have ho:=RJ.o;have wP:=ht.size;have HA:=aa (ht.arr HA.o aj);have HB:=aa (aI.fresh ht HB.o (fun j hj=>E5));have HX:=aa (ht.arr HX.o aj);have HL:=aa (ht.arr HL.o aj);have HD:=aa ((aD p _).cO HD.o ht (fun j hj c=>Fq));have HV:=aa (PD.put HV.o HY.o rB ht);have fJ:=aa (fT.cO fJ.o ht (fun c=>jn));have gF:=aa (fT.cO gF.o ht (fun c=>jn));have iC:=aa (fT.cO iC.o ht (fun c=>jn));have jw:=aa (Ci.put jw.o HY.o rB ht);have kF:=aa (Ci.put kF.o HY.o rB ht);have jv:=aa (Ci.put jv.o HY.o rB ht);have pY:=aa (qH.cO pY.o ht (fun c=>jn) (fun c=>jn) (fun c=>jn));have Cx:=aa ((cE _ _ _ _ _ _).cO Cx.o ht (fun j hj c=>LI));have fC:=aa (En.iJ fC.o ht (fun j hj c=>LD));have HE:=aa (ik.agB HE.o ht (fun c=>jn));have Gp:=aa (ju.abT Gp.o ht (fun c=>jn));have alT:=aa (show w27.heap.size≤w28.heap.size from wP);have HY:=XX;clear ht rB Z' hma ho wP XX O3 MD;go_upto_region 41 with fail
  try rw[jH]
  clear jH yy0 mm0;obtain⟨wd,hwd⟩:=ae w28.drew;have hb:Below w28.heap.size w28 wd:=mS;have HA:=aa (HA.o.ai hb);have HB:=HB.dP hb;have HX:=aa (HX.o.ai hb);have HL:=aa (HL.o.ai hb);have HD:=aa ((aD p _).ak HD.o hb);have HV:=aa (HV.o.ai hb);have HY:=aa (HY.o.ai hb);have fJ:=aa (fJ.o.ai hb);have gF:=aa (gF.o.ai hb);have iC:=aa (iC.o.ai hb);have jw:=aa (jw.o.ai hb);have kF:=aa (kF.o.ai hb);have jv:=aa (jv.o.ai hb);have pY:=aa (pY.o.ai hb);have Cx:=aa ((cE _ _ _ _ _ _).ak Cx.o hb);have fC:=aa (lH fC.o hb);have HE:=aa (ik.Jd HE.o hb);have Gp:=aa (Gp.o.ai hb);clear hb;refine wp_region_held_drew (S:=(fun W=>W.cell? ⟨xx,1,none⟩=some (.pointer (some ⟨ee,0,none⟩)))) br (by rw[hwd];exact HY.o.cell 1) (fun hHeld=>?_);rw[hwd] at hHeld ⊢;clear hwd;refine ov 0 1 2 3 4 5 6 7 ?_;refine lu 8 9 10 11 ?_;refine bO ?_;clear hHeld;have HF:=aa (show zY sh lg wide ep sq w (.returned (.tuple #[.pointer (some ⟨xx,0,none⟩),.bool true])) wd from by
   have ho:=RJ.o;have Z':=zw.o;have hma:=HMA.o;have hem:=HEM.o;have hz:=HB.o.size;have hsr:=HSR.o;have htr:=HTR.o;rw[show zY sh lg wide ep sq w=fun en w'=>∃ P,en= .returned (.tuple #[.pointer (some ⟨P.x,0,none⟩),.bool true])∧adg w w' (yY a b c n m k ep sq) P from by unfold zY;rw[HEQ.o]]
   classical
   obtain⟨aB,BL⟩: ∃ f:Nat→Nat,f=fun j=>if j=lq∨j=rl then 1 else if S j then 2 else if TT j then 3 else if j=ee then 5 else if j=mb then 6 else if j=sl∨j=ra∨j=rb then 7 else 0:=⟨_,rfl⟩
   have r1: ∀ j,(j=lq∨j=rl)→aB j=1:=fun j hj=>by rw[BL];exact if_pos hj
   have r2: ∀ j,S j→aB j=2:=fun j hj=>by
    have:=hsr j hj;rw[BL];show(if _ then _ else _)=_;rw[if_neg aj,if_pos hj]
   have nS: ∀ j,vm≤j→¬S j:=fun j h c=>by have:=(hsr j c).2;omega
   have r3: ∀ j,TT j→aB j=3:=fun j hj=>by
    have:=htr j hj;rw[BL];show(if _ then _ else _)=_;rw[if_neg aj,if_neg (nS j aj),if_pos hj]
   have nT1: ∀ j,j<YX.heap.size→¬TT j:=fun j h c=>by have:=(htr j c).1;omega
   have nT2: ∀ j,Ix.heap.size≤j→¬TT j:=fun j h c=>by have:=(htr j c).2;omega
   have r5:aB ee=5:=by rw[BL];show(if _ then _ else _)=_;rw[if_neg aj,if_neg (nS ee aj),if_neg (nT2 ee aj),if_pos rfl]
   have r6:aB mb=6:=by rw[BL];show(if _ then _ else _)=_;rw[if_neg aj,if_neg (nS mb aj),if_neg (nT2 mb aj),if_neg aj,if_pos rfl]
   have r7: ∀ j,(j=sl∨j=ra∨j=rb)→aB j=7:=fun j hj=>by rw[BL];show(if _ then _ else _)=_;rw[if_neg aj,if_neg (nS j aj),if_neg (nT1 j aj),if_neg aj,if_neg aj,if_pos hj]
   have rn: ∀ j,aB j≠0→j=lq∨j=rl∨S j∨TT j∨j=ee∨j=mb∨j=sl∨j=ra∨j=rb:=fun j hj=>by
    rw[BL] at hj;have D7:(if j=lq∨j=rl then 1 else if S j then 2 else if TT j then 3 else if j=ee then 5 else if j=mb then 6 else if j=sl∨j=ra∨j=rb then 7 else 0)≠0:=hj;by_cases a1:j=lq∨j=rl
    ·rcases a1 with a|a;exact .inl a;exact .inr (.inl a)
    by_cases a2:S j
    ·exact .inr (.inr (.inl a2))
    by_cases a3:TT j
    ·exact .inr (.inr (.inr (.inl a3)))
    by_cases a4:j=ee
    ·exact .inr (.inr (.inr (.inr (.inl a4))))
    by_cases a5:j=mb
    ·exact .inr (.inr (.inr (.inr (.inr (.inl a5)))))
    by_cases a6:j=sl∨j=ra∨j=rb
    ·exact .inr (.inr (.inr (.inr (.inr (.inr a6)))))
    rw[if_neg a1,if_neg a2,if_neg a3,if_neg a4,if_neg a5,if_neg a6] at D7;exact absurd rfl D7
   have rlo: ∀ j,aB j≠0→xx<j:=fun j hj=>by
    rcases rn j hj with h|h|h|h|h|h|h|h|h
    ·omega
    ·omega
    ·have:=(hsr j h).1;omega
    ·have:=(htr j h).1;omega
    all_goals omega
   have rlt: ∀ j,aB j≠0→j<wd.heap.size:=fun j hj=>by
    have q1:=(cE _ _ _ _ _ _).lt Cx.o;rcases rn j hj with h|h|h|h|h|h|h|h|h
    ·exact q1 j (.inl h)
    ·exact q1 j (.inr h)
    ·exact(aD p _).lt HD.o j h
    ·obtain⟨x,hx⟩:=fC.o;exact hx.bf.lt j h
    ·subst h;exact aG.lt HE.o
    ·subst h;exact Gp.o.lt
    ·subst h;exact pY.o.own.lt
    ·subst h;exact pY.o.a.own.lt
    subst h;exact pY.o.b.own.lt
   have agC: ∀ j,j<w.heap.size→aB j=0:=fun j hj=>by
    by_cases c:aB j=0
    ·exact c
    have:=rlo j c;omega
   refine⟨⟨xx,ee,vm,vv,⟨lq,rl,sl,ra,rb,p,bk,mb⟩,aB⟩,rfl,⟨HY.o,⟨⟨Gp.o,?_,?_,?_,pY.o,r5,r6,⟨r7 _ (.inl rfl),r7 _ (.inr (.inl rfl)),r7 _ (.inr (.inr rfl))⟩,rlt,CY.o.ai HB.o,Zk.o.ai HB.o,⟨agC _ CY.o.lt,agC _ Zk.o.lt⟩⟩,HE.o,aM.nil _ _ _ _ _⟩,fun j hj=>by have:=rlo j hj;show w.heap.size≤j;omega,?_,Z'.1,HB.o⟩⟩
   ·exact(cE _ _ _ _ _ _).mono Cx.o r1 (fun j (hj:aB j=1)=>rlt j (by rw[hj];decide))
   ·exact(aD p _).mono HD.o r2 (fun j (hj:aB j=2)=>rlt j (by rw[hj];decide))
   ·obtain⟨x,hx⟩:=fC.o;exact⟨x,hx.wide r3 (fun j (hj:aB j=3)=>rlt j (by rw[hj];decide))⟩
   show aB xx=0
   by_cases c:aB xx=0
   ·exact c
   have:=rlo xx c;omega)
  go_wp2_with fail;go_ret2;exact HF.o
end Rf
end
section
namespace Rf
def mg(b0 x e:Nat)(cs:Array Value)(q:sQ)(es:Es)(w W:World): Prop:=∃ aB wt,Live b0 aB W e q wt es∧aG W x gK cs∧aB x=0∧Below w.heap.size w W∧w.heap.size≤b0∧b0≤W.heap.size
variable{b0 x e n:Nat}{cs:Array Value}{w W:World}
theorem mg.ai{q:sQ}{es:Es}{W':World} (h:mg b0 x e cs q es w W)(hb:Below W.heap.size W W'): mg b0 x e cs q es w W':=by
 obtain⟨aB,wt,h1,h2,h3,h4,h5,h6⟩:=h;exact⟨aB,wt,h1.ak hb,h2.ai hb,h3,av h4 hb,h5,aT h6 hb.size⟩
theorem mg.one{q:sQ}{es:Es}(hc:cs[1]? =some (.pointer (some ⟨e,0,none⟩)))(h:mg b0 x e cs q es w W): W.cell? ⟨x,1,none⟩=some (.pointer (some ⟨e,0,none⟩)):=by
 obtain⟨_,_,_,h2,_⟩:=h;exact(h2.cell 1).trans hc
def XR(n:Nat)(R:World→Prop)(en:Ending)(w':World): Prop:=∃ A c,en= .returned (.slice A n c)∧R w'
theorem mg.JU{q:sQ}{es:Es}(h:mg b0 x e cs q es w W)(b:En.By)(A:Option Addr)(c:Nat)(hB:Bs W A b)(hA:rh A)(hl:b.length≤70368744177664)(BO:(En.bL b).2=0→(En.bL b).1.qc)(hn:(es.Ic b).1.length=n):
  Calls af 12 #[.pointer (some ⟨e,0,none⟩),.slice A b.length c] W (XR n (mg b0 x e cs q (es.Ic b).2 w)):=by
 obtain⟨aB,wt,h1,h2,h3,h4,h5,h6⟩:=h;refine(h1.JU h6 b A c hB hA hl BO).mono fun en W' ho=>?_
 obtain⟨v,G,C,z,eL,vC,rfl,hO,hz,hL,hlt,hr,ht⟩:=ho;obtain⟨A',c',hv⟩:=hO.row.any;refine⟨A',c',by rw[hv,List.length_map,hn],eL,vC,hL,ht.arr h2 (fun k=>k h3),Classical.byContradiction fun hne=>?_,En.Ez.base h1 h4 h5 ht,h5,aT h6 ht.size⟩;rcases hr x hne with k|k
 ·exact k h3
 ·have:=h2.lt;omega
theorem mg.ask{q:sQ}{es:Es}(h:mg b0 x e cs q es w W){rq:Rq}(hq:rq.qc)(A:Option Addr)(c:Nat)(hB:Bs W A (kW rq))(hA:rh A)(hn:(es.rep rq).1.length=n):
  Calls af 12 #[.pointer (some ⟨e,0,none⟩),.slice A (kW rq).length c] W (XR n (mg b0 x e cs q (es.rep rq).2 w)):=by
 have:=h.JU (kW rq) A c hB hA (by have:=(sY (q:=rq)).2;omega) (fun _=>by rw[En.xQ hq];exact hq) (n:=n) (by rw[es.Gf hq];exact hn)
 rwa [es.Gf hq] at this
theorem Ov{B:Nat} {A:Option Addr}{c:Nat}{xs:List Value}{e:TypeId}{s:Nat}(h:W.ownsRow B e s (.slice A n c) n xs): rh A:=by
 rcases h.2 with⟨hv,_⟩|⟨g,cap,cur,hv,_⟩
 ·injection hv with e1;subst e1;exact eP
 injection hv with e1;subst e1;exact cI _ _
theorem aaI(w:World): Bs (w.alloc (.cells #[.int .u8 0] 5)) (some ⟨w.heap.size,0,none⟩) [0]:=by
 refine jN.bs ⟨_,aG.fresh w _ _,fun j u hu=>?_⟩;have h9:(#[Value.int .u8 0]:Array Value)[j]? =(aP [0])[j]?:=by simp[aP,Oc.fF]
 rw[h9];exact hu
theorem MP: ¬(En.bL [0]).2=0:=aN
theorem aaO: (Du.Ic [0]).1.length=1:=by unfold Es.Ic;rw[if_neg MP];rfl
theorem aaN: (Du.Ic [0]).2=Du:=by unfold Es.Ic;rw[if_neg MP]
theorem Xf(w:World)(Eh:cj w)(hrt:fk w): Calls af 7 #[] w fun e w'=>e= .returned (.bool true)∧Below w.heap.size w w':=by
 have CY:=aa Eh;have Zk:=aa hrt;clear Eh hrt;go_enter Tryz.func7,Tryz.ntmps7;go_wp2_with fail;refine(UE w).mono ?_;rintro e w1 ⟨rfl,hb1⟩;have bz:=aa hb1;have ajo:=aa (CY.o.ai hb1);have aiX:=aa (Zk.o.ai hb1);clear hb1;go_wp2_with fail;refine(xX 110 4 false 1 0 aN aN aN aN w1 ajo.o aiX.o).mono ?_;rintro e w2 ⟨P,rfl,hM⟩;have iZ:=aa (show mg w1.heap.size P.x P.e _ P.q MQ w w2 from⟨P.aB,_,⟨hM.eng,aaM,(fun r hr=>ux),Xg,hM.news⟩,hM.own,hM.xno,av bz.o hM.ak,bz.o.size,hM.ak.size⟩);obtain⟨cs,hcs⟩: ∃ cs:Array Value,cs= #[.pointer (some ⟨P.q.p,0,none⟩),.pointer (some ⟨P.e,0,none⟩),.pointer (some ⟨P.q.rl,0,none⟩),.pointer (some ⟨P.q.sl,0,none⟩),.pointer (some ⟨P.m,0,none⟩),.pointer (some ⟨P.v,0,none⟩)]:=⟨_,rfl⟩;have kR:=aa (show cs[1]? =some (.pointer (some ⟨P.e,0,none⟩))by rw[hcs];rfl);rw[←hcs] at iZ;clear hcs;clear hM CY Zk ajo aiX bz;go_wp2_with fail;obtain⟨wd3,hwd⟩:=ae ((w2).drew);have HD:=aa (iZ.o.ai (show Below _ _ wd3 from mS));refine wp_region_held_drew (S:=(fun W=>W.cell? ⟨P.x,1,none⟩=some (.pointer (some ⟨P.e,0,none⟩)))) br (by rw[hwd];exact mg.one kR.o HD.o) (fun hHeld=>?_);rw[hwd] at hHeld ⊢;clear hwd;refine lu 0 1 2 3 ?_;refine ty 4 ?_;refine cG 5 fun K hK=>?_
 go_simp;refine(Ky Xh Pa wd3).mono ?_;rintro e wb3 ⟨A,c,rfl,ho,hb⟩;have HB:=aa (HD.o.ai hb);have HOB:=aa ho;clear ho hb;go_wp2_with fail;refine bW hK (by exact mg.one kR.o HB.o) fun jt=>?_
 clear hK K;refine cG 6 fun K hK=>?_
 go_simp;refine(mg.ask HB.o Pa.may A c (Bs.own HOB.o) (Ov HOB.o) aft).mono ?_;rintro e w3 ⟨A2,c2,rfl,hq⟩;have jx:=aa hq;clear hq HOB HB HD;go_wp2_with fail;refine bW hK (by exact mg.one kR.o jx.o) fun qB=>?_
 clear hK K;refine ty 7 ?_;refine bO ?_;clear hHeld jt qB;have x1:=mg.one kR.o jx.o;go_wp2_with fail;refine ag (show Calls af 24 #[.pointer (some ⟨P.e,0,none⟩)] w3 fun en w'=>en= .returned (.int .i64 1)∧w'=w3 from by obtain⟨aB,wt,h1,_⟩:=jx.o;have:=uV h1.cQ afr;rwa [show(MQ.rep Xh.rq).2.aF.length=1 from aaL] at this) ?_;clear x1;go_wp2_with fail;obtain⟨wd4,hwd⟩:=ae ((w3).drew);have HD:=aa (jx.o.ai (show Below _ _ wd4 from mS));refine wp_region_held_drew (S:=(fun W=>W.cell? ⟨P.x,1,none⟩=some (.pointer (some ⟨P.e,0,none⟩)))) br (by rw[hwd];exact mg.one kR.o HD.o) (fun hHeld=>?_);rw[hwd] at hHeld ⊢;clear hwd;refine lu 0 1 2 3 ?_;refine ty 4 ?_;refine cG 5 fun K hK=>?_
 go_simp;refine(Ky aaQ O' wd4).mono ?_;rintro e wb4 ⟨A,c,rfl,ho,hb⟩;have HB:=aa (HD.o.ai hb);have HOB:=aa ho;clear ho hb;go_wp2_with fail;refine bW hK (by exact mg.one kR.o HB.o) fun jt=>?_
 clear hK K;refine cG 6 fun K hK=>?_
 go_simp;refine(mg.ask HB.o O'.may A c (Bs.own HOB.o) (Ov HOB.o) afs).mono ?_;rintro e w4 ⟨A2,c2,rfl,hq⟩;have tQ:=aa hq;clear hq HOB HB HD;go_wp2_with fail;refine bW hK (by exact mg.one kR.o tQ.o) fun qB=>?_
 clear hK K;refine ty 7 ?_;refine bO ?_;clear hHeld jt qB;have tQ:=aa (show mg w1.heap.size P.x P.e cs P.q Du w w4 from tQ.o);have x1:=mg.one kR.o tQ.o;obtain⟨w5,iX⟩:=ae (w4.alloc (.cells #[.int .u8 0] 5));obtain⟨g5,ft⟩:=ae w4.heap.size;have Ye:=aa (tQ.o.ai (show Below w4.heap.size w4 w5 by rw[←iX];exact ax (au _ _) _));have KW:=aa (show Bs w5 (some ⟨g5,0,none⟩) [0] from by rw[←iX,←ft];exact aaI w4);go_wp2_with fail;refine(show Calls af 12 #[.pointer (some ⟨P.e,0,none⟩),.slice (some ⟨g5,0,none⟩) 1 1] w5 (XR 1 (mg w1.heap.size P.x P.e cs P.q Du w))from by have:=mg.JU Ye.o [0] (some ⟨g5,0,none⟩) 1 KW.o (cI _ _) aN (fun h=>absurd h MP) aaO;rwa [aaN] at this).mono ?_;rintro en w6 ⟨A3,c3,rfl,hq⟩;have KT:=aa hq;have x1:=mg.one kR.o hq;clear hq tQ Ye KW iX ft;go_wp2_with fail;refine ag (show Calls af 25 #[.pointer (some ⟨P.e,0,none⟩)] w6 fun en w'=>en= .returned (.int .u64 2)∧w'=w6 from by obtain⟨aB,wt,h1,_⟩:=KT.o;have:=CE h1.cQ Gj;rwa [afv] at this) ?_;go_wp2_with fail;refine ag (show Calls af 24 #[.pointer (some ⟨P.e,0,none⟩)] w6 fun en w'=>en= .returned (.int .i64 0)∧w'=w6 from by obtain⟨aB,wt,h1,_⟩:=KT.o;have:=uV h1.cQ Gj;rwa [aaK] at this) ?_;go_wp2_with fail;refine ag (show Calls af 23 #[.pointer (some ⟨P.e,0,none⟩)] w6 fun en w'=>en= .returned (.bool true)∧w'=w6 from by obtain⟨aB,wt,h1,_⟩:=KT.o;have:=pX h1.cQ.own;rwa [Gj] at this) ?_;go_wp2_with fail;refine(show Calls af 14 #[.pointer (some ⟨P.e,0,none⟩)] w6 (Ku Du.bk w6)from by obtain⟨aB,wt,h1,_⟩:=KT.o;exact sR h1.cQ Gj h1.inv.bk).mono ?_;rintro en w7 ⟨b,S,rfl,cL,hS,sy⟩;have HLN:=aa (show Calls af 41 #[.pointer (some ⟨b,0,none⟩)] w7 fun en w'=>en= .returned (.int .i64 2)∧w'=w7 from by obtain⟨y,hy⟩:=cL;have:=Bk.uY hy.bf;rwa [afu] at this);have HF:=aa (show Below w.heap.size w w7 from by obtain⟨_,_,_,_,_,h4,_⟩:=KT.o;exact av h4 sy);clear cL hS sy x1 KT;go_wp2_with fail;refine ag HLN.o ?_;go_wp2_with fail;go_ret;exact⟨rfl,HF.o⟩
