import Derived.Test.YtemighjbfanenaaGreatDoorPk22
import Derived.Test.YtemighjbfanenaaGreatDoorPk40
set_option linter.all false
set_option maxRecDepth 100000
set_option maxHeartbeats 16000000
namespace Go.Proofs.YtemighjbfanenaaGreatDoor
open RowKit
open Bk (cC uY bH gB dA)
open En (Rp Rq aH dt cZ)
open Go.Proofs.Tryz renaming prog→af,underlying41→cA,results56→Ae,results131→abx
open Go.Value renaming oneCell'→fw
open List renaming not_mem_nil→nt,replicate→dW,length_replicate→kO
open List.Pairwise renaming nil→PQ
open RowKit.Below renaming refl→au
theorem yR{p:Prop}(h:p:=by
 go_enter Tryz.func131,Tryz.ntmps131;go_wp2_with fail;first|go_ret|(refine bodyPost_ret (De abx _ _ _) rfl ?_)
 exact⟨rfl,rfl⟩):p:=h
theorem acP{p:Prop}(h:p:=by
 refine cG 8 fun K hK=>?_
 refine cT 41 _ _ rfl xt 41 _ #[.int .i64 (1+k0),.int .u32 a.tag,.int .u32 0,.int .i64 0,.int .i64 0] YB.o rfl rfl rfl aH eB ?_;intro v3 dE hg gJ;have jH:=Pp.o;have adr:=aa (show aG v3 xa 63 (jD a)from Po.o.bw hg (fun e=>ad2));have aiR:=aa (show aG v3 xr 41 #[.int .i64 0,.int .u32 0,.int .u32 0,.int .i64 0,.int .i64 0] from adt.o.bw hg (fun e=>by injection e with e;have:=qK.o;omega));have eV:=aa (show Below w.heap.size w v3 from eW.o.grown hg eW.o.size (fun k e=>lW));have agb:=aa dE;clear dE hg gJ jH;refine bW hK (by exact gi.o _ adr.o) fun KL=>?_
 clear hK K;refine bO ?_;go_wp2_with fail;go_meet;exact⟨xt,rfl,agb.o,adr.o,aiR.o,eV.o,qK.o⟩):p:=h
theorem U7{p:Prop}(h:p:=by
 refine bodyPost_ret (dw Ae _ im (aJ 41 pz.o _ cA rfl aH)) rfl ?_;exact⟨E',Gt.o _ _ _ pz.o bz.o qd.o⟩):p:=h
theorem U6{p:Prop}(h:p:=by
 refine bodyPost_ret (dw Ae _ im (aJ 41 pz.o _ cA rfl aH)) rfl ?_;exact⟨E',Gt.o _ _ _ pz.o cu.o qd.o⟩):p:=h
theorem A0{p:Prop}(h:p:=by rw[←ko];exact HB.o.setCell (by have:=pg.o;have:=qK.o;show w.heap.size≤xt;omega) _):p:=h
theorem agy{p:Prop}(h:p:=by have:=pg.o;have:=qK.o;show w.heap.size≤xt;omega):p:=h
theorem abS{p:Prop}(h:p:=by have:=pg.o;have:=qK.o;show xa≠xt;omega):p:=h
theorem N3{p:Prop}(h:p:=by rw[←ko];exact HX.o.other (p:=⟨xt,2,none⟩) (by have:=pg.o;have:=qK.o;show xa≠xt;omega) _):p:=h
theorem NZ{p:Prop}(h:p:=by rw[←hv2];exact bz.o.setCell (by have:=pg.o;have:=qK.o;show w.heap.size≤xt;omega) _):p:=h
theorem abP{p:Prop}(h:p:=by have:=qK.o;show xr≠xt;omega):p:=h
theorem NX{p:Prop}(h:p:=by rw[←ko];exact HR.o.other (p:=⟨xt,2,none⟩) (by have:=qK.o;show xr≠xt;omega) _):p:=h
theorem Uf{p:Prop}(h:p:=by rw[←hv2];exact Dv.o.other (p:=⟨xt,4,none⟩) (by have:=pg.o;have:=qK.o;show xa≠xt;omega) _):p:=h
theorem Ue{p:Prop}(h:p:=by rw[←hv2];exact Dv.o.other (p:=⟨xt,3,none⟩) (by have:=pg.o;have:=qK.o;show xa≠xt;omega) _):p:=h
theorem Ud{p:Prop}(h:p:=by rw[←ko];exact HX.o.other (p:=⟨xt,3,none⟩) (by have:=pg.o;have:=qK.o;show xa≠xt;omega) _):p:=h
theorem T5{p:Prop}(h:p:=by rw[←hv2];exact wT.o.other (p:=⟨xt,4,none⟩) (by have:=qK.o;show xr≠xt;omega) _):p:=h
theorem T4{p:Prop}(h:p:=by rw[←hv2];exact wT.o.other (p:=⟨xt,3,none⟩) (by have:=qK.o;show xr≠xt;omega) _):p:=h
theorem T2{p:Prop}(h:p:=by rw[←ko];exact HR.o.other (p:=⟨xt,3,none⟩) (by have:=qK.o;show xr≠xt;omega) _):p:=h
theorem E'{p:Prop}(h:p:=by rw[jv.o];rfl):p:=h
theorem E8{p:Prop}(h:p:=by rw[←ko];exact HT.o.put 2 _):p:=h
theorem ad2{p:Prop}(h:p:=by injection e with e;have:=pg.o;have:=qK.o;omega):p:=h
section
namespace En
theorem zg{S:Nat→Prop}{w:World}{b n ar:Nat}{aA next aq:Int}{len:Nat}{p:bH}(h:cC S w b n ar aA next aq len p)(hn:1≤n)(q:Rq)(hq:zv q)(hk:q.ay=10):
  Calls af 209 #[.pointer (some ⟨b,0,none⟩),.agg (cZ q)] w fun e w'=>e= .returned (.tuple #[.agg (iW ⟨q.tag,10,0,0,0,0,len⟩),.int .i64 0])∧Below w.heap.size w w':=by
 obtain⟨xq,iO⟩:=ae w.heap.size;obtain⟨w1,aZ⟩:=ae (w.alloc (.cells (cZ q) 41));obtain⟨xr,mO⟩:=ae w1.heap.size;obtain⟨w2,hw2⟩:=ae (w1.alloc (.cells #[.int .u32 0,.int .i64 0,.int .i64 0,.int .u32 0,.int .i64 0,.int .i64 0,.int .i64 0] 108));have rI:=aa (show aG w2 xq 41 (cZ q) from NU);have kU:=aa (aK hw2 mO);have cu:=aa (show Below w.heap.size w w2 from IE);have pg:=aa (show w.heap.size≤xr∧xr<w2.heap.size from⟨by rw[←mO,←aZ];simp,kU.o.lt⟩);have zB:=aa (h.ak cu.o);have jy:=aa hq;have hz:((n:Int)==0)=false:=cg;have hz2: ¬(n:Int)=0:=aj;clear h hq;go_enter Tryz.func209,Tryz.ntmps209;go_wp2_with fail;refine(gB zB.o).mono ?_;rintro e w3 ⟨rfl,hb3⟩;have jx:=rI.js hb3;have gM:=kU.js hb3;have RR:=aa (zB.o.ak hb3);have dV:=cu.dP hb3;clear hb3 rI kU zB;go_wp2_with (refine aC rfl 41 (.tmp 3) rfl xq 41 _ jx.o rfl _ cA rfl aH ?_);refine(jT q w3 jy.o).mono ?_;rintro e w4 ⟨rfl,hb4⟩;have tQ:=jx.js hb4;have mj:=gM.js hb4;have RQ:=aa (RR.o.ak hb4);have gH:=dV.dP hb4;clear hb4 jx gM RR hz hz2;have c0:w4.cell? ⟨xq,0,none⟩=some (.int .i64 10):=by rw[←hk];exact tQ.o.cell 0
 have c1:w4.cell? ⟨xq,1,none⟩=some (.int .u32 q.tag):=tQ.o.cell 1;obtain⟨x6,YZ⟩:=ae w4.heap.size;obtain⟨w5,iX⟩:=ae (w4.alloc (.cells #[.int .u32 0,.int .i64 0,.int .i64 0,.int .u32 0,.int .i64 0,.int .i64 0,.int .i64 0] 108));have ou:=aa (aK iX YZ);have eA:=aa (aL iX);have EA:=aa YZ;have iY:=aa (show xr<x6∧w.heap.size≤x6 by have:=mj.o.lt;have:=EA.o;have:=gH.o.size;omega);go_upto_region 6 with(refine ah rfl 108 _ _ rfl x6 108 _ (iW ⟨q.tag,10,0,0,0,0,0⟩) ou.o rfl rfl rfl aR pH ?_;intro w6 yV kq VW;have ij:=aa (show Below w4.heap.size w4 w6 from bn eA.o kq (Nat.le_of_eq EA.o));have tC:=aa yV;clear yV kq VW)
 obtain⟨w7,wQ⟩:=ae (w6.alloc (.cells #[.int .u32 0,.int .i64 0,.int .i64 0] 171));have sy:=aL wQ;have yt:=aa (tC.o.ai sy);have lI:=ij.dP sy;have HC7:=aa (RQ.o.ak lI.o);have RF:=mj.js lI.o;have d0:w7.cell? ⟨xq,0,none⟩=some (.int .i64 10):=by rw[←hk];exact(tQ.o.ai lI.o).cell 0
 clear sy c0 c1 RQ mj tQ;go_wp2_with fail;refine ag (uY HC7.o) ?_;have d6:w7.cell? ⟨x6,6,none⟩=some (.int .i64 0):=yt.o.cell 6;have m6:=yt.o.mark 6;have kH:=aa (show aG (w7.setCell ⟨x6,6,none⟩ (.int .i64 (len:Int))) x6 108 (iW ⟨q.tag,10,0,0,0,0,len⟩)from yt.o.put 6 _);have kV:=aa (show xr≠x6∧w.heap.size≤x6 from rR);have HRz:=aa (show aG (w7.setCell ⟨x6,6,none⟩ (.int .i64 (len:Int))) xr 108 _ from RF.o.other (p:=⟨x6,6,none⟩) kV.o.1 _);have Sx:=aa (show Below w.heap.size w (w7.setCell ⟨x6,6,none⟩ (.int .i64 (len:Int)))from(av gH.o lI.o).setCell (by exact kV.o.2) _);go_wp2_with (first|(refine aC rfl 108 (.tmp 6) rfl x6 108 _ kH.o rfl _ Tryz.underlying108 rfl aR ?_)|(refine ah rfl 108 (.tmp 4) _ rfl xr 108 _ (iW ⟨q.tag,10,0,0,0,0,len⟩) HRz.o rfl rfl rfl aR pH ?_;intro w9 dE dC gJ;have pz:=aa dE;have qd:=aa dC;clear dE dC gJ));exact bodyPost_ret (results_cell_tmp Tryz.results209 _ im (aJ 108 pz.o _ Tryz.underlying108 rfl aR)) rfl ⟨rfl,bn Sx.o qd.o pg.o.1⟩
end En
end
section
namespace En
theorem afg{n m:Nat}(hn:1≤n∧n≤65536)(hm:1≤m∧m≤4096): (JV n m).Ok:=
 ⟨hm,by show 1≤(dW n (dW m (0:UInt8))).length∧(dW n (dW m (0:UInt8))).length≤65536;rw[kO];exact hn,fun b hb=>by rw[List.eq_of_mem_replicate hb,kO];rfl,fun x hx=>by cases hx⟩
def yY(a b c n m k ep sq:Nat): Es:=⟨true,⟨JV n m,false,-1,0⟩,⟨2*k,n - 2*k⟩,⟨ep,sq,[],0⟩,⟨⟨0,k⟩,⟨k,k⟩⟩,⟨a,b,c,1,0,[]⟩,[]⟩
theorem tx{a b c n m k ep sq:Nat}(h1:1≤a∧a≤1024)(h2:1≤b∧b≤4096)(h3:1≤c∧c≤64)(hn:n≤65536)(hm:32≤m∧m≤4096)(hk:2≤k)(Ms:2*k+1≤n)(he:ep<18446744073709551616)(hs:sq<18446744073709551616): (yY a b c n m k ep sq).Inv:=by
 have hl:(yY a b c n m k ep sq).dev.dk.df.length=n:=kO;refine⟨rfl,⟨rfl,rfl,afg ⟨aj,hn⟩ ⟨aj,hm.2⟩⟩,rfl,hm.1,⟨?_,?_⟩,⟨⟨?_,?_⟩,⟨?_,?_⟩,rfl,hk⟩,⟨Nat.le_refl _,hs,he,fun b hb=>absurd hb nt⟩,Nat.zero_le _,⟨h1,h2,h3,⟨by show(1:Int)≤1;decide,by show(1:Int)<4294967296;decide⟩,⟨by show(0:Int)≤0;decide,by show(0:Int)≤1099511627776;decide⟩,Nat.zero_le _,PQ,fun x hx=>(absurd hx nt),fun x hx=>(absurd hx nt),PQ,fun x hx=>absurd hx nt⟩,?_,fun r hr=>ux⟩
 ·show 1≤n - 2*k;omega
 ·rw[hl];show 2*k+(n - 2*k)≤n;omega
 ·show 1≤k;omega
 ·rw[hl];show 0+k≤n;omega
 ·show 1≤k;omega
 ·rw[hl];show k+k≤n;omega
 show 0<c;omega
structure Es.Kin(e e':Es): Prop where
 size:e'.dev.dk.size=e.dev.dk.size
 rg:e'.rg=e.rg
 sl:e'.sl=e.sl
 n:e'.bk.n=e.bk.n
 ar:e'.bk.ar=e.bk.ar
 aA:e'.bk.aA=e.bk.aA
theorem Es.Kin.refl(e:Es): e.Kin e:=⟨rfl,rfl,rfl,rfl,rfl,rfl⟩
theorem Es.Inv.kin{e:Es}(h:e.Inv){q:Rq}(hq:q.Good): e.Kin (e.rep q).2:=by
 have hk:=hq.ay;unfold Es.rep;rw[if_neg xy];by_cases c1:q.ay=5∨q.ay=6∨q.ay=10
 ·rw[if_pos c1];exact Es.Kin.refl e
 rw[if_neg c1];by_cases c2:q.ay=8
 ·rw[if_pos c2];obtain⟨h1,h2,h3,h4⟩:=Lg.nP h.dev h.rg h.log.done h.fit h.row;unfold Es.flush;rw[if_neg (by rw[h1];decide)];exact⟨h3.size,rfl,rfl,rfl,rfl,rfl⟩
 rw[if_neg c2];by_cases c3:q.ay=9
 ·rw[if_pos c3];obtain⟨s1,s2,s3⟩:=Sl.xO h.dev h.sl h.row h.size (jS e.bk) e.log.last;unfold Es.save;rcases s1 with c|c|c
  ·rw[if_pos c];exact⟨s2.size,rfl,rfl,rfl,rfl,rfl⟩
  ·rw[if_neg qh,if_neg qh];exact⟨s2.size,rfl,rfl,rfl,rfl,rfl⟩
  rw[if_neg qh,if_neg qh];exact⟨s2.size,rfl,rfl,rfl,rfl,rfl⟩
 rw[if_neg c3];have hc:bI q.ay=true:=S6;unfold Es.change;by_cases c0:bE e.bk e.bg q=0
 ·rw[if_neg (by rw[c0];decide)];by_cases c4:e.log.last=18446744073709551615
  ·rw[if_pos c4];exact Es.Kin.refl e
  rw[if_neg c4];obtain⟨h1,h2,h3,h4⟩:=h.N8 hq hc c0;obtain⟨g1,g2,g3⟩:=sI e.bk (bB e.bk q);simp only;by_cases c5:(e.aF++ [bP q (bB e.bk q)]).length<e.bk.aA
  ·rw[if_pos c5];exact⟨rfl,rfl,rfl,g2,g3,g1⟩
  rw[if_neg c5];obtain⟨a1,a2,a3,a4,a5,a6⟩:=e.log.sJ (ja (bB e.bk q)) h.log.done;obtain⟨f1,f2,f3,f4⟩:=Lg.nP (l:=e.log.append (ja (bB e.bk q))) h.dev h.rg Uc (by rw[a6];omega) h.row;rw[if_neg (by rw[f1];decide)];exact⟨f3.size,rfl,rfl,g2,g3,g1⟩
 rw[if_pos c0];exact Es.Kin.refl e
end En
end
section
namespace Rf
theorem De{fn:Func}{p q r:Tmp}(h:fn.results= #[.tmp p,.tmp q,.tmp r])(tmps:Array Value)(Q:Program)(w:World): (results fn tmps).run Q w= .ok (.tuple #[tmps.getD p undef,tmps.getD q undef,tmps.getD r undef]) w:=by simp[results,h]
theorem pd(k:Int)(w:World): Calls af 131 #[.int .i64 k] w fun e w'=>e= .returned (.tuple #[.bool (dt k).1,.bool (dt k).2.1,.bool (dt k).2.2])∧w'=w:=by
 by_cases hk:k=1
 ·have hh:dt k=dt 1:=by rw[hk]
  rw[hh];have t1:(k==1)=true:=beq_iff_eq.2 hk;clear hh hk;exact yR
 have n1:=hk;clear hk;by_cases hk:k=2
 ·have hh:dt k=dt 2:=by rw[hk]
  rw[hh];have t1:(k==1)=false:=cg;have t2:(k==2)=true:=beq_iff_eq.2 hk;clear hh hk;exact yR
 have n2:=hk;clear hk;by_cases hk:k=3
 ·have hh:dt k=dt 3:=by rw[hk]
  rw[hh];have t1:(k==1)=false:=cg;have t2:(k==2)=false:=cg;have t3:(k==3)=true:=beq_iff_eq.2 hk;clear hh hk;exact yR
 have n3:=hk;clear hk;by_cases hk:k=4
 ·have hh:dt k=dt 4:=by rw[hk]
  rw[hh];have t1:(k==1)=false:=cg;have t2:(k==2)=false:=cg;have t3:(k==3)=false:=cg;have t5:(k==5)=false:=cg;have t4:(k==4)=true:=beq_iff_eq.2 hk;clear hh hk;exact yR
 have n4:=hk;clear hk;by_cases hk:k=5
 ·have hh:dt k=dt 5:=by rw[hk]
  rw[hh];have t1:(k==1)=false:=cg;have t2:(k==2)=false:=cg;have t3:(k==3)=false:=cg;have t5:(k==5)=true:=beq_iff_eq.2 hk;clear hh hk;exact yR
 have n5:=hk;clear hk;by_cases hk:k=6
 ·have hh:dt k=dt 6:=by rw[hk]
  rw[hh];have t1:(k==1)=false:=cg;have t2:(k==2)=false:=cg;have t3:(k==3)=false:=cg;have t5:(k==5)=false:=cg;have t4:(k==4)=false:=cg;have t6:(k==6)=true:=beq_iff_eq.2 hk;clear hh hk;exact yR
 have n6:=hk;clear hk;by_cases hk:k=7
 ·have hh:dt k=dt 7:=by rw[hk]
  rw[hh];have t1:(k==1)=false:=cg;have t2:(k==2)=false:=cg;have t3:(k==3)=false:=cg;have t5:(k==5)=false:=cg;have t4:(k==4)=false:=cg;have t6:(k==6)=false:=cg;have t7:(k==7)=true:=beq_iff_eq.2 hk;clear hh hk;exact yR
 have n7:=hk;clear hk;have hh:dt k=(false,false,false):=by unfold dt;simp only[if_neg n1,if_neg n2,if_neg n3,if_neg n4,if_neg n5,if_neg n6,if_neg n7]
 rw[hh];have t1:(k==1)=false:=cg;have t2:(k==2)=false:=cg;have t3:(k==3)=false:=cg;have t5:(k==5)=false:=cg;have t4:(k==4)=false:=cg;have t6:(k==6)=false:=cg;have t7:(k==7)=false:=cg;clear hh;exact yR
structure iD where
 ay:Int
 id:Int
 aw:Int
 bT:Int
 tag:Int
def jD(a:iD): Array Value:=#[.int .i64 a.ay,.int .i64 a.id,.int .i64 a.aw,.int .i64 a.bT,.int .u32 a.tag]
structure iD.Ok(a:iD): Prop where
 ay: -9223372036854775808≤a.ay∧a.ay≤9223372036854775807
 id: -9223372036854775808≤a.id∧a.id≤9223372036854775807
 aw: -9223372036854775808≤a.aw∧a.aw≤9223372036854775807
 bT: -9223372036854775808≤a.bT∧a.bT≤9223372036854775807
 tag:0≤a.tag∧a.tag<4294967296
def iD.rq(a:iD): Rq:=⟨1+a.ay % 10,a.tag,if(dt (1+a.ay % 10)).1=true then a.id % 12 else 0,if(dt (1+a.ay % 10)).2.1=true then a.aw % 14 else 0,if(dt (1+a.ay % 10)).2.2=true then a.bT % 9 else 0⟩
theorem iD.Ok.may{a:iD}(h:a.Ok): a.rq.qc:=by
 have ht:=h.tag;refine⟨⟨?_,ht,?_,?_,?_⟩,?_,fun h=>?_,fun h=>?_,fun h=>?_⟩
 ·show 1≤1+a.ay % 10∧1+a.ay % 10≤10;omega
 ·unfold iD.rq;dsimp only;constructor <;>split <;>omega
 ·unfold iD.rq;dsimp only;constructor <;>split <;>omega
 ·unfold iD.rq;dsimp only;split <;>omega
 ·unfold iD.rq;dsimp only;split <;>omega
 ·have h':(dt (1+a.ay % 10)).1=false:=h;unfold iD.rq;dsimp only;rw[h'];rfl
 ·have h':(dt (1+a.ay % 10)).2.1=false:=h;unfold iD.rq;dsimp only;rw[h'];rfl
 have h':(dt (1+a.ay % 10)).2.2=false:=h;unfold iD.rq;dsimp only;rw[h'];rfl
theorem ask_size: (af.info? 63).map (·.size)=some 5:=br
theorem Cj(a:iD)(ha:a.Ok)(w:World): Calls af 56 #[.agg (jD a)] w fun e w'=>e= .returned (.agg (cZ a.rq))∧Below w.heap.size w w':=by
 have afR:=aa (fun W=>nc a.ay 10 ha.ay aN W);have Yh:=aa (fun W=>nc a.id 12 ha.id aN W);have Yg:=aa (fun W=>nc a.aw 14 ha.aw aN W);have HP9:=aa (fun W=>nc a.bT 9 ha.bT aN W);obtain⟨k0,D6⟩:=ae (a.ay % 10);obtain⟨i0,CT⟩:=ae (a.id % 12);obtain⟨s0,hs0⟩:=ae (a.aw % 14);obtain⟨t0,ht0⟩:=ae (a.bT % 9);have hkr:0≤k0∧k0≤9:=aj;have hir:0≤i0∧i0<12:=aj;rw[D6] at afR;rw[CT] at Yh;rw[hs0] at Yg;rw[ht0] at HP9;obtain⟨b1,b2,b3,hb⟩: ∃ x y z,dt (1+k0)=(x,y,z):=⟨_,_,_,rfl⟩;have zz:=aa (show a.rq=⟨1+k0,a.tag,if b1=true then i0 else 0,if b2=true then s0 else 0,if b3=true then t0 else 0⟩from by unfold iD.rq;rw[D6,CT,hs0,ht0,hb]);have HHS:=aa (fun W=>pd (1+k0) W);rw[hb] at HHS;have hwk:IntKind.i64.wrap (1+k0)=1+k0:=Fk;have al1:wrap64 (1+k0)=1+k0:=by unfold wrap64;omega
 have hwi:IntKind.u32.wrap i0=i0:=by rw[IntKind.wrap_u32];omega
 clear D6 CT hs0 ht0 hb ha;obtain⟨xa,iz⟩:=ae w.heap.size;obtain⟨w1,aZ⟩:=ae (w.alloc (.cells (jD a) 63));obtain⟨xr,mO⟩:=ae w1.heap.size;obtain⟨w2,hw2⟩:=ae (w1.alloc (.cells #[.int .i64 0,.int .u32 0,.int .u32 0,.int .i64 0,.int .i64 0] 41));have CW:=aa (show aG w2 xa 63 (jD a)by rw[←hw2,←aZ,←iz];exact(aG.fresh w _ _).alloc _);have kU:=aa (aK hw2 mO);have cu:=aa (show Below w.heap.size w w2 from IE);have pg:=aa (show w.heap.size≤xa∧xr=xa+1 from⟨aj,by rw[←mO,←aZ,←iz];simp⟩);go_enter Tryz.func56,Tryz.ntmps56;go_upto_region 1 with fail
 clear aZ hw2 iz mO;go_cut [3] from 7 to 13 (fun s3 wc=>∃ xt,s3= .pointer (some ⟨xt,0,none⟩)∧aG wc xt 41 #[.int .i64 (1+k0),.int .u32 a.tag,.int .u32 0,.int .i64 0,.int .i64 0]∧aG wc xa 63 (jD a)∧aG wc xr 41 #[.int .i64 0,.int .u32 0,.int .u32 0,.int .i64 0,.int .i64 0]∧Below w.heap.size w wc∧xr<xt)
 case first=>
  have gi:=aa (show ∀ W,aG W xa 63 (jD a)→(W.cell? ⟨xa,0,none⟩=some (.int .i64 a.ay)∧W.cell? ⟨xa,4,none⟩=some (.int .u32 a.tag))from fun W h=>⟨h.cell 0,h.cell 4⟩);obtain⟨wd,hwd⟩:=ae w2.drew;have gQ:Below w2.heap.size w2 wd:=mS;have XY:=CW.js gQ;have wG:=kU.js gQ;have kj:=cu.dP gQ;clear gQ;refine wp_region_held_drew (S:=(fun W=>W.cell? ⟨xa,0,none⟩=some (.int .i64 a.ay)∧W.cell? ⟨xa,4,none⟩=some (.int .u32 a.tag))) br (by rw[hwd];exact gi.o _ XY.o) (fun hHeld=>?_);rw[hwd] at hHeld ⊢;clear hwd CW kU cu;refine lu 0 1 4 5 ?_;refine qp 2 7 (fun K hK=>?_) fun K hK=>?_
  ·go_simp;refine ag (afR.o wd) ?_;go_wp2_with fail;have Kl:=XY;have Pw:=wG;have iK:=kj;refine bW hK (by exact gi.o _ Kl.o) fun hh1=>?_
   clear hK K;refine tX 3 6 ?_;refine cG 7 fun K hK=>?_
   obtain⟨v2,hv2⟩:=ae (wd.alloc (.cells #[.int .i64 0,.int .u32 0,.int .u32 0,.int .i64 0,.int .i64 0] 41));obtain⟨xt,VO⟩:=ae wd.heap.size;have hb:=aL hv2;have Po:=aa (show aG v2 xa 63 (jD a)from Kl.o.ai hb);have adt:=aa (show aG v2 xr 41 #[.int .i64 0,.int .u32 0,.int .u32 0,.int .i64 0,.int .i64 0] from Pw.o.ai hb);have eW:=aa (show Below w.heap.size w v2 from av iK.o hb);have YB:=aa (aK hv2 VO);have Pp:=aa (show w.heap.size≤xt from by rw[←VO];exact iK.o.size);have qK:=aa (show xr<xt from by have:=Pw.o.lt;omega);clear hb;go_simp;go_wp2_with fail;try rw[hv2]
   try rw[VO]
   clear hv2 VO;refine bW hK (by exact gi.o _ Po.o) fun Q4=>?_
   clear hK K;exact acP
  obtain⟨v1,ko⟩:=ae (wd.alloc (.cells #[.int .i64 0,.int .u32 0,.int .u32 0,.int .i64 0,.int .i64 0] 41));obtain⟨xt,VO⟩:=ae wd.heap.size;have hb:=aL ko;have Kl:=aa (show aG v1 xa 63 (jD a)from XY.o.ai hb);have Pw:=aa (show aG v1 xr 41 #[.int .i64 0,.int .u32 0,.int .u32 0,.int .i64 0,.int .i64 0] from wG.o.ai hb);have iK:=aa (show Below w.heap.size w v1 from av kj.o hb);have agc:=aa (aK ko VO);have Pp:=aa (show w.heap.size≤xt from by rw[←VO];exact kj.o.size);have qK:=aa (show xr<xt from by have:=wG.o.lt;omega);clear hb;go_simp;go_wp2_with fail;try rw[ko]
  try rw[VO]
  clear ko VO;refine bW hK (by exact gi.o _ Kl.o) fun hh1=>?_
  clear hK K;refine cG 2 fun K hK=>?_
  go_simp;refine ag (afR.o v1) ?_;go_wp2_with fail;have Po:=Kl;have adt:=Pw;have eW:=iK;have YB:=agc;refine bW hK (by exact gi.o _ Po.o) fun Q4=>?_
  clear hK K;refine tX 3 6 ?_;exact acP
 case rest=>
  obtain⟨xt,rfl,hT,hX,hR,hB,hlt⟩:=hcut;have HT:=aa hT;have HX:=aa hX;have HR:=aa hR;have HB:=aa hB;have qK:=aa hlt;have c0:=hT.cl 0;clear hT hX hR hB hlt CW kU cu;go_wp2_with fail;refine ag (HHS.o wc) ?_;clear c0;have Gt:=aa (show ∀ (W9 W:World) (cs:Array Value),aG W9 xr 41 cs→Below w.heap.size w W→W.grownBy W9 (some xr)→Below w.heap.size w W9 from fun W9 W cs _ hb hg=>hb.grown hg hb.size (fun k e=>rM));cases b1 <;>cases b2 <;>cases b3
  ·have jv:=aa (show a.rq=⟨1+k0,a.tag,0,0,0⟩from zz.o);go_wp2_with (first|(refine aC rfl 41 (.tmp 3) rfl xt 41 _ HT.o rfl _ cA rfl aH ?_)|(refine ah rfl 41 (.tmp 2) _ rfl xr 41 _ #[.int .i64 (1+k0),.int .u32 a.tag,.int .u32 0,.int .i64 0,.int .i64 0] HR.o rfl rfl rfl aH eB ?_;intro w9 dE dC gJ;have pz:=aa dE;have qd:=aa dC;clear dE dC gJ));refine bodyPost_ret (dw Ae _ im (aJ 41 pz.o _ cA rfl aH)) rfl ?_;exact⟨E',Gt.o _ _ _ pz.o HB.o qd.o⟩
  ·have jv:=aa (show a.rq=⟨1+k0,a.tag,0,0,t0⟩from zz.o);have d1:wc.cell? ⟨xa,3,none⟩=some (.int .i64 a.bT):=HX.o.cell 3;go_wp2_with fail;refine ag (HP9.o wc) ?_;clear d1;have o1:wc.cell? ⟨xt,4,none⟩=some (.int .i64 0):=HT.o.cell 4;have m1:=HT.o.mark 4;obtain⟨v1,ko⟩:=ae (wc.setCell ⟨xt,4,none⟩ (.int .i64 t0));have jq:=aa (show aG v1 xt 41 #[.int .i64 (1+k0),.int .u32 a.tag,.int .u32 0,.int .i64 0,.int .i64 t0] by rw[←ko];exact HT.o.put 4 _);have Dv:=aa (show aG v1 xa 63 (jD a)by rw[←ko];exact HX.o.other (p:=⟨xt,4,none⟩) abS _);have wT:=aa (show aG v1 xr 41 #[.int .i64 0,.int .u32 0,.int .u32 0,.int .i64 0,.int .i64 0] by rw[←ko];exact HR.o.other (p:=⟨xt,4,none⟩) abP _);have bz:=aa (show Below w.heap.size w v1 from A0);go_upto_region 9 with fail
   try rw[ko]
   clear ko o1 m1;go_wp2_with (first|(refine aC rfl 41 (.tmp 3) rfl xt 41 _ jq.o rfl _ cA rfl aH ?_)|(refine ah rfl 41 (.tmp 2) _ rfl xr 41 _ #[.int .i64 (1+k0),.int .u32 a.tag,.int .u32 0,.int .i64 0,.int .i64 t0] wT.o rfl rfl rfl aH eB ?_;intro w9 dE dC gJ;have pz:=aa dE;have qd:=aa dC;clear dE dC gJ));exact U7
  ·have jv:=aa (show a.rq=⟨1+k0,a.tag,0,s0,0⟩from zz.o);have d1:wc.cell? ⟨xa,2,none⟩=some (.int .i64 a.aw):=HX.o.cell 2;go_wp2_with fail;refine ag (Yg.o wc) ?_;clear d1;have o1:wc.cell? ⟨xt,3,none⟩=some (.int .i64 0):=HT.o.cell 3;have m1:=HT.o.mark 3;obtain⟨v1,ko⟩:=ae (wc.setCell ⟨xt,3,none⟩ (.int .i64 s0));have jq:=aa (show aG v1 xt 41 #[.int .i64 (1+k0),.int .u32 a.tag,.int .u32 0,.int .i64 s0,.int .i64 0] by rw[←ko];exact HT.o.put 3 _);have Dv:=aa (show aG v1 xa 63 (jD a) from Ud);have wT:=aa (show aG v1 xr 41 #[.int .i64 0,.int .u32 0,.int .u32 0,.int .i64 0,.int .i64 0] from T2);have bz:=aa (show Below w.heap.size w v1 from A0);go_upto_region 7 with fail
   try rw[ko]
   clear ko o1 m1;go_wp2_with (first|(refine aC rfl 41 (.tmp 3) rfl xt 41 _ jq.o rfl _ cA rfl aH ?_)|(refine ah rfl 41 (.tmp 2) _ rfl xr 41 _ #[.int .i64 (1+k0),.int .u32 a.tag,.int .u32 0,.int .i64 s0,.int .i64 0] wT.o rfl rfl rfl aH eB ?_;intro w9 dE dC gJ;have pz:=aa dE;have qd:=aa dC;clear dE dC gJ));exact U7
  ·have jv:=aa (show a.rq=⟨1+k0,a.tag,0,s0,t0⟩from zz.o);have d1:wc.cell? ⟨xa,2,none⟩=some (.int .i64 a.aw):=HX.o.cell 2;go_wp2_with fail;refine ag (Yg.o wc) ?_;clear d1;have o1:wc.cell? ⟨xt,3,none⟩=some (.int .i64 0):=HT.o.cell 3;have m1:=HT.o.mark 3;obtain⟨v1,ko⟩:=ae (wc.setCell ⟨xt,3,none⟩ (.int .i64 s0));have jq:=aa (show aG v1 xt 41 #[.int .i64 (1+k0),.int .u32 a.tag,.int .u32 0,.int .i64 s0,.int .i64 0] by rw[←ko];exact HT.o.put 3 _);have Dv:=aa (show aG v1 xa 63 (jD a) from Ud);have wT:=aa (show aG v1 xr 41 #[.int .i64 0,.int .u32 0,.int .u32 0,.int .i64 0,.int .i64 0] from T2);have bz:=aa (show Below w.heap.size w v1 from A0);go_upto_region 7 with fail
   try rw[ko]
   clear ko o1 m1;have d2:v1.cell? ⟨xa,3,none⟩=some (.int .i64 a.bT):=Dv.o.cell 3;go_wp2_with fail;refine ag (HP9.o v1) ?_;clear d2;have o2:v1.cell? ⟨xt,4,none⟩=some (.int .i64 0):=jq.o.cell 4;have m2:=jq.o.mark 4;obtain⟨v2,hv2⟩:=ae (v1.setCell ⟨xt,4,none⟩ (.int .i64 t0));have gh:=aa (show aG v2 xt 41 #[.int .i64 (1+k0),.int .u32 a.tag,.int .u32 0,.int .i64 s0,.int .i64 t0] by rw[←hv2];exact jq.o.put 4 _);have CW:=aa (show aG v2 xa 63 (jD a) from Uf);have kU:=aa (show aG v2 xr 41 #[.int .i64 0,.int .u32 0,.int .u32 0,.int .i64 0,.int .i64 0] from T5);have cu:=aa (show Below w.heap.size w v2 from NZ);go_upto_region 9 with fail
   try rw[hv2]
   clear hv2 o2 m2;go_wp2_with (first|(refine aC rfl 41 (.tmp 3) rfl xt 41 _ gh.o rfl _ cA rfl aH ?_)|(refine ah rfl 41 (.tmp 2) _ rfl xr 41 _ #[.int .i64 (1+k0),.int .u32 a.tag,.int .u32 0,.int .i64 s0,.int .i64 t0] kU.o rfl rfl rfl aH eB ?_;intro w9 dE dC gJ;have pz:=aa dE;have qd:=aa dC;clear dE dC gJ));exact U6
  ·have jv:=aa (show a.rq=⟨1+k0,a.tag,i0,0,0⟩from zz.o);have d1:wc.cell? ⟨xa,1,none⟩=some (.int .i64 a.id):=HX.o.cell 1;go_wp2_with fail;refine ag (Yh.o wc) ?_;clear d1;have o1:wc.cell? ⟨xt,2,none⟩=some (.int .u32 0):=HT.o.cell 2;have m1:=HT.o.mark 2;obtain⟨v1,ko⟩:=ae (wc.setCell ⟨xt,2,none⟩ (.int .u32 i0));have jq:=aa (show aG v1 xt 41 #[.int .i64 (1+k0),.int .u32 a.tag,.int .u32 i0,.int .i64 0,.int .i64 0] from E8);have Dv:=aa (show aG v1 xa 63 (jD a) from N3);have wT:=aa (show aG v1 xr 41 #[.int .i64 0,.int .u32 0,.int .u32 0,.int .i64 0,.int .i64 0] from NX);have bz:=aa (show Below w.heap.size w v1 from A0);go_upto_region 5 with fail
   try rw[ko]
   clear ko o1 m1;go_wp2_with (first|(refine aC rfl 41 (.tmp 3) rfl xt 41 _ jq.o rfl _ cA rfl aH ?_)|(refine ah rfl 41 (.tmp 2) _ rfl xr 41 _ #[.int .i64 (1+k0),.int .u32 a.tag,.int .u32 i0,.int .i64 0,.int .i64 0] wT.o rfl rfl rfl aH eB ?_;intro w9 dE dC gJ;have pz:=aa dE;have qd:=aa dC;clear dE dC gJ));exact U7
  ·have jv:=aa (show a.rq=⟨1+k0,a.tag,i0,0,t0⟩from zz.o);have d1:wc.cell? ⟨xa,1,none⟩=some (.int .i64 a.id):=HX.o.cell 1;go_wp2_with fail;refine ag (Yh.o wc) ?_;clear d1;have o1:wc.cell? ⟨xt,2,none⟩=some (.int .u32 0):=HT.o.cell 2;have m1:=HT.o.mark 2;obtain⟨v1,ko⟩:=ae (wc.setCell ⟨xt,2,none⟩ (.int .u32 i0));have jq:=aa (show aG v1 xt 41 #[.int .i64 (1+k0),.int .u32 a.tag,.int .u32 i0,.int .i64 0,.int .i64 0] from E8);have Dv:=aa (show aG v1 xa 63 (jD a) from N3);have wT:=aa (show aG v1 xr 41 #[.int .i64 0,.int .u32 0,.int .u32 0,.int .i64 0,.int .i64 0] from NX);have bz:=aa (show Below w.heap.size w v1 from A0);go_upto_region 5 with fail
   try rw[ko]
   clear ko o1 m1;have d2:v1.cell? ⟨xa,3,none⟩=some (.int .i64 a.bT):=Dv.o.cell 3;go_wp2_with fail;refine ag (HP9.o v1) ?_;clear d2;have o2:v1.cell? ⟨xt,4,none⟩=some (.int .i64 0):=jq.o.cell 4;have m2:=jq.o.mark 4;obtain⟨v2,hv2⟩:=ae (v1.setCell ⟨xt,4,none⟩ (.int .i64 t0));have gh:=aa (show aG v2 xt 41 #[.int .i64 (1+k0),.int .u32 a.tag,.int .u32 i0,.int .i64 0,.int .i64 t0] by rw[←hv2];exact jq.o.put 4 _);have CW:=aa (show aG v2 xa 63 (jD a) from Uf);have kU:=aa (show aG v2 xr 41 #[.int .i64 0,.int .u32 0,.int .u32 0,.int .i64 0,.int .i64 0] from T5);have cu:=aa (show Below w.heap.size w v2 from NZ);go_upto_region 9 with fail
   try rw[hv2]
   clear hv2 o2 m2;go_wp2_with (first|(refine aC rfl 41 (.tmp 3) rfl xt 41 _ gh.o rfl _ cA rfl aH ?_)|(refine ah rfl 41 (.tmp 2) _ rfl xr 41 _ #[.int .i64 (1+k0),.int .u32 a.tag,.int .u32 i0,.int .i64 0,.int .i64 t0] kU.o rfl rfl rfl aH eB ?_;intro w9 dE dC gJ;have pz:=aa dE;have qd:=aa dC;clear dE dC gJ));exact U6
  ·have jv:=aa (show a.rq=⟨1+k0,a.tag,i0,s0,0⟩from zz.o);have d1:wc.cell? ⟨xa,1,none⟩=some (.int .i64 a.id):=HX.o.cell 1;go_wp2_with fail;refine ag (Yh.o wc) ?_;clear d1;have o1:wc.cell? ⟨xt,2,none⟩=some (.int .u32 0):=HT.o.cell 2;have m1:=HT.o.mark 2;obtain⟨v1,ko⟩:=ae (wc.setCell ⟨xt,2,none⟩ (.int .u32 i0));have jq:=aa (show aG v1 xt 41 #[.int .i64 (1+k0),.int .u32 a.tag,.int .u32 i0,.int .i64 0,.int .i64 0] from E8);have Dv:=aa (show aG v1 xa 63 (jD a) from N3);have wT:=aa (show aG v1 xr 41 #[.int .i64 0,.int .u32 0,.int .u32 0,.int .i64 0,.int .i64 0] from NX);have bz:=aa (show Below w.heap.size w v1 from A0);go_upto_region 5 with fail
   try rw[ko]
   clear ko o1 m1;have d2:v1.cell? ⟨xa,2,none⟩=some (.int .i64 a.aw):=Dv.o.cell 2;go_wp2_with fail;refine ag (Yg.o v1) ?_;clear d2;have o2:v1.cell? ⟨xt,3,none⟩=some (.int .i64 0):=jq.o.cell 3;have m2:=jq.o.mark 3;obtain⟨v2,hv2⟩:=ae (v1.setCell ⟨xt,3,none⟩ (.int .i64 s0));have gh:=aa (show aG v2 xt 41 #[.int .i64 (1+k0),.int .u32 a.tag,.int .u32 i0,.int .i64 s0,.int .i64 0] by rw[←hv2];exact jq.o.put 3 _);have CW:=aa (show aG v2 xa 63 (jD a) from Ue);have kU:=aa (show aG v2 xr 41 #[.int .i64 0,.int .u32 0,.int .u32 0,.int .i64 0,.int .i64 0] from T4);have cu:=aa (show Below w.heap.size w v2 from NZ);go_upto_region 7 with fail
   try rw[hv2]
   clear hv2 o2 m2;go_wp2_with (first|(refine aC rfl 41 (.tmp 3) rfl xt 41 _ gh.o rfl _ cA rfl aH ?_)|(refine ah rfl 41 (.tmp 2) _ rfl xr 41 _ #[.int .i64 (1+k0),.int .u32 a.tag,.int .u32 i0,.int .i64 s0,.int .i64 0] kU.o rfl rfl rfl aH eB ?_;intro w9 dE dC gJ;have pz:=aa dE;have qd:=aa dC;clear dE dC gJ));exact U6
  have jv:=aa (show a.rq=⟨1+k0,a.tag,i0,s0,t0⟩from zz.o);have d1:wc.cell? ⟨xa,1,none⟩=some (.int .i64 a.id):=HX.o.cell 1;go_wp2_with fail;refine ag (Yh.o wc) ?_;clear d1;have o1:wc.cell? ⟨xt,2,none⟩=some (.int .u32 0):=HT.o.cell 2;have m1:=HT.o.mark 2;obtain⟨v1,ko⟩:=ae (wc.setCell ⟨xt,2,none⟩ (.int .u32 i0));have jq:=aa (show aG v1 xt 41 #[.int .i64 (1+k0),.int .u32 a.tag,.int .u32 i0,.int .i64 0,.int .i64 0] from E8);have Dv:=aa (show aG v1 xa 63 (jD a) from N3);have wT:=aa (show aG v1 xr 41 #[.int .i64 0,.int .u32 0,.int .u32 0,.int .i64 0,.int .i64 0] from NX);have bz:=aa (show Below w.heap.size w v1 from A0);go_upto_region 5 with fail
  try rw[ko]
  clear ko o1 m1;have d2:v1.cell? ⟨xa,2,none⟩=some (.int .i64 a.aw):=Dv.o.cell 2;go_wp2_with fail;refine ag (Yg.o v1) ?_;clear d2;have o2:v1.cell? ⟨xt,3,none⟩=some (.int .i64 0):=jq.o.cell 3;have m2:=jq.o.mark 3;obtain⟨v2,hv2⟩:=ae (v1.setCell ⟨xt,3,none⟩ (.int .i64 s0));have gh:=aa (show aG v2 xt 41 #[.int .i64 (1+k0),.int .u32 a.tag,.int .u32 i0,.int .i64 s0,.int .i64 0] by rw[←hv2];exact jq.o.put 3 _);have CW:=aa (show aG v2 xa 63 (jD a) from Ue);have kU:=aa (show aG v2 xr 41 #[.int .i64 0,.int .u32 0,.int .u32 0,.int .i64 0,.int .i64 0] from T4);have cu:=aa (show Below w.heap.size w v2 from NZ);go_upto_region 7 with fail
  try rw[hv2]
  clear hv2 o2 m2;have d3:v2.cell? ⟨xa,3,none⟩=some (.int .i64 a.bT):=CW.o.cell 3;go_wp2_with fail;refine ag (HP9.o v2) ?_;clear d3;have o3:v2.cell? ⟨xt,4,none⟩=some (.int .i64 0):=gh.o.cell 4;have m3:=gh.o.mark 4;obtain⟨v3,hv3⟩:=ae (v2.setCell ⟨xt,4,none⟩ (.int .i64 t0));have jF:=aa (show aG v3 xt 41 #[.int .i64 (1+k0),.int .u32 a.tag,.int .u32 i0,.int .i64 s0,.int .i64 t0] by rw[←hv3];exact gh.o.put 4 _);have Ie:=aa (show aG v3 xa 63 (jD a)by rw[←hv3];exact CW.o.other (p:=⟨xt,4,none⟩) abS _);have gM:=aa (show aG v3 xr 41 #[.int .i64 0,.int .u32 0,.int .u32 0,.int .i64 0,.int .i64 0] by rw[←hv3];exact kU.o.other (p:=⟨xt,4,none⟩) abP _);have dV:=aa (show Below w.heap.size w v3 by rw[←hv3];exact cu.o.setCell agy _);go_upto_region 9 with fail
  try rw[hv3]
  clear hv3 o3 m3;go_wp2_with (first|(refine aC rfl 41 (.tmp 3) rfl xt 41 _ jF.o rfl _ cA rfl aH ?_)|(refine ah rfl 41 (.tmp 2) _ rfl xr 41 _ #[.int .i64 (1+k0),.int .u32 a.tag,.int .u32 i0,.int .i64 s0,.int .i64 t0] gM.o rfl rfl rfl aH eB ?_;intro w9 dE dC gJ;have pz:=aa dE;have qd:=aa dC;clear dE dC gJ));refine bodyPost_ret (dw Ae _ im (aJ 41 pz.o _ cA rfl aH)) rfl ?_;exact⟨E',Gt.o _ _ _ pz.o dV.o qd.o⟩
end Rf
end
section
namespace Rf
open En (Es yY tx)
def Xh: iD:=⟨0,0,0,8,5⟩
def aaQ: iD:=⟨0,0,1,5,8⟩
theorem Pa: Xh.Ok:=⟨aN,aN,aN,aN,aN⟩
theorem O': aaQ.Ok:=⟨aN,aN,aN,aN,aN⟩
def MQ: Es:=yY 3 2 2 9 64 2 1 0
def aaP: Es:=(MQ.rep Xh.rq).2
def Du: Es:=(aaP.rep aaQ.rq).2
theorem aft: (MQ.rep Xh.rq).1.length=0:=br
theorem aaL: aaP.aF.length=1:=br
theorem afs: (aaP.rep aaQ.rq).1.length=2:=br
theorem afv: Du.log.dx=2:=br
theorem aaK: Du.aF.length=0:=br
theorem afu: Du.bk.L.length=2:=br
theorem afr: aaP.up=true:=br
theorem Gj: Du.up=true:=br
theorem Xg: MQ.rg.bytes MQ.dev.dk.size≤900000:=aN
theorem aaM: MQ.Inv:=tx aN aN aN aN aN aN aN aN aN
