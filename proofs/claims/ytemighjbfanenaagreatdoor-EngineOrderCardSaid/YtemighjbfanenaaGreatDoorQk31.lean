import Derived.Test.YtemighjbfanenaaGreatDoorQk22
import Derived.Test.YtemighjbfanenaaGreatDoorQk39
set_option linter.all false
set_option maxRecDepth 100000
set_option maxHeartbeats 16000000
namespace Go.Proofs.YtemighjbfanenaaGreatDoor
open RowKit
open Bk (cG uS bI fT dA)
open En (Rp Rq aH dx cS)
open Go.Proofs.Tryz renaming results56→zI,prog→af,results131→abp,underlying41→cD
open Go.Value renaming oneCell'→fY
open List renaming length_replicate→kQ,not_mem_nil→nj,replicate→dT
open List.Pairwise renaming nil→PE
open RowKit.Below renaming refl→ar
theorem yD{p:Prop}(h:p:=by
 go_enter Tryz.func131,Tryz.ntmps131;go_wp2_with fail;first|go_ret|(refine bodyPost_ret (CS abp _ _ _) rfl ?_)
 exact⟨rfl,rfl⟩):p:=h
theorem acF{p:Prop}(h:p:=by
 refine cJ 8 fun K hK=>?_
 refine cW 41 _ _ rfl xt 41 _ #[.int .i64 (1+k0),.int .u32 a.tag,.int .u32 0,.int .i64 0,.int .i64 0] Yt.o rfl rfl rfl aH et ?_;intro v3 dG hg gJ;have jI:=O'.o;have adi:=aa (show aG v3 xa 63 (jG a)from O9.o.bz hg (fun e=>adQ));have aiO:=aa (show aG v3 xr 41 #[.int .i64 0,.int .u32 0,.int .u32 0,.int .i64 0,.int .i64 0] from adk.o.bz hg (fun e=>by injection e with e;have:=qF.o;omega));have eX:=aa (show Below w.heap.size w v3 from eY.o.grown hg eY.o.size (fun k e=>l9));have af1:=aa dG;clear dG hg gJ jI;refine bW hK (by exact fX.o _ adi.o) fun Ko=>?_
 clear hK K;refine bM ?_;go_wp2_with fail;go_meet;exact⟨xt,rfl,af1.o,adi.o,aiO.o,eX.o,qF.o⟩):p:=h
theorem UW{p:Prop}(h:p:=by
 refine bodyPost_ret (dy zI _ iI (aL 41 pA.o _ cD rfl aH)) rfl ?_;exact⟨ES,Gb.o _ _ _ pA.o bA.o p8.o⟩):p:=h
theorem UU{p:Prop}(h:p:=by
 refine bodyPost_ret (dy zI _ iI (aL 41 pA.o _ cD rfl aH)) rfl ?_;exact⟨ES,Gb.o _ _ _ pA.o cu.o p8.o⟩):p:=h
theorem AD{p:Prop}(h:p:=by rw[←kq];exact HB.o.setCell (by have:=pd.o;have:=qF.o;show w.heap.size≤xt;omega) _):p:=h
theorem agp{p:Prop}(h:p:=by have:=pd.o;have:=qF.o;show w.heap.size≤xt;omega):p:=h
theorem abM{p:Prop}(h:p:=by have:=pd.o;have:=qF.o;show xa≠xt;omega):p:=h
theorem NK{p:Prop}(h:p:=by rw[←kq];exact HX.o.other (p:=⟨xt,2,none⟩) (by have:=pd.o;have:=qF.o;show xa≠xt;omega) _):p:=h
theorem NI{p:Prop}(h:p:=by rw[←hv2];exact bA.o.setCell (by have:=pd.o;have:=qF.o;show w.heap.size≤xt;omega) _):p:=h
theorem abJ{p:Prop}(h:p:=by have:=qF.o;show xr≠xt;omega):p:=h
theorem NG{p:Prop}(h:p:=by rw[←kq];exact HR.o.other (p:=⟨xt,2,none⟩) (by have:=qF.o;show xr≠xt;omega) _):p:=h
theorem T5{p:Prop}(h:p:=by rw[←hv2];exact Dd.o.other (p:=⟨xt,4,none⟩) (by have:=pd.o;have:=qF.o;show xa≠xt;omega) _):p:=h
theorem T4{p:Prop}(h:p:=by rw[←hv2];exact Dd.o.other (p:=⟨xt,3,none⟩) (by have:=pd.o;have:=qF.o;show xa≠xt;omega) _):p:=h
theorem T2{p:Prop}(h:p:=by rw[←kq];exact HX.o.other (p:=⟨xt,3,none⟩) (by have:=pd.o;have:=qF.o;show xa≠xt;omega) _):p:=h
theorem TR{p:Prop}(h:p:=by rw[←hv2];exact wI.o.other (p:=⟨xt,4,none⟩) (by have:=qF.o;show xr≠xt;omega) _):p:=h
theorem TQ{p:Prop}(h:p:=by rw[←hv2];exact wI.o.other (p:=⟨xt,3,none⟩) (by have:=qF.o;show xr≠xt;omega) _):p:=h
theorem TP{p:Prop}(h:p:=by rw[←kq];exact HR.o.other (p:=⟨xt,3,none⟩) (by have:=qF.o;show xr≠xt;omega) _):p:=h
theorem ES{p:Prop}(h:p:=by rw[jw.o];rfl):p:=h
theorem EP{p:Prop}(h:p:=by rw[←kq];exact HT.o.put 2 _):p:=h
theorem adQ{p:Prop}(h:p:=by injection e with e;have:=pd.o;have:=qF.o;omega):p:=h
section
namespace En
theorem yQ{S:Nat→Prop}{w:World}{b n au:Nat}{aA next aq:Int}{len:Nat}{p:bI}(h:cG S w b n au aA next aq len p)(hn:1≤n)(q:Rq)(hq:zb q)(hk:q.ax=10):
  Calls af 209 #[.pointer (some ⟨b,0,none⟩),.agg (cS q)] w fun e w'=>e= .returned (.tuple #[.agg (lf ⟨q.tag,10,0,0,0,0,len⟩),.int .i64 0])∧Below w.heap.size w w':=by
 obtain⟨xq,il⟩:=ae w.heap.size;obtain⟨w1,a8⟩:=ae (w.alloc (.cells (cS q) 41));obtain⟨xr,nZ⟩:=ae w1.heap.size;obtain⟨w2,hw2⟩:=ae (w1.alloc (.cells #[.int .u32 0,.int .i64 0,.int .i64 0,.int .u32 0,.int .i64 0,.int .i64 0,.int .i64 0] 108));have rH:=aa (show aG w2 xq 41 (cS q) from NC);have oc:=aa (aJ hw2 nZ);have cu:=aa (show Below w.heap.size w w2 from Ic);have pd:=aa (show w.heap.size≤xr∧xr<w2.heap.size from⟨by rw[←nZ,←a8];simp,oc.o.lt⟩);have Ek:=aa (h.ak cu.o);have jz:=aa hq;have hz:((n:Int)==0)=false:=bQ;have hz2: ¬(n:Int)=0:=ai;clear h hq;go_enter Tryz.func209,Tryz.ntmps209;go_wp2_with fail;refine(fT Ek.o).mono ?_;rintro e w3 ⟨rfl,hb3⟩;have jy:=rH.jC hb3;have iu:=oc.jC hb3;have RD:=aa (Ek.o.ak hb3);have dV:=cu.dQ hb3;clear hb3 rH oc Ek;go_wp2_with (refine aC rfl 41 (.tmp 3) rfl xq 41 _ jy.o rfl _ cD rfl aH ?_);refine(jU q w3 jz.o).mono ?_;rintro e w4 ⟨rfl,hb4⟩;have tO:=jy.jC hb4;have nV:=iu.jC hb4;have RB:=aa (RD.o.ak hb4);have gj:=dV.dQ hb4;clear hb4 jy iu RD hz hz2;have c0:w4.cell? ⟨xq,0,none⟩=some (.int .i64 10):=by rw[←hk];exact tO.o.cell 0
 have c1:w4.cell? ⟨xq,1,none⟩=some (.int .u32 q.tag):=tO.o.cell 1;obtain⟨x6,YV⟩:=ae w4.heap.size;obtain⟨w5,jD⟩:=ae (w4.alloc (.cells #[.int .u32 0,.int .i64 0,.int .i64 0,.int .u32 0,.int .i64 0,.int .i64 0,.int .i64 0] 108));have pj:=aa (aJ jD YV);have eu:=aa (aK jD);have J3:=aa YV;have i':=aa (show xr<x6∧w.heap.size≤x6 by have:=nV.o.lt;have:=J3.o;have:=gj.o.size;omega);go_upto_region 6 with(refine aj rfl 108 _ _ rfl x6 108 _ (lf ⟨q.tag,10,0,0,0,0,0⟩) pj.o rfl rfl rfl aS vu ?_;intro w6 yG kr VO;have iL:=aa (show Below w4.heap.size w4 w6 from br eu.o kr (Nat.le_of_eq J3.o));have tx:=aa yG;clear yG kr VO)
 obtain⟨w7,wE⟩:=ae (w6.alloc (.cells #[.int .u32 0,.int .i64 0,.int .i64 0] 171));have su:=aK wE;have vq:=aa (tx.o.ah su);have nc:=iL.dQ su;have HC7:=aa (RB.o.ak nc.o);have Rn:=nV.jC nc.o;have d0:w7.cell? ⟨xq,0,none⟩=some (.int .i64 10):=by rw[←hk];exact(tO.o.ah nc.o).cell 0
 clear su c0 c1 RB nV tO;go_wp2_with fail;refine ag (uS HC7.o) ?_;have d6:w7.cell? ⟨x6,6,none⟩=some (.int .i64 0):=vq.o.cell 6;have m6:=vq.o.mark 6;have kY:=aa (show aG (w7.setCell ⟨x6,6,none⟩ (.int .i64 (len:Int))) x6 108 (lf ⟨q.tag,10,0,0,0,0,len⟩)from vq.o.put 6 _);have kX:=aa (show xr≠x6∧w.heap.size≤x6 from rQ);have HRz:=aa (show aG (w7.setCell ⟨x6,6,none⟩ (.int .i64 (len:Int))) xr 108 _ from Rn.o.other (p:=⟨x6,6,none⟩) kX.o.1 _);have Sf:=aa (show Below w.heap.size w (w7.setCell ⟨x6,6,none⟩ (.int .i64 (len:Int)))from(av gj.o nc.o).setCell (by exact kX.o.2) _);go_wp2_with (first|(refine aC rfl 108 (.tmp 6) rfl x6 108 _ kY.o rfl _ Tryz.underlying108 rfl aS ?_)|(refine aj rfl 108 (.tmp 4) _ rfl xr 108 _ (lf ⟨q.tag,10,0,0,0,0,len⟩) HRz.o rfl rfl rfl aS vu ?_;intro w9 dG dD gJ;have pA:=aa dG;have p8:=aa dD;clear dG dD gJ));exact bodyPost_ret (results_cell_tmp Tryz.results209 _ iI (aL 108 pA.o _ Tryz.underlying108 rfl aS)) rfl ⟨rfl,br Sf.o p8.o pd.o.1⟩
end En
end
section
namespace En
theorem ae8{n m:Nat}(hn:1≤n∧n≤65536)(hm:1≤m∧m≤4096): (Jz n m).Ok:=
 ⟨hm,by show 1≤(dT n (dT m (0:UInt8))).length∧(dT n (dT m (0:UInt8))).length≤65536;rw[kQ];exact hn,fun b hb=>by rw[List.eq_of_mem_replicate hb,kQ];rfl,fun x hx=>by cases hx⟩
def yI(a b c n m k ep sq:Nat): Es:=⟨true,⟨Jz n m,false,-1,0⟩,⟨2*k,n - 2*k⟩,⟨ep,sq,[],0⟩,⟨⟨0,k⟩,⟨k,k⟩⟩,⟨a,b,c,1,0,[]⟩,[]⟩
theorem td{a b c n m k ep sq:Nat}(h1:1≤a∧a≤1024)(h2:1≤b∧b≤4096)(h3:1≤c∧c≤64)(hn:n≤65536)(hm:32≤m∧m≤4096)(hk:2≤k)(Ma:2*k+1≤n)(he:ep<18446744073709551616)(hs:sq<18446744073709551616): (yI a b c n m k ep sq).Inv:=by
 have hl:(yI a b c n m k ep sq).dev.dk.dh.length=n:=kQ;refine⟨rfl,⟨rfl,rfl,ae8 ⟨ai,hn⟩ ⟨ai,hm.2⟩⟩,rfl,hm.1,⟨?_,?_⟩,⟨⟨?_,?_⟩,⟨?_,?_⟩,rfl,hk⟩,⟨Nat.le_refl _,hs,he,fun b hb=>absurd hb nj⟩,Nat.zero_le _,⟨h1,h2,h3,⟨by show(1:Int)≤1;decide,by show(1:Int)<4294967296;decide⟩,⟨by show(0:Int)≤0;decide,by show(0:Int)≤1099511627776;decide⟩,Nat.zero_le _,PE,fun x hx=>(absurd hx nj),fun x hx=>(absurd hx nj),PE,fun x hx=>absurd hx nj⟩,?_,fun r hr=>by cases hr⟩
 ·show 1≤n - 2*k;omega
 ·rw[hl];show 2*k+(n - 2*k)≤n;omega
 ·show 1≤k;omega
 ·rw[hl];show 0+k≤n;omega
 ·show 1≤k;omega
 ·rw[hl];show k+k≤n;omega
 show 0<c;omega
structure Es.Kin(e e':Es): Prop where
 size:e'.dev.dk.size=e.dev.dk.size
 rg:e'.rg=e.rg
 sl:e'.sl=e.sl
 n:e'.bk.n=e.bk.n
 au:e'.bk.au=e.bk.au
 aA:e'.bk.aA=e.bk.aA
theorem Es.Kin.refl(e:Es): e.Kin e:=⟨rfl,rfl,rfl,rfl,rfl,rfl⟩
theorem Es.Inv.kin{e:Es}(h:e.Inv){q:Rq}(hq:q.Good): e.Kin (e.rep q).2:=by
 have hk:=hq.ax;unfold Es.rep;rw[if_neg Al];by_cases c1:q.ax=5∨q.ax=6∨q.ax=10
 ·rw[if_pos c1];exact Es.Kin.refl e
 rw[if_neg c1];by_cases c2:q.ax=8
 ·rw[if_pos c2];obtain⟨h1,h2,h3,h4⟩:=Lg.nM h.dev h.rg h.log.done h.fit h.row;unfold Es.flush;rw[if_neg (by rw[h1];decide)];exact⟨h3.size,rfl,rfl,rfl,rfl,rfl⟩
 rw[if_neg c2];by_cases c3:q.ax=9
 ·rw[if_pos c3];obtain⟨s1,s2,s3⟩:=Sl.xE h.dev h.sl h.row h.size (jT e.bk) e.log.last;unfold Es.save;rcases s1 with c|c|c
  ·rw[if_pos c];exact⟨s2.size,rfl,rfl,rfl,rfl,rfl⟩
  ·rw[if_neg p9,if_neg p9];exact⟨s2.size,rfl,rfl,rfl,rfl,rfl⟩
  rw[if_neg p9,if_neg p9];exact⟨s2.size,rfl,rfl,rfl,rfl,rfl⟩
 rw[if_neg c3];have hc:bt q.ax=true:=SR;unfold Es.change;by_cases c0:bF e.bk e.bj q=0
 ·rw[if_neg (by rw[c0];decide)];by_cases c4:e.log.last=18446744073709551615
  ·rw[if_pos c4];exact Es.Kin.refl e
  rw[if_neg c4];obtain⟨h1,h2,h3,h4⟩:=h.NN hq hc c0;obtain⟨g1,g2,g3⟩:=sF e.bk (bC e.bk q);simp only;by_cases c5:(e.aD++ [bN q (bC e.bk q)]).length<e.bk.aA
  ·rw[if_pos c5];exact⟨rfl,rfl,rfl,g2,g3,g1⟩
  rw[if_neg c5];obtain⟨a1,a2,a3,a4,a5,a6⟩:=e.log.sG (jb (bC e.bk q)) h.log.done;obtain⟨f1,f2,f3,f4⟩:=Lg.nM (l:=e.log.append (jb (bC e.bk q))) h.dev h.rg TZ (by rw[a6];omega) h.row;rw[if_neg (by rw[f1];decide)];exact⟨f3.size,rfl,rfl,g2,g3,g1⟩
 rw[if_pos c0];exact Es.Kin.refl e
end En
end
section
namespace Rf
theorem CS{fn:Func}{p q r:Tmp}(h:fn.results= #[.tmp p,.tmp q,.tmp r])(tmps:Array Value)(Q:Program)(w:World): (results fn tmps).run Q w= .ok (.tuple #[tmps.getD p undef,tmps.getD q undef,tmps.getD r undef]) w:=by simp[results,h]
theorem pc(k:Int)(w:World): Calls af 131 #[.int .i64 k] w fun e w'=>e= .returned (.tuple #[.bool (dx k).1,.bool (dx k).2.1,.bool (dx k).2.2])∧w'=w:=by
 by_cases hk:k=1
 ·have hh:dx k=dx 1:=by rw[hk]
  rw[hh];have t1:(k==1)=true:=beq_iff_eq.2 hk;clear hh hk;exact yD
 have n1:=hk;clear hk;by_cases hk:k=2
 ·have hh:dx k=dx 2:=by rw[hk]
  rw[hh];have t1:(k==1)=false:=bQ;have t2:(k==2)=true:=beq_iff_eq.2 hk;clear hh hk;exact yD
 have n2:=hk;clear hk;by_cases hk:k=3
 ·have hh:dx k=dx 3:=by rw[hk]
  rw[hh];have t1:(k==1)=false:=bQ;have t2:(k==2)=false:=bQ;have t3:(k==3)=true:=beq_iff_eq.2 hk;clear hh hk;exact yD
 have n3:=hk;clear hk;by_cases hk:k=4
 ·have hh:dx k=dx 4:=by rw[hk]
  rw[hh];have t1:(k==1)=false:=bQ;have t2:(k==2)=false:=bQ;have t3:(k==3)=false:=bQ;have t5:(k==5)=false:=bQ;have t4:(k==4)=true:=beq_iff_eq.2 hk;clear hh hk;exact yD
 have n4:=hk;clear hk;by_cases hk:k=5
 ·have hh:dx k=dx 5:=by rw[hk]
  rw[hh];have t1:(k==1)=false:=bQ;have t2:(k==2)=false:=bQ;have t3:(k==3)=false:=bQ;have t5:(k==5)=true:=beq_iff_eq.2 hk;clear hh hk;exact yD
 have n5:=hk;clear hk;by_cases hk:k=6
 ·have hh:dx k=dx 6:=by rw[hk]
  rw[hh];have t1:(k==1)=false:=bQ;have t2:(k==2)=false:=bQ;have t3:(k==3)=false:=bQ;have t5:(k==5)=false:=bQ;have t4:(k==4)=false:=bQ;have t6:(k==6)=true:=beq_iff_eq.2 hk;clear hh hk;exact yD
 have n6:=hk;clear hk;by_cases hk:k=7
 ·have hh:dx k=dx 7:=by rw[hk]
  rw[hh];have t1:(k==1)=false:=bQ;have t2:(k==2)=false:=bQ;have t3:(k==3)=false:=bQ;have t5:(k==5)=false:=bQ;have t4:(k==4)=false:=bQ;have t6:(k==6)=false:=bQ;have t7:(k==7)=true:=beq_iff_eq.2 hk;clear hh hk;exact yD
 have n7:=hk;clear hk;have hh:dx k=(false,false,false):=by unfold dx;simp only[if_neg n1,if_neg n2,if_neg n3,if_neg n4,if_neg n5,if_neg n6,if_neg n7]
 rw[hh];have t1:(k==1)=false:=bQ;have t2:(k==2)=false:=bQ;have t3:(k==3)=false:=bQ;have t5:(k==5)=false:=bQ;have t4:(k==4)=false:=bQ;have t6:(k==6)=false:=bQ;have t7:(k==7)=false:=bQ;clear hh;exact yD
structure iM where
 ax:Int
 id:Int
 aw:Int
 bV:Int
 tag:Int
def jG(a:iM): Array Value:=#[.int .i64 a.ax,.int .i64 a.id,.int .i64 a.aw,.int .i64 a.bV,.int .u32 a.tag]
structure iM.Ok(a:iM): Prop where
 ax: -9223372036854775808≤a.ax∧a.ax≤9223372036854775807
 id: -9223372036854775808≤a.id∧a.id≤9223372036854775807
 aw: -9223372036854775808≤a.aw∧a.aw≤9223372036854775807
 bV: -9223372036854775808≤a.bV∧a.bV≤9223372036854775807
 tag:0≤a.tag∧a.tag<4294967296
def iM.rq(a:iM): Rq:=⟨1+a.ax % 10,a.tag,if(dx (1+a.ax % 10)).1=true then a.id % 12 else 0,if(dx (1+a.ax % 10)).2.1=true then a.aw % 14 else 0,if(dx (1+a.ax % 10)).2.2=true then a.bV % 9 else 0⟩
theorem iM.Ok.may{a:iM}(h:a.Ok): a.rq.ry:=by
 have ht:=h.tag;refine⟨⟨?_,ht,?_,?_,?_⟩,?_,fun h=>?_,fun h=>?_,fun h=>?_⟩
 ·show 1≤1+a.ax % 10∧1+a.ax % 10≤10;omega
 ·unfold iM.rq;dsimp only;constructor <;>split <;>omega
 ·unfold iM.rq;dsimp only;constructor <;>split <;>omega
 ·unfold iM.rq;dsimp only;split <;>omega
 ·unfold iM.rq;dsimp only;split <;>omega
 ·have h':(dx (1+a.ax % 10)).1=false:=h;unfold iM.rq;dsimp only;rw[h'];rfl
 ·have h':(dx (1+a.ax % 10)).2.1=false:=h;unfold iM.rq;dsimp only;rw[h'];rfl
 have h':(dx (1+a.ax % 10)).2.2=false:=h;unfold iM.rq;dsimp only;rw[h'];rfl
theorem ask_size: (af.info? 63).map (·.size)=some 5:=bh
theorem B0(a:iM)(ha:a.Ok)(w:World): Calls af 56 #[.agg (jG a)] w fun e w'=>e= .returned (.agg (cS a.rq))∧Below w.heap.size w w':=by
 have afI:=aa (fun W=>oO a.ax 10 ha.ax aM W);have X':=aa (fun W=>oO a.id 12 ha.id aM W);have X9:=aa (fun W=>oO a.aw 14 ha.aw aM W);have HP9:=aa (fun W=>oO a.bV 9 ha.bV aM W);obtain⟨k0,DN⟩:=ae (a.ax % 10);obtain⟨i0,CB⟩:=ae (a.id % 12);obtain⟨s0,hs0⟩:=ae (a.aw % 14);obtain⟨t0,ht0⟩:=ae (a.bV % 9);have hkr:0≤k0∧k0≤9:=ai;have hir:0≤i0∧i0<12:=ai;rw[DN] at afI;rw[CB] at X';rw[hs0] at X9;rw[ht0] at HP9;obtain⟨b1,b2,b3,hb⟩: ∃ x y z,dx (1+k0)=(x,y,z):=⟨_,_,_,rfl⟩;have F5:=aa (show a.rq=⟨1+k0,a.tag,if b1=true then i0 else 0,if b2=true then s0 else 0,if b3=true then t0 else 0⟩from by unfold iM.rq;rw[DN,CB,hs0,ht0,hb]);have HHS:=aa (fun W=>pc (1+k0) W);rw[hb] at HHS;have hwk:IntKind.i64.wrap (1+k0)=1+k0:=E4;have alY:wrap64 (1+k0)=1+k0:=by unfold wrap64;omega
 have hwi:IntKind.u32.wrap i0=i0:=by rw[IntKind.wrap_u32];omega
 clear DN CB hs0 ht0 hb ha;obtain⟨xa,iZ⟩:=ae w.heap.size;obtain⟨w1,a8⟩:=ae (w.alloc (.cells (jG a) 63));obtain⟨xr,nZ⟩:=ae w1.heap.size;obtain⟨w2,hw2⟩:=ae (w1.alloc (.cells #[.int .i64 0,.int .u32 0,.int .u32 0,.int .i64 0,.int .i64 0] 41));have Dc:=aa (show aG w2 xa 63 (jG a)by rw[←hw2,←a8,←iZ];exact(aG.fresh w _ _).alloc _);have oc:=aa (aJ hw2 nZ);have cu:=aa (show Below w.heap.size w w2 from Ic);have pd:=aa (show w.heap.size≤xa∧xr=xa+1 from⟨ai,by rw[←nZ,←a8,←iZ];simp⟩);go_enter Tryz.func56,Tryz.ntmps56;go_upto_region 1 with fail
 clear a8 hw2 iZ nZ;go_cut [3] from 7 to 13 (fun s3 wc=>∃ xt,s3= .pointer (some ⟨xt,0,none⟩)∧aG wc xt 41 #[.int .i64 (1+k0),.int .u32 a.tag,.int .u32 0,.int .i64 0,.int .i64 0]∧aG wc xa 63 (jG a)∧aG wc xr 41 #[.int .i64 0,.int .u32 0,.int .u32 0,.int .i64 0,.int .i64 0]∧Below w.heap.size w wc∧xr<xt)
 case first=>
  have fX:=aa (show ∀ W,aG W xa 63 (jG a)→(W.cell? ⟨xa,0,none⟩=some (.int .i64 a.ax)∧W.cell? ⟨xa,4,none⟩=some (.int .u32 a.tag))from fun W h=>⟨h.cell 0,h.cell 4⟩);obtain⟨wd,hwd⟩:=ae w2.drew;have gO:Below w2.heap.size w2 wd:=mU;have XQ:=Dc.jC gO;have wh:=oc.jC gO;have ko:=cu.dQ gO;clear gO;refine wp_region_held_drew (S:=(fun W=>W.cell? ⟨xa,0,none⟩=some (.int .i64 a.ax)∧W.cell? ⟨xa,4,none⟩=some (.int .u32 a.tag))) bh (by rw[hwd];exact fX.o _ XQ.o) (fun hHeld=>?_);rw[hwd] at hHeld ⊢;clear hwd Dc oc cu;refine lA 0 1 4 5 ?_;refine qh 2 7 (fun K hK=>?_) fun K hK=>?_
  ·go_simp;refine ag (afI.o wd) ?_;go_wp2_with fail;have J2:=XQ;have Pg:=wh;have iE:=ko;refine bW hK (by exact fX.o _ J2.o) fun hh1=>?_
   clear hK K;refine tJ 3 6 ?_;refine cJ 7 fun K hK=>?_
   obtain⟨v2,hv2⟩:=ae (wd.alloc (.cells #[.int .i64 0,.int .u32 0,.int .u32 0,.int .i64 0,.int .i64 0] 41));obtain⟨xt,VD⟩:=ae wd.heap.size;have hb:=aK hv2;have O9:=aa (show aG v2 xa 63 (jG a)from J2.o.ah hb);have adk:=aa (show aG v2 xr 41 #[.int .i64 0,.int .u32 0,.int .u32 0,.int .i64 0,.int .i64 0] from Pg.o.ah hb);have eY:=aa (show Below w.heap.size w v2 from av iE.o hb);have Yt:=aa (aJ hv2 VD);have O':=aa (show w.heap.size≤xt from by rw[←VD];exact iE.o.size);have qF:=aa (show xr<xt from by have:=Pg.o.lt;omega);clear hb;go_simp;go_wp2_with fail;try rw[hv2]
   try rw[VD]
   clear hv2 VD;refine bW hK (by exact fX.o _ O9.o) fun QO=>?_
   clear hK K;exact acF
  obtain⟨v1,kq⟩:=ae (wd.alloc (.cells #[.int .i64 0,.int .u32 0,.int .u32 0,.int .i64 0,.int .i64 0] 41));obtain⟨xt,VD⟩:=ae wd.heap.size;have hb:=aK kq;have J2:=aa (show aG v1 xa 63 (jG a)from XQ.o.ah hb);have Pg:=aa (show aG v1 xr 41 #[.int .i64 0,.int .u32 0,.int .u32 0,.int .i64 0,.int .i64 0] from wh.o.ah hb);have iE:=aa (show Below w.heap.size w v1 from av ko.o hb);have af2:=aa (aJ kq VD);have O':=aa (show w.heap.size≤xt from by rw[←VD];exact ko.o.size);have qF:=aa (show xr<xt from by have:=wh.o.lt;omega);clear hb;go_simp;go_wp2_with fail;try rw[kq]
  try rw[VD]
  clear kq VD;refine bW hK (by exact fX.o _ J2.o) fun hh1=>?_
  clear hK K;refine cJ 2 fun K hK=>?_
  go_simp;refine ag (afI.o v1) ?_;go_wp2_with fail;have O9:=J2;have adk:=Pg;have eY:=iE;have Yt:=af2;refine bW hK (by exact fX.o _ O9.o) fun QO=>?_
  clear hK K;refine tJ 3 6 ?_;exact acF
 case rest=>
  obtain⟨xt,rfl,hT,hX,hR,hB,hlt⟩:=hcut;have HT:=aa hT;have HX:=aa hX;have HR:=aa hR;have HB:=aa hB;have qF:=aa hlt;have c0:=hT.cl 0;clear hT hX hR hB hlt Dc oc cu;go_wp2_with fail;refine ag (HHS.o wc) ?_;clear c0;have Gb:=aa (show ∀ (W9 W:World) (cs:Array Value),aG W9 xr 41 cs→Below w.heap.size w W→W.grownBy W9 (some xr)→Below w.heap.size w W9 from fun W9 W cs _ hb hg=>hb.grown hg hb.size (fun k e=>rL));cases b1 <;>cases b2 <;>cases b3
  ·have jw:=aa (show a.rq=⟨1+k0,a.tag,0,0,0⟩from F5.o);go_wp2_with (first|(refine aC rfl 41 (.tmp 3) rfl xt 41 _ HT.o rfl _ cD rfl aH ?_)|(refine aj rfl 41 (.tmp 2) _ rfl xr 41 _ #[.int .i64 (1+k0),.int .u32 a.tag,.int .u32 0,.int .i64 0,.int .i64 0] HR.o rfl rfl rfl aH et ?_;intro w9 dG dD gJ;have pA:=aa dG;have p8:=aa dD;clear dG dD gJ));refine bodyPost_ret (dy zI _ iI (aL 41 pA.o _ cD rfl aH)) rfl ?_;exact⟨ES,Gb.o _ _ _ pA.o HB.o p8.o⟩
  ·have jw:=aa (show a.rq=⟨1+k0,a.tag,0,0,t0⟩from F5.o);have d1:wc.cell? ⟨xa,3,none⟩=some (.int .i64 a.bV):=HX.o.cell 3;go_wp2_with fail;refine ag (HP9.o wc) ?_;clear d1;have o1:wc.cell? ⟨xt,4,none⟩=some (.int .i64 0):=HT.o.cell 4;have m1:=HT.o.mark 4;obtain⟨v1,kq⟩:=ae (wc.setCell ⟨xt,4,none⟩ (.int .i64 t0));have iN:=aa (show aG v1 xt 41 #[.int .i64 (1+k0),.int .u32 a.tag,.int .u32 0,.int .i64 0,.int .i64 t0] by rw[←kq];exact HT.o.put 4 _);have Dd:=aa (show aG v1 xa 63 (jG a)by rw[←kq];exact HX.o.other (p:=⟨xt,4,none⟩) abM _);have wI:=aa (show aG v1 xr 41 #[.int .i64 0,.int .u32 0,.int .u32 0,.int .i64 0,.int .i64 0] by rw[←kq];exact HR.o.other (p:=⟨xt,4,none⟩) abJ _);have bA:=aa (show Below w.heap.size w v1 from AD);go_upto_region 9 with fail
   try rw[kq]
   clear kq o1 m1;go_wp2_with (first|(refine aC rfl 41 (.tmp 3) rfl xt 41 _ iN.o rfl _ cD rfl aH ?_)|(refine aj rfl 41 (.tmp 2) _ rfl xr 41 _ #[.int .i64 (1+k0),.int .u32 a.tag,.int .u32 0,.int .i64 0,.int .i64 t0] wI.o rfl rfl rfl aH et ?_;intro w9 dG dD gJ;have pA:=aa dG;have p8:=aa dD;clear dG dD gJ));exact UW
  ·have jw:=aa (show a.rq=⟨1+k0,a.tag,0,s0,0⟩from F5.o);have d1:wc.cell? ⟨xa,2,none⟩=some (.int .i64 a.aw):=HX.o.cell 2;go_wp2_with fail;refine ag (X9.o wc) ?_;clear d1;have o1:wc.cell? ⟨xt,3,none⟩=some (.int .i64 0):=HT.o.cell 3;have m1:=HT.o.mark 3;obtain⟨v1,kq⟩:=ae (wc.setCell ⟨xt,3,none⟩ (.int .i64 s0));have iN:=aa (show aG v1 xt 41 #[.int .i64 (1+k0),.int .u32 a.tag,.int .u32 0,.int .i64 s0,.int .i64 0] by rw[←kq];exact HT.o.put 3 _);have Dd:=aa (show aG v1 xa 63 (jG a) from T2);have wI:=aa (show aG v1 xr 41 #[.int .i64 0,.int .u32 0,.int .u32 0,.int .i64 0,.int .i64 0] from TP);have bA:=aa (show Below w.heap.size w v1 from AD);go_upto_region 7 with fail
   try rw[kq]
   clear kq o1 m1;go_wp2_with (first|(refine aC rfl 41 (.tmp 3) rfl xt 41 _ iN.o rfl _ cD rfl aH ?_)|(refine aj rfl 41 (.tmp 2) _ rfl xr 41 _ #[.int .i64 (1+k0),.int .u32 a.tag,.int .u32 0,.int .i64 s0,.int .i64 0] wI.o rfl rfl rfl aH et ?_;intro w9 dG dD gJ;have pA:=aa dG;have p8:=aa dD;clear dG dD gJ));exact UW
  ·have jw:=aa (show a.rq=⟨1+k0,a.tag,0,s0,t0⟩from F5.o);have d1:wc.cell? ⟨xa,2,none⟩=some (.int .i64 a.aw):=HX.o.cell 2;go_wp2_with fail;refine ag (X9.o wc) ?_;clear d1;have o1:wc.cell? ⟨xt,3,none⟩=some (.int .i64 0):=HT.o.cell 3;have m1:=HT.o.mark 3;obtain⟨v1,kq⟩:=ae (wc.setCell ⟨xt,3,none⟩ (.int .i64 s0));have iN:=aa (show aG v1 xt 41 #[.int .i64 (1+k0),.int .u32 a.tag,.int .u32 0,.int .i64 s0,.int .i64 0] by rw[←kq];exact HT.o.put 3 _);have Dd:=aa (show aG v1 xa 63 (jG a) from T2);have wI:=aa (show aG v1 xr 41 #[.int .i64 0,.int .u32 0,.int .u32 0,.int .i64 0,.int .i64 0] from TP);have bA:=aa (show Below w.heap.size w v1 from AD);go_upto_region 7 with fail
   try rw[kq]
   clear kq o1 m1;have d2:v1.cell? ⟨xa,3,none⟩=some (.int .i64 a.bV):=Dd.o.cell 3;go_wp2_with fail;refine ag (HP9.o v1) ?_;clear d2;have o2:v1.cell? ⟨xt,4,none⟩=some (.int .i64 0):=iN.o.cell 4;have m2:=iN.o.mark 4;obtain⟨v2,hv2⟩:=ae (v1.setCell ⟨xt,4,none⟩ (.int .i64 t0));have gI:=aa (show aG v2 xt 41 #[.int .i64 (1+k0),.int .u32 a.tag,.int .u32 0,.int .i64 s0,.int .i64 t0] by rw[←hv2];exact iN.o.put 4 _);have Dc:=aa (show aG v2 xa 63 (jG a) from T5);have oc:=aa (show aG v2 xr 41 #[.int .i64 0,.int .u32 0,.int .u32 0,.int .i64 0,.int .i64 0] from TR);have cu:=aa (show Below w.heap.size w v2 from NI);go_upto_region 9 with fail
   try rw[hv2]
   clear hv2 o2 m2;go_wp2_with (first|(refine aC rfl 41 (.tmp 3) rfl xt 41 _ gI.o rfl _ cD rfl aH ?_)|(refine aj rfl 41 (.tmp 2) _ rfl xr 41 _ #[.int .i64 (1+k0),.int .u32 a.tag,.int .u32 0,.int .i64 s0,.int .i64 t0] oc.o rfl rfl rfl aH et ?_;intro w9 dG dD gJ;have pA:=aa dG;have p8:=aa dD;clear dG dD gJ));exact UU
  ·have jw:=aa (show a.rq=⟨1+k0,a.tag,i0,0,0⟩from F5.o);have d1:wc.cell? ⟨xa,1,none⟩=some (.int .i64 a.id):=HX.o.cell 1;go_wp2_with fail;refine ag (X'.o wc) ?_;clear d1;have o1:wc.cell? ⟨xt,2,none⟩=some (.int .u32 0):=HT.o.cell 2;have m1:=HT.o.mark 2;obtain⟨v1,kq⟩:=ae (wc.setCell ⟨xt,2,none⟩ (.int .u32 i0));have iN:=aa (show aG v1 xt 41 #[.int .i64 (1+k0),.int .u32 a.tag,.int .u32 i0,.int .i64 0,.int .i64 0] from EP);have Dd:=aa (show aG v1 xa 63 (jG a) from NK);have wI:=aa (show aG v1 xr 41 #[.int .i64 0,.int .u32 0,.int .u32 0,.int .i64 0,.int .i64 0] from NG);have bA:=aa (show Below w.heap.size w v1 from AD);go_upto_region 5 with fail
   try rw[kq]
   clear kq o1 m1;go_wp2_with (first|(refine aC rfl 41 (.tmp 3) rfl xt 41 _ iN.o rfl _ cD rfl aH ?_)|(refine aj rfl 41 (.tmp 2) _ rfl xr 41 _ #[.int .i64 (1+k0),.int .u32 a.tag,.int .u32 i0,.int .i64 0,.int .i64 0] wI.o rfl rfl rfl aH et ?_;intro w9 dG dD gJ;have pA:=aa dG;have p8:=aa dD;clear dG dD gJ));exact UW
  ·have jw:=aa (show a.rq=⟨1+k0,a.tag,i0,0,t0⟩from F5.o);have d1:wc.cell? ⟨xa,1,none⟩=some (.int .i64 a.id):=HX.o.cell 1;go_wp2_with fail;refine ag (X'.o wc) ?_;clear d1;have o1:wc.cell? ⟨xt,2,none⟩=some (.int .u32 0):=HT.o.cell 2;have m1:=HT.o.mark 2;obtain⟨v1,kq⟩:=ae (wc.setCell ⟨xt,2,none⟩ (.int .u32 i0));have iN:=aa (show aG v1 xt 41 #[.int .i64 (1+k0),.int .u32 a.tag,.int .u32 i0,.int .i64 0,.int .i64 0] from EP);have Dd:=aa (show aG v1 xa 63 (jG a) from NK);have wI:=aa (show aG v1 xr 41 #[.int .i64 0,.int .u32 0,.int .u32 0,.int .i64 0,.int .i64 0] from NG);have bA:=aa (show Below w.heap.size w v1 from AD);go_upto_region 5 with fail
   try rw[kq]
   clear kq o1 m1;have d2:v1.cell? ⟨xa,3,none⟩=some (.int .i64 a.bV):=Dd.o.cell 3;go_wp2_with fail;refine ag (HP9.o v1) ?_;clear d2;have o2:v1.cell? ⟨xt,4,none⟩=some (.int .i64 0):=iN.o.cell 4;have m2:=iN.o.mark 4;obtain⟨v2,hv2⟩:=ae (v1.setCell ⟨xt,4,none⟩ (.int .i64 t0));have gI:=aa (show aG v2 xt 41 #[.int .i64 (1+k0),.int .u32 a.tag,.int .u32 i0,.int .i64 0,.int .i64 t0] by rw[←hv2];exact iN.o.put 4 _);have Dc:=aa (show aG v2 xa 63 (jG a) from T5);have oc:=aa (show aG v2 xr 41 #[.int .i64 0,.int .u32 0,.int .u32 0,.int .i64 0,.int .i64 0] from TR);have cu:=aa (show Below w.heap.size w v2 from NI);go_upto_region 9 with fail
   try rw[hv2]
   clear hv2 o2 m2;go_wp2_with (first|(refine aC rfl 41 (.tmp 3) rfl xt 41 _ gI.o rfl _ cD rfl aH ?_)|(refine aj rfl 41 (.tmp 2) _ rfl xr 41 _ #[.int .i64 (1+k0),.int .u32 a.tag,.int .u32 i0,.int .i64 0,.int .i64 t0] oc.o rfl rfl rfl aH et ?_;intro w9 dG dD gJ;have pA:=aa dG;have p8:=aa dD;clear dG dD gJ));exact UU
  ·have jw:=aa (show a.rq=⟨1+k0,a.tag,i0,s0,0⟩from F5.o);have d1:wc.cell? ⟨xa,1,none⟩=some (.int .i64 a.id):=HX.o.cell 1;go_wp2_with fail;refine ag (X'.o wc) ?_;clear d1;have o1:wc.cell? ⟨xt,2,none⟩=some (.int .u32 0):=HT.o.cell 2;have m1:=HT.o.mark 2;obtain⟨v1,kq⟩:=ae (wc.setCell ⟨xt,2,none⟩ (.int .u32 i0));have iN:=aa (show aG v1 xt 41 #[.int .i64 (1+k0),.int .u32 a.tag,.int .u32 i0,.int .i64 0,.int .i64 0] from EP);have Dd:=aa (show aG v1 xa 63 (jG a) from NK);have wI:=aa (show aG v1 xr 41 #[.int .i64 0,.int .u32 0,.int .u32 0,.int .i64 0,.int .i64 0] from NG);have bA:=aa (show Below w.heap.size w v1 from AD);go_upto_region 5 with fail
   try rw[kq]
   clear kq o1 m1;have d2:v1.cell? ⟨xa,2,none⟩=some (.int .i64 a.aw):=Dd.o.cell 2;go_wp2_with fail;refine ag (X9.o v1) ?_;clear d2;have o2:v1.cell? ⟨xt,3,none⟩=some (.int .i64 0):=iN.o.cell 3;have m2:=iN.o.mark 3;obtain⟨v2,hv2⟩:=ae (v1.setCell ⟨xt,3,none⟩ (.int .i64 s0));have gI:=aa (show aG v2 xt 41 #[.int .i64 (1+k0),.int .u32 a.tag,.int .u32 i0,.int .i64 s0,.int .i64 0] by rw[←hv2];exact iN.o.put 3 _);have Dc:=aa (show aG v2 xa 63 (jG a) from T4);have oc:=aa (show aG v2 xr 41 #[.int .i64 0,.int .u32 0,.int .u32 0,.int .i64 0,.int .i64 0] from TQ);have cu:=aa (show Below w.heap.size w v2 from NI);go_upto_region 7 with fail
   try rw[hv2]
   clear hv2 o2 m2;go_wp2_with (first|(refine aC rfl 41 (.tmp 3) rfl xt 41 _ gI.o rfl _ cD rfl aH ?_)|(refine aj rfl 41 (.tmp 2) _ rfl xr 41 _ #[.int .i64 (1+k0),.int .u32 a.tag,.int .u32 i0,.int .i64 s0,.int .i64 0] oc.o rfl rfl rfl aH et ?_;intro w9 dG dD gJ;have pA:=aa dG;have p8:=aa dD;clear dG dD gJ));exact UU
  have jw:=aa (show a.rq=⟨1+k0,a.tag,i0,s0,t0⟩from F5.o);have d1:wc.cell? ⟨xa,1,none⟩=some (.int .i64 a.id):=HX.o.cell 1;go_wp2_with fail;refine ag (X'.o wc) ?_;clear d1;have o1:wc.cell? ⟨xt,2,none⟩=some (.int .u32 0):=HT.o.cell 2;have m1:=HT.o.mark 2;obtain⟨v1,kq⟩:=ae (wc.setCell ⟨xt,2,none⟩ (.int .u32 i0));have iN:=aa (show aG v1 xt 41 #[.int .i64 (1+k0),.int .u32 a.tag,.int .u32 i0,.int .i64 0,.int .i64 0] from EP);have Dd:=aa (show aG v1 xa 63 (jG a) from NK);have wI:=aa (show aG v1 xr 41 #[.int .i64 0,.int .u32 0,.int .u32 0,.int .i64 0,.int .i64 0] from NG);have bA:=aa (show Below w.heap.size w v1 from AD);go_upto_region 5 with fail
  try rw[kq]
  clear kq o1 m1;have d2:v1.cell? ⟨xa,2,none⟩=some (.int .i64 a.aw):=Dd.o.cell 2;go_wp2_with fail;refine ag (X9.o v1) ?_;clear d2;have o2:v1.cell? ⟨xt,3,none⟩=some (.int .i64 0):=iN.o.cell 3;have m2:=iN.o.mark 3;obtain⟨v2,hv2⟩:=ae (v1.setCell ⟨xt,3,none⟩ (.int .i64 s0));have gI:=aa (show aG v2 xt 41 #[.int .i64 (1+k0),.int .u32 a.tag,.int .u32 i0,.int .i64 s0,.int .i64 0] by rw[←hv2];exact iN.o.put 3 _);have Dc:=aa (show aG v2 xa 63 (jG a) from T4);have oc:=aa (show aG v2 xr 41 #[.int .i64 0,.int .u32 0,.int .u32 0,.int .i64 0,.int .i64 0] from TQ);have cu:=aa (show Below w.heap.size w v2 from NI);go_upto_region 7 with fail
  try rw[hv2]
  clear hv2 o2 m2;have d3:v2.cell? ⟨xa,3,none⟩=some (.int .i64 a.bV):=Dc.o.cell 3;go_wp2_with fail;refine ag (HP9.o v2) ?_;clear d3;have o3:v2.cell? ⟨xt,4,none⟩=some (.int .i64 0):=gI.o.cell 4;have m3:=gI.o.mark 4;obtain⟨v3,hv3⟩:=ae (v2.setCell ⟨xt,4,none⟩ (.int .i64 t0));have iJ:=aa (show aG v3 xt 41 #[.int .i64 (1+k0),.int .u32 a.tag,.int .u32 i0,.int .i64 s0,.int .i64 t0] by rw[←hv3];exact gI.o.put 4 _);have MN:=aa (show aG v3 xa 63 (jG a)by rw[←hv3];exact Dc.o.other (p:=⟨xt,4,none⟩) abM _);have iu:=aa (show aG v3 xr 41 #[.int .i64 0,.int .u32 0,.int .u32 0,.int .i64 0,.int .i64 0] by rw[←hv3];exact oc.o.other (p:=⟨xt,4,none⟩) abJ _);have dV:=aa (show Below w.heap.size w v3 by rw[←hv3];exact cu.o.setCell agp _);go_upto_region 9 with fail
  try rw[hv3]
  clear hv3 o3 m3;go_wp2_with (first|(refine aC rfl 41 (.tmp 3) rfl xt 41 _ iJ.o rfl _ cD rfl aH ?_)|(refine aj rfl 41 (.tmp 2) _ rfl xr 41 _ #[.int .i64 (1+k0),.int .u32 a.tag,.int .u32 i0,.int .i64 s0,.int .i64 t0] iu.o rfl rfl rfl aH et ?_;intro w9 dG dD gJ;have pA:=aa dG;have p8:=aa dD;clear dG dD gJ));refine bodyPost_ret (dy zI _ iI (aL 41 pA.o _ cD rfl aH)) rfl ?_;exact⟨ES,Gb.o _ _ _ pA.o dV.o p8.o⟩
end Rf
end
section
namespace Rf
open En (Es yI td)
def W8: iM:=⟨0,0,0,8,5⟩
def aaJ: iM:=⟨0,0,1,5,8⟩
theorem OX: W8.Ok:=⟨aM,aM,aM,aM,aM⟩
theorem OW: aaJ.Ok:=⟨aM,aM,aM,aM,aM⟩
def Mz: Es:=yI 3 2 2 9 64 2 1 0
def aaI: Es:=(Mz.rep W8.rq).2
def Db: Es:=(aaI.rep aaJ.rq).2
theorem afl: (Mz.rep W8.rq).1.length=0:=bh
theorem aaE: aaI.aD.length=1:=bh
theorem afk: (aaI.rep aaJ.rq).1.length=2:=bh
theorem afn: Db.log.cm=2:=bh
theorem aaD: Db.aD.length=0:=bh
theorem afm: Db.bk.L.length=2:=bh
theorem afj: aaI.up=true:=bh
theorem FZ: Db.up=true:=bh
theorem W7: Mz.rg.bytes Mz.dev.dk.size≤900000:=aM
theorem aaF: Mz.Inv:=td aM aM aM aM aM aM aM aM aM
