import Derived.Test.YtemighjbfanenaaGreatDoorPk5
import Derived.Test.YtemighjbfanenaaGreatDoorPk6
import Derived.Deep.CutRange
set_option linter.all false
set_option maxRecDepth 100000
set_option maxHeartbeats 16000000
namespace Go.Proofs.YtemighjbfanenaaGreatDoor
open RowKit
open Oc (il mG Nv fR ej cY nV eM eG le val)
open Go renaming bits→aX
open Go.BinOp renaming and→bh
open Go.IntKind renaming wrap_u16→pj,u16→vk,i64→aO
open Go.Proofs.Tryz renaming prog→af
open List renaming getD_eq_getElem?_getD→bN
theorem BF{p:Prop}(h:p:=by
 clear hf;rw[hi] at c3;rw[ht] at c5;clear t1;go_wp2_with fail;go_meet;exact⟨rfl,rfl⟩):p:=h
theorem OD{p:Prop}(h:p:=by
 have uh:(tl != 0)=true:=by simp[bne,ht]
 go_wp2_with fail;go_meet;exact⟨rfl,rfl⟩):p:=h
theorem Ta{p:Prop}(h:p:=by obtain⟨g,q1,q2,q3⟩:=hG (by rw[←HV.o];exact hne);exact⟨g,q1,by have:=Ih.o.y6.size;omega,by rw[HV.o];exact q3⟩):p:=h
theorem abJ{p:Prop}(h:p:=by obtain⟨g,q1,q2,q3⟩:=hG (by rw[←HV.o];exact hne);exact⟨g,q1,by have:=HI8.o.y6.size;omega,by rw[HV.o];exact q3⟩):p:=h
theorem aeb{p:Prop}(h:p:=by rw[←HV.o];exact hne):p:=h
theorem ad4{p:Prop}(h:p:=by rw[HV.o];exact q3):p:=h
theorem xB{p:Prop}(h:p:=by rw[HV.o];exact hc):p:=h
theorem ajR{p:Prop}(h:p:=by have:=Ih.o.y6.size;omega):p:=h
theorem xg{p:Prop}(h:p:=by simp[nG]):p:=h
section
namespace En
def Qq: List Nat:=[0,5,0,0,2,6,5,4,8,8,8]
def fk(w:World): Prop:=∀ i:Nat,i<11→w.cell? ⟨0,i,none⟩=some (.int .i64 (Qq.getD i 0:Nat))
variable{w w':World}
theorem fk.same(h:fk w)(hk:w'.heap[0]? =w.heap[0]?): fk w':=fun i hi=>by rw[←h i hi];exact World.cell?_of_block (a:=⟨0,i,none⟩) hk
theorem fk.lt(h:fk w): 0<w.heap.size:=World.block_lt_of_cell? w _ (h 0 aN)
theorem fk.ai(h:fk w)(hb:Below w.heap.size w w'): fk w':=h.same (hb.block _ h.lt)
theorem fk.cO{S:Nat→Prop}(h:fk w)(ht:aI S w w')(hS: ¬S 0): fk w':=h.same (ht.block _ h.lt hS)
def zk(k e:Int): Nat:=if e≠0 then 0 else Qq.getD k.toNat 0
theorem oC(k e:Int)(w:World)(ht:fk w)(hk:0≤k∧k≤10): Calls af 153 #[.int .i64 k,.int .i64 e] w fun en w'=>en= .returned (.int .i64 (zk k e:Nat))∧w'=w:=by
 obtain⟨n,rfl⟩: ∃ n:Nat,k=n:=⟨k.toNat,aj⟩;have hn:n<11:=aj;have hc:=ht n hn;by_cases h0:e=0
 ·subst h0;have HF:=aa (show zk (n:Int) 0=Qq.getD n 0 by unfold zk;simp);have h1: ¬(n:Int)<0:=aj;have h2: ¬(11:Int)≤(n:Int):=aj;have h3:decide ((11:Int)≤(n:Int))=false:=decide_eq_false h2;have h4:decide ((n:Int)<0)=false:=decide_eq_false h1;clear ht hk;go_enter Tryz.func153,Tryz.ntmps153;go_wp2_with fail;go_ret;exact⟨by rw[HF.o,bN];rfl,rfl⟩
 have HF:=aa (show zk (n:Int) e=0 by unfold zk;rw[if_pos h0]);have h1:(e==0)=false:=beq_eq_false_iff_ne.2 h0;clear ht hk hc;go_enter Tryz.func153,Tryz.ntmps153;go_wp2_with fail;go_ret;exact⟨by rw[HF.o];rfl,rfl⟩
def iW(r:Rp): Array Value:=#[.int .u32 r.tag,.int .i64 r.ay,.int .i64 r.err,.int .u32 r.id,.int .i64 r.aw,.int .i64 r.aS,.int .i64 r.count]
theorem aR: (af.info? 108).map (·.size)=some 7:=br
theorem OP(b f:Nat)(flag:Int)(w:World)(h:w.cell? ⟨b,0,none⟩=some (.int .i64 f)): Calls af 239 #[.int .i64 0,.int .i64 flag,.pointer (some ⟨b,0,none⟩)] w fun en w'=>en= .returned (.bool true)∧w'=w:=by
 go_enter Tryz.func239,Tryz.ntmps239;go_wp2_with fail;go_ret;exact⟨rfl,rfl⟩
theorem OQ(b:Nat)(n:Int)(f flag:Nat)(w:World)(h:w.cell? ⟨b,0,none⟩=some (.int .i64 (f:Int)))(hn:0<n∧n≤65535)(hf:(f=2∧flag=2)∨(f=6∧flag=2)∨(f=8∧flag=8)): Calls af 239 #[.int .i64 n,.int .i64 (flag:Int),.pointer (some ⟨b,0,none⟩)] w fun en w'=>en= .returned (.bool true)∧w'=w:=by
 have h1:(n==0)=false:=cg;have h2:decide (0<n)=true:=decide_eq_true hn.1;have h3:decide (n≤65535)=true:=decide_eq_true hn.2;rcases hf with⟨rfl,rfl⟩|⟨rfl,rfl⟩|⟨rfl,rfl⟩
 all_goals
  go_enter Tryz.func239,Tryz.ntmps239;go_wp2_with fail;go_ret;exact⟨rfl,rfl⟩
end En
end
section
namespace En
structure yo(r:Rp)(f:Nat): Prop where
 flag:zk r.ay r.err=f
 ay:0≤r.ay∧r.ay≤10
 err:0≤r.err∧r.err≤65535
 none:r.ay=0→r.tag=0∧r.err=200
 tag:0≤r.tag∧r.tag<4294967296
 id:0≤r.id∧r.id<4294967296
 idf:r.id=0∨f=5
 aS:0≤r.aS∧r.aS<9223372036854775808
 agA:r.aS=0∨f=4∨f=5∨f=6
 aw:r.aw=0∨(0<r.aw∧r.aw≤65535∧(f=2∨f=6))
 count:r.count=0∨(0<r.count∧r.count≤65535∧f=8)
theorem FH(k e:Int): (zk k e=0∨zk k e=2∨zk k e=4∨zk k e=5∨zk k e=6∨zk k e=8):=by
 unfold zk;split
 ·exact .inl rfl
 rcases Nat.lt_or_ge k.toNat 11 with h|h
 ·have: ∀ i:Fin 11,(Qq.getD i.val 0=0∨Qq.getD i.val 0=2∨Qq.getD i.val 0=4∨Qq.getD i.val 0=5∨Qq.getD i.val 0=6∨Qq.getD i.val 0=8):=by decide
  exact this ⟨_,h⟩
 left;rw[bN,List.getElem?_eq_none (by simpa[Qq] using h)];rfl
theorem Ch(r:Rp)(f:Nat)(w:World)(ht:fk w)(h:yo r f): Calls af 152 #[.agg (iW r)] w fun en w'=>en= .returned (.int .i64 0)∧Below w.heap.size w w':=by
 obtain⟨xr,mO⟩:=ae w.heap.size;obtain⟨w1,aZ⟩:=ae (w.alloc (.cells (iW r) 108));obtain⟨xi,QQ⟩:=ae w1.heap.size;obtain⟨w2,hw2⟩:=ae (w1.alloc (.cells #[.int .i64 0] 3));obtain⟨w3,hw3⟩:=ae (w2.setCell ⟨xi,0,none⟩ (.int .i64 (f:Int)));have bt:=aK aZ mO;have hb1:=aL aZ;have rC:=aK hw2 QQ;have ia:aG w2 xr 108 (iW r):=by rw[←hw2];exact bt.alloc _
 have hne:xr≠xi:=by have:=bt.lt;omega
 have dD:aG w3 xr 108 (iW r):=by rw[←hw3];exact ia.other (p:=⟨xi,0,none⟩) hne _
 have fj:aG w3 xi 3 #[.int .i64 (f:Int)]:=by rw[←hw3];exact rC.put 0 _
 have dV:=aa (show Below w.heap.size w w3 by rw[←hw3,←hw2];exact(ax hb1 _).setCell (by show w.heap.size≤xi;rw[←QQ];exact hb1.size) _);have Cw:=aa (oC r.ay r.err w1 (ht.ai hb1) h.ay);rw[h.flag] at Cw;have a1:w1.cell? ⟨xr,1,none⟩=some (.int .i64 r.ay):=bt.cell 1;have a2:w1.cell? ⟨xr,2,none⟩=some (.int .i64 r.err):=bt.cell 2;have i2:=rC.cl 0;have m2:=rC.mark 0;have c0:w3.cell? ⟨xr,0,none⟩=some (.int .u32 r.tag):=dD.cell 0;have c1:w3.cell? ⟨xr,1,none⟩=some (.int .i64 r.ay):=dD.cell 1;have c2:w3.cell? ⟨xr,2,none⟩=some (.int .i64 r.err):=dD.cell 2;have c3:w3.cell? ⟨xr,3,none⟩=some (.int .u32 r.id):=dD.cell 3;have c4:w3.cell? ⟨xr,4,none⟩=some (.int .i64 r.aw):=dD.cell 4;have c5:w3.cell? ⟨xr,5,none⟩=some (.int .i64 r.aS):=dD.cell 5;have c6:w3.cell? ⟨xr,6,none⟩=some (.int .i64 r.count):=dD.cell 6;have ci:=fj.cl 0;have HCI:=aa ci;have HR:=aa h;obtain⟨tg,kd,er,id,st,tl,ct⟩:=r;have hk:=h.ay;have he:=h.err;have OW:=h.aS;simp only at *;have k1: ¬kd<0:=aj;have k2: ¬10<kd:=aj;have e1: ¬er<0:=aj;have e2: ¬65535<er:=aj;have t1: ¬tl<0:=aj;have Y9:=FH kd er;rw[h.flag] at Y9;have aiQ:=aa (show Calls af 239 #[.int .i64 st,.int .i64 2,.pointer (some ⟨xi,0,none⟩)] w3 fun en w'=>en= .returned (.bool true)∧w'=w3 from by
  rcases h.aw with h1|⟨h1,h2,h3⟩
  ·simp only at h1;rw[h1];exact OP xi f 2 w3 ci
  exact OQ xi st f 2 w3 ci ⟨h1,h2⟩ (by rcases h3 with rfl|rfl;exact .inl ⟨rfl,rfl⟩;exact .inr (.inl ⟨rfl,rfl⟩)))
 have alz:=aa (show Calls af 239 #[.int .i64 ct,.int .i64 8,.pointer (some ⟨xi,0,none⟩)] w3 fun en w'=>en= .returned (.bool true)∧w'=w3 from by
  rcases h.count with h1|⟨h1,h2,h3⟩
  ·simp only at h1;rw[h1];exact OP xi f 8 w3 ci
  exact OQ xi ct f 8 w3 ci ⟨h1,h2⟩ (.inr (.inr ⟨h3,rfl⟩)))
 clear ht h bt ia dD rC fj hb1 hne hk he OW;have hid:=HR.o.idf;have htf:=HR.o.agA;have hno:=HR.o.none;simp only at hid htf hno;have hI:id=0∨(f=5∧(id==0)=false):=by
  by_cases h0:id=0
  ·exact .inl h0
  exact .inr ⟨hid.resolve_left h0,beq_eq_false_iff_ne.2 h0⟩
 have hT:tl=0∨((f=4∨f=5∨f=6)∧(tl==0)=false):=by
  by_cases h0:tl=0
  ·exact .inl h0
  exact .inr ⟨htf.resolve_left h0,beq_eq_false_iff_ne.2 h0⟩
 have hK:(kd=0∧tg=0∧er=200∧f=0)∨(kd==0)=false:=by
  by_cases h0:kd=0
  ·obtain⟨h1,h2⟩:=hno h0;refine .inl ⟨h0,h1,h2,?_⟩;have h3:=HR.o.flag;simp only at h3;rw[h0,h2] at h3;rw[←h3];rfl
  exact .inr (beq_eq_false_iff_ne.2 h0)
 clear hid htf hno HR;have hall:(kd=0∧tg=0∧er=200∧f=0∧id=0∧tl=0)∨((kd==0)=false∧(f=0∨f=2∨f=8)∧id=0∧tl=0)∨((kd==0)=false∧(f=4∨f=5∨f=6)∧id=0∧tl=0)∨((kd==0)=false∧(f=4∨f=5∨f=6)∧id=0∧(tl==0)=false)∨((kd==0)=false∧f=5∧(id==0)=false∧tl=0)∨((kd==0)=false∧f=5∧(id==0)=false∧(tl==0)=false):=by
  rcases hK with⟨q1,q2,q3,q4⟩|q1
  ·refine .inl ⟨q1,q2,q3,q4,?_,?_⟩
   ·rcases hI with h|⟨h,_⟩;exact h;omega
   rcases hT with h|⟨h,_⟩;exact h;omega
  rcases hI with h|⟨h,h'⟩ <;>rcases hT with g|⟨g,g'⟩
  ·rcases Y9 with h5|h5|h5|h5|h5|h5
   ·exact .inr (.inl ⟨q1,.inl h5,h,g⟩)
   ·exact .inr (.inl ⟨q1,.inr (.inl h5),h,g⟩)
   ·exact .inr (.inr (.inl ⟨q1,.inl h5,h,g⟩))
   ·exact .inr (.inr (.inl ⟨q1,.inr (.inl h5),h,g⟩))
   ·exact .inr (.inr (.inl ⟨q1,.inr (.inr h5),h,g⟩))
   exact .inr (.inl ⟨q1,.inr (.inr h5),h,g⟩)
  ·exact .inr (.inr (.inr (.inl ⟨q1,g,h,g'⟩)))
  ·exact .inr (.inr (.inr (.inr (.inl ⟨q1,h,h',g⟩))))
  exact .inr (.inr (.inr (.inr (.inr ⟨q1,h,h',g'⟩))))
 have Yz:=aa hall;have HKK:=aa hK;clear hK hI hT Y9 hall;have k1:decide (kd<0)=false:=decide_eq_false k1;have k2:decide (10<kd)=false:=decide_eq_false k2;have e1:decide (er<0)=false:=decide_eq_false e1;have e2:decide (65535<er)=false:=decide_eq_false e2;have T1:=aa (show decide (tl<0)=false from decide_eq_false t1);have C0:=aa c0;have C3:=aa c3;have C4:=aa c4;have C5:=aa c5;have C6:=aa c6;have CI:=aa ci;clear t1 c0 c3 c4 c5 c6 ci;go_enter Tryz.func152,Tryz.ntmps152;go_wp2_with fail;refine ag Cw.o ?_;go_upto_region 5 with fail
 clear a1 a2 i2 m2 aZ hw2 hw3 mO QQ k1 k2 e1 e2;go_cut [30] from 31 to 43 (fun s30 wx=>s30= .bool false∧wx=w3)
 case first=>
  have c0:=C0.o;rcases HKK.o with⟨h1,h2,h3,_⟩|h1
  ·rw[h1] at c1;rw[h2] at c0;rw[h3] at c2;go_wp2_with fail;go_meet;exact⟨rfl,rfl⟩
  go_wp2_with fail;go_meet;exact⟨rfl,rfl⟩
 case rest=>
  obtain⟨rfl,rfl⟩:=hcut;clear c1 c2 HKK;go_upto_region 7 with fail
  go_cut [44] from 45 to 67 (fun s44 wx=>s44= .bool false∧wx=wc)
  case first=>
   have c3:=C3.o;have c5:=C5.o;have ci:=CI.o;have t1:=T1.o;clear C0 C3 C4 C5 C6 CI T1;rcases Yz.o with⟨_,_,_,hf,hi,ht⟩|⟨_,hf|hf|hf,hi,ht⟩|⟨_,hf|hf|hf,hi,ht⟩|⟨_,hf|hf|hf,hi,ht⟩|⟨_,hf,hi,ht⟩|⟨_,hf,hi,ht⟩
   ·have n1:aX bh aO 0 1=0:=by decide
    have n4:aX bh aO 0 4=0:=aN;rw[hf] at ci;push_cast at ci;exact BF
   ·have n1:aX bh aO 0 1=0:=by decide
    have n4:aX bh aO 0 4=0:=aN;rw[hf] at ci;push_cast at ci;exact BF
   ·have n1:aX bh aO 2 1=0:=by decide
    have n4:aX bh aO 2 4=0:=aN;rw[hf] at ci;push_cast at ci;exact BF
   ·have n1:aX bh aO 8 1=0:=by decide
    have n4:aX bh aO 8 4=0:=aN;rw[hf] at ci;push_cast at ci;exact BF
   ·have n1:aX bh aO 4 1=0:=by decide
    have n4:aX bh aO 4 4=4:=aN;rw[hf] at ci;push_cast at ci;exact BF
   ·have n1:aX bh aO 5 1=1:=by decide
    have n4:aX bh aO 5 4=4:=aN;rw[hf] at ci;push_cast at ci;exact BF
   ·have n1:aX bh aO 6 1=0:=by decide
    have n4:aX bh aO 6 4=4:=aN;rw[hf] at ci;push_cast at ci;exact BF
   ·have n1:aX bh aO 4 1=0:=by decide
    have n4:aX bh aO 4 4=4:=aN;rw[hf] at ci;push_cast at ci;clear hf;rw[hi] at c3;exact OD
   ·have n1:aX bh aO 5 1=1:=by decide
    have n4:aX bh aO 5 4=4:=aN;rw[hf] at ci;push_cast at ci;clear hf;rw[hi] at c3;exact OD
   ·have n1:aX bh aO 6 1=0:=by decide
    have n4:aX bh aO 6 4=4:=aN;rw[hf] at ci;push_cast at ci;clear hf;rw[hi] at c3;exact OD
   ·have n1:aX bh aO 5 1=1:=by decide
    have n4:aX bh aO 5 4=4:=aN;rw[hf] at ci;push_cast at ci;clear hf;have hi2:(id != 0)=true:=by simp[bne,hi]
    rw[ht] at c5;clear t1;go_wp2_with fail;go_meet;exact⟨rfl,rfl⟩
   have n1:aX bh aO 5 1=1:=aN;have n4:aX bh aO 5 4=4:=aN;rw[hf] at ci;push_cast at ci;clear hf;have hi2:(id != 0)=true:=by simp[bne,hi]
   exact OD
  case rest=>
   obtain⟨rfl,rfl⟩:=hcut;have c4:=C4.o;have c6:=C6.o;go_wp2_with fail;refine ag aiQ.o ?_;go_wp2_with fail;refine ag alz.o ?_;go_wp2_with fail;go_ret;exact⟨rfl,dV.o⟩
end En
end
section
namespace En
def nG(f:Nat)(tg kd er id st tl ct:Nat): By:=
 le tg 4++le kd 1++le er 2++(if f=5 then le id 4 else [])++(if f=2∨f=6 then le st 2 else [])++(if f=4∨f=5∨f=6 then le tl 8 else [])++(if f=8 then le ct 2 else [])
def y9(bs:By)(w:World)(e:Ending)(w':World): Prop:=
 ∃ A c,e= .returned (.tuple #[.slice A bs.length c,.int .i64 0])∧(bs≠ []→∃ g,A=some ⟨g,0,none⟩∧w.heap.size≤g∧mG w' g bs c)∧bs.length≤c∧Below w.heap.size w w'
structure RwI(w:World)(xr xw:Nat)(V:Array Value)(bs:By)(W:World): Prop where
 box:aG W xr 108 V
 wr:eG W xw bs
 y6:Below w.heap.size w W
theorem RwI.step{w W W':World}{xr xw:Nat}{V:Array Value}{bs bs':By}(h:RwI w xr xw V bs W)(hne:xr≠xw∧w.heap.size≤xw)(h1:eG W' xw bs')(ht:aI (· =xw) W W'): RwI w xr xw V bs' W':=
 ⟨ht.arr h.box hne.1,h1,aI.fresh ht h.y6 (fun j hj=>aj)⟩
theorem Xz(tg kd er id st tl ct:Nat)(f:Nat)(w:World)(ht:fk w)(h:yo ⟨tg,kd,er,id,st,tl,ct⟩ f): Calls af 65 #[.agg (iW ⟨tg,kd,er,id,st,tl,ct⟩)] w (y9 (nG f tg kd er id st tl ct) w):=by
 obtain⟨xr,mO⟩:=ae w.heap.size;obtain⟨w1,aZ⟩:=ae (w.alloc (.cells (iW ⟨tg,kd,er,id,st,tl,ct⟩) 108));have bt:=aK aZ mO;have hb1:=aL aZ;have jy:=aa (Ch ⟨tg,kd,er,id,st,tl,ct⟩ f w1 (ht.ai hb1) h);have dz:=aa bt;have bz:=aa hb1;have pg:=aa mO;have HT:=aa (show ∀ W,Below w.heap.size w W→fk W from fun W hW=>ht.ai hW);have HR:=aa h;clear ht h bt hb1;go_enter Tryz.func65,Tryz.ntmps65;go_wp2_with (refine aC rfl 108 (.tmp 1) rfl xr 108 _ dz.o rfl _ Tryz.underlying108 rfl aR ?_);refine jy.o.mono ?_;rintro e w2 ⟨rfl,hb2⟩;have iZ:=dz.js hb2;have cu:=bz.dP hb2;clear hb2 jy dz bz mO aZ;obtain⟨xw,hxw⟩:=ae w2.heap.size;obtain⟨w3,hw3⟩:=ae (w2.alloc (.cells #[.slice none 0 0] 150));have kV:=aa (show xr≠xw∧w.heap.size≤xw by have:=iZ.o.lt;have:=cu.o.size;omega);have gG:=aa (show RwI w xr xw (iW ⟨tg,kd,er,id,st,tl,ct⟩) [] w3 from⟨by rw[←hw3];exact iZ.o.alloc _,by rw[←hw3,←hxw];exact eG.fresh w2,by rw[←hw3];exact ax cu.o _⟩);have hk:=HR.o.ay;have he:=HR.o.err;have Mm:=HR.o.tag;have hid:=HR.o.id;have OW:=HR.o.aS;have hst:=HR.o.aw;have Eh:=HR.o.count;simp only at hk he Mm hid OW hst Eh;have ag1:tg<4294967296:=aj;have ahz:id<4294967296:=aj;have ag0:tl<18446744073709551616:=aj;have ahw:kd<256:=aj;have ahJ:er<65536:=aj;have ag3:st<65536:=aj;have ahN:ct<65536:=aj;have k1:IntKind.u8.wrap (kd:Int)=(kd:Int):=by rw[IntKind.wrap_u8'];omega
 have k2:vk.wrap (er:Int)=(er:Int):=by rw[pj];omega
 have k3:vk.wrap (st:Int)=(st:Int):=by rw[pj];omega
 have k4:IntKind.u64.wrap (tl:Int)=(tl:Int):=by rw[IntKind.wrap_u64];omega
 have k5:vk.wrap (ct:Int)=(ct:Int):=by rw[pj];omega
 have HL:=aa (show tg<4294967296∧id<4294967296∧tl<18446744073709551616∧kd<256∧er<65536∧st<65536∧ct<65536 from⟨ag1,ahz,ag0,ahw,ahJ,ag3,ahN⟩);clear hk he Mm hid OW hst Eh ag1 ahz ag0 ahw ahJ ag3 ahN;have c0:w3.cell? ⟨xr,0,none⟩=some (.int .u32 tg):=gG.o.box.cell 0;have Y9:=FH kd er;have lM:=HR.o.flag;simp only at lM;rw[lM] at Y9;go_wp2_with fail;rcases Y9 with rfl|rfl|rfl|rfl|rfl|rfl
 ·refine(cY xw tg [] w3 gG.o.wr dR HL.o.1).mono ?_;rintro e w4 ⟨⟨u4,rfl⟩,h1,h2⟩;have tA:=aa (gG.o.step kV.o h1 h2);have B8:w4.cell? ⟨xr,1,none⟩=some (.int .i64 kd):=tA.o.box.cell 1;clear h1 h2 c0;go_wp2_with fail;refine(fR xw kd ([]++le tg 4) w4 tA.o.wr fH HL.o.2.2.2.1).mono ?_;rintro e w5 ⟨⟨u5,rfl⟩,h1,h2⟩;have pZ:=aa (tA.o.step kV.o h1 h2);have B7:w5.cell? ⟨xr,2,none⟩=some (.int .i64 er):=pZ.o.box.cell 2;clear h1 h2;clear B8;go_wp2_with fail;refine(eM xw er (([]++le tg 4)++le kd 1) w5 pZ.o.wr fH HL.o.2.2.2.2.1).mono ?_;rintro e w6 ⟨⟨u6,rfl⟩,h1,h2⟩;have kZ:=aa (pZ.o.step kV.o h1 h2);have B6:w6.cell? ⟨xr,1,none⟩=some (.int .i64 kd):=kZ.o.box.cell 1;have B5:w6.cell? ⟨xr,2,none⟩=some (.int .i64 er):=kZ.o.box.cell 2;clear h1 h2;clear B7;go_wp2_with fail;refine(oC (kd:Int) (er:Int) w6 (HT.o _ kZ.o.y6) HR.o.ay).mono ?_;rintro e wq ⟨rfl,vY⟩;rw[vY,lM];clear vY wq lM B6 B5;have n1:aX bh aO 0 1=0:=aN;have n2:aX bh aO 0 2=0:=aN;have n4:aX bh aO 0 4=0:=aN;have n8:aX bh aO 0 8=0:=aN;go_wp2_with fail;refine(nV xw ((([]++le tg 4)++le kd 1)++le er 2) w6 kZ.o.wr fH).mono ?_;rintro e wz ⟨A,c,rfl,hG,hc,bt,ia,BU⟩;have HV:=aa (show nG 0 tg kd er id st tl ct=(([]++le tg 4)++le kd 1)++le er 2 from xg);have HF:=aa (show y9 (nG 0 tg kd er id st tl ct) w (.returned (.tuple #[.slice A ((([]++le tg 4)++le kd 1)++le er 2).length c,.int .i64 0])) wz from⟨A,c,by rw[HV.o],fun hne=>by obtain⟨g,q1,q2,q3⟩:=hG aeb;exact⟨g,q1,by have:=kZ.o.y6.size;omega,ad4⟩,xB,av kZ.o.y6 BU⟩);clear hG hc bt ia BU;go_wp2_with fail;go_ret2;exact HF.o
 ·refine(cY xw tg [] w3 gG.o.wr dR HL.o.1).mono ?_;rintro e w4 ⟨⟨u4,rfl⟩,h1,h2⟩;have tA:=aa (gG.o.step kV.o h1 h2);have B8:w4.cell? ⟨xr,1,none⟩=some (.int .i64 kd):=tA.o.box.cell 1;clear h1 h2 c0;go_wp2_with fail;refine(fR xw kd ([]++le tg 4) w4 tA.o.wr fH HL.o.2.2.2.1).mono ?_;rintro e w5 ⟨⟨u5,rfl⟩,h1,h2⟩;have pZ:=aa (tA.o.step kV.o h1 h2);have B7:w5.cell? ⟨xr,2,none⟩=some (.int .i64 er):=pZ.o.box.cell 2;clear h1 h2;clear B8;go_wp2_with fail;refine(eM xw er (([]++le tg 4)++le kd 1) w5 pZ.o.wr fH HL.o.2.2.2.2.1).mono ?_;rintro e w6 ⟨⟨u6,rfl⟩,h1,h2⟩;have kZ:=aa (pZ.o.step kV.o h1 h2);have B6:w6.cell? ⟨xr,1,none⟩=some (.int .i64 kd):=kZ.o.box.cell 1;have B5:w6.cell? ⟨xr,2,none⟩=some (.int .i64 er):=kZ.o.box.cell 2;clear h1 h2;clear B7;go_wp2_with fail;refine(oC (kd:Int) (er:Int) w6 (HT.o _ kZ.o.y6) HR.o.ay).mono ?_;rintro e wq ⟨rfl,vY⟩;rw[vY,lM];clear vY wq lM B6 B5;have n1:aX bh aO 2 1=0:=aN;have n2:aX bh aO 2 2=2:=aN;have n4:aX bh aO 2 4=0:=aN;have n8:aX bh aO 2 8=0:=aN;have afi:w6.cell? ⟨xr,4,none⟩=some (.int .i64 st):=kZ.o.box.cell 4;go_wp2_with fail;refine(eM xw st ((([]++le tg 4)++le kd 1)++le er 2) w6 kZ.o.wr fH HL.o.2.2.2.2.2.1).mono ?_;rintro e w7 ⟨⟨u7,rfl⟩,h1,h2⟩;have Ih:=aa (kZ.o.step kV.o h1 h2);clear h1 h2;clear afi;go_wp2_with fail;refine(nV xw (((([]++le tg 4)++le kd 1)++le er 2)++le st 2) w7 Ih.o.wr fH).mono ?_;rintro e wz ⟨A,c,rfl,hG,hc,bt,ia,BU⟩;have HV:=aa (show nG 2 tg kd er id st tl ct=((([]++le tg 4)++le kd 1)++le er 2)++le st 2 from xg);have HF:=aa (show y9 (nG 2 tg kd er id st tl ct) w (.returned (.tuple #[.slice A (((([]++le tg 4)++le kd 1)++le er 2)++le st 2).length c,.int .i64 0])) wz from⟨A,c,by rw[HV.o],fun hne=>Ta,xB,av Ih.o.y6 BU⟩);clear hG hc bt ia BU;go_wp2_with fail;go_ret2;exact HF.o
 ·refine(cY xw tg [] w3 gG.o.wr dR HL.o.1).mono ?_;rintro e w4 ⟨⟨u4,rfl⟩,h1,h2⟩;have tA:=aa (gG.o.step kV.o h1 h2);have B8:w4.cell? ⟨xr,1,none⟩=some (.int .i64 kd):=tA.o.box.cell 1;clear h1 h2 c0;go_wp2_with fail;refine(fR xw kd ([]++le tg 4) w4 tA.o.wr fH HL.o.2.2.2.1).mono ?_;rintro e w5 ⟨⟨u5,rfl⟩,h1,h2⟩;have pZ:=aa (tA.o.step kV.o h1 h2);have B7:w5.cell? ⟨xr,2,none⟩=some (.int .i64 er):=pZ.o.box.cell 2;clear h1 h2;clear B8;go_wp2_with fail;refine(eM xw er (([]++le tg 4)++le kd 1) w5 pZ.o.wr fH HL.o.2.2.2.2.1).mono ?_;rintro e w6 ⟨⟨u6,rfl⟩,h1,h2⟩;have kZ:=aa (pZ.o.step kV.o h1 h2);have B6:w6.cell? ⟨xr,1,none⟩=some (.int .i64 kd):=kZ.o.box.cell 1;have B5:w6.cell? ⟨xr,2,none⟩=some (.int .i64 er):=kZ.o.box.cell 2;clear h1 h2;clear B7;go_wp2_with fail;refine(oC (kd:Int) (er:Int) w6 (HT.o _ kZ.o.y6) HR.o.ay).mono ?_;rintro e wq ⟨rfl,vY⟩;rw[vY,lM];clear vY wq lM B6 B5;have n1:aX bh aO 4 1=0:=aN;have n2:aX bh aO 4 2=0:=aN;have n4:aX bh aO 4 4=4:=aN;have n8:aX bh aO 4 8=0:=aN;have akW:w6.cell? ⟨xr,5,none⟩=some (.int .i64 tl):=kZ.o.box.cell 5;go_wp2_with fail;refine(ej xw tl ((([]++le tg 4)++le kd 1)++le er 2) w6 kZ.o.wr fH HL.o.2.2.1).mono ?_;rintro e w7 ⟨⟨u7,rfl⟩,h1,h2⟩;have Ih:=aa (kZ.o.step kV.o h1 h2);clear h1 h2;clear akW;go_wp2_with fail;refine(nV xw (((([]++le tg 4)++le kd 1)++le er 2)++le tl 8) w7 Ih.o.wr fH).mono ?_;rintro e wz ⟨A,c,rfl,hG,hc,bt,ia,BU⟩;have HV:=aa (show nG 4 tg kd er id st tl ct=((([]++le tg 4)++le kd 1)++le er 2)++le tl 8 from xg);have HF:=aa (show y9 (nG 4 tg kd er id st tl ct) w (.returned (.tuple #[.slice A (((([]++le tg 4)++le kd 1)++le er 2)++le tl 8).length c,.int .i64 0])) wz from⟨A,c,by rw[HV.o],fun hne=>Ta,xB,av Ih.o.y6 BU⟩);clear hG hc bt ia BU;go_wp2_with fail;go_ret2;exact HF.o
 ·refine(cY xw tg [] w3 gG.o.wr dR HL.o.1).mono ?_;rintro e w4 ⟨⟨u4,rfl⟩,h1,h2⟩;have tA:=aa (gG.o.step kV.o h1 h2);have B8:w4.cell? ⟨xr,1,none⟩=some (.int .i64 kd):=tA.o.box.cell 1;clear h1 h2 c0;go_wp2_with fail;refine(fR xw kd ([]++le tg 4) w4 tA.o.wr fH HL.o.2.2.2.1).mono ?_;rintro e w5 ⟨⟨u5,rfl⟩,h1,h2⟩;have pZ:=aa (tA.o.step kV.o h1 h2);have B7:w5.cell? ⟨xr,2,none⟩=some (.int .i64 er):=pZ.o.box.cell 2;clear h1 h2;clear B8;go_wp2_with fail;refine(eM xw er (([]++le tg 4)++le kd 1) w5 pZ.o.wr fH HL.o.2.2.2.2.1).mono ?_;rintro e w6 ⟨⟨u6,rfl⟩,h1,h2⟩;have kZ:=aa (pZ.o.step kV.o h1 h2);have B6:w6.cell? ⟨xr,1,none⟩=some (.int .i64 kd):=kZ.o.box.cell 1;have B5:w6.cell? ⟨xr,2,none⟩=some (.int .i64 er):=kZ.o.box.cell 2;clear h1 h2;clear B7;go_wp2_with fail;refine(oC (kd:Int) (er:Int) w6 (HT.o _ kZ.o.y6) HR.o.ay).mono ?_;rintro e wq ⟨rfl,vY⟩;rw[vY,lM];clear vY wq lM B6 B5;have akX:w6.cell? ⟨xr,3,none⟩=some (.int .u32 id):=kZ.o.box.cell 3;have n1:aX bh aO 5 1=1:=aN;have n2:aX bh aO 5 2=0:=aN;have n4:aX bh aO 5 4=4:=aN;have n8:aX bh aO 5 8=0:=aN;go_wp2_with fail;refine(cY xw id ((([]++le tg 4)++le kd 1)++le er 2) w6 kZ.o.wr fH HL.o.2.1).mono ?_;rintro e w7 ⟨⟨u7,rfl⟩,h1,h2⟩;have Ih:=aa (kZ.o.step kV.o h1 h2);have afh:w7.cell? ⟨xr,5,none⟩=some (.int .i64 tl):=Ih.o.box.cell 5;clear h1 h2;clear akX;go_wp2_with fail;refine(ej xw tl (((([]++le tg 4)++le kd 1)++le er 2)++le id 4) w7 Ih.o.wr fH HL.o.2.2.1).mono ?_;rintro e w8 ⟨⟨u8,rfl⟩,h1,h2⟩;have HI8:=aa (Ih.o.step kV.o h1 h2);clear h1 h2;clear afh;go_wp2_with fail;refine(nV xw ((((([]++le tg 4)++le kd 1)++le er 2)++le id 4)++le tl 8) w8 HI8.o.wr fH).mono ?_;rintro e wz ⟨A,c,rfl,hG,hc,bt,ia,BU⟩;have HV:=aa (show nG 5 tg kd er id st tl ct=(((([]++le tg 4)++le kd 1)++le er 2)++le id 4)++le tl 8 from xg);have HF:=aa (show y9 (nG 5 tg kd er id st tl ct) w (.returned (.tuple #[.slice A ((((([]++le tg 4)++le kd 1)++le er 2)++le id 4)++le tl 8).length c,.int .i64 0])) wz from⟨A,c,by rw[HV.o],fun hne=>abJ,xB,av HI8.o.y6 BU⟩);clear hG hc bt ia BU;go_wp2_with fail;go_ret2;exact HF.o
 ·refine(cY xw tg [] w3 gG.o.wr dR HL.o.1).mono ?_;rintro e w4 ⟨⟨u4,rfl⟩,h1,h2⟩;have tA:=aa (gG.o.step kV.o h1 h2);have B8:w4.cell? ⟨xr,1,none⟩=some (.int .i64 kd):=tA.o.box.cell 1;clear h1 h2 c0;go_wp2_with fail;refine(fR xw kd ([]++le tg 4) w4 tA.o.wr fH HL.o.2.2.2.1).mono ?_;rintro e w5 ⟨⟨u5,rfl⟩,h1,h2⟩;have pZ:=aa (tA.o.step kV.o h1 h2);have B7:w5.cell? ⟨xr,2,none⟩=some (.int .i64 er):=pZ.o.box.cell 2;clear h1 h2;clear B8;go_wp2_with fail;refine(eM xw er (([]++le tg 4)++le kd 1) w5 pZ.o.wr fH HL.o.2.2.2.2.1).mono ?_;rintro e w6 ⟨⟨u6,rfl⟩,h1,h2⟩;have kZ:=aa (pZ.o.step kV.o h1 h2);have B6:w6.cell? ⟨xr,1,none⟩=some (.int .i64 kd):=kZ.o.box.cell 1;have B5:w6.cell? ⟨xr,2,none⟩=some (.int .i64 er):=kZ.o.box.cell 2;clear h1 h2;clear B7;go_wp2_with fail;refine(oC (kd:Int) (er:Int) w6 (HT.o _ kZ.o.y6) HR.o.ay).mono ?_;rintro e wq ⟨rfl,vY⟩;rw[vY,lM];clear vY wq lM B6 B5;have n1:aX bh aO 6 1=0:=aN;have n2:aX bh aO 6 2=2:=aN;have n4:aX bh aO 6 4=4:=aN;have n8:aX bh aO 6 8=0:=aN;have afi:w6.cell? ⟨xr,4,none⟩=some (.int .i64 st):=kZ.o.box.cell 4;go_wp2_with fail;refine(eM xw st ((([]++le tg 4)++le kd 1)++le er 2) w6 kZ.o.wr fH HL.o.2.2.2.2.2.1).mono ?_;rintro e w7 ⟨⟨u7,rfl⟩,h1,h2⟩;have Ih:=aa (kZ.o.step kV.o h1 h2);have afh:w7.cell? ⟨xr,5,none⟩=some (.int .i64 tl):=Ih.o.box.cell 5;clear h1 h2;clear afi;go_wp2_with fail;refine(ej xw tl (((([]++le tg 4)++le kd 1)++le er 2)++le st 2) w7 Ih.o.wr fH HL.o.2.2.1).mono ?_;rintro e w8 ⟨⟨u8,rfl⟩,h1,h2⟩;have HI8:=aa (Ih.o.step kV.o h1 h2);clear h1 h2;clear afh;go_wp2_with fail;refine(nV xw ((((([]++le tg 4)++le kd 1)++le er 2)++le st 2)++le tl 8) w8 HI8.o.wr fH).mono ?_;rintro e wz ⟨A,c,rfl,hG,hc,bt,ia,BU⟩;have HV:=aa (show nG 6 tg kd er id st tl ct=(((([]++le tg 4)++le kd 1)++le er 2)++le st 2)++le tl 8 from xg);have HF:=aa (show y9 (nG 6 tg kd er id st tl ct) w (.returned (.tuple #[.slice A ((((([]++le tg 4)++le kd 1)++le er 2)++le st 2)++le tl 8).length c,.int .i64 0])) wz from⟨A,c,by rw[HV.o],fun hne=>abJ,xB,av HI8.o.y6 BU⟩);clear hG hc bt ia BU;go_wp2_with fail;go_ret2;exact HF.o
 refine(cY xw tg [] w3 gG.o.wr dR HL.o.1).mono ?_;rintro e w4 ⟨⟨u4,rfl⟩,h1,h2⟩;have tA:=aa (gG.o.step kV.o h1 h2);have B8:w4.cell? ⟨xr,1,none⟩=some (.int .i64 kd):=tA.o.box.cell 1;clear h1 h2 c0;go_wp2_with fail;refine(fR xw kd ([]++le tg 4) w4 tA.o.wr fH HL.o.2.2.2.1).mono ?_;rintro e w5 ⟨⟨u5,rfl⟩,h1,h2⟩;have pZ:=aa (tA.o.step kV.o h1 h2);have B7:w5.cell? ⟨xr,2,none⟩=some (.int .i64 er):=pZ.o.box.cell 2;clear h1 h2;clear B8;go_wp2_with fail;refine(eM xw er (([]++le tg 4)++le kd 1) w5 pZ.o.wr fH HL.o.2.2.2.2.1).mono ?_;rintro e w6 ⟨⟨u6,rfl⟩,h1,h2⟩;have kZ:=aa (pZ.o.step kV.o h1 h2);have B6:w6.cell? ⟨xr,1,none⟩=some (.int .i64 kd):=kZ.o.box.cell 1;have B5:w6.cell? ⟨xr,2,none⟩=some (.int .i64 er):=kZ.o.box.cell 2;clear h1 h2;clear B7;go_wp2_with fail;refine(oC (kd:Int) (er:Int) w6 (HT.o _ kZ.o.y6) HR.o.ay).mono ?_;rintro e wq ⟨rfl,vY⟩;rw[vY,lM];clear vY wq lM B6 B5;have n1:aX bh aO 8 1=0:=aN;have n2:aX bh aO 8 2=0:=aN;have n4:aX bh aO 8 4=0:=aN;have n8:aX bh aO 8 8=8:=aN;have akV:w6.cell? ⟨xr,6,none⟩=some (.int .i64 ct):=kZ.o.box.cell 6;go_wp2_with fail;refine(eM xw ct ((([]++le tg 4)++le kd 1)++le er 2) w6 kZ.o.wr fH HL.o.2.2.2.2.2.2).mono ?_;rintro e w7 ⟨⟨u7,rfl⟩,h1,h2⟩;have Ih:=aa (kZ.o.step kV.o h1 h2);clear h1 h2;clear akV;go_wp2_with fail;refine(nV xw (((([]++le tg 4)++le kd 1)++le er 2)++le ct 2) w7 Ih.o.wr fH).mono ?_;rintro e wz ⟨A,c,rfl,hG,hc,bt,ia,BU⟩;have HV:=aa (show nG 8 tg kd er id st tl ct=((([]++le tg 4)++le kd 1)++le er 2)++le ct 2 from xg);have HF:=aa (show y9 (nG 8 tg kd er id st tl ct) w (.returned (.tuple #[.slice A (((([]++le tg 4)++le kd 1)++le er 2)++le ct 2).length c,.int .i64 0])) wz from⟨A,c,by rw[HV.o],fun hne=>Ta,xB,av Ih.o.y6 BU⟩);clear hG hc bt ia BU;go_wp2_with fail;go_ret2;exact HF.o
