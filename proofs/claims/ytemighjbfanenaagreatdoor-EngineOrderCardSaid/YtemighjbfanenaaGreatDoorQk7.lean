import Derived.Test.YtemighjbfanenaaGreatDoorQk5
import Derived.Test.YtemighjbfanenaaGreatDoorQk6
import Derived.Deep.CutRange
set_option linter.all false
set_option maxRecDepth 100000
set_option maxHeartbeats 16000000
namespace Go.Proofs.YtemighjbfanenaaGreatDoor
open RowKit
open Oc (ib mL Nc fS ed df nR eO eF le val)
open Go renaming bits→aX
open Go.BinOp renaming and→bl
open Go.IntKind renaming wrap_u16→pn,i64→aN,u16→uY
open Go.Proofs.Tryz renaming prog→af
open List renaming getD_eq_getElem?_getD→bR
theorem Bd{p:Prop}(h:p:=by
 clear hf;rw[hi] at c3;rw[ht] at c5;clear t1;go_wp2_with fail;go_meet;exact⟨rfl,rfl⟩):p:=h
theorem Oj{p:Prop}(h:p:=by
 have ud:(tl != 0)=true:=by simp[bne,ht]
 go_wp2_with fail;go_meet;exact⟨rfl,rfl⟩):p:=h
theorem SX{p:Prop}(h:p:=by obtain⟨g,q1,q2,q3⟩:=hG (by rw[←HV.o];exact hne);exact⟨g,q1,by have:=Hl.o.za.size;omega,by rw[HV.o];exact q3⟩):p:=h
theorem abD{p:Prop}(h:p:=by obtain⟨g,q1,q2,q3⟩:=hG (by rw[←HV.o];exact hne);exact⟨g,q1,by have:=HI8.o.za.size;omega,by rw[HV.o];exact q3⟩):p:=h
theorem ad0{p:Prop}(h:p:=by rw[←HV.o];exact hne):p:=h
theorem adT{p:Prop}(h:p:=by rw[HV.o];exact q3):p:=h
theorem xd{p:Prop}(h:p:=by rw[HV.o];exact hc):p:=h
theorem ajO{p:Prop}(h:p:=by have:=Hl.o.za.size;omega):p:=h
theorem wT{p:Prop}(h:p:=by simp[nC]):p:=h
section
namespace En
def Qe: List Nat:=[0,5,0,0,2,6,5,4,8,8,8]
def fp(w:World): Prop:=∀ i:Nat,i<11→w.cell? ⟨0,i,none⟩=some (.int .i64 (Qe.getD i 0:Nat))
variable{w w':World}
theorem fp.same(h:fp w)(hk:w'.heap[0]? =w.heap[0]?): fp w':=fun i hi=>by rw[←h i hi];exact World.cell?_of_block (a:=⟨0,i,none⟩) hk
theorem fp.lt(h:fp w): 0<w.heap.size:=World.block_lt_of_cell? w _ (h 0 aM)
theorem fp.ah(h:fp w)(hb:Below w.heap.size w w'): fp w':=h.same (hb.block _ h.lt)
theorem fp.cR{S:Nat→Prop}(h:fp w)(ht:aI S w w')(hS: ¬S 0): fp w':=h.same (ht.block _ h.lt hS)
def yT(k e:Int): Nat:=if e≠0 then 0 else Qe.getD k.toNat 0
theorem oD(k e:Int)(w:World)(ht:fp w)(hk:0≤k∧k≤10): Calls af 153 #[.int .i64 k,.int .i64 e] w fun en w'=>en= .returned (.int .i64 (yT k e:Nat))∧w'=w:=by
 obtain⟨n,rfl⟩: ∃ n:Nat,k=n:=⟨k.toNat,ai⟩;have hn:n<11:=ai;have hc:=ht n hn;by_cases h0:e=0
 ·subst h0;have HF:=aa (show yT (n:Int) 0=Qe.getD n 0 by unfold yT;simp);have h1: ¬(n:Int)<0:=ai;have h2: ¬(11:Int)≤(n:Int):=ai;have h3:decide ((11:Int)≤(n:Int))=false:=decide_eq_false h2;have h4:decide ((n:Int)<0)=false:=decide_eq_false h1;clear ht hk;go_enter Tryz.func153,Tryz.ntmps153;go_wp2_with fail;go_ret;exact⟨by rw[HF.o,bR];rfl,rfl⟩
 have HF:=aa (show yT (n:Int) e=0 by unfold yT;rw[if_pos h0]);have h1:(e==0)=false:=beq_eq_false_iff_ne.2 h0;clear ht hk hc;go_enter Tryz.func153,Tryz.ntmps153;go_wp2_with fail;go_ret;exact⟨by rw[HF.o];rfl,rfl⟩
def lf(r:Rp): Array Value:=#[.int .u32 r.tag,.int .i64 r.ax,.int .i64 r.err,.int .u32 r.id,.int .i64 r.aw,.int .i64 r.aR,.int .i64 r.count]
theorem aS: (af.info? 108).map (·.size)=some 7:=bh
theorem Ow(b f:Nat)(flag:Int)(w:World)(h:w.cell? ⟨b,0,none⟩=some (.int .i64 f)): Calls af 239 #[.int .i64 0,.int .i64 flag,.pointer (some ⟨b,0,none⟩)] w fun en w'=>en= .returned (.bool true)∧w'=w:=by
 go_enter Tryz.func239,Tryz.ntmps239;go_wp2_with fail;go_ret;exact⟨rfl,rfl⟩
theorem Ox(b:Nat)(n:Int)(f flag:Nat)(w:World)(h:w.cell? ⟨b,0,none⟩=some (.int .i64 (f:Int)))(hn:0<n∧n≤65535)(hf:(f=2∧flag=2)∨(f=6∧flag=2)∨(f=8∧flag=8)): Calls af 239 #[.int .i64 n,.int .i64 (flag:Int),.pointer (some ⟨b,0,none⟩)] w fun en w'=>en= .returned (.bool true)∧w'=w:=by
 have h1:(n==0)=false:=bQ;have h2:decide (0<n)=true:=decide_eq_true hn.1;have h3:decide (n≤65535)=true:=decide_eq_true hn.2;rcases hf with⟨rfl,rfl⟩|⟨rfl,rfl⟩|⟨rfl,rfl⟩
 all_goals
  go_enter Tryz.func239,Tryz.ntmps239;go_wp2_with fail;go_ret;exact⟨rfl,rfl⟩
end En
end
section
namespace En
structure yb(r:Rp)(f:Nat): Prop where
 flag:yT r.ax r.err=f
 ax:0≤r.ax∧r.ax≤10
 err:0≤r.err∧r.err≤65535
 none:r.ax=0→r.tag=0∧r.err=200
 tag:0≤r.tag∧r.tag<4294967296
 id:0≤r.id∧r.id<4294967296
 idf:r.id=0∨f=5
 aR:0≤r.aR∧r.aR<9223372036854775808
 agr:r.aR=0∨f=4∨f=5∨f=6
 aw:r.aw=0∨(0<r.aw∧r.aw≤65535∧(f=2∨f=6))
 count:r.count=0∨(0<r.count∧r.count≤65535∧f=8)
theorem Fk(k e:Int): (yT k e=0∨yT k e=2∨yT k e=4∨yT k e=5∨yT k e=6∨yT k e=8):=by
 unfold yT;split
 ·exact .inl rfl
 rcases Nat.lt_or_ge k.toNat 11 with h|h
 ·have: ∀ i:Fin 11,(Qe.getD i.val 0=0∨Qe.getD i.val 0=2∨Qe.getD i.val 0=4∨Qe.getD i.val 0=5∨Qe.getD i.val 0=6∨Qe.getD i.val 0=8):=by decide
  exact this ⟨_,h⟩
 left;rw[bR,List.getElem?_eq_none (by simpa[Qe] using h)];rfl
theorem BW(r:Rp)(f:Nat)(w:World)(ht:fp w)(h:yb r f): Calls af 152 #[.agg (lf r)] w fun en w'=>en= .returned (.int .i64 0)∧Below w.heap.size w w':=by
 obtain⟨xr,nZ⟩:=ae w.heap.size;obtain⟨w1,a8⟩:=ae (w.alloc (.cells (lf r) 108));obtain⟨xi,QE⟩:=ae w1.heap.size;obtain⟨w2,hw2⟩:=ae (w1.alloc (.cells #[.int .i64 0] 3));obtain⟨w3,hw3⟩:=ae (w2.setCell ⟨xi,0,none⟩ (.int .i64 (f:Int)));have bp:=aJ a8 nZ;have hb1:=aK a8;have rj:=aJ hw2 QE;have gZ:aG w2 xr 108 (lf r):=by rw[←hw2];exact bp.alloc _
 have hne:xr≠xi:=by have:=bp.lt;omega
 have dE:aG w3 xr 108 (lf r):=by rw[←hw3];exact gZ.other (p:=⟨xi,0,none⟩) hne _
 have fo:aG w3 xi 3 #[.int .i64 (f:Int)]:=by rw[←hw3];exact rj.put 0 _
 have dV:=aa (show Below w.heap.size w w3 by rw[←hw3,←hw2];exact(ay hb1 _).setCell (by show w.heap.size≤xi;rw[←QE];exact hb1.size) _);have Cc:=aa (oD r.ax r.err w1 (ht.ah hb1) h.ax);rw[h.flag] at Cc;have a1:w1.cell? ⟨xr,1,none⟩=some (.int .i64 r.ax):=bp.cell 1;have a2:w1.cell? ⟨xr,2,none⟩=some (.int .i64 r.err):=bp.cell 2;have i2:=rj.cl 0;have m2:=rj.mark 0;have c0:w3.cell? ⟨xr,0,none⟩=some (.int .u32 r.tag):=dE.cell 0;have c1:w3.cell? ⟨xr,1,none⟩=some (.int .i64 r.ax):=dE.cell 1;have c2:w3.cell? ⟨xr,2,none⟩=some (.int .i64 r.err):=dE.cell 2;have c3:w3.cell? ⟨xr,3,none⟩=some (.int .u32 r.id):=dE.cell 3;have c4:w3.cell? ⟨xr,4,none⟩=some (.int .i64 r.aw):=dE.cell 4;have c5:w3.cell? ⟨xr,5,none⟩=some (.int .i64 r.aR):=dE.cell 5;have c6:w3.cell? ⟨xr,6,none⟩=some (.int .i64 r.count):=dE.cell 6;have ci:=fo.cl 0;have HCI:=aa ci;have HR:=aa h;obtain⟨tg,kd,er,id,st,tl,ct⟩:=r;have hk:=h.ax;have he:=h.err;have LY:=h.aR;simp only at *;have k1: ¬kd<0:=ai;have k2: ¬10<kd:=ai;have e1: ¬er<0:=ai;have e2: ¬65535<er:=ai;have t1: ¬tl<0:=ai;have Y3:=Fk kd er;rw[h.flag] at Y3;have aiN:=aa (show Calls af 239 #[.int .i64 st,.int .i64 2,.pointer (some ⟨xi,0,none⟩)] w3 fun en w'=>en= .returned (.bool true)∧w'=w3 from by
  rcases h.aw with h1|⟨h1,h2,h3⟩
  ·simp only at h1;rw[h1];exact Ow xi f 2 w3 ci
  exact Ox xi st f 2 w3 ci ⟨h1,h2⟩ (by rcases h3 with rfl|rfl;exact .inl ⟨rfl,rfl⟩;exact .inr (.inl ⟨rfl,rfl⟩)))
 have alv:=aa (show Calls af 239 #[.int .i64 ct,.int .i64 8,.pointer (some ⟨xi,0,none⟩)] w3 fun en w'=>en= .returned (.bool true)∧w'=w3 from by
  rcases h.count with h1|⟨h1,h2,h3⟩
  ·simp only at h1;rw[h1];exact Ow xi f 8 w3 ci
  exact Ox xi ct f 8 w3 ci ⟨h1,h2⟩ (.inr (.inr ⟨h3,rfl⟩)))
 clear ht h bp gZ dE rj fo hb1 hne hk he LY;have hid:=HR.o.idf;have htf:=HR.o.agr;have hno:=HR.o.none;simp only at hid htf hno;have hI:id=0∨(f=5∧(id==0)=false):=by
  by_cases h0:id=0
  ·exact .inl h0
  exact .inr ⟨hid.resolve_left h0,beq_eq_false_iff_ne.2 h0⟩
 have hT:tl=0∨((f=4∨f=5∨f=6)∧(tl==0)=false):=by
  by_cases h0:tl=0
  ·exact .inl h0
  exact .inr ⟨htf.resolve_left h0,beq_eq_false_iff_ne.2 h0⟩
 have hK:(kd=0∧tg=0∧er=200∧f=0)∨(kd==0)=false:=by
  by_cases h0:kd=0
  ·obtain⟨h1,h2⟩:=hno h0;refine .inl ⟨h0,h1,h2,?_⟩;have h3:=HR.o.flag;simp only at h3;rw[h0,h2] at h3;rw[←h3];rfl
  exact .inr (beq_eq_false_iff_ne.2 h0)
 clear hid htf hno HR;have hall:(kd=0∧tg=0∧er=200∧f=0∧id=0∧tl=0)∨((kd==0)=false∧(f=0∨f=2∨f=8)∧id=0∧tl=0)∨((kd==0)=false∧(f=4∨f=5∨f=6)∧id=0∧tl=0)∨((kd==0)=false∧(f=4∨f=5∨f=6)∧id=0∧(tl==0)=false)∨((kd==0)=false∧f=5∧(id==0)=false∧tl=0)∨((kd==0)=false∧f=5∧(id==0)=false∧(tl==0)=false):=by
  rcases hK with⟨q1,q2,q3,q4⟩|q1
  ·refine .inl ⟨q1,q2,q3,q4,?_,?_⟩
   ·rcases hI with h|⟨h,_⟩;exact h;omega
   rcases hT with h|⟨h,_⟩;exact h;omega
  rcases hI with h|⟨h,h'⟩ <;>rcases hT with g|⟨g,g'⟩
  ·rcases Y3 with h5|h5|h5|h5|h5|h5
   ·exact .inr (.inl ⟨q1,.inl h5,h,g⟩)
   ·exact .inr (.inl ⟨q1,.inr (.inl h5),h,g⟩)
   ·exact .inr (.inr (.inl ⟨q1,.inl h5,h,g⟩))
   ·exact .inr (.inr (.inl ⟨q1,.inr (.inl h5),h,g⟩))
   ·exact .inr (.inr (.inl ⟨q1,.inr (.inr h5),h,g⟩))
   exact .inr (.inl ⟨q1,.inr (.inr h5),h,g⟩)
  ·exact .inr (.inr (.inr (.inl ⟨q1,g,h,g'⟩)))
  ·exact .inr (.inr (.inr (.inr (.inl ⟨q1,h,h',g⟩))))
  exact .inr (.inr (.inr (.inr (.inr ⟨q1,h,h',g'⟩))))
 have M7:=aa hall;have J8:=aa hK;clear hK hI hT Y3 hall;have k1:decide (kd<0)=false:=decide_eq_false k1;have k2:decide (10<kd)=false:=decide_eq_false k2;have e1:decide (er<0)=false:=decide_eq_false e1;have e2:decide (65535<er)=false:=decide_eq_false e2;have T1:=aa (show decide (tl<0)=false from decide_eq_false t1);have C0:=aa c0;have C3:=aa c3;have C4:=aa c4;have C5:=aa c5;have C6:=aa c6;have CI:=aa ci;clear t1 c0 c3 c4 c5 c6 ci;go_enter Tryz.func152,Tryz.ntmps152;go_wp2_with fail;refine ag Cc.o ?_;go_upto_region 5 with fail
 clear a1 a2 i2 m2 a8 hw2 hw3 nZ QE k1 k2 e1 e2;go_cut [30] from 31 to 43 (fun s30 wx=>s30= .bool false∧wx=w3)
 case first=>
  have c0:=C0.o;rcases J8.o with⟨h1,h2,h3,_⟩|h1
  ·rw[h1] at c1;rw[h2] at c0;rw[h3] at c2;go_wp2_with fail;go_meet;exact⟨rfl,rfl⟩
  go_wp2_with fail;go_meet;exact⟨rfl,rfl⟩
 case rest=>
  obtain⟨rfl,rfl⟩:=hcut;clear c1 c2 J8;go_upto_region 7 with fail
  go_cut [44] from 45 to 67 (fun s44 wx=>s44= .bool false∧wx=wc)
  case first=>
   have c3:=C3.o;have c5:=C5.o;have ci:=CI.o;have t1:=T1.o;clear C0 C3 C4 C5 C6 CI T1;rcases M7.o with⟨_,_,_,hf,hi,ht⟩|⟨_,hf|hf|hf,hi,ht⟩|⟨_,hf|hf|hf,hi,ht⟩|⟨_,hf|hf|hf,hi,ht⟩|⟨_,hf,hi,ht⟩|⟨_,hf,hi,ht⟩
   ·have n1:aX bl aN 0 1=0:=by decide
    have n4:aX bl aN 0 4=0:=aM;rw[hf] at ci;push_cast at ci;exact Bd
   ·have n1:aX bl aN 0 1=0:=by decide
    have n4:aX bl aN 0 4=0:=aM;rw[hf] at ci;push_cast at ci;exact Bd
   ·have n1:aX bl aN 2 1=0:=by decide
    have n4:aX bl aN 2 4=0:=aM;rw[hf] at ci;push_cast at ci;exact Bd
   ·have n1:aX bl aN 8 1=0:=by decide
    have n4:aX bl aN 8 4=0:=aM;rw[hf] at ci;push_cast at ci;exact Bd
   ·have n1:aX bl aN 4 1=0:=by decide
    have n4:aX bl aN 4 4=4:=aM;rw[hf] at ci;push_cast at ci;exact Bd
   ·have n1:aX bl aN 5 1=1:=by decide
    have n4:aX bl aN 5 4=4:=aM;rw[hf] at ci;push_cast at ci;exact Bd
   ·have n1:aX bl aN 6 1=0:=by decide
    have n4:aX bl aN 6 4=4:=aM;rw[hf] at ci;push_cast at ci;exact Bd
   ·have n1:aX bl aN 4 1=0:=by decide
    have n4:aX bl aN 4 4=4:=aM;rw[hf] at ci;push_cast at ci;clear hf;rw[hi] at c3;exact Oj
   ·have n1:aX bl aN 5 1=1:=by decide
    have n4:aX bl aN 5 4=4:=aM;rw[hf] at ci;push_cast at ci;clear hf;rw[hi] at c3;exact Oj
   ·have n1:aX bl aN 6 1=0:=by decide
    have n4:aX bl aN 6 4=4:=aM;rw[hf] at ci;push_cast at ci;clear hf;rw[hi] at c3;exact Oj
   ·have n1:aX bl aN 5 1=1:=by decide
    have n4:aX bl aN 5 4=4:=aM;rw[hf] at ci;push_cast at ci;clear hf;have hi2:(id != 0)=true:=by simp[bne,hi]
    rw[ht] at c5;clear t1;go_wp2_with fail;go_meet;exact⟨rfl,rfl⟩
   have n1:aX bl aN 5 1=1:=aM;have n4:aX bl aN 5 4=4:=aM;rw[hf] at ci;push_cast at ci;clear hf;have hi2:(id != 0)=true:=by simp[bne,hi]
   exact Oj
  case rest=>
   obtain⟨rfl,rfl⟩:=hcut;have c4:=C4.o;have c6:=C6.o;go_wp2_with fail;refine ag aiN.o ?_;go_wp2_with fail;refine ag alv.o ?_;go_wp2_with fail;go_ret;exact⟨rfl,dV.o⟩
end En
end
section
namespace En
def nC(f:Nat)(tg kd er id st tl ct:Nat): By:=
 le tg 4++le kd 1++le er 2++(if f=5 then le id 4 else [])++(if f=2∨f=6 then le st 2 else [])++(if f=4∨f=5∨f=6 then le tl 8 else [])++(if f=8 then le ct 2 else [])
def yL(bs:By)(w:World)(e:Ending)(w':World): Prop:=
 ∃ A c,e= .returned (.tuple #[.slice A bs.length c,.int .i64 0])∧(bs≠ []→∃ g,A=some ⟨g,0,none⟩∧w.heap.size≤g∧mL w' g bs c)∧bs.length≤c∧Below w.heap.size w w'
structure RwI(w:World)(xr xw:Nat)(V:Array Value)(bs:By)(W:World): Prop where
 box:aG W xr 108 V
 wr:eF W xw bs
 za:Below w.heap.size w W
theorem RwI.step{w W W':World}{xr xw:Nat}{V:Array Value}{bs bs':By}(h:RwI w xr xw V bs W)(hne:xr≠xw∧w.heap.size≤xw)(h1:eF W' xw bs')(ht:aI (· =xw) W W'): RwI w xr xw V bs' W':=
 ⟨ht.arr h.box hne.1,h1,aI.fresh ht h.za (fun j hj=>ai)⟩
theorem Xr(tg kd er id st tl ct:Nat)(f:Nat)(w:World)(ht:fp w)(h:yb ⟨tg,kd,er,id,st,tl,ct⟩ f): Calls af 65 #[.agg (lf ⟨tg,kd,er,id,st,tl,ct⟩)] w (yL (nC f tg kd er id st tl ct) w):=by
 obtain⟨xr,nZ⟩:=ae w.heap.size;obtain⟨w1,a8⟩:=ae (w.alloc (.cells (lf ⟨tg,kd,er,id,st,tl,ct⟩) 108));have bp:=aJ a8 nZ;have hb1:=aK a8;have jz:=aa (BW ⟨tg,kd,er,id,st,tl,ct⟩ f w1 (ht.ah hb1) h);have dF:=aa bp;have bA:=aa hb1;have pd:=aa nZ;have HT:=aa (show ∀ W,Below w.heap.size w W→fp W from fun W hW=>ht.ah hW);have HR:=aa h;clear ht h bp hb1;go_enter Tryz.func65,Tryz.ntmps65;go_wp2_with (refine aC rfl 108 (.tmp 1) rfl xr 108 _ dF.o rfl _ Tryz.underlying108 rfl aS ?_);refine jz.o.mono ?_;rintro e w2 ⟨rfl,hb2⟩;have jB:=dF.jC hb2;have cu:=bA.dQ hb2;clear hb2 jz dF bA nZ a8;obtain⟨xw,hxw⟩:=ae w2.heap.size;obtain⟨w3,hw3⟩:=ae (w2.alloc (.cells #[.slice none 0 0] 150));have kX:=aa (show xr≠xw∧w.heap.size≤xw by have:=jB.o.lt;have:=cu.o.size;omega);have gH:=aa (show RwI w xr xw (lf ⟨tg,kd,er,id,st,tl,ct⟩) [] w3 from⟨by rw[←hw3];exact jB.o.alloc _,by rw[←hw3,←hxw];exact eF.fresh w2,by rw[←hw3];exact ay cu.o _⟩);have hk:=HR.o.ax;have he:=HR.o.err;have L5:=HR.o.tag;have hid:=HR.o.id;have LY:=HR.o.aR;have hst:=HR.o.aw;have CC:=HR.o.count;simp only at hk he L5 hid LY hst CC;have agT:tg<4294967296:=ai;have ahs:id<4294967296:=ai;have agS:tl<18446744073709551616:=ai;have ahp:kd<256:=ai;have ahC:er<65536:=ai;have agV:st<65536:=ai;have ahG:ct<65536:=ai;have k1:IntKind.u8.wrap (kd:Int)=(kd:Int):=by rw[IntKind.wrap_u8'];omega
 have k2:uY.wrap (er:Int)=(er:Int):=by rw[pn];omega
 have k3:uY.wrap (st:Int)=(st:Int):=by rw[pn];omega
 have k4:IntKind.u64.wrap (tl:Int)=(tl:Int):=by rw[IntKind.wrap_u64];omega
 have k5:uY.wrap (ct:Int)=(ct:Int):=by rw[pn];omega
 have HL:=aa (show tg<4294967296∧id<4294967296∧tl<18446744073709551616∧kd<256∧er<65536∧st<65536∧ct<65536 from⟨agT,ahs,agS,ahp,ahC,agV,ahG⟩);clear hk he L5 hid LY hst CC agT ahs agS ahp ahC agV ahG;have c0:w3.cell? ⟨xr,0,none⟩=some (.int .u32 tg):=gH.o.box.cell 0;have Y3:=Fk kd er;have lS:=HR.o.flag;simp only at lS;rw[lS] at Y3;go_wp2_with fail;rcases Y3 with rfl|rfl|rfl|rfl|rfl|rfl
 ·refine(df xw tg [] w3 gH.o.wr dM HL.o.1).mono ?_;rintro e w4 ⟨⟨u4,rfl⟩,h1,h2⟩;have tr:=aa (gH.o.step kX.o h1 h2);have BM:w4.cell? ⟨xr,1,none⟩=some (.int .i64 kd):=tr.o.box.cell 1;clear h1 h2 c0;go_wp2_with fail;refine(fS xw kd ([]++le tg 4) w4 tr.o.wr fI HL.o.2.2.2.1).mono ?_;rintro e w5 ⟨⟨u5,rfl⟩,h1,h2⟩;have pZ:=aa (tr.o.step kX.o h1 h2);have BL:w5.cell? ⟨xr,2,none⟩=some (.int .i64 er):=pZ.o.box.cell 2;clear h1 h2;clear BM;go_wp2_with fail;refine(eO xw er (([]++le tg 4)++le kd 1) w5 pZ.o.wr fI HL.o.2.2.2.2.1).mono ?_;rintro e w6 ⟨⟨u6,rfl⟩,h1,h2⟩;have ll:=aa (pZ.o.step kX.o h1 h2);have BK:w6.cell? ⟨xr,1,none⟩=some (.int .i64 kd):=ll.o.box.cell 1;have BJ:w6.cell? ⟨xr,2,none⟩=some (.int .i64 er):=ll.o.box.cell 2;clear h1 h2;clear BL;go_wp2_with fail;refine(oD (kd:Int) (er:Int) w6 (HT.o _ ll.o.za) HR.o.ax).mono ?_;rintro e wq ⟨rfl,vO⟩;rw[vO,lS];clear vO wq lS BK BJ;have n1:aX bl aN 0 1=0:=aM;have n2:aX bl aN 0 2=0:=aM;have n4:aX bl aN 0 4=0:=aM;have n8:aX bl aN 0 8=0:=aM;go_wp2_with fail;refine(nR xw ((([]++le tg 4)++le kd 1)++le er 2) w6 ll.o.wr fI).mono ?_;rintro e wz ⟨A,c,rfl,hG,hc,bp,gZ,Bu⟩;have HV:=aa (show nC 0 tg kd er id st tl ct=(([]++le tg 4)++le kd 1)++le er 2 from wT);have HF:=aa (show yL (nC 0 tg kd er id st tl ct) w (.returned (.tuple #[.slice A ((([]++le tg 4)++le kd 1)++le er 2).length c,.int .i64 0])) wz from⟨A,c,by rw[HV.o],fun hne=>by obtain⟨g,q1,q2,q3⟩:=hG ad0;exact⟨g,q1,by have:=ll.o.za.size;omega,adT⟩,xd,av ll.o.za Bu⟩);clear hG hc bp gZ Bu;go_wp2_with fail;go_ret2;exact HF.o
 ·refine(df xw tg [] w3 gH.o.wr dM HL.o.1).mono ?_;rintro e w4 ⟨⟨u4,rfl⟩,h1,h2⟩;have tr:=aa (gH.o.step kX.o h1 h2);have BM:w4.cell? ⟨xr,1,none⟩=some (.int .i64 kd):=tr.o.box.cell 1;clear h1 h2 c0;go_wp2_with fail;refine(fS xw kd ([]++le tg 4) w4 tr.o.wr fI HL.o.2.2.2.1).mono ?_;rintro e w5 ⟨⟨u5,rfl⟩,h1,h2⟩;have pZ:=aa (tr.o.step kX.o h1 h2);have BL:w5.cell? ⟨xr,2,none⟩=some (.int .i64 er):=pZ.o.box.cell 2;clear h1 h2;clear BM;go_wp2_with fail;refine(eO xw er (([]++le tg 4)++le kd 1) w5 pZ.o.wr fI HL.o.2.2.2.2.1).mono ?_;rintro e w6 ⟨⟨u6,rfl⟩,h1,h2⟩;have ll:=aa (pZ.o.step kX.o h1 h2);have BK:w6.cell? ⟨xr,1,none⟩=some (.int .i64 kd):=ll.o.box.cell 1;have BJ:w6.cell? ⟨xr,2,none⟩=some (.int .i64 er):=ll.o.box.cell 2;clear h1 h2;clear BL;go_wp2_with fail;refine(oD (kd:Int) (er:Int) w6 (HT.o _ ll.o.za) HR.o.ax).mono ?_;rintro e wq ⟨rfl,vO⟩;rw[vO,lS];clear vO wq lS BK BJ;have n1:aX bl aN 2 1=0:=aM;have n2:aX bl aN 2 2=2:=aM;have n4:aX bl aN 2 4=0:=aM;have n8:aX bl aN 2 8=0:=aM;have afa:w6.cell? ⟨xr,4,none⟩=some (.int .i64 st):=ll.o.box.cell 4;go_wp2_with fail;refine(eO xw st ((([]++le tg 4)++le kd 1)++le er 2) w6 ll.o.wr fI HL.o.2.2.2.2.2.1).mono ?_;rintro e w7 ⟨⟨u7,rfl⟩,h1,h2⟩;have Hl:=aa (ll.o.step kX.o h1 h2);clear h1 h2;clear afa;go_wp2_with fail;refine(nR xw (((([]++le tg 4)++le kd 1)++le er 2)++le st 2) w7 Hl.o.wr fI).mono ?_;rintro e wz ⟨A,c,rfl,hG,hc,bp,gZ,Bu⟩;have HV:=aa (show nC 2 tg kd er id st tl ct=((([]++le tg 4)++le kd 1)++le er 2)++le st 2 from wT);have HF:=aa (show yL (nC 2 tg kd er id st tl ct) w (.returned (.tuple #[.slice A (((([]++le tg 4)++le kd 1)++le er 2)++le st 2).length c,.int .i64 0])) wz from⟨A,c,by rw[HV.o],fun hne=>SX,xd,av Hl.o.za Bu⟩);clear hG hc bp gZ Bu;go_wp2_with fail;go_ret2;exact HF.o
 ·refine(df xw tg [] w3 gH.o.wr dM HL.o.1).mono ?_;rintro e w4 ⟨⟨u4,rfl⟩,h1,h2⟩;have tr:=aa (gH.o.step kX.o h1 h2);have BM:w4.cell? ⟨xr,1,none⟩=some (.int .i64 kd):=tr.o.box.cell 1;clear h1 h2 c0;go_wp2_with fail;refine(fS xw kd ([]++le tg 4) w4 tr.o.wr fI HL.o.2.2.2.1).mono ?_;rintro e w5 ⟨⟨u5,rfl⟩,h1,h2⟩;have pZ:=aa (tr.o.step kX.o h1 h2);have BL:w5.cell? ⟨xr,2,none⟩=some (.int .i64 er):=pZ.o.box.cell 2;clear h1 h2;clear BM;go_wp2_with fail;refine(eO xw er (([]++le tg 4)++le kd 1) w5 pZ.o.wr fI HL.o.2.2.2.2.1).mono ?_;rintro e w6 ⟨⟨u6,rfl⟩,h1,h2⟩;have ll:=aa (pZ.o.step kX.o h1 h2);have BK:w6.cell? ⟨xr,1,none⟩=some (.int .i64 kd):=ll.o.box.cell 1;have BJ:w6.cell? ⟨xr,2,none⟩=some (.int .i64 er):=ll.o.box.cell 2;clear h1 h2;clear BL;go_wp2_with fail;refine(oD (kd:Int) (er:Int) w6 (HT.o _ ll.o.za) HR.o.ax).mono ?_;rintro e wq ⟨rfl,vO⟩;rw[vO,lS];clear vO wq lS BK BJ;have n1:aX bl aN 4 1=0:=aM;have n2:aX bl aN 4 2=0:=aM;have n4:aX bl aN 4 4=4:=aM;have n8:aX bl aN 4 8=0:=aM;have akS:w6.cell? ⟨xr,5,none⟩=some (.int .i64 tl):=ll.o.box.cell 5;go_wp2_with fail;refine(ed xw tl ((([]++le tg 4)++le kd 1)++le er 2) w6 ll.o.wr fI HL.o.2.2.1).mono ?_;rintro e w7 ⟨⟨u7,rfl⟩,h1,h2⟩;have Hl:=aa (ll.o.step kX.o h1 h2);clear h1 h2;clear akS;go_wp2_with fail;refine(nR xw (((([]++le tg 4)++le kd 1)++le er 2)++le tl 8) w7 Hl.o.wr fI).mono ?_;rintro e wz ⟨A,c,rfl,hG,hc,bp,gZ,Bu⟩;have HV:=aa (show nC 4 tg kd er id st tl ct=((([]++le tg 4)++le kd 1)++le er 2)++le tl 8 from wT);have HF:=aa (show yL (nC 4 tg kd er id st tl ct) w (.returned (.tuple #[.slice A (((([]++le tg 4)++le kd 1)++le er 2)++le tl 8).length c,.int .i64 0])) wz from⟨A,c,by rw[HV.o],fun hne=>SX,xd,av Hl.o.za Bu⟩);clear hG hc bp gZ Bu;go_wp2_with fail;go_ret2;exact HF.o
 ·refine(df xw tg [] w3 gH.o.wr dM HL.o.1).mono ?_;rintro e w4 ⟨⟨u4,rfl⟩,h1,h2⟩;have tr:=aa (gH.o.step kX.o h1 h2);have BM:w4.cell? ⟨xr,1,none⟩=some (.int .i64 kd):=tr.o.box.cell 1;clear h1 h2 c0;go_wp2_with fail;refine(fS xw kd ([]++le tg 4) w4 tr.o.wr fI HL.o.2.2.2.1).mono ?_;rintro e w5 ⟨⟨u5,rfl⟩,h1,h2⟩;have pZ:=aa (tr.o.step kX.o h1 h2);have BL:w5.cell? ⟨xr,2,none⟩=some (.int .i64 er):=pZ.o.box.cell 2;clear h1 h2;clear BM;go_wp2_with fail;refine(eO xw er (([]++le tg 4)++le kd 1) w5 pZ.o.wr fI HL.o.2.2.2.2.1).mono ?_;rintro e w6 ⟨⟨u6,rfl⟩,h1,h2⟩;have ll:=aa (pZ.o.step kX.o h1 h2);have BK:w6.cell? ⟨xr,1,none⟩=some (.int .i64 kd):=ll.o.box.cell 1;have BJ:w6.cell? ⟨xr,2,none⟩=some (.int .i64 er):=ll.o.box.cell 2;clear h1 h2;clear BL;go_wp2_with fail;refine(oD (kd:Int) (er:Int) w6 (HT.o _ ll.o.za) HR.o.ax).mono ?_;rintro e wq ⟨rfl,vO⟩;rw[vO,lS];clear vO wq lS BK BJ;have akT:w6.cell? ⟨xr,3,none⟩=some (.int .u32 id):=ll.o.box.cell 3;have n1:aX bl aN 5 1=1:=aM;have n2:aX bl aN 5 2=0:=aM;have n4:aX bl aN 5 4=4:=aM;have n8:aX bl aN 5 8=0:=aM;go_wp2_with fail;refine(df xw id ((([]++le tg 4)++le kd 1)++le er 2) w6 ll.o.wr fI HL.o.2.1).mono ?_;rintro e w7 ⟨⟨u7,rfl⟩,h1,h2⟩;have Hl:=aa (ll.o.step kX.o h1 h2);have ae9:w7.cell? ⟨xr,5,none⟩=some (.int .i64 tl):=Hl.o.box.cell 5;clear h1 h2;clear akT;go_wp2_with fail;refine(ed xw tl (((([]++le tg 4)++le kd 1)++le er 2)++le id 4) w7 Hl.o.wr fI HL.o.2.2.1).mono ?_;rintro e w8 ⟨⟨u8,rfl⟩,h1,h2⟩;have HI8:=aa (Hl.o.step kX.o h1 h2);clear h1 h2;clear ae9;go_wp2_with fail;refine(nR xw ((((([]++le tg 4)++le kd 1)++le er 2)++le id 4)++le tl 8) w8 HI8.o.wr fI).mono ?_;rintro e wz ⟨A,c,rfl,hG,hc,bp,gZ,Bu⟩;have HV:=aa (show nC 5 tg kd er id st tl ct=(((([]++le tg 4)++le kd 1)++le er 2)++le id 4)++le tl 8 from wT);have HF:=aa (show yL (nC 5 tg kd er id st tl ct) w (.returned (.tuple #[.slice A ((((([]++le tg 4)++le kd 1)++le er 2)++le id 4)++le tl 8).length c,.int .i64 0])) wz from⟨A,c,by rw[HV.o],fun hne=>abD,xd,av HI8.o.za Bu⟩);clear hG hc bp gZ Bu;go_wp2_with fail;go_ret2;exact HF.o
 ·refine(df xw tg [] w3 gH.o.wr dM HL.o.1).mono ?_;rintro e w4 ⟨⟨u4,rfl⟩,h1,h2⟩;have tr:=aa (gH.o.step kX.o h1 h2);have BM:w4.cell? ⟨xr,1,none⟩=some (.int .i64 kd):=tr.o.box.cell 1;clear h1 h2 c0;go_wp2_with fail;refine(fS xw kd ([]++le tg 4) w4 tr.o.wr fI HL.o.2.2.2.1).mono ?_;rintro e w5 ⟨⟨u5,rfl⟩,h1,h2⟩;have pZ:=aa (tr.o.step kX.o h1 h2);have BL:w5.cell? ⟨xr,2,none⟩=some (.int .i64 er):=pZ.o.box.cell 2;clear h1 h2;clear BM;go_wp2_with fail;refine(eO xw er (([]++le tg 4)++le kd 1) w5 pZ.o.wr fI HL.o.2.2.2.2.1).mono ?_;rintro e w6 ⟨⟨u6,rfl⟩,h1,h2⟩;have ll:=aa (pZ.o.step kX.o h1 h2);have BK:w6.cell? ⟨xr,1,none⟩=some (.int .i64 kd):=ll.o.box.cell 1;have BJ:w6.cell? ⟨xr,2,none⟩=some (.int .i64 er):=ll.o.box.cell 2;clear h1 h2;clear BL;go_wp2_with fail;refine(oD (kd:Int) (er:Int) w6 (HT.o _ ll.o.za) HR.o.ax).mono ?_;rintro e wq ⟨rfl,vO⟩;rw[vO,lS];clear vO wq lS BK BJ;have n1:aX bl aN 6 1=0:=aM;have n2:aX bl aN 6 2=2:=aM;have n4:aX bl aN 6 4=4:=aM;have n8:aX bl aN 6 8=0:=aM;have afa:w6.cell? ⟨xr,4,none⟩=some (.int .i64 st):=ll.o.box.cell 4;go_wp2_with fail;refine(eO xw st ((([]++le tg 4)++le kd 1)++le er 2) w6 ll.o.wr fI HL.o.2.2.2.2.2.1).mono ?_;rintro e w7 ⟨⟨u7,rfl⟩,h1,h2⟩;have Hl:=aa (ll.o.step kX.o h1 h2);have ae9:w7.cell? ⟨xr,5,none⟩=some (.int .i64 tl):=Hl.o.box.cell 5;clear h1 h2;clear afa;go_wp2_with fail;refine(ed xw tl (((([]++le tg 4)++le kd 1)++le er 2)++le st 2) w7 Hl.o.wr fI HL.o.2.2.1).mono ?_;rintro e w8 ⟨⟨u8,rfl⟩,h1,h2⟩;have HI8:=aa (Hl.o.step kX.o h1 h2);clear h1 h2;clear ae9;go_wp2_with fail;refine(nR xw ((((([]++le tg 4)++le kd 1)++le er 2)++le st 2)++le tl 8) w8 HI8.o.wr fI).mono ?_;rintro e wz ⟨A,c,rfl,hG,hc,bp,gZ,Bu⟩;have HV:=aa (show nC 6 tg kd er id st tl ct=(((([]++le tg 4)++le kd 1)++le er 2)++le st 2)++le tl 8 from wT);have HF:=aa (show yL (nC 6 tg kd er id st tl ct) w (.returned (.tuple #[.slice A ((((([]++le tg 4)++le kd 1)++le er 2)++le st 2)++le tl 8).length c,.int .i64 0])) wz from⟨A,c,by rw[HV.o],fun hne=>abD,xd,av HI8.o.za Bu⟩);clear hG hc bp gZ Bu;go_wp2_with fail;go_ret2;exact HF.o
 refine(df xw tg [] w3 gH.o.wr dM HL.o.1).mono ?_;rintro e w4 ⟨⟨u4,rfl⟩,h1,h2⟩;have tr:=aa (gH.o.step kX.o h1 h2);have BM:w4.cell? ⟨xr,1,none⟩=some (.int .i64 kd):=tr.o.box.cell 1;clear h1 h2 c0;go_wp2_with fail;refine(fS xw kd ([]++le tg 4) w4 tr.o.wr fI HL.o.2.2.2.1).mono ?_;rintro e w5 ⟨⟨u5,rfl⟩,h1,h2⟩;have pZ:=aa (tr.o.step kX.o h1 h2);have BL:w5.cell? ⟨xr,2,none⟩=some (.int .i64 er):=pZ.o.box.cell 2;clear h1 h2;clear BM;go_wp2_with fail;refine(eO xw er (([]++le tg 4)++le kd 1) w5 pZ.o.wr fI HL.o.2.2.2.2.1).mono ?_;rintro e w6 ⟨⟨u6,rfl⟩,h1,h2⟩;have ll:=aa (pZ.o.step kX.o h1 h2);have BK:w6.cell? ⟨xr,1,none⟩=some (.int .i64 kd):=ll.o.box.cell 1;have BJ:w6.cell? ⟨xr,2,none⟩=some (.int .i64 er):=ll.o.box.cell 2;clear h1 h2;clear BL;go_wp2_with fail;refine(oD (kd:Int) (er:Int) w6 (HT.o _ ll.o.za) HR.o.ax).mono ?_;rintro e wq ⟨rfl,vO⟩;rw[vO,lS];clear vO wq lS BK BJ;have n1:aX bl aN 8 1=0:=aM;have n2:aX bl aN 8 2=0:=aM;have n4:aX bl aN 8 4=0:=aM;have n8:aX bl aN 8 8=8:=aM;have akR:w6.cell? ⟨xr,6,none⟩=some (.int .i64 ct):=ll.o.box.cell 6;go_wp2_with fail;refine(eO xw ct ((([]++le tg 4)++le kd 1)++le er 2) w6 ll.o.wr fI HL.o.2.2.2.2.2.2).mono ?_;rintro e w7 ⟨⟨u7,rfl⟩,h1,h2⟩;have Hl:=aa (ll.o.step kX.o h1 h2);clear h1 h2;clear akR;go_wp2_with fail;refine(nR xw (((([]++le tg 4)++le kd 1)++le er 2)++le ct 2) w7 Hl.o.wr fI).mono ?_;rintro e wz ⟨A,c,rfl,hG,hc,bp,gZ,Bu⟩;have HV:=aa (show nC 8 tg kd er id st tl ct=((([]++le tg 4)++le kd 1)++le er 2)++le ct 2 from wT);have HF:=aa (show yL (nC 8 tg kd er id st tl ct) w (.returned (.tuple #[.slice A (((([]++le tg 4)++le kd 1)++le er 2)++le ct 2).length c,.int .i64 0])) wz from⟨A,c,by rw[HV.o],fun hne=>SX,xd,av Hl.o.za Bu⟩);clear hG hc bp gZ Bu;go_wp2_with fail;go_ret2;exact HF.o
