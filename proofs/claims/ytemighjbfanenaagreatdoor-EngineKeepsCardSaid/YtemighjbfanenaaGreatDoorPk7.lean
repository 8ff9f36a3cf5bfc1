import Derived.Test.YtemighjbfanenaaGreatDoorPk5
import Derived.Test.YtemighjbfanenaaGreatDoorPk6
import Derived.Deep.CutRange
set_option linter.all false
set_option maxRecDepth 100000
set_option maxHeartbeats 16000000
namespace Go.Proofs.YtemighjbfanenaaGreatDoor
open RowKit
open Oc (iq kQ Oa fS ej cY nR eV eL le val)
open Go renaming bits→bm
open Go.BinOp renaming and→bH
open Go.IntKind renaming u16→vh,wrap_u16→o7,i64→aT
open List renaming getD_eq_getElem?_getD→bQ
open Tryz renaming prog→af
theorem Bn{p:Prop}(h:p:=by
 clear hf;rw[hi] at c3;rw[ht] at c5;clear t1;go_wp2_with fail;go_meet;exact⟨rfl,rfl⟩):p:=h
theorem Pf{p:Prop}(h:p:=by
 have ug:(tl != 0)=true:=by simp[bne,ht]
 go_wp2_with fail;go_meet;exact⟨rfl,rfl⟩):p:=h
theorem T9{p:Prop}(h:p:=by obtain⟨g,q1,q2,q3⟩:=hG (by rw[←HV.o];exact hne);exact⟨g,q1,by have:=zH.o.yJ.size;omega,by rw[HV.o];exact q3⟩):p:=h
theorem acy{p:Prop}(h:p:=by obtain⟨g,q1,q2,q3⟩:=hG (by rw[←HV.o];exact hne);exact⟨g,q1,by have:=Tr.o.yJ.size;omega,by rw[HV.o];exact q3⟩):p:=h
theorem aeW{p:Prop}(h:p:=by rw[←HV.o];exact hne):p:=h
theorem aeP{p:Prop}(h:p:=by rw[HV.o];exact q3):p:=h
theorem wY{p:Prop}(h:p:=by rw[HV.o];exact hc):p:=h
theorem ak6{p:Prop}(h:p:=by have:=zH.o.yJ.size;omega):p:=h
theorem wS{p:Prop}(h:p:=by simp[tJ]):p:=h
section
namespace En
def Q0: List Nat:=[0,5,0,0,2,6,5,4,8,8,8]
def gh(w:World): Prop:=∀ i:Nat,i<11→w.cell? ⟨0,i,none⟩=some (.int .i64 (Q0.getD i 0:Nat))
variable{w w':World}
theorem gh.same(h:gh w)(hk:w'.heap[0]? =w.heap[0]?): gh w':=fun i hi=>by rw[←h i hi];exact World.cell?_of_block (a:=⟨0,i,none⟩) hk
theorem gh.lt(h:gh w): 0<w.heap.size:=World.block_lt_of_cell? w _ (h 0 aM)
theorem gh.keep(h:gh w)(hb:Below w.heap.size w w'): gh w':=h.same (hb.block _ h.lt)
theorem gh.cG{S:Nat→Prop}(h:gh w)(ht:aG S w w')(hS: ¬S 0): gh w':=h.same (ht.block _ h.lt hS)
def zq(k e:Int): Nat:=if e≠0 then 0 else Q0.getD k.toNat 0
theorem p9(k e:Int)(w:World)(ht:gh w)(hk:0≤k∧k≤10): Calls af 153 #[.int .i64 k,.int .i64 e] w fun en w'=>en= .returned (.int .i64 (zq k e:Nat))∧w'=w:=by
 obtain⟨n,rfl⟩: ∃ n:Nat,k=n:=⟨k.toNat,ag⟩;have hn:n<11:=ag;have hc:=ht n hn;by_cases h0:e=0
 ·subst h0;have HF:=aa (show zq (n:Int) 0=Q0.getD n 0 by unfold zq;simp);have h1: ¬(n:Int)<0:=ag;have h2: ¬(11:Int)≤(n:Int):=ag;have h3:decide ((11:Int)≤(n:Int))=false:=decide_eq_false h2;have h4:decide ((n:Int)<0)=false:=decide_eq_false h1;clear ht hk;go_enter Tryz.func153,Tryz.ntmps153;go_wp2_with fail;go_ret;exact⟨by rw[HF.o,bQ];rfl,rfl⟩
 have HF:=aa (show zq (n:Int) e=0 by unfold zq;rw[if_pos h0]);have h1:(e==0)=false:=beq_eq_false_iff_ne.2 h0;clear ht hk hc;go_enter Tryz.func153,Tryz.ntmps153;go_wp2_with fail;go_ret;exact⟨by rw[HF.o];rfl,rfl⟩
def pW(r:Rp): Array Value:=#[.int .u32 r.tag,.int .i64 r.ax,.int .i64 r.err,.int .u32 r.id,.int .i64 r.av,.int .i64 r.aR,.int .i64 r.count]
theorem aV: (af.info? 108).map (·.size)=some 7:=aW
theorem Ps(b f:Nat)(flag:Int)(w:World)(h:w.cell? ⟨b,0,none⟩=some (.int .i64 f)): Calls af 239 #[.int .i64 0,.int .i64 flag,.pointer (some ⟨b,0,none⟩)] w fun en w'=>en= .returned (.bool true)∧w'=w:=by
 go_enter Tryz.func239,Tryz.ntmps239;go_wp2_with fail;go_ret;exact⟨rfl,rfl⟩
theorem Pt(b:Nat)(n:Int)(f flag:Nat)(w:World)(h:w.cell? ⟨b,0,none⟩=some (.int .i64 (f:Int)))(hn:0<n∧n≤65535)(hf:(f=2∧flag=2)∨(f=6∧flag=2)∨(f=8∧flag=8)): Calls af 239 #[.int .i64 n,.int .i64 (flag:Int),.pointer (some ⟨b,0,none⟩)] w fun en w'=>en= .returned (.bool true)∧w'=w:=by
 have h1:(n==0)=false:=cf;have h2:decide (0<n)=true:=decide_eq_true hn.1;have h3:decide (n≤65535)=true:=decide_eq_true hn.2;rcases hf with⟨rfl,rfl⟩|⟨rfl,rfl⟩|⟨rfl,rfl⟩
 all_goals
  go_enter Tryz.func239,Tryz.ntmps239;go_wp2_with fail;go_ret;exact⟨rfl,rfl⟩
end En
end
section
namespace En
structure zb(r:Rp)(f:Nat): Prop where
 flag:zq r.ax r.err=f
 ax:0≤r.ax∧r.ax≤10
 err:0≤r.err∧r.err≤65535
 none:r.ax=0→r.tag=0∧r.err=200
 tag:0≤r.tag∧r.tag<4294967296
 id:0≤r.id∧r.id<4294967296
 idf:r.id=0∨f=5
 aR:0≤r.aR∧r.aR<9223372036854775808
 ale:r.aR=0∨f=4∨f=5∨f=6
 av:r.av=0∨(0<r.av∧r.av≤65535∧(f=2∨f=6))
 count:r.count=0∨(0<r.count∧r.count≤65535∧f=8)
theorem Mp(k e:Int): (zq k e=0∨zq k e=2∨zq k e=4∨zq k e=5∨zq k e=6∨zq k e=8):=by
 unfold zq;split
 ·exact .inl rfl
 rcases Nat.lt_or_ge k.toNat 11 with h|h
 ·have: ∀ i:Fin 11,(Q0.getD i.val 0=0∨Q0.getD i.val 0=2∨Q0.getD i.val 0=4∨Q0.getD i.val 0=5∨Q0.getD i.val 0=6∨Q0.getD i.val 0=8):=by decide
  exact this ⟨_,h⟩
 left;rw[bQ,List.getElem?_eq_none (by simpa[Q0] using h)];rfl
theorem NH(r:Rp)(f:Nat)(w:World)(ht:gh w)(h:zb r f): Calls af 152 #[.agg (pW r)] w fun en w'=>en= .returned (.int .i64 0)∧Below w.heap.size w w':=by
 obtain⟨xr,oc⟩:=ae w.heap.size;obtain⟨w1,aX⟩:=ae (w.alloc (.cells (pW r) 108));obtain⟨xi,RD⟩:=ae w1.heap.size;obtain⟨w2,hw2⟩:=ae (w1.alloc (.cells #[.int .i64 0] 3));obtain⟨w3,hw3⟩:=ae (w2.setCell ⟨xi,0,none⟩ (.int .i64 (f:Int)));have bh:=aH aX oc;have hb1:=aJ aX;have qY:=aH hw2 RD;have gK:aD w2 xr 108 (pW r):=by rw[←hw2];exact bh.alloc _
 have hne:xr≠xi:=by have:=bh.lt;omega
 have dB:aD w3 xr 108 (pW r):=by rw[←hw3];exact gK.other (p:=⟨xi,0,none⟩) hne _
 have fw:aD w3 xi 3 #[.int .i64 (f:Int)]:=by rw[←hw3];exact qY.put 0 _
 have ek:=aa (show Below w.heap.size w w3 by rw[←hw3,←hw2];exact(aw hb1 _).setCell (by show w.heap.size≤xi;rw[←RD];exact hb1.size) _);have GD:=aa (p9 r.ax r.err w1 (ht.keep hb1) h.ax);rw[h.flag] at GD;have a1:w1.cell? ⟨xr,1,none⟩=some (.int .i64 r.ax):=bh.cell 1;have a2:w1.cell? ⟨xr,2,none⟩=some (.int .i64 r.err):=bh.cell 2;have i2:=qY.cl 0;have m2:=qY.mark 0;have c0:w3.cell? ⟨xr,0,none⟩=some (.int .u32 r.tag):=dB.cell 0;have c1:w3.cell? ⟨xr,1,none⟩=some (.int .i64 r.ax):=dB.cell 1;have c2:w3.cell? ⟨xr,2,none⟩=some (.int .i64 r.err):=dB.cell 2;have c3:w3.cell? ⟨xr,3,none⟩=some (.int .u32 r.id):=dB.cell 3;have c4:w3.cell? ⟨xr,4,none⟩=some (.int .i64 r.av):=dB.cell 4;have c5:w3.cell? ⟨xr,5,none⟩=some (.int .i64 r.aR):=dB.cell 5;have c6:w3.cell? ⟨xr,6,none⟩=some (.int .i64 r.count):=dB.cell 6;have ci:=fw.cl 0;have HCI:=aa ci;have HR:=aa h;obtain⟨tg,kd,er,id,st,tl,ct⟩:=r;have hk:=h.ax;have he:=h.err;have htl:=h.aR;simp only at *;have k1: ¬kd<0:=ag;have k2: ¬10<kd:=ag;have e1: ¬er<0:=ag;have e2: ¬65535<er:=ag;have t1: ¬tl<0:=ag;have hff:=Mp kd er;rw[h.flag] at hff;have aj6:=aa (show Calls af 239 #[.int .i64 st,.int .i64 2,.pointer (some ⟨xi,0,none⟩)] w3 fun en w'=>en= .returned (.bool true)∧w'=w3 from by
  rcases h.av with h1|⟨h1,h2,h3⟩
  ·simp only at h1;rw[h1];exact Ps xi f 2 w3 ci
  exact Pt xi st f 2 w3 ci ⟨h1,h2⟩ (by rcases h3 with rfl|rfl;exact .inl ⟨rfl,rfl⟩;exact .inr (.inl ⟨rfl,rfl⟩)))
 have anh:=aa (show Calls af 239 #[.int .i64 ct,.int .i64 8,.pointer (some ⟨xi,0,none⟩)] w3 fun en w'=>en= .returned (.bool true)∧w'=w3 from by
  rcases h.count with h1|⟨h1,h2,h3⟩
  ·simp only at h1;rw[h1];exact Ps xi f 8 w3 ci
  exact Pt xi ct f 8 w3 ci ⟨h1,h2⟩ (.inr (.inr ⟨h3,rfl⟩)))
 clear ht h bh gK dB qY fw hb1 hne hk he htl;have hid:=HR.o.idf;have htf:=HR.o.ale;have hno:=HR.o.none;simp only at hid htf hno;have hI:id=0∨(f=5∧(id==0)=false):=by
  by_cases h0:id=0
  ·exact .inl h0
  exact .inr ⟨hid.resolve_left h0,beq_eq_false_iff_ne.2 h0⟩
 have hT:tl=0∨((f=4∨f=5∨f=6)∧(tl==0)=false):=by
  by_cases h0:tl=0
  ·exact .inl h0
  exact .inr ⟨htf.resolve_left h0,beq_eq_false_iff_ne.2 h0⟩
 have hK:(kd=0∧tg=0∧er=200∧f=0)∨(kd==0)=false:=by
  by_cases h0:kd=0
  ·obtain⟨h1,h2⟩:=hno h0;refine .inl ⟨h0,h1,h2,?_⟩;have h3:=HR.o.flag;simp only at h3;rw[h0,h2] at h3;rw[←h3];rfl
  exact .inr (beq_eq_false_iff_ne.2 h0)
 clear hid htf hno HR;have hall:(kd=0∧tg=0∧er=200∧f=0∧id=0∧tl=0)∨((kd==0)=false∧(f=0∨f=2∨f=8)∧id=0∧tl=0)∨((kd==0)=false∧(f=4∨f=5∨f=6)∧id=0∧tl=0)∨((kd==0)=false∧(f=4∨f=5∨f=6)∧id=0∧(tl==0)=false)∨((kd==0)=false∧f=5∧(id==0)=false∧tl=0)∨((kd==0)=false∧f=5∧(id==0)=false∧(tl==0)=false):=by
  rcases hK with⟨q1,q2,q3,q4⟩|q1
  ·refine .inl ⟨q1,q2,q3,q4,?_,?_⟩
   ·rcases hI with h|⟨h,_⟩;exact h;omega
   rcases hT with h|⟨h,_⟩;exact h;omega
  rcases hI with h|⟨h,h'⟩ <;>rcases hT with g|⟨g,g'⟩
  ·rcases hff with h5|h5|h5|h5|h5|h5
   ·exact .inr (.inl ⟨q1,.inl h5,h,g⟩)
   ·exact .inr (.inl ⟨q1,.inr (.inl h5),h,g⟩)
   ·exact .inr (.inr (.inl ⟨q1,.inl h5,h,g⟩))
   ·exact .inr (.inr (.inl ⟨q1,.inr (.inl h5),h,g⟩))
   ·exact .inr (.inr (.inl ⟨q1,.inr (.inr h5),h,g⟩))
   exact .inr (.inl ⟨q1,.inr (.inr h5),h,g⟩)
  ·exact .inr (.inr (.inr (.inl ⟨q1,g,h,g'⟩)))
  ·exact .inr (.inr (.inr (.inr (.inl ⟨q1,h,h',g⟩))))
  exact .inr (.inr (.inr (.inr (.inr ⟨q1,h,h',g'⟩))))
 have ZH:=aa hall;have HKK:=aa hK;clear hK hI hT hff hall;have k1:decide (kd<0)=false:=decide_eq_false k1;have k2:decide (10<kd)=false:=decide_eq_false k2;have e1:decide (er<0)=false:=decide_eq_false e1;have e2:decide (65535<er)=false:=decide_eq_false e2;have T1:=aa (show decide (tl<0)=false from decide_eq_false t1);have C0:=aa c0;have C3:=aa c3;have C4:=aa c4;have C5:=aa c5;have C6:=aa c6;have CI:=aa ci;clear t1 c0 c3 c4 c5 c6 ci;go_enter Tryz.func152,Tryz.ntmps152;go_wp2_with fail;refine ah GD.o ?_;go_upto_region 5 with fail
 clear a1 a2 i2 m2 aX hw2 hw3 oc RD k1 k2 e1 e2;go_cut [30] from 31 to 43 (fun s30 wx=>s30= .bool false∧wx=w3)
 case first=>
  have c0:=C0.o;rcases HKK.o with⟨h1,h2,h3,_⟩|h1
  ·rw[h1] at c1;rw[h2] at c0;rw[h3] at c2;go_wp2_with fail;go_meet;exact⟨rfl,rfl⟩
  go_wp2_with fail;go_meet;exact⟨rfl,rfl⟩
 case rest=>
  obtain⟨rfl,rfl⟩:=hcut;clear c1 c2 HKK;go_upto_region 7 with fail
  go_cut [44] from 45 to 67 (fun s44 wx=>s44= .bool false∧wx=wc)
  case first=>
   have c3:=C3.o;have c5:=C5.o;have ci:=CI.o;have t1:=T1.o;clear C0 C3 C4 C5 C6 CI T1;rcases ZH.o with⟨_,_,_,hf,hi,ht⟩|⟨_,hf|hf|hf,hi,ht⟩|⟨_,hf|hf|hf,hi,ht⟩|⟨_,hf|hf|hf,hi,ht⟩|⟨_,hf,hi,ht⟩|⟨_,hf,hi,ht⟩
   ·have n1:bm bH aT 0 1=0:=by decide
    have n4:bm bH aT 0 4=0:=aM;rw[hf] at ci;push_cast at ci;exact Bn
   ·have n1:bm bH aT 0 1=0:=by decide
    have n4:bm bH aT 0 4=0:=aM;rw[hf] at ci;push_cast at ci;exact Bn
   ·have n1:bm bH aT 2 1=0:=by decide
    have n4:bm bH aT 2 4=0:=aM;rw[hf] at ci;push_cast at ci;exact Bn
   ·have n1:bm bH aT 8 1=0:=by decide
    have n4:bm bH aT 8 4=0:=aM;rw[hf] at ci;push_cast at ci;exact Bn
   ·have n1:bm bH aT 4 1=0:=by decide
    have n4:bm bH aT 4 4=4:=aM;rw[hf] at ci;push_cast at ci;exact Bn
   ·have n1:bm bH aT 5 1=1:=by decide
    have n4:bm bH aT 5 4=4:=aM;rw[hf] at ci;push_cast at ci;exact Bn
   ·have n1:bm bH aT 6 1=0:=by decide
    have n4:bm bH aT 6 4=4:=aM;rw[hf] at ci;push_cast at ci;exact Bn
   ·have n1:bm bH aT 4 1=0:=by decide
    have n4:bm bH aT 4 4=4:=aM;rw[hf] at ci;push_cast at ci;clear hf;rw[hi] at c3;exact Pf
   ·have n1:bm bH aT 5 1=1:=by decide
    have n4:bm bH aT 5 4=4:=aM;rw[hf] at ci;push_cast at ci;clear hf;rw[hi] at c3;exact Pf
   ·have n1:bm bH aT 6 1=0:=by decide
    have n4:bm bH aT 6 4=4:=aM;rw[hf] at ci;push_cast at ci;clear hf;rw[hi] at c3;exact Pf
   ·have n1:bm bH aT 5 1=1:=by decide
    have n4:bm bH aT 5 4=4:=aM;rw[hf] at ci;push_cast at ci;clear hf;have hi2:(id != 0)=true:=by simp[bne,hi]
    rw[ht] at c5;clear t1;go_wp2_with fail;go_meet;exact⟨rfl,rfl⟩
   have n1:bm bH aT 5 1=1:=aM;have n4:bm bH aT 5 4=4:=aM;rw[hf] at ci;push_cast at ci;clear hf;have hi2:(id != 0)=true:=by simp[bne,hi]
   exact Pf
  case rest=>
   obtain⟨rfl,rfl⟩:=hcut;have c4:=C4.o;have c6:=C6.o;go_wp2_with fail;refine ah aj6.o ?_;go_wp2_with fail;refine ah anh.o ?_;go_wp2_with fail;go_ret;exact⟨rfl,ek.o⟩
end En
end
section
namespace En
def tJ(f:Nat)(tg kd er id st tl ct:Nat): By:=
 le tg 4++le kd 1++le er 2++(if f=5 then le id 4 else [])++(if f=2∨f=6 then le st 2 else [])++(if f=4∨f=5∨f=6 then le tl 8 else [])++(if f=8 then le ct 2 else [])
def yL(bs:By)(w:World)(e:Ending)(w':World): Prop:=
 ∃ A c,e= .returned (.tuple #[.slice A bs.length c,.int .i64 0])∧(bs≠ []→∃ g,A=some ⟨g,0,none⟩∧w.heap.size≤g∧kQ w' g bs c)∧bs.length≤c∧Below w.heap.size w w'
structure RwI(w:World)(xr xw:Nat)(V:Array Value)(bs:By)(W:World): Prop where
 box:aD W xr 108 V
 wr:eL W xw bs
 yJ:Below w.heap.size w W
theorem RwI.step{w W W':World}{xr xw:Nat}{V:Array Value}{bs bs':By}(h:RwI w xr xw V bs W)(hne:xr≠xw∧w.heap.size≤xw)(h1:eL W' xw bs')(ht:aG (· =xw) W W'): RwI w xr xw V bs' W':=
 ⟨ht.arr h.box hne.1,h1,aG.fresh ht h.yJ (fun j hj=>ag)⟩
theorem YC(tg kd er id st tl ct:Nat)(f:Nat)(w:World)(ht:gh w)(h:zb ⟨tg,kd,er,id,st,tl,ct⟩ f): Calls af 65 #[.agg (pW ⟨tg,kd,er,id,st,tl,ct⟩)] w (yL (tJ f tg kd er id st tl ct) w):=by
 obtain⟨xr,oc⟩:=ae w.heap.size;obtain⟨w1,aX⟩:=ae (w.alloc (.cells (pW ⟨tg,kd,er,id,st,tl,ct⟩) 108));have bh:=aH aX oc;have hb1:=aJ aX;have jH:=aa (NH ⟨tg,kd,er,id,st,tl,ct⟩ f w1 (ht.keep hb1) h);have dH:=aa bh;have bu:=aa hb1;have pS:=aa oc;have HT:=aa (show ∀ W,Below w.heap.size w W→gh W from fun W hW=>ht.keep hW);have HR:=aa h;clear ht h bh hb1;go_enter Tryz.func65,Tryz.ntmps65;go_wp2_with (refine aB rfl 108 (.tmp 1) rfl xr 108 _ dH.o rfl _ Tryz.underlying108 rfl aV ?_);refine jH.o.mono ?_;rintro e w2 ⟨rfl,hb2⟩;have jI:=dH.jS hb2;have cx:=bu.eo hb2;clear hb2 jH dH bu oc aX;obtain⟨xw,hxw⟩:=ae w2.heap.size;obtain⟨w3,hw3⟩:=ae (w2.alloc (.cells #[.slice none 0 0] 150));have jV:=aa (show xr≠xw∧w.heap.size≤xw by have:=jI.o.lt;have:=cx.o.size;omega);have gH:=aa (show RwI w xr xw (pW ⟨tg,kd,er,id,st,tl,ct⟩) [] w3 from⟨by rw[←hw3];exact jI.o.alloc _,by rw[←hw3,←hxw];exact eL.fresh w2,by rw[←hw3];exact aw cx.o _⟩);have hk:=HR.o.ax;have he:=HR.o.err;have S7:=HR.o.tag;have hid:=HR.o.id;have htl:=HR.o.aR;have hst:=HR.o.av;have JN:=HR.o.count;simp only at hk he S7 hid htl hst JN;have ah5:tg<4294967296:=ag;have aiN:id<4294967296:=ag;have ah4:tl<18446744073709551616:=ag;have aiK:kd<256:=ag;have aiY:er<65536:=ag;have aih:st<65536:=ag;have ai2:ct<65536:=ag;have k1:IntKind.u8.wrap (kd:Int)=(kd:Int):=by rw[IntKind.wrap_u8'];omega
 have k2:vh.wrap (er:Int)=(er:Int):=by rw[o7];omega
 have k3:vh.wrap (st:Int)=(st:Int):=by rw[o7];omega
 have k4:IntKind.u64.wrap (tl:Int)=(tl:Int):=by rw[IntKind.wrap_u64];omega
 have k5:vh.wrap (ct:Int)=(ct:Int):=by rw[o7];omega
 have HL:=aa (show tg<4294967296∧id<4294967296∧tl<18446744073709551616∧kd<256∧er<65536∧st<65536∧ct<65536 from⟨ah5,aiN,ah4,aiK,aiY,aih,ai2⟩);clear hk he S7 hid htl hst JN ah5 aiN ah4 aiK aiY aih ai2;have c0:w3.cell? ⟨xr,0,none⟩=some (.int .u32 tg):=gH.o.box.cell 0;have hff:=Mp kd er;have lM:=HR.o.flag;simp only at lM;rw[lM] at hff;go_wp2_with fail;rcases hff with rfl|rfl|rfl|rfl|rfl|rfl
 ·refine(cY xw tg [] w3 gH.o.wr dA HL.o.1).mono ?_;rintro e w4 ⟨⟨u4,rfl⟩,h1,h2⟩;have tx:=aa (gH.o.step jV.o h1 h2);have BS:w4.cell? ⟨xr,1,none⟩=some (.int .i64 kd):=tx.o.box.cell 1;clear h1 h2 c0;go_wp2_with fail;refine(fS xw kd ([]++le tg 4) w4 tx.o.wr dC HL.o.2.2.2.1).mono ?_;rintro e w5 ⟨⟨u5,rfl⟩,h1,h2⟩;have pV:=aa (tx.o.step jV.o h1 h2);have BR:w5.cell? ⟨xr,2,none⟩=some (.int .i64 er):=pV.o.box.cell 2;clear h1 h2;clear BS;go_wp2_with fail;refine(eV xw er (([]++le tg 4)++le kd 1) w5 pV.o.wr dC HL.o.2.2.2.2.1).mono ?_;rintro e w6 ⟨⟨u6,rfl⟩,h1,h2⟩;have lp:=aa (pV.o.step jV.o h1 h2);have BQ:w6.cell? ⟨xr,1,none⟩=some (.int .i64 kd):=lp.o.box.cell 1;have BP:w6.cell? ⟨xr,2,none⟩=some (.int .i64 er):=lp.o.box.cell 2;clear h1 h2;clear BR;go_wp2_with fail;refine(p9 (kd:Int) (er:Int) w6 (HT.o _ lp.o.yJ) HR.o.ax).mono ?_;rintro e wq ⟨rfl,yG⟩;rw[yG,lM];clear yG wq lM BQ BP;have n1:bm bH aT 0 1=0:=aM;have n2:bm bH aT 0 2=0:=aM;have n4:bm bH aT 0 4=0:=aM;have n8:bm bH aT 0 8=0:=aM;go_wp2_with fail;refine(nR xw ((([]++le tg 4)++le kd 1)++le er 2) w6 lp.o.wr dC).mono ?_;rintro e wz ⟨A,c,rfl,hG,hc,bh,gK,ry⟩;have HV:=aa (show tJ 0 tg kd er id st tl ct=(([]++le tg 4)++le kd 1)++le er 2 from wS);have HF:=aa (show yL (tJ 0 tg kd er id st tl ct) w (.returned (.tuple #[.slice A ((([]++le tg 4)++le kd 1)++le er 2).length c,.int .i64 0])) wz from⟨A,c,by rw[HV.o],fun hne=>by obtain⟨g,q1,q2,q3⟩:=hG aeW;exact⟨g,q1,by have:=lp.o.yJ.size;omega,aeP⟩,wY,ar lp.o.yJ ry⟩);clear hG hc bh gK ry;go_wp2_with fail;go_ret2;exact HF.o
 ·refine(cY xw tg [] w3 gH.o.wr dA HL.o.1).mono ?_;rintro e w4 ⟨⟨u4,rfl⟩,h1,h2⟩;have tx:=aa (gH.o.step jV.o h1 h2);have BS:w4.cell? ⟨xr,1,none⟩=some (.int .i64 kd):=tx.o.box.cell 1;clear h1 h2 c0;go_wp2_with fail;refine(fS xw kd ([]++le tg 4) w4 tx.o.wr dC HL.o.2.2.2.1).mono ?_;rintro e w5 ⟨⟨u5,rfl⟩,h1,h2⟩;have pV:=aa (tx.o.step jV.o h1 h2);have BR:w5.cell? ⟨xr,2,none⟩=some (.int .i64 er):=pV.o.box.cell 2;clear h1 h2;clear BS;go_wp2_with fail;refine(eV xw er (([]++le tg 4)++le kd 1) w5 pV.o.wr dC HL.o.2.2.2.2.1).mono ?_;rintro e w6 ⟨⟨u6,rfl⟩,h1,h2⟩;have lp:=aa (pV.o.step jV.o h1 h2);have BQ:w6.cell? ⟨xr,1,none⟩=some (.int .i64 kd):=lp.o.box.cell 1;have BP:w6.cell? ⟨xr,2,none⟩=some (.int .i64 er):=lp.o.box.cell 2;clear h1 h2;clear BR;go_wp2_with fail;refine(p9 (kd:Int) (er:Int) w6 (HT.o _ lp.o.yJ) HR.o.ax).mono ?_;rintro e wq ⟨rfl,yG⟩;rw[yG,lM];clear yG wq lM BQ BP;have n1:bm bH aT 2 1=0:=aM;have n2:bm bH aT 2 2=2:=aM;have n4:bm bH aT 2 4=0:=aM;have n8:bm bH aT 2 8=0:=aM;have agp:w6.cell? ⟨xr,4,none⟩=some (.int .i64 st):=lp.o.box.cell 4;go_wp2_with fail;refine(eV xw st ((([]++le tg 4)++le kd 1)++le er 2) w6 lp.o.wr dC HL.o.2.2.2.2.2.1).mono ?_;rintro e w7 ⟨⟨u7,rfl⟩,h1,h2⟩;have zH:=aa (lp.o.step jV.o h1 h2);clear h1 h2;clear agp;go_wp2_with fail;refine(nR xw (((([]++le tg 4)++le kd 1)++le er 2)++le st 2) w7 zH.o.wr dC).mono ?_;rintro e wz ⟨A,c,rfl,hG,hc,bh,gK,ry⟩;have HV:=aa (show tJ 2 tg kd er id st tl ct=((([]++le tg 4)++le kd 1)++le er 2)++le st 2 from wS);have HF:=aa (show yL (tJ 2 tg kd er id st tl ct) w (.returned (.tuple #[.slice A (((([]++le tg 4)++le kd 1)++le er 2)++le st 2).length c,.int .i64 0])) wz from⟨A,c,by rw[HV.o],fun hne=>T9,wY,ar zH.o.yJ ry⟩);clear hG hc bh gK ry;go_wp2_with fail;go_ret2;exact HF.o
 ·refine(cY xw tg [] w3 gH.o.wr dA HL.o.1).mono ?_;rintro e w4 ⟨⟨u4,rfl⟩,h1,h2⟩;have tx:=aa (gH.o.step jV.o h1 h2);have BS:w4.cell? ⟨xr,1,none⟩=some (.int .i64 kd):=tx.o.box.cell 1;clear h1 h2 c0;go_wp2_with fail;refine(fS xw kd ([]++le tg 4) w4 tx.o.wr dC HL.o.2.2.2.1).mono ?_;rintro e w5 ⟨⟨u5,rfl⟩,h1,h2⟩;have pV:=aa (tx.o.step jV.o h1 h2);have BR:w5.cell? ⟨xr,2,none⟩=some (.int .i64 er):=pV.o.box.cell 2;clear h1 h2;clear BS;go_wp2_with fail;refine(eV xw er (([]++le tg 4)++le kd 1) w5 pV.o.wr dC HL.o.2.2.2.2.1).mono ?_;rintro e w6 ⟨⟨u6,rfl⟩,h1,h2⟩;have lp:=aa (pV.o.step jV.o h1 h2);have BQ:w6.cell? ⟨xr,1,none⟩=some (.int .i64 kd):=lp.o.box.cell 1;have BP:w6.cell? ⟨xr,2,none⟩=some (.int .i64 er):=lp.o.box.cell 2;clear h1 h2;clear BR;go_wp2_with fail;refine(p9 (kd:Int) (er:Int) w6 (HT.o _ lp.o.yJ) HR.o.ax).mono ?_;rintro e wq ⟨rfl,yG⟩;rw[yG,lM];clear yG wq lM BQ BP;have n1:bm bH aT 4 1=0:=aM;have n2:bm bH aT 4 2=0:=aM;have n4:bm bH aT 4 4=4:=aM;have n8:bm bH aT 4 8=0:=aM;have amD:w6.cell? ⟨xr,5,none⟩=some (.int .i64 tl):=lp.o.box.cell 5;go_wp2_with fail;refine(ej xw tl ((([]++le tg 4)++le kd 1)++le er 2) w6 lp.o.wr dC HL.o.2.2.1).mono ?_;rintro e w7 ⟨⟨u7,rfl⟩,h1,h2⟩;have zH:=aa (lp.o.step jV.o h1 h2);clear h1 h2;clear amD;go_wp2_with fail;refine(nR xw (((([]++le tg 4)++le kd 1)++le er 2)++le tl 8) w7 zH.o.wr dC).mono ?_;rintro e wz ⟨A,c,rfl,hG,hc,bh,gK,ry⟩;have HV:=aa (show tJ 4 tg kd er id st tl ct=((([]++le tg 4)++le kd 1)++le er 2)++le tl 8 from wS);have HF:=aa (show yL (tJ 4 tg kd er id st tl ct) w (.returned (.tuple #[.slice A (((([]++le tg 4)++le kd 1)++le er 2)++le tl 8).length c,.int .i64 0])) wz from⟨A,c,by rw[HV.o],fun hne=>T9,wY,ar zH.o.yJ ry⟩);clear hG hc bh gK ry;go_wp2_with fail;go_ret2;exact HF.o
 ·refine(cY xw tg [] w3 gH.o.wr dA HL.o.1).mono ?_;rintro e w4 ⟨⟨u4,rfl⟩,h1,h2⟩;have tx:=aa (gH.o.step jV.o h1 h2);have BS:w4.cell? ⟨xr,1,none⟩=some (.int .i64 kd):=tx.o.box.cell 1;clear h1 h2 c0;go_wp2_with fail;refine(fS xw kd ([]++le tg 4) w4 tx.o.wr dC HL.o.2.2.2.1).mono ?_;rintro e w5 ⟨⟨u5,rfl⟩,h1,h2⟩;have pV:=aa (tx.o.step jV.o h1 h2);have BR:w5.cell? ⟨xr,2,none⟩=some (.int .i64 er):=pV.o.box.cell 2;clear h1 h2;clear BS;go_wp2_with fail;refine(eV xw er (([]++le tg 4)++le kd 1) w5 pV.o.wr dC HL.o.2.2.2.2.1).mono ?_;rintro e w6 ⟨⟨u6,rfl⟩,h1,h2⟩;have lp:=aa (pV.o.step jV.o h1 h2);have BQ:w6.cell? ⟨xr,1,none⟩=some (.int .i64 kd):=lp.o.box.cell 1;have BP:w6.cell? ⟨xr,2,none⟩=some (.int .i64 er):=lp.o.box.cell 2;clear h1 h2;clear BR;go_wp2_with fail;refine(p9 (kd:Int) (er:Int) w6 (HT.o _ lp.o.yJ) HR.o.ax).mono ?_;rintro e wq ⟨rfl,yG⟩;rw[yG,lM];clear yG wq lM BQ BP;have amE:w6.cell? ⟨xr,3,none⟩=some (.int .u32 id):=lp.o.box.cell 3;have n1:bm bH aT 5 1=1:=aM;have n2:bm bH aT 5 2=0:=aM;have n4:bm bH aT 5 4=4:=aM;have n8:bm bH aT 5 8=0:=aM;go_wp2_with fail;refine(cY xw id ((([]++le tg 4)++le kd 1)++le er 2) w6 lp.o.wr dC HL.o.2.1).mono ?_;rintro e w7 ⟨⟨u7,rfl⟩,h1,h2⟩;have zH:=aa (lp.o.step jV.o h1 h2);have ago:w7.cell? ⟨xr,5,none⟩=some (.int .i64 tl):=zH.o.box.cell 5;clear h1 h2;clear amE;go_wp2_with fail;refine(ej xw tl (((([]++le tg 4)++le kd 1)++le er 2)++le id 4) w7 zH.o.wr dC HL.o.2.2.1).mono ?_;rintro e w8 ⟨⟨u8,rfl⟩,h1,h2⟩;have Tr:=aa (zH.o.step jV.o h1 h2);clear h1 h2;clear ago;go_wp2_with fail;refine(nR xw ((((([]++le tg 4)++le kd 1)++le er 2)++le id 4)++le tl 8) w8 Tr.o.wr dC).mono ?_;rintro e wz ⟨A,c,rfl,hG,hc,bh,gK,ry⟩;have HV:=aa (show tJ 5 tg kd er id st tl ct=(((([]++le tg 4)++le kd 1)++le er 2)++le id 4)++le tl 8 from wS);have HF:=aa (show yL (tJ 5 tg kd er id st tl ct) w (.returned (.tuple #[.slice A ((((([]++le tg 4)++le kd 1)++le er 2)++le id 4)++le tl 8).length c,.int .i64 0])) wz from⟨A,c,by rw[HV.o],fun hne=>acy,wY,ar Tr.o.yJ ry⟩);clear hG hc bh gK ry;go_wp2_with fail;go_ret2;exact HF.o
 ·refine(cY xw tg [] w3 gH.o.wr dA HL.o.1).mono ?_;rintro e w4 ⟨⟨u4,rfl⟩,h1,h2⟩;have tx:=aa (gH.o.step jV.o h1 h2);have BS:w4.cell? ⟨xr,1,none⟩=some (.int .i64 kd):=tx.o.box.cell 1;clear h1 h2 c0;go_wp2_with fail;refine(fS xw kd ([]++le tg 4) w4 tx.o.wr dC HL.o.2.2.2.1).mono ?_;rintro e w5 ⟨⟨u5,rfl⟩,h1,h2⟩;have pV:=aa (tx.o.step jV.o h1 h2);have BR:w5.cell? ⟨xr,2,none⟩=some (.int .i64 er):=pV.o.box.cell 2;clear h1 h2;clear BS;go_wp2_with fail;refine(eV xw er (([]++le tg 4)++le kd 1) w5 pV.o.wr dC HL.o.2.2.2.2.1).mono ?_;rintro e w6 ⟨⟨u6,rfl⟩,h1,h2⟩;have lp:=aa (pV.o.step jV.o h1 h2);have BQ:w6.cell? ⟨xr,1,none⟩=some (.int .i64 kd):=lp.o.box.cell 1;have BP:w6.cell? ⟨xr,2,none⟩=some (.int .i64 er):=lp.o.box.cell 2;clear h1 h2;clear BR;go_wp2_with fail;refine(p9 (kd:Int) (er:Int) w6 (HT.o _ lp.o.yJ) HR.o.ax).mono ?_;rintro e wq ⟨rfl,yG⟩;rw[yG,lM];clear yG wq lM BQ BP;have n1:bm bH aT 6 1=0:=aM;have n2:bm bH aT 6 2=2:=aM;have n4:bm bH aT 6 4=4:=aM;have n8:bm bH aT 6 8=0:=aM;have agp:w6.cell? ⟨xr,4,none⟩=some (.int .i64 st):=lp.o.box.cell 4;go_wp2_with fail;refine(eV xw st ((([]++le tg 4)++le kd 1)++le er 2) w6 lp.o.wr dC HL.o.2.2.2.2.2.1).mono ?_;rintro e w7 ⟨⟨u7,rfl⟩,h1,h2⟩;have zH:=aa (lp.o.step jV.o h1 h2);have ago:w7.cell? ⟨xr,5,none⟩=some (.int .i64 tl):=zH.o.box.cell 5;clear h1 h2;clear agp;go_wp2_with fail;refine(ej xw tl (((([]++le tg 4)++le kd 1)++le er 2)++le st 2) w7 zH.o.wr dC HL.o.2.2.1).mono ?_;rintro e w8 ⟨⟨u8,rfl⟩,h1,h2⟩;have Tr:=aa (zH.o.step jV.o h1 h2);clear h1 h2;clear ago;go_wp2_with fail;refine(nR xw ((((([]++le tg 4)++le kd 1)++le er 2)++le st 2)++le tl 8) w8 Tr.o.wr dC).mono ?_;rintro e wz ⟨A,c,rfl,hG,hc,bh,gK,ry⟩;have HV:=aa (show tJ 6 tg kd er id st tl ct=(((([]++le tg 4)++le kd 1)++le er 2)++le st 2)++le tl 8 from wS);have HF:=aa (show yL (tJ 6 tg kd er id st tl ct) w (.returned (.tuple #[.slice A ((((([]++le tg 4)++le kd 1)++le er 2)++le st 2)++le tl 8).length c,.int .i64 0])) wz from⟨A,c,by rw[HV.o],fun hne=>acy,wY,ar Tr.o.yJ ry⟩);clear hG hc bh gK ry;go_wp2_with fail;go_ret2;exact HF.o
 refine(cY xw tg [] w3 gH.o.wr dA HL.o.1).mono ?_;rintro e w4 ⟨⟨u4,rfl⟩,h1,h2⟩;have tx:=aa (gH.o.step jV.o h1 h2);have BS:w4.cell? ⟨xr,1,none⟩=some (.int .i64 kd):=tx.o.box.cell 1;clear h1 h2 c0;go_wp2_with fail;refine(fS xw kd ([]++le tg 4) w4 tx.o.wr dC HL.o.2.2.2.1).mono ?_;rintro e w5 ⟨⟨u5,rfl⟩,h1,h2⟩;have pV:=aa (tx.o.step jV.o h1 h2);have BR:w5.cell? ⟨xr,2,none⟩=some (.int .i64 er):=pV.o.box.cell 2;clear h1 h2;clear BS;go_wp2_with fail;refine(eV xw er (([]++le tg 4)++le kd 1) w5 pV.o.wr dC HL.o.2.2.2.2.1).mono ?_;rintro e w6 ⟨⟨u6,rfl⟩,h1,h2⟩;have lp:=aa (pV.o.step jV.o h1 h2);have BQ:w6.cell? ⟨xr,1,none⟩=some (.int .i64 kd):=lp.o.box.cell 1;have BP:w6.cell? ⟨xr,2,none⟩=some (.int .i64 er):=lp.o.box.cell 2;clear h1 h2;clear BR;go_wp2_with fail;refine(p9 (kd:Int) (er:Int) w6 (HT.o _ lp.o.yJ) HR.o.ax).mono ?_;rintro e wq ⟨rfl,yG⟩;rw[yG,lM];clear yG wq lM BQ BP;have n1:bm bH aT 8 1=0:=aM;have n2:bm bH aT 8 2=0:=aM;have n4:bm bH aT 8 4=0:=aM;have n8:bm bH aT 8 8=8:=aM;have amC:w6.cell? ⟨xr,6,none⟩=some (.int .i64 ct):=lp.o.box.cell 6;go_wp2_with fail;refine(eV xw ct ((([]++le tg 4)++le kd 1)++le er 2) w6 lp.o.wr dC HL.o.2.2.2.2.2.2).mono ?_;rintro e w7 ⟨⟨u7,rfl⟩,h1,h2⟩;have zH:=aa (lp.o.step jV.o h1 h2);clear h1 h2;clear amC;go_wp2_with fail;refine(nR xw (((([]++le tg 4)++le kd 1)++le er 2)++le ct 2) w7 zH.o.wr dC).mono ?_;rintro e wz ⟨A,c,rfl,hG,hc,bh,gK,ry⟩;have HV:=aa (show tJ 8 tg kd er id st tl ct=((([]++le tg 4)++le kd 1)++le er 2)++le ct 2 from wS);have HF:=aa (show yL (tJ 8 tg kd er id st tl ct) w (.returned (.tuple #[.slice A (((([]++le tg 4)++le kd 1)++le er 2)++le ct 2).length c,.int .i64 0])) wz from⟨A,c,by rw[HV.o],fun hne=>T9,wY,ar zH.o.yJ ry⟩);clear hG hc bh gK ry;go_wp2_with fail;go_ret2;exact HF.o
