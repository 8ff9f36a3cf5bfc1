import Derived.Test.YtemighjbfanenaaGreatDoorQk24
set_option linter.all false
set_option maxRecDepth 100000
set_option maxHeartbeats 16000000
namespace Go.Proofs.YtemighjbfanenaaGreatDoor
open RowKit
open Go renaming bits→aX
open Go.BinOp renaming and→bl
open Go.IntKind renaming i64→aN,wrap_i64→mM
open Go.Proofs.Tryz renaming results102→abm,prog→af,underlying108→eA
open Go.Value renaming oneCell'→fY
open Int renaming eq_ofNat_of_zero_le→eo
theorem Qz{p:Prop}(h:p:=by
 go_wp2_with fail;refine ag (aji.o _ _ HI.o) ?_;have HQ:=aa HI.o.rq;obtain⟨z0,z1,z2,z3,z4,z5,z6⟩:=Ui HQ.o;go_wp2_with fail;refine(jz.o _ HI.o).mono ?_;rintro e vg ⟨rfl,vT⟩;have HF:=aa (Gb.o _ _ HI.o vT);clear vT HQ HI z0 z1 z2 z3 z4 z5 z6 jz aji Gb;go_wp2_with (first|(refine aC rfl 108 (.tmp 5) rfl xq 108 _ HF.o.1 rfl _ eA rfl aS ?_)|(refine aj rfl 108 (.tmp 2) _ rfl xr 108 _ (lf _) HF.o.2.1 rfl rfl rfl aS vu ?_;intro wz gK eM hsz;have kY:=aa gK;have iF:=aa eM;clear gK eM hsz));refine bodyPost_ret (results_cell_tmp abm _ iI (aL 108 kY.o _ eA rfl aS)) rfl ⟨rfl,br HF.o.2.2 iF.o ze.o⟩):p:=h
theorem oz{p:Prop}(h:p:=by have:=HI.o.ne;omega):p:=h
theorem Dm{p:Prop}(h:p:=by have:=uj.o;simpa using this.symm):p:=h
theorem Aw{p:Prop}(h:p:=by have:=HZ.o.2.2.2;omega):p:=h
theorem Aq{p:Prop}(h:p:=by have:=HZ.o.1;omega):p:=h
theorem EI{p:Prop}(h:p:=by have:=HZ.o.2.2.1;omega):p:=h
section
namespace En
open Oc (le val jX Bs qV ru yM jV oM vX oN gD ik zD rE)
theorem tX{p q n k:Nat}{r:By}{kd:IntKind}{w w':World}{e:Ending}(h:oM p q (le n k++r) 0 k kd w e w')(hn:n<256 ^ k): e= .returned (.int kd (n:Int))∧jV w' p q r 0∧aI (· =q) w w':=by
 obtain⟨h1,h2,h3⟩:=h;rw[tU] at h1 h2;exact⟨by rw[h1];show Ending.returned (.int kd ((val (le n k):Nat):Int))=_;rw[jX n k hn],h2,h3⟩
structure RgI(w:World)(xr xq p qq:Nat)(r:Rp)(bs:By)(W:World): Prop where
 rd:jV W p qq bs 0
 rq:aG W xq 108 (lf r)
 res:aG W xr 108 (lf Rp.none)
 za:Below w.heap.size w W
 ne:xr<qq∧p<xq∧qq<xq∧w.heap.size≤xr
theorem RgI.kT{w W W':World}{xr xq p qq i:Nat}{r r':Rp}{bs bs':By}{v:Value}(h:RgI w xr xq p qq r bs W)(hr:jV W' p qq bs' 0)(ht:aI (· =qq) W W')(hv:(lf r).setIfInBounds i v=lf r'): RgI w xr xq p qq r' bs' (W'.setCell ⟨xq,i,none⟩ v):=by
 have h1:=h.ne;have h2:=ht.arr h.rq ai;refine⟨?_,by rw[←hv];exact h2.put i v,(ht.arr h.res ai).other (p:=⟨xq,i,none⟩) (by show xr≠xq;omega) v,(aI.fresh ht h.za (fun j hj=>ai)).setCell (by show w.heap.size≤xq;omega) v,h1⟩;obtain⟨A,c,a1,a2,a3,a4⟩:=hr.rest.ex;refine⟨hr.own.other (p:=⟨xq,i,none⟩) (by show p≠xq;omega) v,A,c,a1.other (p:=⟨xq,i,none⟩) (by show qq≠xq;omega) v,?_,a3,fun g off e=>⟨(a4 g off e).1,fun hne=>by
  obtain⟨cur,hc⟩:=(a4 g off e).2 hne;have hgx:g≠xq:=by
   rintro rfl;unfold aG at h2;rw[h2] at hc;injection hc with hc
   injection hc with _ h5 _
   revert h5;decide
  exact⟨cur,((aI.at W' xq i v).block g (Array.getElem?_eq_some_iff.1 hc).1 hgx).trans hc⟩⟩⟩
 intro hne;obtain⟨g,off,e1,e2,e3⟩:=a2 hne;have hgx:g≠xq:=by
  rintro rfl;have h5:=e3 0 _ (Oc.nO (List.length_pos_iff.2 hne));rw[h2.cell] at h5;rcases off with _|_|_|_|_|_|_|off <;>simp[lf,Oc.fG] at h5
 exact⟨g,off,e1,by simpa using e2,fun j u hj=>by rw[←e3 j u hj];exact World.cell?_of_block (a:=⟨g,off+j,none⟩) ((aI.at W' xq i v).block g e2 hgx)⟩
theorem Ui{W:World}{g:Nat}{t:TypeId}{r:Rp}(h:aG W g t (lf r)): W.cell? ⟨g,0,none⟩=some (.int .u32 r.tag)∧W.cell? ⟨g,1,none⟩=some (.int .i64 r.ax)∧W.cell? ⟨g,2,none⟩=some (.int .i64 r.err)∧W.cell? ⟨g,3,none⟩=some (.int .u32 r.id)∧W.cell? ⟨g,4,none⟩=some (.int .i64 r.aw)∧W.cell? ⟨g,5,none⟩=some (.int .i64 r.aR)∧W.cell? ⟨g,6,none⟩=some (.int .i64 r.count):=
 ⟨h.cell 0,h.cell 1,h.cell 2,h.cell 3,h.cell 4,h.cell 5,h.cell 6⟩
def Xq(r:Rp)(w:World)(e:Ending)(w':World): Prop:=e= .returned (.tuple #[.agg (lf r),.int .i64 0])∧Below w.heap.size w w'
theorem Xt(tg kd er id st tl ct f:Nat)(A:Option Addr)(c:Nat)(w:World)(hB:Bs w A (nC f tg kd er id st tl ct))(hA:qV A)(ht:fp w)(h:yb ⟨tg,kd,er,id,st,tl,ct⟩ f): Calls af 102 #[.slice A (nC f tg kd er id st tl ct).length c] w (Xq ⟨tg,kd,er,id,st,tl,ct⟩ w):=by
 obtain⟨xr,nZ⟩:=ae w.heap.size;obtain⟨w1,a8⟩:=ae (w.alloc (.cells #[.int .u32 0,.int .i64 0,.int .i64 0,.int .u32 0,.int .i64 0,.int .i64 0,.int .i64 0] 108));have wI:=aa (show aG w1 xr 108 (lf Rp.none)by rw[←a8,←nZ];exact aG.fresh w _ _);have hb1:=aK a8;have bA:=aa hb1;have pd:=aa nZ;have hlen:(nC f tg kd er id st tl ct).length≤100:=by
  unfold nC;simp only[List.length_append];have: ∀ (p:Prop) [Decidable p] (n k:Nat),(if p then le n k else []).length≤k:=fun p _ n k=>by split <;>simp[Oc.bG]
  have a1:=this (f=5) id 4;have a2:=this (f=2∨f=6) st 2;have a3:=this (f=4∨f=5∨f=6) tl 8;have a4:=this (f=8) ct 2;have b1:=Oc.bG tg 4;have b2:=Oc.bG kd 1;have b3:=Oc.bG er 2;omega
 have Cc:=aa (yM _ A c w1 (hB.ah hb1) hA (Nat.le_trans hlen aM));obtain⟨R,hR⟩:=ae ((if f=5 then le id 4 else [])++((if f=2∨f=6 then le st 2 else [])++((if f=4∨f=5∨f=6 then le tl 8 else [])++(if f=8 then le ct 2 else []))));have hV:nC f tg kd er id st tl ct=le tg 4++(le kd 1++(le er 2++R)):=by rw[←hR];unfold nC;simp only[List.append_assoc]
 obtain⟨B,hBB⟩:=ae (nC f tg kd er id st tl ct);rw[hBB] at Cc hV ⊢;have HVV:=aa hV;have HT:=aa (show ∀ W,Below w.heap.size w W→fp W from fun W hW=>ht.ah hW);have HH:=aa h;have uj:=aa hR;have hk:=h.ax;have he:=h.err;have L5:=h.tag;have hid:=h.id;have LY:=h.aR;have hst:=h.aw;have CC:=h.count;simp only at hk he L5 hid LY hst CC;have HL:=aa (show tg<256 ^ 4∧kd<256 ^ 1∧er<256 ^ 2∧id<256 ^ 4∧st<256 ^ 2∧tl<256 ^ 8∧ct<256 ^ 2 from⟨ai,ai,ai,ai,ai,ai,ai⟩);have k1:aN.wrap (kd:Int)=(kd:Int):=xk;have k2:aN.wrap (er:Int)=(er:Int):=xk;have k3:aN.wrap (st:Int)=(st:Int):=xk;have k4:aN.wrap (tl:Int)=(tl:Int):=xk;have k5:aN.wrap (ct:Int)=(ct:Int):=xk;have Y3:=Fk kd er;rw[h.flag] at Y3;have MZ:=aa Y3;clear hB hA ht h hb1 hR hk he L5 hid LY hst CC Y3 hlen hV hBB;go_enter Tryz.func102,Tryz.ntmps102;go_wp2_with fail;refine Cc.o.mono ?_;rintro e w2 ⟨p,qq,rfl,fE,hp,hq,hb2⟩;rw[HVV.o] at fE;have oc:=wI.jC hb2;have cu:=bA.dQ hb2;have HPQ:=aa (show xr<p∧xr<qq by have:=wI.o.lt;omega);have HN:=aa (gD p qq _ 0 w2 fE);clear fE hp hq hb2 Cc wI;go_wp2_with fail;refine HN.o.mono ?_;intro e w3 h3;obtain⟨rfl,fE,ht⟩:=tX h3 HL.o.1;have iu:=aa (ht.arr oc.o Ap);have dV:=aa (show Below w.heap.size w w3 from aI.fresh ht cu.o (fun j hj=>AH));have HN:=aa (vX p qq _ 0 w3 fE);clear h3 fE ht oc cu;go_wp2_with fail;refine HN.o.mono ?_;intro e w4 h3;obtain⟨rfl,fE,ht⟩:=tX h3 HL.o.2.1;have nV:=aa (ht.arr iu.o Ap);have gj:=aa (show Below w.heap.size w w4 from aI.fresh ht dV.o (fun j hj=>AH));have HN:=aa (oN p qq _ 0 w4 fE);clear h3 fE ht iu dV;go_wp2_with fail;refine HN.o.mono ?_;intro e w5 h3;obtain⟨rfl,fE,ht⟩:=tX h3 HL.o.2.2.1;have qG:=aa (ht.arr nV.o Ap);have eu:=aa (show Below w.heap.size w w5 from aI.fresh ht gj.o (fun j hj=>AH));have mj:=aa fE;clear h3 fE ht nV gj;obtain⟨xq,il⟩:=ae w5.heap.size;obtain⟨w6,og⟩:=ae (w5.alloc (.cells #[.int .u32 0,.int .i64 0,.int .i64 0,.int .u32 0,.int .i64 0,.int .i64 0,.int .i64 0] 108));have tx:=aa (show aG w6 xq 108 (lf Rp.none)by rw[←og,←il];exact aG.fresh w5 _ _);have iL:=aa (aK og);have tj:=aa il;go_wp2_with (refine aj rfl 108 _ _ rfl xq 108 _ (lf ⟨tg,kd,er,0,0,0,0⟩) tx.o rfl rfl rfl aS vu ?_;intro w7 D4 Je hs7;have nc:=aa (show Below w5.heap.size w5 w7 from br iL.o Je (Nat.le_of_eq tj.o));have yP:=aa D4;have y1:w7.cell? ⟨xq,1,none⟩=some (.int .i64 kd):=yP.o.cell 1;have y2:w7.cell? ⟨xq,2,none⟩=some (.int .i64 er):=yP.o.cell 2;clear D4 Je hs7);refine(oD kd er w7 (HT.o _ (av eu.o nc.o)) (by have:=HH.o.ax;simp only at this;exact this)).mono ?_;rintro e wq ⟨rfl,vO⟩;rw[vO,show yT kd er=f from HH.o.flag];have HI:=aa (show RgI w xr xq p qq ⟨tg,kd,er,0,0,0,0⟩ R w7 from⟨mj.o.ah nc.o,yP.o,qG.o.ah nc.o,av eu.o nc.o,by
  have h1:=mj.o.own.lt;obtain⟨A',c',a1,_⟩:=mj.o.rest.ex;have h2:=a1.lt;have h3:=HPQ.o;have h4:=tj.o;have h5:=pd.o;omega⟩)
 clear vO wq y1 y2 yP qG nc mj tx iL eu;have aji:=aa (show ∀ r W,RgI w xr xq p qq r [] W→Calls af 151 #[.pointer (some ⟨p,0,none⟩)] W (fun en w'=>en= .returned (.int .i64 0)∧w'=W)from fun r W hI=>zD p qq [] 0 W hI.rd);have jz:=aa (show ∀ W,RgI w xr xq p qq ⟨tg,kd,er,id,st,tl,ct⟩ [] W→Calls af 152 #[.agg (lf ⟨tg,kd,er,id,st,tl,ct⟩)] W (fun en w'=>en= .returned (.int .i64 0)∧Below W.heap.size W w')from fun W hI=>BW _ f W (HT.o _ hI.za) HH.o);have Gb:=aa (show ∀ W W',RgI w xr xq p qq ⟨tg,kd,er,id,st,tl,ct⟩ [] W→Below W.heap.size W W'→aG W' xq 108 (lf ⟨tg,kd,er,id,st,tl,ct⟩)∧aG W' xr 108 (lf Rp.none)∧Below w.heap.size w W' from fun W W' hI hb=>⟨hI.rq.ah hb,hI.res.ah hb,av hI.za hb⟩);have ze:=aa (show w.heap.size≤xr from HI.o.ne.2.2.2);have hz0:=HH.o.idf;have hz1:=HH.o.agr;have hz2:=HH.o.aw;have hz3:=HH.o.count;simp only at hz0 hz1 hz2 hz3;have HZ:=aa (show((id:Int)=0∨f=5)∧((tl:Int)=0∨f=4∨f=5∨f=6)∧((st:Int)=0∨f=2∨f=6)∧((ct:Int)=0∨f=8)from⟨hz0,hz1,hz2.imp_right fun h=>h.2.2,hz3.imp_right fun h=>h.2.2⟩);clear hz0 hz1 hz2 hz3 HPQ tj pd;rcases MZ.o with hf|hf|hf|hf|hf|hf <;>subst hf
 ·have n1:aX bl aN 0 1=0:=by decide
  have n2:aX bl aN 0 2=0:=aM;have n4:aX bl aN 0 4=0:=aM;have n8:aX bl aN 0 8=0:=aM;obtain rfl:R= []:=Dm;obtain rfl:id=0:=Aq;obtain rfl:st=0:=EI;obtain rfl:tl=0:=by have:=HZ.o.2.1;omega
  obtain rfl:ct=0:=Aw;clear HZ uj MZ HH;exact Qz
 ·have n1:aX bl aN 2 1=0:=by decide
  have n2:aX bl aN 2 2=2:=aM;have n4:aX bl aN 2 4=0:=aM;have n8:aX bl aN 2 8=0:=aM;obtain rfl:R=le st 2++([]):=Dm;obtain rfl:id=0:=Aq;obtain rfl:tl=0:=by have:=HZ.o.2.1;omega
  obtain rfl:ct=0:=Aw;clear HZ uj MZ HH;have HN:=aa (oN p qq _ 0 _ HI.o.rd);go_wp2_with fail;refine HN.o.mono ?_;intro e w9 h3;obtain⟨rfl,fE,ht⟩:=tX h3 HL.o.2.2.2.2.1;have c9:w9.cell? ⟨xq,4,none⟩=some (.int .i64 0):=(ht.arr HI.o.rq oz).cell 4;have m9:=(ht.arr HI.o.rq oz).mark 4;have HI:=aa (HI.o.kT (i:=4) (v:=.int .i64 (st:Nat)) (r':=⟨tg,kd,er,0,st,0,0⟩) fE ht rfl);clear h3 fE ht HN;exact Qz
 ·have n1:aX bl aN 4 1=0:=by decide
  have n2:aX bl aN 4 2=0:=aM;have n4:aX bl aN 4 4=4:=aM;have n8:aX bl aN 4 8=0:=aM;obtain rfl:R=le tl 8++([]):=Dm;obtain rfl:id=0:=Aq;obtain rfl:st=0:=EI;obtain rfl:ct=0:=Aw;clear HZ uj MZ HH;have HN:=aa (ik p qq _ 0 _ HI.o.rd);go_wp2_with fail;refine HN.o.mono ?_;intro e w9 h3;obtain⟨rfl,fE,ht⟩:=tX h3 HL.o.2.2.2.2.2.1;have c9:w9.cell? ⟨xq,5,none⟩=some (.int .i64 0):=(ht.arr HI.o.rq oz).cell 5;have m9:=(ht.arr HI.o.rq oz).mark 5;have HI:=aa (HI.o.kT (i:=5) (v:=.int .i64 (tl:Nat)) (r':=⟨tg,kd,er,0,0,tl,0⟩) fE ht rfl);clear h3 fE ht HN;exact Qz
 ·have n1:aX bl aN 5 1=1:=by decide
  have n2:aX bl aN 5 2=0:=aM;have n4:aX bl aN 5 4=4:=aM;have n8:aX bl aN 5 8=0:=aM;obtain rfl:R=le id 4++(le tl 8++([])):=Dm;obtain rfl:st=0:=EI;obtain rfl:ct=0:=Aw;clear HZ uj MZ HH;have HN:=aa (gD p qq _ 0 _ HI.o.rd);go_wp2_with fail;refine HN.o.mono ?_;intro e w9 h3;obtain⟨rfl,fE,ht⟩:=tX h3 HL.o.2.2.2.1;have c9:w9.cell? ⟨xq,3,none⟩=some (.int .u32 0):=(ht.arr HI.o.rq oz).cell 3;have m9:=(ht.arr HI.o.rq oz).mark 3;have HI:=aa (HI.o.kT (i:=3) (v:=.int .u32 (id:Nat)) (r':=⟨tg,kd,er,id,0,0,0⟩) fE ht rfl);clear h3 fE ht HN;have HN:=aa (ik p qq _ 0 _ HI.o.rd);go_wp2_with fail;refine HN.o.mono ?_;intro e w9 h3;obtain⟨rfl,fE,ht⟩:=tX h3 HL.o.2.2.2.2.2.1;have c9:w9.cell? ⟨xq,5,none⟩=some (.int .i64 0):=(ht.arr HI.o.rq oz).cell 5;have m9:=(ht.arr HI.o.rq oz).mark 5;have HI:=aa (HI.o.kT (i:=5) (v:=.int .i64 (tl:Nat)) (r':=⟨tg,kd,er,id,0,tl,0⟩) fE ht rfl);clear h3 fE ht HN;exact Qz
 ·have n1:aX bl aN 6 1=0:=by decide
  have n2:aX bl aN 6 2=2:=aM;have n4:aX bl aN 6 4=4:=aM;have n8:aX bl aN 6 8=0:=aM;obtain rfl:R=le st 2++(le tl 8++([])):=Dm;obtain rfl:id=0:=Aq;obtain rfl:ct=0:=Aw;clear HZ uj MZ HH;have HN:=aa (oN p qq _ 0 _ HI.o.rd);go_wp2_with fail;refine HN.o.mono ?_;intro e w9 h3;obtain⟨rfl,fE,ht⟩:=tX h3 HL.o.2.2.2.2.1;have c9:w9.cell? ⟨xq,4,none⟩=some (.int .i64 0):=(ht.arr HI.o.rq oz).cell 4;have m9:=(ht.arr HI.o.rq oz).mark 4;have HI:=aa (HI.o.kT (i:=4) (v:=.int .i64 (st:Nat)) (r':=⟨tg,kd,er,0,st,0,0⟩) fE ht rfl);clear h3 fE ht HN;have HN:=aa (ik p qq _ 0 _ HI.o.rd);go_wp2_with fail;refine HN.o.mono ?_;intro e w9 h3;obtain⟨rfl,fE,ht⟩:=tX h3 HL.o.2.2.2.2.2.1;have c9:w9.cell? ⟨xq,5,none⟩=some (.int .i64 0):=(ht.arr HI.o.rq oz).cell 5;have m9:=(ht.arr HI.o.rq oz).mark 5;have HI:=aa (HI.o.kT (i:=5) (v:=.int .i64 (tl:Nat)) (r':=⟨tg,kd,er,0,st,tl,0⟩) fE ht rfl);clear h3 fE ht HN;exact Qz
 have n1:aX bl aN 8 1=0:=aM;have n2:aX bl aN 8 2=0:=aM;have n4:aX bl aN 8 4=0:=aM;have n8:aX bl aN 8 8=8:=aM;obtain rfl:R=le ct 2++([]):=Dm;obtain rfl:id=0:=Aq;obtain rfl:st=0:=EI;obtain rfl:tl=0:=by have:=HZ.o.2.1;omega
 clear HZ uj MZ HH;have HN:=aa (oN p qq _ 0 _ HI.o.rd);go_wp2_with fail;refine HN.o.mono ?_;intro e w9 h3;obtain⟨rfl,fE,ht⟩:=tX h3 HL.o.2.2.2.2.2.2;have c9:w9.cell? ⟨xq,6,none⟩=some (.int .i64 0):=(ht.arr HI.o.rq oz).cell 6;have m9:=(ht.arr HI.o.rq oz).mark 6;have HI:=aa (HI.o.kT (i:=6) (v:=.int .i64 (ct:Nat)) (r':=⟨tg,kd,er,0,0,0,ct⟩) fE ht rfl);clear h3 fE ht HN;exact Qz
theorem Xu(r:Rp)(A:Option Addr)(c:Nat)(w:World)(hB:Bs w A (cN r))(hA:qV A)(ht:fp w)(h:r.ry): Calls af 102 #[.slice A (cN r).length c] w (Xq r w):=by
 obtain⟨tg,kd,er,id,st,tl,ct⟩:=r;have h1:=h.tag;have h2:=h.ax;have h3:=h.err;have h4:=h.id;have h5:=h.aR;have h6:0≤st:=Te;have h7:0≤ct:=Tj;simp only at h1 h2 h3 h4 h5;obtain⟨tg,rfl⟩:=eo h1.1;obtain⟨kd,rfl⟩:=eo h2.1;obtain⟨er,rfl⟩:=eo h3.1;obtain⟨id,rfl⟩:=eo h4.1;obtain⟨tl,rfl⟩:=eo h5.1;obtain⟨st,rfl⟩:=eo h6;obtain⟨ct,rfl⟩:=eo h7;exact Xt tg kd er id st tl ct _ A c w hB hA ht h
