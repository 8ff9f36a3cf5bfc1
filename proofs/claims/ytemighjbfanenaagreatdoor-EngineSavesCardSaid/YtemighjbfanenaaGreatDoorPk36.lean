import Derived.Test.YtemighjbfanenaaGreatDoorPk24
set_option linter.all false
set_option maxRecDepth 100000
set_option maxHeartbeats 16000000
namespace Go.Proofs.YtemighjbfanenaaGreatDoor
open RowKit
open Go renaming bits→aX
open Go.BinOp renaming and→bh
open Go.IntKind renaming wrap_i64→mH,i64→aO
open Go.Proofs.Tryz renaming underlying108→dJ,results102→abu,prog→af
open Go.Value renaming oneCell'→fw
open Int renaming eq_ofNat_of_zero_le→eu
theorem QL{p:Prop}(h:p:=by
 go_wp2_with fail;refine ag (ajk.o _ _ HI.o) ?_;have HQ:=aa HI.o.rq;obtain⟨z0,z1,z2,z3,z4,z5,z6⟩:=Uv HQ.o;go_wp2_with fail;refine(jy.o _ HI.o).mono ?_;rintro e vq ⟨rfl,wy⟩;have HF:=aa (Gt.o _ _ HI.o wy);clear wy HQ HI z0 z1 z2 z3 z4 z5 z6 jy ajk Gt;go_wp2_with (first|(refine aC rfl 108 (.tmp 5) rfl xq 108 _ HF.o.1 rfl _ dJ rfl aR ?_)|(refine ah rfl 108 (.tmp 2) _ rfl xr 108 _ (iW _) HF.o.2.1 rfl rfl rfl aR pH ?_;intro wz gz eC hsz;have kH:=aa gz;have iw:=aa eC;clear gz eC hsz));refine bodyPost_ret (results_cell_tmp abu _ im (aJ 108 kH.o _ dJ rfl aR)) rfl ⟨rfl,bn HF.o.2.2 iw.o zw.o⟩):p:=h
theorem ow{p:Prop}(h:p:=by have:=HI.o.ne;omega):p:=h
theorem DC{p:Prop}(h:p:=by have:=uq.o;simpa using this.symm):p:=h
theorem AU{p:Prop}(h:p:=by have:=HZ.o.2.2.2;omega):p:=h
theorem AQ{p:Prop}(h:p:=by have:=HZ.o.1;omega):p:=h
theorem E0{p:Prop}(h:p:=by have:=HZ.o.2.2.1;omega):p:=h
section
namespace En
open Oc (le val jW Bs rh rE za jU oK wD oL gC iu zX rG)
theorem ue{p q n k:Nat}{r:By}{kd:IntKind}{w w':World}{e:Ending}(h:oK p q (le n k++r) 0 k kd w e w')(hn:n<256 ^ k): e= .returned (.int kd (n:Int))∧jU w' p q r 0∧aI (· =q) w w':=by
 obtain⟨h1,h2,h3⟩:=h;rw[tY] at h1 h2;exact⟨by rw[h1];show Ending.returned (.int kd ((val (le n k):Nat):Int))=_;rw[jW n k hn],h2,h3⟩
structure RgI(w:World)(xr xq p qq:Nat)(r:Rp)(bs:By)(W:World): Prop where
 rd:jU W p qq bs 0
 rq:aG W xq 108 (iW r)
 res:aG W xr 108 (iW Rp.none)
 y6:Below w.heap.size w W
 ne:xr<qq∧p<xq∧qq<xq∧w.heap.size≤xr
theorem RgI.lV{w W W':World}{xr xq p qq i:Nat}{r r':Rp}{bs bs':By}{v:Value}(h:RgI w xr xq p qq r bs W)(hr:jU W' p qq bs' 0)(ht:aI (· =qq) W W')(hv:(iW r).setIfInBounds i v=iW r'): RgI w xr xq p qq r' bs' (W'.setCell ⟨xq,i,none⟩ v):=by
 have h1:=h.ne;have h2:=ht.arr h.rq aj;refine⟨?_,by rw[←hv];exact h2.put i v,(ht.arr h.res aj).other (p:=⟨xq,i,none⟩) (by show xr≠xq;omega) v,(aI.fresh ht h.y6 (fun j hj=>aj)).setCell (by show w.heap.size≤xq;omega) v,h1⟩;obtain⟨A,c,a1,a2,a3,a4⟩:=hr.rest.ex;refine⟨hr.own.other (p:=⟨xq,i,none⟩) (by show p≠xq;omega) v,A,c,a1.other (p:=⟨xq,i,none⟩) (by show qq≠xq;omega) v,?_,a3,fun g off e=>⟨(a4 g off e).1,fun hne=>by
  obtain⟨cur,hc⟩:=(a4 g off e).2 hne;have hgx:g≠xq:=by
   rintro rfl;unfold aG at h2;rw[h2] at hc;injection hc with hc
   injection hc with _ h5 _
   revert h5;decide
  exact⟨cur,((aI.at W' xq i v).block g (Array.getElem?_eq_some_iff.1 hc).1 hgx).trans hc⟩⟩⟩
 intro hne;obtain⟨g,off,e1,e2,e3⟩:=a2 hne;have hgx:g≠xq:=by
  rintro rfl;have h5:=e3 0 _ (Oc.nR (List.length_pos_iff.2 hne));rw[h2.cell] at h5;rcases off with _|_|_|_|_|_|_|off <;>simp[iW,Oc.fF] at h5
 exact⟨g,off,e1,by simpa using e2,fun j u hj=>by rw[←e3 j u hj];exact World.cell?_of_block (a:=⟨g,off+j,none⟩) ((aI.at W' xq i v).block g e2 hgx)⟩
theorem Uv{W:World}{g:Nat}{t:TypeId}{r:Rp}(h:aG W g t (iW r)): W.cell? ⟨g,0,none⟩=some (.int .u32 r.tag)∧W.cell? ⟨g,1,none⟩=some (.int .i64 r.ay)∧W.cell? ⟨g,2,none⟩=some (.int .i64 r.err)∧W.cell? ⟨g,3,none⟩=some (.int .u32 r.id)∧W.cell? ⟨g,4,none⟩=some (.int .i64 r.aw)∧W.cell? ⟨g,5,none⟩=some (.int .i64 r.aS)∧W.cell? ⟨g,6,none⟩=some (.int .i64 r.count):=
 ⟨h.cell 0,h.cell 1,h.cell 2,h.cell 3,h.cell 4,h.cell 5,h.cell 6⟩
def Xy(r:Rp)(w:World)(e:Ending)(w':World): Prop:=e= .returned (.tuple #[.agg (iW r),.int .i64 0])∧Below w.heap.size w w'
theorem XB(tg kd er id st tl ct f:Nat)(A:Option Addr)(c:Nat)(w:World)(hB:Bs w A (nG f tg kd er id st tl ct))(hA:rh A)(ht:fk w)(h:yo ⟨tg,kd,er,id,st,tl,ct⟩ f): Calls af 102 #[.slice A (nG f tg kd er id st tl ct).length c] w (Xy ⟨tg,kd,er,id,st,tl,ct⟩ w):=by
 obtain⟨xr,mO⟩:=ae w.heap.size;obtain⟨w1,aZ⟩:=ae (w.alloc (.cells #[.int .u32 0,.int .i64 0,.int .i64 0,.int .u32 0,.int .i64 0,.int .i64 0,.int .i64 0] 108));have wT:=aa (show aG w1 xr 108 (iW Rp.none)by rw[←aZ,←mO];exact aG.fresh w _ _);have hb1:=aL aZ;have bz:=aa hb1;have pg:=aa mO;have hlen:(nG f tg kd er id st tl ct).length≤100:=by
  unfold nG;simp only[List.length_append];have: ∀ (p:Prop) [Decidable p] (n k:Nat),(if p then le n k else []).length≤k:=fun p _ n k=>by split <;>simp[Oc.bF]
  have a1:=this (f=5) id 4;have a2:=this (f=2∨f=6) st 2;have a3:=this (f=4∨f=5∨f=6) tl 8;have a4:=this (f=8) ct 2;have b1:=Oc.bF tg 4;have b2:=Oc.bF kd 1;have b3:=Oc.bF er 2;omega
 have Cw:=aa (za _ A c w1 (hB.ai hb1) hA (Nat.le_trans hlen aN));obtain⟨R,hR⟩:=ae ((if f=5 then le id 4 else [])++((if f=2∨f=6 then le st 2 else [])++((if f=4∨f=5∨f=6 then le tl 8 else [])++(if f=8 then le ct 2 else []))));have hV:nG f tg kd er id st tl ct=le tg 4++(le kd 1++(le er 2++R)):=by rw[←hR];unfold nG;simp only[List.append_assoc]
 obtain⟨B,hBB⟩:=ae (nG f tg kd er id st tl ct);rw[hBB] at Cw hV ⊢;have HVV:=aa hV;have HT:=aa (show ∀ W,Below w.heap.size w W→fk W from fun W hW=>ht.ai hW);have HH:=aa h;have uq:=aa hR;have hk:=h.ay;have he:=h.err;have Mm:=h.tag;have hid:=h.id;have OW:=h.aS;have hst:=h.aw;have Eh:=h.count;simp only at hk he Mm hid OW hst Eh;have HL:=aa (show tg<256 ^ 4∧kd<256 ^ 1∧er<256 ^ 2∧id<256 ^ 4∧st<256 ^ 2∧tl<256 ^ 8∧ct<256 ^ 2 from⟨aj,aj,aj,aj,aj,aj,aj⟩);have k1:aO.wrap (kd:Int)=(kd:Int):=xF;have k2:aO.wrap (er:Int)=(er:Int):=xF;have k3:aO.wrap (st:Int)=(st:Int):=xF;have k4:aO.wrap (tl:Int)=(tl:Int):=xF;have k5:aO.wrap (ct:Int)=(ct:Int):=xF;have Y9:=FH kd er;rw[h.flag] at Y9;have Nh:=aa Y9;clear hB hA ht h hb1 hR hk he Mm hid OW hst Eh Y9 hlen hV hBB;go_enter Tryz.func102,Tryz.ntmps102;go_wp2_with fail;refine Cw.o.mono ?_;rintro e w2 ⟨p,qq,rfl,fE,hp,hq,hb2⟩;rw[HVV.o] at fE;have kU:=wT.js hb2;have cu:=bz.dP hb2;have HPQ:=aa (show xr<p∧xr<qq by have:=wT.o.lt;omega);have HN:=aa (gC p qq _ 0 w2 fE);clear fE hp hq hb2 Cw wT;go_wp2_with fail;refine HN.o.mono ?_;intro e w3 h3;obtain⟨rfl,fE,ht⟩:=ue h3 HL.o.1;have gM:=aa (ht.arr kU.o AP);have dV:=aa (show Below w.heap.size w w3 from aI.fresh ht cu.o (fun j hj=>Be));have HN:=aa (wD p qq _ 0 w3 fE);clear h3 fE ht kU cu;go_wp2_with fail;refine HN.o.mono ?_;intro e w4 h3;obtain⟨rfl,fE,ht⟩:=ue h3 HL.o.2.1;have mj:=aa (ht.arr gM.o AP);have gH:=aa (show Below w.heap.size w w4 from aI.fresh ht dV.o (fun j hj=>Be));have HN:=aa (oL p qq _ 0 w4 fE);clear h3 fE ht gM dV;go_wp2_with fail;refine HN.o.mono ?_;intro e w5 h3;obtain⟨rfl,fE,ht⟩:=ue h3 HL.o.2.2.1;have qL:=aa (ht.arr mj.o AP);have eA:=aa (show Below w.heap.size w w5 from aI.fresh ht gH.o (fun j hj=>Be));have nh:=aa fE;clear h3 fE ht mj gH;obtain⟨xq,iO⟩:=ae w5.heap.size;obtain⟨w6,og⟩:=ae (w5.alloc (.cells #[.int .u32 0,.int .i64 0,.int .i64 0,.int .u32 0,.int .i64 0,.int .i64 0,.int .i64 0] 108));have tC:=aa (show aG w6 xq 108 (iW Rp.none)by rw[←og,←iO];exact aG.fresh w5 _ _);have ij:=aa (aL og);have vx:=aa iO;go_wp2_with (refine ah rfl 108 _ _ rfl xq 108 _ (iW ⟨tg,kd,er,0,0,0,0⟩) tC.o rfl rfl rfl aR pH ?_;intro w7 Ek JC hs7;have lI:=aa (show Below w5.heap.size w5 w7 from bn ij.o JC (Nat.le_of_eq vx.o));have zf:=aa Ek;have y1:w7.cell? ⟨xq,1,none⟩=some (.int .i64 kd):=zf.o.cell 1;have y2:w7.cell? ⟨xq,2,none⟩=some (.int .i64 er):=zf.o.cell 2;clear Ek JC hs7);refine(oC kd er w7 (HT.o _ (av eA.o lI.o)) (by have:=HH.o.ay;simp only at this;exact this)).mono ?_;rintro e wq ⟨rfl,vY⟩;rw[vY,show zk kd er=f from HH.o.flag];have HI:=aa (show RgI w xr xq p qq ⟨tg,kd,er,0,0,0,0⟩ R w7 from⟨nh.o.ai lI.o,zf.o,qL.o.ai lI.o,av eA.o lI.o,by
  have h1:=nh.o.own.lt;obtain⟨A',c',a1,_⟩:=nh.o.rest.ex;have h2:=a1.lt;have h3:=HPQ.o;have h4:=vx.o;have h5:=pg.o;omega⟩)
 clear vY wq y1 y2 zf qL lI nh tC ij eA;have ajk:=aa (show ∀ r W,RgI w xr xq p qq r [] W→Calls af 151 #[.pointer (some ⟨p,0,none⟩)] W (fun en w'=>en= .returned (.int .i64 0)∧w'=W)from fun r W hI=>zX p qq [] 0 W hI.rd);have jy:=aa (show ∀ W,RgI w xr xq p qq ⟨tg,kd,er,id,st,tl,ct⟩ [] W→Calls af 152 #[.agg (iW ⟨tg,kd,er,id,st,tl,ct⟩)] W (fun en w'=>en= .returned (.int .i64 0)∧Below W.heap.size W w')from fun W hI=>Ch _ f W (HT.o _ hI.y6) HH.o);have Gt:=aa (show ∀ W W',RgI w xr xq p qq ⟨tg,kd,er,id,st,tl,ct⟩ [] W→Below W.heap.size W W'→aG W' xq 108 (iW ⟨tg,kd,er,id,st,tl,ct⟩)∧aG W' xr 108 (iW Rp.none)∧Below w.heap.size w W' from fun W W' hI hb=>⟨hI.rq.ai hb,hI.res.ai hb,av hI.y6 hb⟩);have zw:=aa (show w.heap.size≤xr from HI.o.ne.2.2.2);have hz0:=HH.o.idf;have hz1:=HH.o.agA;have hz2:=HH.o.aw;have hz3:=HH.o.count;simp only at hz0 hz1 hz2 hz3;have HZ:=aa (show((id:Int)=0∨f=5)∧((tl:Int)=0∨f=4∨f=5∨f=6)∧((st:Int)=0∨f=2∨f=6)∧((ct:Int)=0∨f=8)from⟨hz0,hz1,hz2.imp_right fun h=>h.2.2,hz3.imp_right fun h=>h.2.2⟩);clear hz0 hz1 hz2 hz3 HPQ vx pg;rcases Nh.o with hf|hf|hf|hf|hf|hf <;>subst hf
 ·have n1:aX bh aO 0 1=0:=by decide
  have n2:aX bh aO 0 2=0:=aN;have n4:aX bh aO 0 4=0:=aN;have n8:aX bh aO 0 8=0:=aN;obtain rfl:R= []:=DC;obtain rfl:id=0:=AQ;obtain rfl:st=0:=E0;obtain rfl:tl=0:=by have:=HZ.o.2.1;omega
  obtain rfl:ct=0:=AU;clear HZ uq Nh HH;exact QL
 ·have n1:aX bh aO 2 1=0:=by decide
  have n2:aX bh aO 2 2=2:=aN;have n4:aX bh aO 2 4=0:=aN;have n8:aX bh aO 2 8=0:=aN;obtain rfl:R=le st 2++([]):=DC;obtain rfl:id=0:=AQ;obtain rfl:tl=0:=by have:=HZ.o.2.1;omega
  obtain rfl:ct=0:=AU;clear HZ uq Nh HH;have HN:=aa (oL p qq _ 0 _ HI.o.rd);go_wp2_with fail;refine HN.o.mono ?_;intro e w9 h3;obtain⟨rfl,fE,ht⟩:=ue h3 HL.o.2.2.2.2.1;have c9:w9.cell? ⟨xq,4,none⟩=some (.int .i64 0):=(ht.arr HI.o.rq ow).cell 4;have m9:=(ht.arr HI.o.rq ow).mark 4;have HI:=aa (HI.o.lV (i:=4) (v:=.int .i64 (st:Nat)) (r':=⟨tg,kd,er,0,st,0,0⟩) fE ht rfl);clear h3 fE ht HN;exact QL
 ·have n1:aX bh aO 4 1=0:=by decide
  have n2:aX bh aO 4 2=0:=aN;have n4:aX bh aO 4 4=4:=aN;have n8:aX bh aO 4 8=0:=aN;obtain rfl:R=le tl 8++([]):=DC;obtain rfl:id=0:=AQ;obtain rfl:st=0:=E0;obtain rfl:ct=0:=AU;clear HZ uq Nh HH;have HN:=aa (iu p qq _ 0 _ HI.o.rd);go_wp2_with fail;refine HN.o.mono ?_;intro e w9 h3;obtain⟨rfl,fE,ht⟩:=ue h3 HL.o.2.2.2.2.2.1;have c9:w9.cell? ⟨xq,5,none⟩=some (.int .i64 0):=(ht.arr HI.o.rq ow).cell 5;have m9:=(ht.arr HI.o.rq ow).mark 5;have HI:=aa (HI.o.lV (i:=5) (v:=.int .i64 (tl:Nat)) (r':=⟨tg,kd,er,0,0,tl,0⟩) fE ht rfl);clear h3 fE ht HN;exact QL
 ·have n1:aX bh aO 5 1=1:=by decide
  have n2:aX bh aO 5 2=0:=aN;have n4:aX bh aO 5 4=4:=aN;have n8:aX bh aO 5 8=0:=aN;obtain rfl:R=le id 4++(le tl 8++([])):=DC;obtain rfl:st=0:=E0;obtain rfl:ct=0:=AU;clear HZ uq Nh HH;have HN:=aa (gC p qq _ 0 _ HI.o.rd);go_wp2_with fail;refine HN.o.mono ?_;intro e w9 h3;obtain⟨rfl,fE,ht⟩:=ue h3 HL.o.2.2.2.1;have c9:w9.cell? ⟨xq,3,none⟩=some (.int .u32 0):=(ht.arr HI.o.rq ow).cell 3;have m9:=(ht.arr HI.o.rq ow).mark 3;have HI:=aa (HI.o.lV (i:=3) (v:=.int .u32 (id:Nat)) (r':=⟨tg,kd,er,id,0,0,0⟩) fE ht rfl);clear h3 fE ht HN;have HN:=aa (iu p qq _ 0 _ HI.o.rd);go_wp2_with fail;refine HN.o.mono ?_;intro e w9 h3;obtain⟨rfl,fE,ht⟩:=ue h3 HL.o.2.2.2.2.2.1;have c9:w9.cell? ⟨xq,5,none⟩=some (.int .i64 0):=(ht.arr HI.o.rq ow).cell 5;have m9:=(ht.arr HI.o.rq ow).mark 5;have HI:=aa (HI.o.lV (i:=5) (v:=.int .i64 (tl:Nat)) (r':=⟨tg,kd,er,id,0,tl,0⟩) fE ht rfl);clear h3 fE ht HN;exact QL
 ·have n1:aX bh aO 6 1=0:=by decide
  have n2:aX bh aO 6 2=2:=aN;have n4:aX bh aO 6 4=4:=aN;have n8:aX bh aO 6 8=0:=aN;obtain rfl:R=le st 2++(le tl 8++([])):=DC;obtain rfl:id=0:=AQ;obtain rfl:ct=0:=AU;clear HZ uq Nh HH;have HN:=aa (oL p qq _ 0 _ HI.o.rd);go_wp2_with fail;refine HN.o.mono ?_;intro e w9 h3;obtain⟨rfl,fE,ht⟩:=ue h3 HL.o.2.2.2.2.1;have c9:w9.cell? ⟨xq,4,none⟩=some (.int .i64 0):=(ht.arr HI.o.rq ow).cell 4;have m9:=(ht.arr HI.o.rq ow).mark 4;have HI:=aa (HI.o.lV (i:=4) (v:=.int .i64 (st:Nat)) (r':=⟨tg,kd,er,0,st,0,0⟩) fE ht rfl);clear h3 fE ht HN;have HN:=aa (iu p qq _ 0 _ HI.o.rd);go_wp2_with fail;refine HN.o.mono ?_;intro e w9 h3;obtain⟨rfl,fE,ht⟩:=ue h3 HL.o.2.2.2.2.2.1;have c9:w9.cell? ⟨xq,5,none⟩=some (.int .i64 0):=(ht.arr HI.o.rq ow).cell 5;have m9:=(ht.arr HI.o.rq ow).mark 5;have HI:=aa (HI.o.lV (i:=5) (v:=.int .i64 (tl:Nat)) (r':=⟨tg,kd,er,0,st,tl,0⟩) fE ht rfl);clear h3 fE ht HN;exact QL
 have n1:aX bh aO 8 1=0:=aN;have n2:aX bh aO 8 2=0:=aN;have n4:aX bh aO 8 4=0:=aN;have n8:aX bh aO 8 8=8:=aN;obtain rfl:R=le ct 2++([]):=DC;obtain rfl:id=0:=AQ;obtain rfl:st=0:=E0;obtain rfl:tl=0:=by have:=HZ.o.2.1;omega
 clear HZ uq Nh HH;have HN:=aa (oL p qq _ 0 _ HI.o.rd);go_wp2_with fail;refine HN.o.mono ?_;intro e w9 h3;obtain⟨rfl,fE,ht⟩:=ue h3 HL.o.2.2.2.2.2.2;have c9:w9.cell? ⟨xq,6,none⟩=some (.int .i64 0):=(ht.arr HI.o.rq ow).cell 6;have m9:=(ht.arr HI.o.rq ow).mark 6;have HI:=aa (HI.o.lV (i:=6) (v:=.int .i64 (ct:Nat)) (r':=⟨tg,kd,er,0,0,0,ct⟩) fE ht rfl);clear h3 fE ht HN;exact QL
theorem XC(r:Rp)(A:Option Addr)(c:Nat)(w:World)(hB:Bs w A (cJ r))(hA:rh A)(ht:fk w)(h:r.qc): Calls af 102 #[.slice A (cJ r).length c] w (Xy r w):=by
 obtain⟨tg,kd,er,id,st,tl,ct⟩:=r;have h1:=h.tag;have h2:=h.ay;have h3:=h.err;have h4:=h.id;have h5:=h.aS;have h6:0≤st:=To;have h7:0≤ct:=Tt;simp only at h1 h2 h3 h4 h5;obtain⟨tg,rfl⟩:=eu h1.1;obtain⟨kd,rfl⟩:=eu h2.1;obtain⟨er,rfl⟩:=eu h3.1;obtain⟨id,rfl⟩:=eu h4.1;obtain⟨tl,rfl⟩:=eu h5.1;obtain⟨st,rfl⟩:=eu h6;obtain⟨ct,rfl⟩:=eu h7;exact XB tg kd er id st tl ct _ A c w hB hA ht h
