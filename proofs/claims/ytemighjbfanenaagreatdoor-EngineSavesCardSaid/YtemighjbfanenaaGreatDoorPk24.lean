import Derived.Deep.CutBlock
import Derived.Test.YtemighjbfanenaaGreatDoorPk31
set_option linter.all false
set_option maxRecDepth 100000
set_option maxHeartbeats 16000000
namespace Go.Proofs.YtemighjbfanenaaGreatDoor
open RowKit
open Oc (Bs mG le rh val)
open Eg (ik ju jC Mf)
open Cr (cj)
open Bk (fK)
open En (zg dK Rec Rq jT zv dZ aR aH iW bI cZ)
open Go.Act renaming eval→abB
open Go.Proofs.Tryz renaming underlying38→abA,prog→af,underlying108→dJ,underlying41→cA,underlying66→abz
open Go.Value renaming oneCell'→fw,slice→ji
open Go.WalkArith renaming wf_i64→lJ
open List renaming getElem?_eq_none→gW,getElem?_eq_getElem→bY,getD_eq_getElem?_getD→bN
open Nat renaming le_of_eq→pn,lt_of_lt_of_le→aW,zero_add→gX,le_trans→aT
open RowKit.Below renaming refl→au
theorem OI{p:Prop}(h:p:=by
 try simp only[aY]
 refine eZ 7 (some 34) hHeld 41 (.tmp 5) xq 0 (cZ (bL b).1).toList _ (fun w' h=>h.2.2.1) cA rfl aH ?_;try simp only[aY]
 refine cG 8 fun K hK=>?_
 go_simp;refine(HC.o _ (av dV.o Zv.o)).mono ?_;rintro en w4 ⟨⟨A',c',rfl,h5⟩,h6,⟨T,h7,h8⟩,h9,h10⟩;have HH:=aa (show ∃ A'' c'',ji A' l.length c'= .slice A'' l.length c''∧Si w4 A'' l∧R w4 from⟨A',c',rfl,h5,h6⟩);have hq4:aG w4 xq 41 (cZ (bL b).1):=h7.arr (jx.o.ai Zv.o) (fun hx=>aef);have gH:=aa (show w4.cell? ⟨e,6,none⟩=some (.map (some mb))∧w4.cell? ⟨xq,0,none⟩=some (.int .i64 (bL b).1.ay)∧w4.rangeAt xq 0 (cZ (bL b).1).toList∧ju w4 mb (jC e)from⟨h9,hq4.cell 0,fun j u hj=>aek,h10⟩);clear h5 h6 h7 h8 h9 h10 hq4;go_wp2_with fail;refine bW hK (by exact gH.o) fun hH8=>?_
 clear hK K;refine ty 9 ?_;refine bO ?_;go_wp2_with fail;go_meet;exact HH.o):p:=h
theorem acK{p:Prop}(h:p:=by
 refine cG 10 fun K hK=>?_
 refine cT 108 _ _ rfl xa 108 _ (iW Xk) YA.o rfl rfl rfl aR pH ?_;intro v3 dE hg gJ;have jH:=HW9.o;have eh:=aa (show bC aB v3 e q wt es from eI.o.grown hg jH HN.o);have fG:=aa (show aG v3 xq 41 (cZ rq)from fY.o.bw hg (fun e=>abO));have eV:=aa (show aI (fun k=>aB k≠0) w v3 from vH eW.o hg jH);have af8:=aa dE;clear dE hg gJ jH;refine bW hK pG fun KL=>?_
 clear hK K;refine ty 11 ?_;refine bO ?_;go_wp2_with fail;go_meet;exact⟨xa,rfl,af8.o,eh.o,eV.o⟩):p:=h
theorem OH{p:Prop}(h:p:=by
 intro w' hSw;have h7:=fB.agM (z:=.nilFunc) hSw.2.2.2 abA abz br (i:=(bL b).1.ay) (lJ Ba);rw[HF.o] at h7;simp[execOp,h7,abB]):p:=h
theorem acs{p:Prop}(h:p:=by
 all_goals(refine bodyPost_ret (results_cell_tmp Tryz.results209 _ im (aJ 108 HAZ.o _ dJ rfl aR)) rfl ?_;refine⟨by rw[RT.o];rfl,nU HBZ.o Yk.o (fun k hk e=>oO.o k Bc hk),HTZ.o.grown Yk.o (fun k e=>ad6)⟩)):p:=h
theorem Vp{p:Prop}(h:p:=by
 exact h9.mono fun e w' h=>⟨h.1,by obtain⟨x,hx⟩:=hW;exact⟨x,hx.ak h.2⟩,aI.aU h.2⟩):p:=h
theorem xd{p:Prop}(h:p:=by have:=(HN.o xq vx.o.1).1;rw[this] at c;exact absurd c (by decide)):p:=h
theorem pG{p:Prop}(h:p:=by exact gi.o _ eh.o fG.o):p:=h
theorem oz{p:Prop}(h:p:=by show aB k≠0;rw[hk];decide):p:=h
theorem S8{p:Prop}(h:p:=by intro u hu;simp at hu;rcases hu with rfl|rfl|rfl|rfl|rfl|rfl|rfl <;>rfl):p:=h
theorem vE{p:Prop}(h:p:=by exact gi.o _ eI.o fY.o):p:=h
theorem abO{p:Prop}(h:p:=by injection e with e;have:=qK.o;omega):p:=h
theorem NT{p:Prop}(h:p:=by rw[gX,(jx.o.ai hW).cell j];simpa using hj):p:=h
theorem Ub{p:Prop}(h:p:=by rw[←KF];exact En.iJ (zD.o) (aI.at w9 x6 2 _) (fun k hk e=>oO.o k (by omega) hk)):p:=h
theorem T7{p:Prop}(h:p:=by rw[←KF];exact EB.o.put (p:=⟨x6,2,none⟩) (.inr (by show w.heap.size≤x6;omega)) _):p:=h
theorem Bd{p:Prop}(h:p:=by exact gi.o _ iU.o kY.o):p:=h
theorem aek{p:Prop}(h:p:=by rw[gX,hq4.cell j];simpa using hj):p:=h
theorem Fi{p:Prop}(h:p:=by injection e with e;have:=Yi.o;omega):p:=h
theorem Bc{p:Prop}(h:p:=by have:=zw.o;omega):p:=h
theorem TQ{p:Prop}(h:p:=by rw[←KF];exact Sm.o.other (p:=⟨x6,2,none⟩) (by show xr≠x6;omega) _):p:=h
theorem TP{p:Prop}(h:p:=by rw[←KF];exact HK9.o.other (p:=⟨x6,2,none⟩) (by show x7≠x6;omega) _):p:=h
theorem aef{p:Prop}(h:p:=by have:=h8 _ hx;have:=HXL.o;omega):p:=h
theorem LF{p:Prop}(h:p:=by injection e with e;exact .inr (by omega)):p:=h
theorem TE{p:Prop}(h:p:=by rcases k with k|k <;>exact HZ.o xq (by rw[k];decide) rfl):p:=h
theorem AX{p:Prop}(h:p:=by have:=kY.o.lt;omega):p:=h
theorem AV{p:Prop}(h:p:=by have:=kG.o.lt;omega):p:=h
theorem E9{p:Prop}(h:p:=by rw[hwd];exact RD.o _ Zv.o):p:=h
theorem Ty{p:Prop}(h:p:=by rcases hk with hk|hk <;>(show aB k≠0;rw[hk];decide)):p:=h
theorem ad6{p:Prop}(h:p:=by injection e with e;exact .inr (by have:=zw.o;omega)):p:=h
theorem Ln{p:Prop}(h:p:=by rw[←iz];exact iK.o.size):p:=h
section
namespace En
def adK(l:List Rp)(R:World→Prop)(w:World)(e mb:Nat)(W:World)(en:Ending)(W':World): Prop:=
 (∃ A c,en= .returned (.slice A l.length c)∧Si W' A l)∧R W'∧(∃ T:Nat→Prop,aI T W W'∧∀ k,T k→k<w.heap.size)∧W'.cell? ⟨e,6,none⟩=some (.map (some mb))∧ju W' mb (jC e)
inductive ak0 (w:World) (e:Nat) (b:By) (up:Bool) (mp:Value) (l:List Rp) (R:World→Prop):Prop where
 | bad (h:(bL b).2≠0) (hl:l= [⟨0,0,200,0,0,0,0⟩]) (hR: ∀ W,Below w.heap.size w W→R W)
 | idle (h:(bL b).2=0) (hu:up=false) (hl:l= [⟨(bL b).1.tag,(bL b).1.ay,230,0,0,0,0⟩]) (hR: ∀ W,Below w.heap.size w W→R W)
 | does (h:(bL b).2=0) (hu:up=true) (mb f:Nat) (hm:mp= .map (some mb)) (hM:ju w mb (jC e)) (hf:Mf (jC e) (bL b).1.ay=some (.func (.func f) #[.pointer (some ⟨e,0,none⟩)] #[]))
  (hC: ∀ W,Below w.heap.size w W→Calls af f #[.pointer (some ⟨e,0,none⟩),.agg (cZ (bL b).1)] W (adK l R w e mb W))
theorem Qy: (af.info? 34).map (fun i=>(i.zero,i.size,i.bytes))=some (some (.slice none 0 0),1,24):=br
theorem LZ(b:By)(h:(bL b).2=0): 1≤(bL b).1.ay∧(bL b).1.ay≤10:=by
 unfold bL at h ⊢;split at h
 ·rename_i h1;rw[if_pos h1];have h2:(kr b).1.ay=(Oe b).1.ay:=by unfold kr;rw[yO]
  show 1≤(kr b).1.ay∧(kr b).1.ay≤10
  rw[h2];have:=h1.1;simpa[jr] using this
 exact absurd h aN
theorem aaE{e f:Nat}{k:Int}(hk:1≤k∧k≤10)(h:Mf (jC e) k=some (.func (.func f) #[.pointer (some ⟨e,0,none⟩)] #[])): f=101∨f=99∨f=100∨f=98:=by
 have Hz:k=1∨k=2∨k=3∨k=4∨k=5∨k=6∨k=7∨k=8∨k=9∨k=10:=aj;rcases Hz with rfl|rfl|rfl|rfl|rfl|rfl|rfl|rfl|rfl|rfl <;>simp[Mf,jC] at h <;>simp[←h]
theorem YG{w:World}{e:Nat}{up:Bool}{lg sl bk:Option Addr}{wt mp:Value}(hE:ik w e up lg sl bk wt mp)(b:By)(A:Option Addr)(c:Nat)(hB:Bs w A b)(hA:rh A)(hl:b.length≤70368744177664)(l:List Rp)(R:World→Prop)
  (hR: ∀ W W',R W→Below W.heap.size W W'→R W') (hT: ∀ W,R W→fk W) (hs: ∀ W,R W→w.heap.size≤W.heap.size) (fq: ∀ r∈l,yo r (zk r.ay r.err)) (Mr:l.length≤1000) (hW:ak0 w e b up mp l R) :
  Calls af 12 #[.pointer (some ⟨e,0,none⟩),.slice A b.length c] w (Nr (l.map cJ) R w):=by
 have x0:w.cell? ⟨e,0,none⟩=some (.bool true):=hE.cell 0;have HG:=aa (Xw b A c w hB hA hl);have HE:=aa hE;have HR:=aa hR;have HT:=aa hT;have HS:=aa hs;have ur:=aa fq;have HW:=aa hW;clear hE hB hA hl hR hT hs fq hW;go_enter Tryz.func12,Tryz.ntmps12;go_wp2_with fail;refine HG.o.mono ?_;rintro en w1 ⟨rfl,hb1⟩;have bz:=aa hb1;clear hb1 x0;obtain⟨xq,iO⟩:=ae w1.heap.size;obtain⟨w2,hw2⟩:=ae (w1.alloc (.cells #[.int .i64 0,.int .u32 0,.int .u32 0,.int .i64 0,.int .i64 0] 41));have iZ:=aa (aK hw2 iO);have cu:=aa (aL hw2);have vx:=aa iO;go_upto_block 0 with(refine ah rfl 41 _ _ rfl xq 41 _ (cZ (bL b).1) iZ.o rfl rfl rfl aH Li ?_;intro w3 dD hg3 hs3;have dV:=aa (av bz.o (show Below w1.heap.size w1 w3 from bn cu.o hg3 (pn vx.o)));have jx:=aa dD;clear dD hg3 hs3)
 have Ks:=aa (show ik w3 e up lg sl bk wt mp from aG.ai HE.o dV.o);have HXL:=aa (show w.heap.size≤xq by have:=bz.o.size;have:=vx.o;omega);clear HE HG iZ bz cu vx iO hw2;go_cut [7] from 27 to 48 (fun s7 wc=>∃ A' c',s7= .slice A' l.length c'∧Si wc A' l∧R wc)
 case first=>
  rcases HW.o with⟨h1,h2,h3⟩|⟨h1,h2,h3,h4⟩|⟨h1,h2,mb,f,hm,hM,hf,hC⟩
  ·have Sg:((bL b).2==0)=false:=beq_eq_false_iff_ne.2 h1;go_wp2_with fail;refine(lz Rq.zero 200 w3).mono ?_;rintro en w4 ⟨A',c',rfl,h5,h6⟩;have HH:=aa (show ∃ A'' c'',ji A' 1 c'= .slice A'' l.length c''∧Si w4 A'' l∧R w4 from by subst h2;exact⟨A',c',rfl,h5,h3 _ (av dV.o h6)⟩);clear h1 h2 h3 h5 h6 Sg;go_wp2_with fail;go_meet;exact HH.o
  ·subst h2;have e1:w3.cell? ⟨e,1,none⟩=some (.bool false):=Ks.o.cell 1;have Sf:((bL b).2==0)=true:=AJ;have Zd:((bL b).2 != 0)=false:=AJ;clear h1;go_wp2_with (refine aC rfl 41 (.tmp 5) rfl xq 41 _ jx.o rfl _ cA rfl aH ?_);refine(lz (bL b).1 230 w3).mono ?_;rintro en w4 ⟨A',c',rfl,h5,h6⟩;have HH:=aa (show ∃ A'' c'',ji A' 1 c'= .slice A'' l.length c''∧Si w4 A'' l∧R w4 from by subst h3;exact⟨A',c',rfl,h5,h4 _ (av dV.o h6)⟩);clear Sf Zd h3 h4 h5 h6 e1;go_wp2_with fail;go_meet;exact HH.o
  subst h2;subst hm;have e1:w3.cell? ⟨e,1,none⟩=some (.bool true):=Ks.o.cell 1;have HM:=aa hM;have HC:=aa hC;have HF:=aa hf;have HK:=aa (LZ b h1);have Sf:((bL b).2==0)=true:=AJ;have Zd:((bL b).2 != 0)=false:=AJ;clear hM hC hf h1;rcases aaE HK.o HF.o with rfl|rfl|rfl|rfl
  ·go_upto_region 5 with fail
   clear e1 Sf Zd;obtain⟨wd,hwd⟩:=ae w3.drew;have Zv:=aa (show Below w3.heap.size w3 wd from mS);have RD:=aa (show ∀ W,Below w3.heap.size w3 W→W.cell? ⟨e,6,none⟩=some (.map (some mb))∧W.cell? ⟨xq,0,none⟩=some (.int .i64 (bL b).1.ay)∧W.rangeAt xq 0 (cZ (bL b).1).toList∧ju W mb (jC e)from fun W hW=>⟨(Ks.o.ai hW).cell 6,(jx.o.ai hW).cell 0,fun j u hj=>NT,(HM.o.ai dV.o).ai hW⟩);refine wp_region_held_drew (S:=fun w'=>w'.cell? ⟨e,6,none⟩=some (.map (some mb))∧w'.cell? ⟨xq,0,none⟩=some (.int .i64 (bL b).1.ay)∧w'.rangeAt xq 0 (cZ (bL b).1).toList∧ju w' mb (jC e)) br E9 (fun hHeld=>?_);rw[hwd] at hHeld ⊢;refine cS 0 (some 27) hHeld ?_;refine cS 1 (some 28) hHeld ?_;refine cS 2 (some 29) hHeld ?_;refine cS 3 (some 30) hHeld ?_;refine cS 4 (some 31) hHeld ?_;refine ty 5 ?_;refine pJ (i:=6) (oi:=?o61) (d:=some 33) (v:=.func (.func 101) #[.pointer (some ⟨e,0,none⟩)] #[]) ?akA br br br (fun _ _ _ h=>h) ?akI ?aj9 ?aj5 hHeld ?_
   case akA=>(simp only[nO];exact rfl)
   case akI=>rfl
   case aj9=>rfl
   case aj5=>
    exact OH
   exact OI
  ·go_upto_region 5 with fail
   clear e1 Sf Zd;obtain⟨wd,hwd⟩:=ae w3.drew;have Zv:=aa (show Below w3.heap.size w3 wd from mS);have RD:=aa (show ∀ W,Below w3.heap.size w3 W→W.cell? ⟨e,6,none⟩=some (.map (some mb))∧W.cell? ⟨xq,0,none⟩=some (.int .i64 (bL b).1.ay)∧W.rangeAt xq 0 (cZ (bL b).1).toList∧ju W mb (jC e)from fun W hW=>⟨(Ks.o.ai hW).cell 6,(jx.o.ai hW).cell 0,fun j u hj=>NT,(HM.o.ai dV.o).ai hW⟩);refine wp_region_held_drew (S:=fun w'=>w'.cell? ⟨e,6,none⟩=some (.map (some mb))∧w'.cell? ⟨xq,0,none⟩=some (.int .i64 (bL b).1.ay)∧w'.rangeAt xq 0 (cZ (bL b).1).toList∧ju w' mb (jC e)) br E9 (fun hHeld=>?_);rw[hwd] at hHeld ⊢;refine cS 0 (some 27) hHeld ?_;refine cS 1 (some 28) hHeld ?_;refine cS 2 (some 29) hHeld ?_;refine cS 3 (some 30) hHeld ?_;refine cS 4 (some 31) hHeld ?_;refine ty 5 ?_;refine pJ (i:=6) (oi:=?o62) (d:=some 33) (v:=.func (.func 99) #[.pointer (some ⟨e,0,none⟩)] #[]) ?akz br br br (fun _ _ _ h=>h) ?akH ?aj8 ?aj4 hHeld ?_
   case akz=>(simp only[nO];exact rfl)
   case akH=>rfl
   case aj8=>rfl
   case aj4=>
    exact OH
   exact OI
  ·go_upto_region 5 with fail
   clear e1 Sf Zd;obtain⟨wd,hwd⟩:=ae w3.drew;have Zv:=aa (show Below w3.heap.size w3 wd from mS);have RD:=aa (show ∀ W,Below w3.heap.size w3 W→W.cell? ⟨e,6,none⟩=some (.map (some mb))∧W.cell? ⟨xq,0,none⟩=some (.int .i64 (bL b).1.ay)∧W.rangeAt xq 0 (cZ (bL b).1).toList∧ju W mb (jC e)from fun W hW=>⟨(Ks.o.ai hW).cell 6,(jx.o.ai hW).cell 0,fun j u hj=>NT,(HM.o.ai dV.o).ai hW⟩);refine wp_region_held_drew (S:=fun w'=>w'.cell? ⟨e,6,none⟩=some (.map (some mb))∧w'.cell? ⟨xq,0,none⟩=some (.int .i64 (bL b).1.ay)∧w'.rangeAt xq 0 (cZ (bL b).1).toList∧ju w' mb (jC e)) br E9 (fun hHeld=>?_);rw[hwd] at hHeld ⊢;refine cS 0 (some 27) hHeld ?_;refine cS 1 (some 28) hHeld ?_;refine cS 2 (some 29) hHeld ?_;refine cS 3 (some 30) hHeld ?_;refine cS 4 (some 31) hHeld ?_;refine ty 5 ?_;refine pJ (i:=6) (oi:=?o63) (d:=some 33) (v:=.func (.func 100) #[.pointer (some ⟨e,0,none⟩)] #[]) ?aky br br br (fun _ _ _ h=>h) ?akG ?aj7 ?aj3 hHeld ?_
   case aky=>(simp only[nO];exact rfl)
   case akG=>rfl
   case aj7=>rfl
   case aj3=>
    exact OH
   exact OI
  go_upto_region 5 with fail
  clear e1 Sf Zd;obtain⟨wd,hwd⟩:=ae w3.drew;have Zv:=aa (show Below w3.heap.size w3 wd from mS);have RD:=aa (show ∀ W,Below w3.heap.size w3 W→W.cell? ⟨e,6,none⟩=some (.map (some mb))∧W.cell? ⟨xq,0,none⟩=some (.int .i64 (bL b).1.ay)∧W.rangeAt xq 0 (cZ (bL b).1).toList∧ju W mb (jC e)from fun W hW=>⟨(Ks.o.ai hW).cell 6,(jx.o.ai hW).cell 0,fun j u hj=>NT,(HM.o.ai dV.o).ai hW⟩);refine wp_region_held_drew (S:=fun w'=>w'.cell? ⟨e,6,none⟩=some (.map (some mb))∧w'.cell? ⟨xq,0,none⟩=some (.int .i64 (bL b).1.ay)∧w'.rangeAt xq 0 (cZ (bL b).1).toList∧ju w' mb (jC e)) br E9 (fun hHeld=>?_);rw[hwd] at hHeld ⊢;refine cS 0 (some 27) hHeld ?_;refine cS 1 (some 28) hHeld ?_;refine cS 2 (some 29) hHeld ?_;refine cS 3 (some 30) hHeld ?_;refine cS 4 (some 31) hHeld ?_;refine ty 5 ?_;refine pJ (i:=6) (oi:=?o64) (d:=some 33) (v:=.func (.func 98) #[.pointer (some ⟨e,0,none⟩)] #[]) ?akx br br br (fun _ _ _ h=>h) ?akF ?aj6 ?aj2 hHeld ?_
  case akx=>(simp only[nO];exact rfl)
  case akF=>rfl
  case aj6=>rfl
  case aj2=>
   exact OH
  exact OI
 case rest=>
  obtain⟨Ar,cr,rfl,hr,hRc⟩:=hcut;obtain⟨j0,hj,hz0,hz1,hz2⟩:=info_parts Qy;have HRc:=aa hRc;have HZc:=aa (HS.o wc hRc);have ali:=aa hr;clear hRc HW hr;go_wp2_with fail;go_loopw [8,51] (fun v8 i wr=>∃ (j:Nat) (G C:Nat→Nat),j≤l.length∧i= .int .i64 j∧kD wc.heap.size wr v8 ((l.take j).map cJ) G C∧Below wc.heap.size wc wr) (fun _ i _=>(l.length - intOf i).toNat)
  case atStart=>exact⟨0,fun _=>0,fun _=>0,Nat.zero_le _,rfl,kD.nil _ _,au _ _⟩
  case round=>
   obtain⟨j,G,C,Wf,rfl,hO,hbr⟩:=hrel;have hr:=ali.o.ai hbr;have hRr:=HR.o _ _ HRc.o hbr;by_cases h2:j<l.length
   ·have Yu:=aa hbr;obtain⟨g,off,rfl,sw,hcell⟩:=hr (fun h0=>by rw[h0] at h2;simp at h2);have Q8:(j:Int)<l.length:=aj;obtain⟨r,QY⟩:=ae (l[j]);have HCE:=aa (hcell j h2);have HRK:=aa (ur.o r (by rw[←QY];exact List.getElem_mem h2));rw[QY] at HCE;have sO:=aa QY;have HO:=aa hO;have HRr:=aa hRr;have HJ:=aa h2;clear hcell hO hRr hbr sw QY hr;obtain⟨xb,zm⟩:=ae wr.heap.size;obtain⟨w4,hw4⟩:=ae (wr.alloc (.cells #[.int .u32 0,.int .i64 0,.int .i64 0,.int .u32 0,.int .i64 0,.int .i64 0,.int .i64 0] 108));have pA:=aa (aK hw4 zm);have gH:=aa (aL hw4);have qK:=aa zm;go_wp2_with (first|(refine wpList_load_mid rfl 108 (.tmp 53) rfl g (off+j*7) rfl (iW r).toList _ HCE.o dJ rfl aR ?_)|(refine ah rfl 108 (.tmp 10) _ rfl xb 108 _ (iW r) pA.o rfl rfl rfl aR pH ?_;intro w5 fX ft hs5;have eA:=aa (show Below wr.heap.size wr w5 from bn gH.o ft (pn qK.o));have ou:=aa fX;clear fX ft hs5)|(refine aC rfl 108 (.tmp 10) rfl xb 108 _ ou.o rfl _ dJ rfl aR ?_));refine(XA r w5 (HT.o _ (HR.o _ _ HRr.o eA.o)) HRK.o).mono ?_;rintro en w6 ⟨A2,c2,rfl,hG2,hc2,mY⟩;obtain⟨g2,rfl,hg2,ahQ⟩:=hG2 (fun h0=>by have:=(yP r).1;rw[h0] at this;simp at this);have ij:=eA.dP mY;have yq:=aa (show wr.heap.size≤g2∧mG w6 g2 (cJ r) c2∧(cJ r).length≤c2 from⟨by have:=eA.o.size;omega,ahQ,hc2⟩);have HLJ:=aa (show((l.take j).map cJ).length=j by have:=HJ.o;simp;omega);have HO6:=aa (HO.o.ai (ax ij.o (.cells #[.slice (some ⟨g2,0,none⟩) (cJ r).length c2] 34)));clear hG2 hc2 hg2 ahQ mY;go_wp2_with (refine gN _ rfl (.tmp 60) (.tmp 62) 33 rfl 34 j0 (.slice none 0 0) 1 24 Tryz.underlying33 hj hz0 hz1 hz2 rfl aN u8 ((l.take j).map cJ).length _ rfl HO6.o.row ⟨w6.heap.size,0,none⟩ 1 [.slice (some ⟨g2,0,none⟩) (cJ r).length c2] rfl rfl (iN w6 _ _) Fg (by have:=HLJ.o;unfold maxLen;omega) (by have:=HLJ.o;omega) ?_;intro ga ca w8 hr8 Wj;have HN8:=aa (show aM _ w8 _ _ _ _ _∧(w6.alloc (.cells #[.slice (some ⟨g2,0,none⟩) (cJ r).length c2] 34)).grownBy w8 u8.ownBlock from⟨hr8,Wj⟩);clear hr8 Wj);go_roundw
    case rel=>
     have sy:=ax ij.o (.cells #[.slice (some ⟨g2,0,none⟩) (cJ r).length c2] 34);have ho8:=HO.o.snoc (x:=cJ r) (g2:=g2) (c2:=c2) (ga:=ga) (ca:=ca) sy (yq.o.2.1.same (Below.heap_alloc w6 _ _ yq.o.2.1.lt)) yq.o.1 Yu.o.size yq.o.2.2 HN8.o.1 HN8.o.2;have hl8:(l.take (j+1)).map cJ=(l.take j).map cJ++ [cJ r]:=by rw[List.take_add_one,bY HJ.o,sO.o];simp
     rw[←hl8,HLJ.o] at ho8;exact⟨j+1,_,_,HJ.o,by go_num,ho8,(av Yu.o sy).grown HN8.o.2 (av Yu.o sy).size (fun k e=>HO.o.new k e)⟩
    case measure=>simp[intOf];omega
   obtain rfl:j=l.length:=aj;rw[List.take_length] at hO;have HF:=aa (show Nr (l.map cJ) R w (.returned u8) wr from⟨u8,G,C,wc,rfl,hO,HZc.o,HRc.o,hbr⟩);clear hO hr hRr hbr;go_wp2_with fail;go_ret;exact HF.o
end En
end
section
namespace En
structure sQ where
 lq:Nat
 rl:Nat
 sl:Nat
 ra:Nat
 rb:Nat
 p:Nat
 bk:Nat
 mb:Nat
def Rp.none: Rp:=⟨0,0,0,0,0,0,0⟩
def oY(l:List Rp)(i:Nat): List Value:=(iW (l.getD i Rp.none)).toList
theorem zJ(l:List Rp)(i:Nat): (oY l i).length=7:=rfl
theorem IY(l:List Rp)(x:Rp): cH (oY l) l.length (iW x).toList=oY (l++ [x]):=by
 funext i;unfold cH oY;by_cases h:i=l.length
 ·subst h;simp
 rw[if_neg h];simp only[bN];rcases Nat.lt_or_ge i l.length with h1|h1
 ·rw[List.getElem?_append_left h1]
 rw[gW h1,gW fV]
theorem iJ{S T:Nat→Prop}{w w':World}{b:Nat}{bk:dK}(h:fK S w b bk)(ht:aI T w w')(hd: ∀ k,S k→¬T k): fK S w' b bk:=by
 obtain⟨x,hx⟩:=h;exact⟨x,⟨hx.bf.same ht.size fun k hk hl=>ht.block k hl (hd k hk),hx.bits,hx.cQ,hx.under,hx.listed,hx.small,hx.qy⟩⟩
structure dg(aB:Nat→Nat)(w:World)(e:Nat)(q:sQ)(es:Es): Prop where
 does:ju w q.mb (jC e)
 log:uX q.lq q.rl q.p es.log es.rg es.dev.dk.size (fun k=>aB k=1) w
 dev:dF q.p es.dev (fun k=>aB k=2) w
 book:fK (fun k=>aB k=3) w q.bk es.bk
 slots:qH w q.sl q.ra q.rb q.p es.sl es.dev.dk.size
 r5:aB e=5
 r6:aB q.mb=6
 r7:aB q.sl=7∧aB q.ra=7∧aB q.rb=7
 lt: ∀ k,aB k≠0→k<w.heap.size
 ic:cj w
 rep:fk w
 kT:aB 1=0∧aB 0=0
structure bC(aB:Nat→Nat)(w:World)(e:Nat)(q:sQ)(wt:Value)(es:Es): Prop where
 rest:dg aB w e q es
 own:ik w e es.up (some ⟨q.lq,0,none⟩) (some ⟨q.sl,0,none⟩) (some ⟨q.bk,0,none⟩) wt (.map (some q.mb))
 aF:aM (fun k=>aB k=4) w 108 7 wt es.aF.length (oY es.aF)
def grow(aB:Nat→Nat)(w w':World)(r:Nat): Nat→Nat:=fun k=>if k<w.heap.size then aB k else if k<w'.heap.size then r else 0
section
variable {aB:Nat→Nat}{w w':World}{e:Nat}{q:sQ}{wt:Value}{es:Es}
variable{r:Nat}
theorem yc(hlt: ∀ k,aB k≠0→k<w.heap.size)(hz:w.heap.size≤w'.heap.size)(hr:r≠0): (fun k=>grow aB w w' r k=r)=Gr (fun k=>aB k=r) w w':=by
 funext k;unfold grow Gr;apply propext;by_cases h1:k<w.heap.size
 ·rw[if_pos h1];constructor
  ·exact fun h=>.inl h
  rintro(h|h);exact h;omega
 rw[if_neg h1];by_cases h2:k<w'.heap.size
 ·rw[if_pos h2];exact⟨fun _=>.inr ⟨aj,h2⟩,fun _=>rfl⟩
 rw[if_neg h2];constructor
 ·exact fun h=>absurd h.symm hr
 rintro(h|h)
 ·exact absurd (hlt k (by rw[h];exact hr)) h1
 omega
theorem gR{s:Nat} (hlt: ∀ k,aB k≠0→k<w.heap.size)(hs:s≠0)(hrs:s≠r): (fun k=>grow aB w w' r k=s)=(fun k=>aB k=s):=by
 funext k;unfold grow;apply propext;by_cases h1:k<w.heap.size
 ·rw[if_pos h1]
 rw[if_neg h1];have h0: ¬aB k=s:=fun h=>h1 (hlt k (by rw[h];exact hs))
 by_cases h2:k<w'.heap.size
 ·rw[if_pos h2];exact⟨fun h=>absurd h.symm hrs,fun h=>absurd h h0⟩
 rw[if_neg h2];exact⟨fun h=>absurd h.symm hs,fun h=>absurd h h0⟩
theorem dG{k:Nat} (h:k<w.heap.size): grow aB w w' r k=aB k:=if_pos h
theorem zT(hlt: ∀ k,aB k≠0→k<w.heap.size)(hz:w.heap.size≤w'.heap.size): ∀ k,grow aB w w' r k≠0→k<w'.heap.size:=fun k hk=>by
 unfold grow at hk;by_cases h1:k<w.heap.size
 ·omega
 rw[if_neg h1] at hk;by_cases h2:k<w'.heap.size
 ·exact h2
 rw[if_neg h2] at hk;exact absurd rfl hk
theorem iP: ∀ k,grow aB w w' r k≠0→aB k≠0∨w.heap.size≤k:=fun k hk=>by
 unfold grow at hk;by_cases h1:k<w.heap.size
 ·rw[if_pos h1] at hk;exact .inl hk
 exact .inr aj
theorem dg.ak(h:dg aB w e q es)(hb:Below w.heap.size w w'): dg aB w' e q es:=
 ⟨h.does.ai hb,(cE ..).ak h.log hb,(aD ..).ak h.dev hb,by obtain⟨x,hx⟩:=h.book;exact⟨x,hx.ak hb⟩,h.slots.ai hb,h.r5,h.r6,h.r7,fun k hk=>aW (h.lt k hk) hb.size,h.ic.ai hb,h.rep.ai hb,h.kT⟩
theorem bC.ak(h:bC aB w e q wt es)(hb:Below w.heap.size w w'): bC aB w' e q wt es:=⟨h.rest.ak hb,aG.ai h.own hb,h.aF.ai hb⟩
theorem dg.cO(h:dg aB w e q es)(ht:aI (fun k=>aB k=4∨aB k=5) w w'): dg aB w' e q es:=by
 have no: ∀ {k r:Nat},aB k=r→r≠4→r≠5→¬(aB k=4∨aB k=5):=fun h a b c=>by
  rcases c with c|c
  ·exact a (h.symm.trans c)
  exact b (h.symm.trans c)
 refine⟨?_,(cE ..).cO h.log ht (fun k hk=>no hk aN aN),(aD ..).cO h.dev ht (fun k hk=>no hk aN aN),?_,h.slots.cO ht (no h.r7.1 aN aN) (no h.r7.2.1 aN aN) (no h.r7.2.2 aN aN),h.r5,h.r6,h.r7,fun k hk=>aW (h.lt k hk) ht.size,
  h.ic.cO ht (no h.kT.1 aN aN),h.rep.cO ht (no h.kT.2 aN aN),h.kT⟩
 ·exact h.does.same (ht.block _ h.does.lt (no h.r6 aN aN))
 exact iJ h.book ht (fun k hk=>no hk aN aN)
theorem dg.flush(h:dg aB w e q es){l:Lg}{d:bK}(hz:d.dk.size=es.dev.dk.size)(hl:uX q.lq q.rl q.p l es.rg es.dev.dk.size (fun k=>aB k=1) w')(hd:dF q.p d (Gr (fun k=>aB k=2) w w') w')(ht:aI (fun k=>aB k=1∨aB k=2) w w'):
  dg (grow aB w w' 2) w' e q {es with log:=l,dev:=d}:=by
 have no: ∀ {k r:Nat},aB k=r→r≠1→r≠2→¬(aB k=1∨aB k=2):=fun h a b c=>by
  rcases c with c|c
  ·exact a (h.symm.trans c)
  exact b (h.symm.trans c)
 have e1:=gR (w':=w') (r:=2) (s:=1) h.lt aN aN;have e2:=yc (w':=w') (r:=2) h.lt ht.size aN;have e3:=gR (w':=w') (r:=2) (s:=3) h.lt aN aN;have o: ∀ {k r:Nat},aB k=r→r≠0→grow aB w w' 2 k=r:=fun hk hr=>(dG (h.lt _ (by rw[hk];exact hr))).trans hk
 refine⟨?_,?_,?_,?_,?_,o h.r5 aN,o h.r6 aN,⟨o h.r7.1 aN,o h.r7.2.1 aN,o h.r7.2.2 aN⟩,zT h.lt ht.size,h.ic.cO ht (no h.kT.1 aN aN),h.rep.cO ht (no h.kT.2 aN aN),⟨(dG h.ic.lt).trans h.kT.1,(dG h.rep.lt).trans h.kT.2⟩⟩
 ·exact h.does.same (ht.block _ h.does.lt (no h.r6 aN aN))
 ·show uX q.lq q.rl q.p l es.rg d.dk.size _ w'
  rw[e1,hz];exact hl
 ·show dF q.p d _ w'
  rw[e2];exact hd
 ·rw[e3];exact iJ h.book ht (fun k hk=>no hk aN aN)
 ·show qH w' q.sl q.ra q.rb q.p es.sl d.dk.size
  rw[hz];exact h.slots.cO ht (no h.r7.1 aN aN) (no h.r7.2.1 aN aN) (no h.r7.2.2 aN aN)
theorem dg.append(h:dg aB w e q es){l:Lg}(hl:uX q.lq q.rl q.p l es.rg es.dev.dk.size (Gr (fun k=>aB k=1) w w') w')(ht:aI (fun k=>aB k=1) w w'): dg (grow aB w w' 1) w' e q {es with log:=l}:=by
 have no: ∀ {k r:Nat},aB k=r→r≠1→¬(aB k=1):=fun h a c=>a (h.symm.trans c)
 have e1:=yc (w':=w') (r:=1) h.lt ht.size aN;have e2:=gR (w':=w') (r:=1) (s:=2) h.lt aN aN;have e3:=gR (w':=w') (r:=1) (s:=3) h.lt aN aN;have o: ∀ {k r:Nat},aB k=r→r≠0→grow aB w w' 1 k=r:=fun hk hr=>(dG (h.lt _ (by rw[hk];exact hr))).trans hk
 refine⟨?_,?_,?_,?_,?_,o h.r5 aN,o h.r6 aN,⟨o h.r7.1 aN,o h.r7.2.1 aN,o h.r7.2.2 aN⟩,zT h.lt ht.size,h.ic.cO ht (no h.kT.1 aN),h.rep.cO ht (no h.kT.2 aN),⟨(dG h.ic.lt).trans h.kT.1,(dG h.rep.lt).trans h.kT.2⟩⟩
 ·exact h.does.same (ht.block _ h.does.lt (no h.r6 aN))
 ·show uX q.lq q.rl q.p l es.rg es.dev.dk.size _ w'
  rw[e1];exact hl
 ·rw[e2];exact(aD ..).cO h.dev ht (fun k hk=>no hk aN)
 ·rw[e3];exact iJ h.book ht (fun k hk=>no hk aN)
 exact h.slots.cO ht (no h.r7.1 aN) (no h.r7.2.1 aN) (no h.r7.2.2 aN)
theorem dg.apply(h:dg aB w e q es){b:dK}(hb:fK (Gr (fun k=>aB k=3) w w') w' q.bk b)(ht:aI (fun k=>aB k=3) w w'): dg (grow aB w w' 3) w' e q {es with bk:=b}:=by
 have no: ∀ {k r:Nat},aB k=r→r≠3→¬(aB k=3):=fun h a c=>a (h.symm.trans c)
 have e1:=gR (w':=w') (r:=3) (s:=1) h.lt aN aN;have e2:=gR (w':=w') (r:=3) (s:=2) h.lt aN aN;have e3:=yc (w':=w') (r:=3) h.lt ht.size aN;have o: ∀ {k r:Nat},aB k=r→r≠0→grow aB w w' 3 k=r:=fun hk hr=>(dG (h.lt _ (by rw[hk];exact hr))).trans hk
 refine⟨?_,?_,?_,?_,?_,o h.r5 aN,o h.r6 aN,⟨o h.r7.1 aN,o h.r7.2.1 aN,o h.r7.2.2 aN⟩,zT h.lt ht.size,h.ic.cO ht (no h.kT.1 aN),h.rep.cO ht (no h.kT.2 aN),⟨(dG h.ic.lt).trans h.kT.1,(dG h.rep.lt).trans h.kT.2⟩⟩
 ·exact h.does.same (ht.block _ h.does.lt (no h.r6 aN))
 ·rw[e1];exact(cE ..).cO h.log ht (fun k hk=>no hk aN)
 ·rw[e2];exact(aD ..).cO h.dev ht (fun k hk=>no hk aN)
 ·rw[e3];exact hb
 exact h.slots.cO ht (no h.r7.1 aN) (no h.r7.2.1 aN) (no h.r7.2.2 aN)
theorem dg.asked(h:dg aB w e q es)(hb:fK (fun k=>aB k=3) w' q.bk es.bk)(ht:aI (fun k=>aB k=3) w w'): dg aB w' e q es:=by
 have no: ∀ {k r:Nat},aB k=r→r≠3→¬(aB k=3):=fun h a c=>a (h.symm.trans c)
 refine⟨?_,(cE ..).cO h.log ht (fun k hk=>no hk aN),(aD ..).cO h.dev ht (fun k hk=>no hk aN),hb,h.slots.cO ht (no h.r7.1 aN) (no h.r7.2.1 aN) (no h.r7.2.2 aN),h.r5,h.r6,h.r7,fun k hk=>aW (h.lt k hk) ht.size,h.ic.cO ht (no h.kT.1 aN),h.rep.cO ht (no h.kT.2 aN),h.kT⟩;exact h.does.same (ht.block _ h.does.lt (no h.r6 aN))
theorem dg.save(h:dg aB w e q es){d:bK}(hz:d.dk.size=es.dev.dk.size)(hd:dF q.p d (Gr (fun k=>aB k=2) w w') w')(ht:aI (fun k=>aB k=2) w w'): dg (grow aB w w' 2) w' e q {es with dev:=d}:=
 h.flush (l:=es.log) hz ((cE ..).cO h.log ht (fun k hk c=>by rw[hk] at c;exact absurd c aN)) hd (ht.mono fun k _ hk=>.inr hk)
theorem dg.reset(h:dg aB w e q es){l:Lg}(hl:uX q.lq q.rl q.p l es.rg es.dev.dk.size (fun k=>aB k=1) w')(ht:aI (· =q.lq) w w'): dg aB w' e q {es with log:=l}:=by
 obtain⟨v,hv⟩:=h.log;have hq:aB q.lq=1:=hv.bA.1;have no: ∀ {k r:Nat},aB k=r→r≠1→¬(k=q.lq):=fun h a c=>by rw[c,hq] at h;exact a h.symm
 refine⟨?_,hl,(aD ..).cO h.dev ht (fun k hk=>no hk aN),?_,h.slots.cO ht (no h.r7.1 aN) (no h.r7.2.1 aN) (no h.r7.2.2 aN),h.r5,h.r6,h.r7,fun k hk=>aW (h.lt k hk) ht.size,h.ic.cO ht (no h.kT.1 aN),h.rep.cO ht (no h.kT.2 aN),h.kT⟩
 ·exact h.does.same (ht.block _ h.does.lt (no h.r6 aN))
 exact iJ h.book ht (fun k hk=>no hk aN)
theorem bC.keeps{eL:Nat→Nat}{es':Es}{T:Nat→Prop}(h:bC aB w e q wt es)(hr:dg eL w' e q es')(hu:es'.up=es.up)(hw:es'.aF=es.aF)(ht:aI T w w')(hT: ∀ k,T k→aB k≠4∧aB k≠5)(h4: ∀ k,aB k=4→eL k=4): bC eL w' e q wt es':=by
 refine⟨hr,?_,?_⟩
 ·rw[hu];exact ht.arr h.own (fun c=>(hT e c).2 h.rest.r5)
 rw[hw];exact(h.aF.same fun k hk hl=>ht.block k hl (fun c=>(hT k c).1 hk)).mono fun k hk _=>h4 k hk
theorem nA(hlt: ∀ k,aB k≠0→k<w.heap.size): ∀ k,aB k=4→grow aB w w' r k=4:=fun k hk=>(dG (hlt k (by rw[hk];decide))).trans hk
end
end En
end
section
namespace Bk
open En (Rp)
def Iz(o:Option bS): bS:=o.getD ⟨0,0,0⟩
theorem Iy(o:Option bS)(er:Int): pD o er= .tuple #[.agg #[.int .u32 (Iz o).id,.int .i64 ((Iz o).aw:Int),.int .i64 (Iz o).aS],.int .i64 (if o.isSome then 0 else er)]:=by cases o <;>rfl
def KD(S:Nat→Prop)(b:Nat)(bk:dK)(q:Rq)(w:World)(e:Ending)(w':World): Prop:=e= .returned (.tuple #[.agg (iW (dZ bk q)),.int .i64 0])∧fK S w' b bk∧aI S w w'
theorem KC(S:Nat→Prop)(w:World)(b:Nat)(bk:dK)(q:Rq)(h:fK S w b bk)(hb:bk.Ok)(hq:q.Good)(Dl:zv q)(hk:q.ay=5): Calls af 209 #[.pointer (some ⟨b,0,none⟩),.agg (cZ q)] w (KD S b bk q w):=by
 have iY:=aa (show ∀ k,S k→k<w.heap.size from Lv);have fC:=aa (show ∀ W,Below w.heap.size w W→fK S W b bk from fun W hW=>LB);have Pu:=aa (show ∀ W,Below w.heap.size w W→Calls af 38 #[.pointer (some ⟨b,0,none⟩)] W fun e w'=>e= .returned (.agg #[.int .i64 bk.n,.int .i64 bk.ar,.int .i64 bk.aA])∧Below W.heap.size W w' from fun W hW=>LJ);obtain⟨o,er,JH,JK⟩: ∃ (o:bS) (er:Int),(∀ W,fK S W b bk→Calls af 71 #[.pointer (some ⟨b,0,none⟩),.int .u32 q.id] W fun e w'=>e= .returned (.tuple #[.agg #[.int .u32 o.id,.int .i64 (o.aw:Int),.int .i64 o.aS],.int .i64 er])∧fK S w' b bk∧aI S W w')∧dZ bk q=⟨q.tag,5,er,0,o.aw,o.aS,0⟩:=by
  refine⟨Iz (bk.find q.id),if(bk.find q.id).isSome then 0 else 171,fun W hW=>?_,?_⟩
  ·have:=GF hW q.id hq.id;rw[Iy] at this;exact this
  unfold dZ;rw[if_pos hk];cases bk.find q.id with
  | none=>unfold En.bZ;rw[hk];rfl
  | some x=>simp only[hk];rfl
 have Ys:=aa JH;have RT:=aa JK;have jy:=aa Dl;have hnz:((bk.n:Int)==0)=false:=beq_eq_false_iff_ne.2 xA;have V1: ¬(bk.n:Int)=0:=xA;clear h hb hq Dl JH JK;obtain⟨xq,iO⟩:=ae w.heap.size;obtain⟨w1,aZ⟩:=ae (w.alloc (.cells (cZ q) 41));obtain⟨xr,mO⟩:=ae w1.heap.size;obtain⟨w2,hw2⟩:=ae (w1.alloc (.cells #[.int .u32 0,.int .i64 0,.int .i64 0,.int .u32 0,.int .i64 0,.int .i64 0,.int .i64 0] 108));have rI:=aa (show aG w2 xq 41 (cZ q) from NU);have kU:=aa (aK hw2 mO);have cu:=aa (show Below w.heap.size w w2 from IE);have pg:=aa (show w.heap.size≤xq∧xr=xq+1 from⟨aj,K6⟩);go_enter Tryz.func209,Tryz.ntmps209;go_wp2_with fail;clear aZ hw2 iO mO;refine(Pu.o _ cu.o).mono ?_;rintro e w3 ⟨rfl,hb3⟩;have jx:=rI.js hb3;have gM:=kU.js hb3;have dV:=cu.dP hb3;clear hb3 rI kU cu;go_wp2_with (refine aC rfl 41 (.tmp 3) rfl xq 41 _ jx.o rfl _ cA rfl aH ?_);refine(jT q w3 jy.o).mono ?_;rintro e w4 ⟨rfl,hb4⟩;have tQ:=jx.js hb4;have mj:=gM.js hb4;have gH:=dV.dP hb4;clear hb4 jx gM dV hnz V1;have c0:w4.cell? ⟨xq,0,none⟩=some (.int .i64 5):=by rw[←hk];exact tQ.o.cell 0
 have c1:w4.cell? ⟨xq,1,none⟩=some (.int .u32 q.tag):=tQ.o.cell 1;obtain⟨x6,YZ⟩:=ae w4.heap.size;obtain⟨w5,iX⟩:=ae (w4.alloc (.cells #[.int .u32 0,.int .i64 0,.int .i64 0,.int .u32 0,.int .i64 0,.int .i64 0,.int .i64 0] 108));have ou:=aa (aK iX YZ);have eA:=aa (aL iX);have EA:=aa YZ;go_upto_region 6 with(refine ah rfl 108 _ _ rfl x6 108 _ #[.int .u32 q.tag,.int .i64 5,.int .i64 0,.int .u32 0,.int .i64 0,.int .i64 0,.int .i64 0] ou.o rfl rfl rfl aR eB ?_;intro w6 yV kq VW;have ij:=aa (show Below w4.heap.size w4 w6 from bn eA.o kq (pn EA.o));have tC:=aa yV;clear yV kq VW)
 have HL6:=aa (show xr<x6 from by have:=mj.o.lt;have:=EA.o;omega);obtain⟨x7,hx7⟩:=ae w6.heap.size;obtain⟨w7,wQ⟩:=ae (w6.alloc (.cells #[.int .u32 0,.int .i64 0,.int .i64 0] 171));have sy:=aL wQ;have yt:=aa (tC.o.ai sy);have HK7:=aa (aK wQ hx7);have Yi:=aa (show x6<x7 from by have:=tC.o.lt;omega);have lI:=ij.dP sy;have RF:=mj.js lI.o;have zf:=tQ.js lI.o;have ie:=aa (av gH.o lI.o);have Nl:=aa (fC.o _ ie.o);have d0:w7.cell? ⟨xq,0,none⟩=some (.int .i64 5):=by rw[←hk];exact zf.o.cell 0
 have d2:w7.cell? ⟨xq,2,none⟩=some (.int .u32 q.id):=zf.o.cell 2;clear sy c0 c1 mj tQ ou eA EA tC ij lI gH;go_wp2_with fail;clear iX YZ wQ hx7;refine(Ys.o _ Nl.o).mono ?_;rintro e w8 ⟨rfl,mX,VT⟩;have oO:=aa (show ∀ k,w.heap.size≤k→¬S k from fun k hk hs=>by have:=iY.o k hs;omega);have hx:=pg.o;have R8:=HL6.o;have Y4:=Yi.o;have zE:=aa (VT.arr yt.o (oO.o _ aj));have HK8:=aa (VT.arr HK7.o (oO.o _ aj));have KS:=aa (VT.arr RF.o (oO.o _ aj));have py:=aa mX;have X9:=aa ((aI.aU (S:=S) ie.o).trans VT);clear mX VT d0 d2 hx R8 Y4 yt HK7 RF zf Nl ie;go_upto_region 11 with(refine ah rfl 171 _ _ rfl x7 171 _ #[.int .u32 o.id,.int .i64 (o.aw:Int),.int .i64 o.aS] HK8.o rfl rfl rfl eT eB ?_;intro w9 dE dC gJ;have HK9:=aa dE;have qd:=aa dC;have a92:w9.cell? ⟨x6,2,none⟩=some (.int .i64 0):=(zE.o.bw dC (fun e=>Fi)).cell 2;have m92:=(zE.o.bw dC (fun e=>Fi)).mark 2;clear dE dC gJ)
 have hx:=pg.o;have R8:=HL6.o;have Y4:=Yi.o;have pz:=aa (zE.o.bw qd.o (fun e=>lW));have Sm:=aa (KS.o.bw qd.o (fun e=>lW));have EB:=aa ((X9.o).grown qd.o (fun k e=>LF));have zD:=aa (nU py.o qd.o (fun k hk e=>oO.o k aj hk));obtain⟨wa,KF⟩:=ae (w9.setCell ⟨x6,2,none⟩ (.int .i64 er));have KX:=aa (show aG wa x6 108 #[.int .u32 q.tag,.int .i64 5,.int .i64 er,.int .u32 0,.int .i64 0,.int .i64 0,.int .i64 0] by rw[←KF];exact pz.o.put 2 _);have HRa:=aa (show aG wa xr 108 _ from TQ);have HKa:=aa (show aG wa x7 171 _ from TP);have HTa:=aa (show aI S w wa from T7);have Nk:=aa (show fK S wa b bk from Ub);rw[KF];clear KF hx R8 Y4 a92 m92 zE HK8 KS py X9 pz Sm EB zD HK9 qd;have k1:=HKa.o.cl 1;have k2:=HKa.o.cl 2;have V5:x7≠x6:=by have:=Yi.o;omega
 have f2:(wa.setCell ⟨x6,4,none⟩ (.int .i64 (o.aw:Int))).cell? ⟨x7,2,none⟩=some (.int .i64 o.aS):=(HKa.o.other (p:=⟨x6,4,none⟩) V5 _).cell 2;have f1:(wa.setCell ⟨x6,5,none⟩ (.int .i64 o.aS)).cell? ⟨x7,1,none⟩=some (.int .i64 (o.aw:Int)):=(HKa.o.other (p:=⟨x6,5,none⟩) V5 _).cell 1;have o4:=KX.o.cl 4;have o5:=KX.o.cl 5;have m4:=KX.o.mark 4;have m5:=KX.o.mark 5;have F0:xr≠x6:=by have:=HL6.o;omega
 have zw:=aa (show w.heap.size≤x6∧w.heap.size≤xr from by have:=pg.o;have:=HL6.o;omega);have af7:=aa (show aG ((wa.setCell ⟨x6,4,none⟩ (.int .i64 (o.aw:Int))).setCell ⟨x6,5,none⟩ (.int .i64 o.aS)) x6 108 #[.int .u32 q.tag,.int .i64 5,.int .i64 er,.int .u32 0,.int .i64 (o.aw:Int),.int .i64 o.aS,.int .i64 0] from(KX.o.put 4 _).put 5 _);have af6:=aa (show aG ((wa.setCell ⟨x6,5,none⟩ (.int .i64 o.aS)).setCell ⟨x6,4,none⟩ (.int .i64 (o.aw:Int))) x6 108 #[.int .u32 q.tag,.int .i64 5,.int .i64 er,.int .u32 0,.int .i64 (o.aw:Int),.int .i64 o.aS,.int .i64 0] from(KX.o.put 5 _).put 4 _);have Ct:=aa (show aG ((wa.setCell ⟨x6,4,none⟩ (.int .i64 (o.aw:Int))).setCell ⟨x6,5,none⟩ (.int .i64 o.aS)) xr 108 _ from(HRa.o.other (p:=⟨x6,4,none⟩) F0 _).other (p:=⟨x6,5,none⟩) F0 _);have Yc:=aa (show aG ((wa.setCell ⟨x6,5,none⟩ (.int .i64 o.aS)).setCell ⟨x6,4,none⟩ (.int .i64 (o.aw:Int))) xr 108 _ from(HRa.o.other (p:=⟨x6,5,none⟩) F0 _).other (p:=⟨x6,4,none⟩) F0 _);have afP:=aa (show aI S w ((wa.setCell ⟨x6,4,none⟩ (.int .i64 (o.aw:Int))).setCell ⟨x6,5,none⟩ (.int .i64 o.aS)).drew from((HTa.o.put (p:=⟨x6,4,none⟩) (.inr zw.o.1) _).put (p:=⟨x6,5,none⟩) (.inr zw.o.1) _).ak (az (au _ _)));have afO:=aa (show aI S w ((wa.setCell ⟨x6,5,none⟩ (.int .i64 o.aS)).setCell ⟨x6,4,none⟩ (.int .i64 (o.aw:Int))).drew from((HTa.o.put (p:=⟨x6,5,none⟩) (.inr zw.o.1) _).put (p:=⟨x6,4,none⟩) (.inr zw.o.1) _).ak (az (au _ _)));have afZ:=aa (show fK S ((wa.setCell ⟨x6,4,none⟩ (.int .i64 (o.aw:Int))).setCell ⟨x6,5,none⟩ (.int .i64 o.aS)).drew b bk from En.iJ Nk.o (((aI.at wa x6 4 _).Cb 5 _).ak (az (au _ _))) (fun k hk e=>oO.o k Bc hk));have afY:=aa (show fK S ((wa.setCell ⟨x6,5,none⟩ (.int .i64 o.aS)).setCell ⟨x6,4,none⟩ (.int .i64 (o.aw:Int))).drew b bk from En.iJ Nk.o (((aI.at wa x6 5 _).Cb 4 _).ak (az (au _ _))) (fun k hk e=>oO.o k Bc hk));go_region;all_goals(go_wp2_with (first|(refine aC rfl 108 (.tmp 6) rfl x6 108 _ af7.o rfl _ dJ rfl aR ?_)|(refine ah rfl 108 (.tmp 4) _ rfl xr 108 _ #[.int .u32 q.tag,.int .i64 5,.int .i64 er,.int .u32 0,.int .i64 (o.aw:Int),.int .i64 o.aS,.int .i64 0] Ct.o rfl rfl rfl aR eB ?_;intro wz dE dC gJ;have HAZ:=aa dE;have Yk:=aa dC;have HTZ:=aa afP.o;have HBZ:=aa afZ.o;clear dE dC gJ)|(refine aC rfl 108 (.tmp 6) rfl x6 108 _ af6.o rfl _ dJ rfl aR ?_)|(refine ah rfl 108 (.tmp 4) _ rfl xr 108 _ #[.int .u32 q.tag,.int .i64 5,.int .i64 er,.int .u32 0,.int .i64 (o.aw:Int),.int .i64 o.aS,.int .i64 0] Yc.o rfl rfl rfl aR eB ?_;intro wz dE dC gJ;have HAZ:=aa dE;have Yk:=aa dC;have HTZ:=aa afO.o;have HBZ:=aa afY.o;clear dE dC gJ)))
 exact acs
theorem NB(S:Nat→Prop)(w:World)(b:Nat)(bk:dK)(q:Rq)(h:fK S w b bk)(hb:bk.Ok)(hq:q.Good)(Dl:zv q)(hk:q.ay=6): Calls af 209 #[.pointer (some ⟨b,0,none⟩),.agg (cZ q)] w (KD S b bk q w):=by
 have iY:=aa (show ∀ k,S k→k<w.heap.size from Lv);have fC:=aa (show ∀ W,Below w.heap.size w W→fK S W b bk from fun W hW=>LB);have Pu:=aa (show ∀ W,Below w.heap.size w W→Calls af 38 #[.pointer (some ⟨b,0,none⟩)] W fun e w'=>e= .returned (.agg #[.int .i64 bk.n,.int .i64 bk.ar,.int .i64 bk.aA])∧Below W.heap.size W w' from fun W hW=>LJ);obtain⟨o,er,JH,JK⟩: ∃ (o:bS) (er:Int),(∀ W,fK S W b bk→Calls af 293 #[.pointer (some ⟨b,0,none⟩),.int .i64 q.aw] W fun e w'=>e= .returned (.tuple #[.agg #[.int .u32 o.id,.int .i64 (o.aw:Int),.int .i64 o.aS],.int .i64 er])∧fK S w' b bk∧aI S W w')∧dZ bk q=⟨q.tag,6,er,o.id,0,o.aS,0⟩:=by
  obtain⟨s,hs⟩:=Int.eq_ofNat_of_zero_le hq.aw.1;refine⟨if bk.n≤s then⟨0,0,0⟩else Iz (bk.on q.aw),if bk.n≤s then 140 else if(bk.on q.aw).isSome then 0 else 171,fun W hW=>?_,?_⟩
  ·have h9:=Nx hW hb s;rw[hs];by_cases c:bk.n≤s
   ·rw[if_pos c] at h9 ⊢;rw[if_pos c];exact Vp
   rw[if_neg c,Iy] at h9;rw[if_neg c,if_neg c];exact Vp
  unfold dZ;rw[if_neg aj,if_pos hk,hs];by_cases c:bk.n≤s
  ·rw[if_pos aj,if_pos c,if_pos c];unfold En.bZ;rw[hk]
  rw[if_neg aj,if_neg c,if_neg c];cases bk.on (s:Int)with
  | none=>unfold En.bZ;rw[hk];rfl
  | some x=>simp only[hk];rfl
 have Ys:=aa JH;have RT:=aa JK;have jy:=aa Dl;have hnz:((bk.n:Int)==0)=false:=beq_eq_false_iff_ne.2 xA;have V1: ¬(bk.n:Int)=0:=xA;clear h hb hq Dl JH JK;obtain⟨xq,iO⟩:=ae w.heap.size;obtain⟨w1,aZ⟩:=ae (w.alloc (.cells (cZ q) 41));obtain⟨xr,mO⟩:=ae w1.heap.size;obtain⟨w2,hw2⟩:=ae (w1.alloc (.cells #[.int .u32 0,.int .i64 0,.int .i64 0,.int .u32 0,.int .i64 0,.int .i64 0,.int .i64 0] 108));have rI:=aa (show aG w2 xq 41 (cZ q) from NU);have kU:=aa (aK hw2 mO);have cu:=aa (show Below w.heap.size w w2 from IE);have pg:=aa (show w.heap.size≤xq∧xr=xq+1 from⟨aj,K6⟩);go_enter Tryz.func209,Tryz.ntmps209;go_wp2_with fail;clear aZ hw2 iO mO;refine(Pu.o _ cu.o).mono ?_;rintro e w3 ⟨rfl,hb3⟩;have jx:=rI.js hb3;have gM:=kU.js hb3;have dV:=cu.dP hb3;clear hb3 rI kU cu;go_wp2_with (refine aC rfl 41 (.tmp 3) rfl xq 41 _ jx.o rfl _ cA rfl aH ?_);refine(jT q w3 jy.o).mono ?_;rintro e w4 ⟨rfl,hb4⟩;have tQ:=jx.js hb4;have mj:=gM.js hb4;have gH:=dV.dP hb4;clear hb4 jx gM dV hnz V1;have c0:w4.cell? ⟨xq,0,none⟩=some (.int .i64 6):=by rw[←hk];exact tQ.o.cell 0
 have c1:w4.cell? ⟨xq,1,none⟩=some (.int .u32 q.tag):=tQ.o.cell 1;obtain⟨x6,YZ⟩:=ae w4.heap.size;obtain⟨w5,iX⟩:=ae (w4.alloc (.cells #[.int .u32 0,.int .i64 0,.int .i64 0,.int .u32 0,.int .i64 0,.int .i64 0,.int .i64 0] 108));have ou:=aa (aK iX YZ);have eA:=aa (aL iX);have EA:=aa YZ;go_upto_region 6 with(refine ah rfl 108 _ _ rfl x6 108 _ #[.int .u32 q.tag,.int .i64 6,.int .i64 0,.int .u32 0,.int .i64 0,.int .i64 0,.int .i64 0] ou.o rfl rfl rfl aR eB ?_;intro w6 yV kq VW;have ij:=aa (show Below w4.heap.size w4 w6 from bn eA.o kq (pn EA.o));have tC:=aa yV;clear yV kq VW)
 have HL6:=aa (show xr<x6 from by have:=mj.o.lt;have:=EA.o;omega);obtain⟨x7,hx7⟩:=ae w6.heap.size;obtain⟨w7,wQ⟩:=ae (w6.alloc (.cells #[.int .u32 0,.int .i64 0,.int .i64 0] 171));have sy:=aL wQ;have yt:=aa (tC.o.ai sy);have HK7:=aa (aK wQ hx7);have Yi:=aa (show x6<x7 from by have:=tC.o.lt;omega);have lI:=ij.dP sy;have RF:=mj.js lI.o;have zf:=tQ.js lI.o;have ie:=aa (av gH.o lI.o);have Nl:=aa (fC.o _ ie.o);have d0:w7.cell? ⟨xq,0,none⟩=some (.int .i64 6):=by rw[←hk];exact zf.o.cell 0
 have d3:w7.cell? ⟨xq,3,none⟩=some (.int .i64 q.aw):=zf.o.cell 3;clear sy c0 c1 mj tQ ou eA EA tC ij lI gH;go_wp2_with fail;clear iX YZ wQ hx7;refine(Ys.o _ Nl.o).mono ?_;rintro e w8 ⟨rfl,mX,VT⟩;have oO:=aa (show ∀ k,w.heap.size≤k→¬S k from fun k hk hs=>by have:=iY.o k hs;omega);have hx:=pg.o;have R8:=HL6.o;have Y4:=Yi.o;have zE:=aa (VT.arr yt.o (oO.o _ aj));have HK8:=aa (VT.arr HK7.o (oO.o _ aj));have KS:=aa (VT.arr RF.o (oO.o _ aj));have py:=aa mX;have X9:=aa ((aI.aU (S:=S) ie.o).trans VT);clear mX VT d0 d3 hx R8 Y4 yt HK7 RF zf Nl ie;go_upto_region 14 with(refine ah rfl 171 _ _ rfl x7 171 _ #[.int .u32 o.id,.int .i64 (o.aw:Int),.int .i64 o.aS] HK8.o rfl rfl rfl eT eB ?_;intro w9 dE dC gJ;have HK9:=aa dE;have qd:=aa dC;have a92:w9.cell? ⟨x6,2,none⟩=some (.int .i64 0):=(zE.o.bw dC (fun e=>Fi)).cell 2;have m92:=(zE.o.bw dC (fun e=>Fi)).mark 2;clear dE dC gJ)
 have hx:=pg.o;have R8:=HL6.o;have Y4:=Yi.o;have pz:=aa (zE.o.bw qd.o (fun e=>lW));have Sm:=aa (KS.o.bw qd.o (fun e=>lW));have EB:=aa ((X9.o).grown qd.o (fun k e=>LF));have zD:=aa (nU py.o qd.o (fun k hk e=>oO.o k aj hk));obtain⟨wa,KF⟩:=ae (w9.setCell ⟨x6,2,none⟩ (.int .i64 er));have KX:=aa (show aG wa x6 108 #[.int .u32 q.tag,.int .i64 6,.int .i64 er,.int .u32 0,.int .i64 0,.int .i64 0,.int .i64 0] by rw[←KF];exact pz.o.put 2 _);have HRa:=aa (show aG wa xr 108 _ from TQ);have HKa:=aa (show aG wa x7 171 _ from TP);have HTa:=aa (show aI S w wa from T7);have Nk:=aa (show fK S wa b bk from Ub);rw[KF];clear KF hx R8 Y4 a92 m92 zE HK8 KS py X9 pz Sm EB zD HK9 qd;have k0:=HKa.o.cl 0;have k2:=HKa.o.cl 2;have V5:x7≠x6:=by have:=Yi.o;omega
 have f2:(wa.setCell ⟨x6,3,none⟩ (.int .u32 o.id)).cell? ⟨x7,2,none⟩=some (.int .i64 o.aS):=(HKa.o.other (p:=⟨x6,3,none⟩) V5 _).cell 2;have f0:(wa.setCell ⟨x6,5,none⟩ (.int .i64 o.aS)).cell? ⟨x7,0,none⟩=some (.int .u32 o.id):=(HKa.o.other (p:=⟨x6,5,none⟩) V5 _).cell 0;have o3:=KX.o.cl 3;have o5:=KX.o.cl 5;have m3:=KX.o.mark 3;have m5:=KX.o.mark 5;have F0:xr≠x6:=by have:=HL6.o;omega
 have zw:=aa (show w.heap.size≤x6∧w.heap.size≤xr from by have:=pg.o;have:=HL6.o;omega);have af7:=aa (show aG ((wa.setCell ⟨x6,3,none⟩ (.int .u32 o.id)).setCell ⟨x6,5,none⟩ (.int .i64 o.aS)) x6 108 #[.int .u32 q.tag,.int .i64 6,.int .i64 er,.int .u32 o.id,.int .i64 0,.int .i64 o.aS,.int .i64 0] from(KX.o.put 3 _).put 5 _);have af6:=aa (show aG ((wa.setCell ⟨x6,5,none⟩ (.int .i64 o.aS)).setCell ⟨x6,3,none⟩ (.int .u32 o.id)) x6 108 #[.int .u32 q.tag,.int .i64 6,.int .i64 er,.int .u32 o.id,.int .i64 0,.int .i64 o.aS,.int .i64 0] from(KX.o.put 5 _).put 3 _);have Ct:=aa (show aG ((wa.setCell ⟨x6,3,none⟩ (.int .u32 o.id)).setCell ⟨x6,5,none⟩ (.int .i64 o.aS)) xr 108 _ from(HRa.o.other (p:=⟨x6,3,none⟩) F0 _).other (p:=⟨x6,5,none⟩) F0 _);have Yc:=aa (show aG ((wa.setCell ⟨x6,5,none⟩ (.int .i64 o.aS)).setCell ⟨x6,3,none⟩ (.int .u32 o.id)) xr 108 _ from(HRa.o.other (p:=⟨x6,5,none⟩) F0 _).other (p:=⟨x6,3,none⟩) F0 _);have afP:=aa (show aI S w ((wa.setCell ⟨x6,3,none⟩ (.int .u32 o.id)).setCell ⟨x6,5,none⟩ (.int .i64 o.aS)).drew from((HTa.o.put (p:=⟨x6,3,none⟩) (.inr zw.o.1) _).put (p:=⟨x6,5,none⟩) (.inr zw.o.1) _).ak (az (au _ _)));have afO:=aa (show aI S w ((wa.setCell ⟨x6,5,none⟩ (.int .i64 o.aS)).setCell ⟨x6,3,none⟩ (.int .u32 o.id)).drew from((HTa.o.put (p:=⟨x6,5,none⟩) (.inr zw.o.1) _).put (p:=⟨x6,3,none⟩) (.inr zw.o.1) _).ak (az (au _ _)));have afZ:=aa (show fK S ((wa.setCell ⟨x6,3,none⟩ (.int .u32 o.id)).setCell ⟨x6,5,none⟩ (.int .i64 o.aS)).drew b bk from En.iJ Nk.o (((aI.at wa x6 3 _).Cb 5 _).ak (az (au _ _))) (fun k hk e=>oO.o k Bc hk));have afY:=aa (show fK S ((wa.setCell ⟨x6,5,none⟩ (.int .i64 o.aS)).setCell ⟨x6,3,none⟩ (.int .u32 o.id)).drew b bk from En.iJ Nk.o (((aI.at wa x6 5 _).Cb 3 _).ak (az (au _ _))) (fun k hk e=>oO.o k Bc hk));go_region;all_goals(go_wp2_with (first|(refine aC rfl 108 (.tmp 6) rfl x6 108 _ af7.o rfl _ dJ rfl aR ?_)|(refine ah rfl 108 (.tmp 4) _ rfl xr 108 _ #[.int .u32 q.tag,.int .i64 6,.int .i64 er,.int .u32 o.id,.int .i64 0,.int .i64 o.aS,.int .i64 0] Ct.o rfl rfl rfl aR eB ?_;intro wz dE dC gJ;have HAZ:=aa dE;have Yk:=aa dC;have HTZ:=aa afP.o;have HBZ:=aa afZ.o;clear dE dC gJ)|(refine aC rfl 108 (.tmp 6) rfl x6 108 _ af6.o rfl _ dJ rfl aR ?_)|(refine ah rfl 108 (.tmp 4) _ rfl xr 108 _ #[.int .u32 q.tag,.int .i64 6,.int .i64 er,.int .u32 o.id,.int .i64 0,.int .i64 o.aS,.int .i64 0] Yc.o rfl rfl rfl aR eB ?_;intro wz dE dC gJ;have HAZ:=aa dE;have Yk:=aa dC;have HTZ:=aa afO.o;have HBZ:=aa afY.o;clear dE dC gJ)))
 exact acs
theorem EJ(S:Nat→Prop)(w:World)(b:Nat)(bk:dK)(q:Rq)(h:fK S w b bk)(hb:bk.Ok)(hq:q.Good)(Dl:zv q)(hk:q.ay=5∨q.ay=6∨q.ay=10): Calls af 209 #[.pointer (some ⟨b,0,none⟩),.agg (cZ q)] w (KD S b bk q w):=by
 rcases hk with hk|hk|hk
 ·exact KC S w b bk q h hb hq Dl hk
 ·exact NB S w b bk q h hb hq Dl hk
 obtain⟨x,hx⟩:=h;refine(zg hx.bf hb.n.1 q Dl hk).mono ?_;rintro e w' ⟨rfl,hb'⟩;have e1:dZ bk q=⟨q.tag,10,0,0,0,0,bk.L.length⟩:=by unfold dZ;rw[if_neg aj,if_neg aj,hk]
 exact⟨by rw[e1],⟨x,hx.ak hb'⟩,aI.aU hb'⟩
end Bk
end
section
namespace En
section
variable {aB:Nat→Nat}{w w':World}{e:Nat}{q:sQ}{wt:Value}{es:Es}
theorem dg.agF(h:dg aB w e q es)(ht:aI (· =e) w w'): dg aB w' e q es:=h.cO (ht.mono fun k _ hk=>by subst hk;exact .inr h.r5)
theorem dg.as{es':Es}(h:dg aB w e q es)(h1:es'.log=es.log)(h2:es'.rg=es.rg)(h3:es'.dev=es.dev)(h4:es'.bk=es.bk)(h5:es'.sl=es.sl): dg aB w e q es':=
 ⟨h.does,by rw[h1,h2,h3];exact h.log,by rw[h3];exact h.dev,by rw[h4];exact h.book,by rw[h5,h3];exact h.slots,h.r5,h.r6,h.r7,h.lt,h.ic,h.rep,h.kT⟩
theorem bC.FI(h:bC aB w e q wt es): ∀ k,wt.ownBlock=some k→k≠e:=fun k hk c=>by
 have:=h.aF.block k hk;rw[c,h.rest.r5] at this;exact absurd this aN
def adf(aB:Nat→Nat)(e:Nat)(q:sQ)(wt:Value)(es:Es)(w:World)(en:Ending)(w':World): Prop:=
 en= .returned wt∧bC aB w' e q (.slice none 0 0) {es with aF:=[]}∧aM (fun k=>aB k=4) w' 108 7 wt es.aF.length (oY es.aF)∧aI (· =e) w w'
theorem bC.I0(h:bC aB w e q wt es)(up:Bool)(hA:ik w' e up (some ⟨q.lq,0,none⟩) (some ⟨q.sl,0,none⟩) (some ⟨q.bk,0,none⟩) (.slice none 0 0) (.map (some q.mb)))(ht:aI (· =e) w w'): bC aB w' e q (.slice none 0 0) {es with up:=up,aF:=[]}:=
 ⟨(h.rest.agF ht).as rfl rfl rfl rfl rfl,hA,aM.nil _ _ _ _ _⟩
theorem Bu(h:bC aB w e q wt es): Calls af 219 #[.pointer (some ⟨e,0,none⟩)] w (adf aB e q wt es w):=by
 have x5:w.cell? ⟨e,5,none⟩=some wt:=h.own.cell 5;have m5:=h.own.mark 5;have hF:adf aB e q wt es w (.returned wt) (w.setCell ⟨e,5,none⟩ (.slice none 0 0)):=by
  refine⟨rfl,h.I0 es.up (by exact aG.put h.own 5 _) (aI.at w e 5 _),?_,aI.at w e 5 _⟩;exact h.aF.put (q:=⟨e,5,none⟩) (fun g hg c=>h.FI g hg c.symm) _
 have HF:=aa hF;clear h hF;go_enter Tryz.func219,Tryz.ntmps219;go_wp2_with fail;go_ret;exact HF.o
def adL(aB:Nat→Nat)(e:Nat)(q:sQ)(es:Es)(w:World)(en:Ending)(w':World): Prop:=
 (∃ u,en= .returned u)∧bC aB w' e q (.slice none 0 0) {es with up:=false,aF:=[]}∧aI (· =e) w w'
theorem Ge(h:bC aB w e q wt es): Calls af 211 #[.pointer (some ⟨e,0,none⟩)] w (adL aB e q es w):=by
 have x1:w.cell? ⟨e,1,none⟩=some (.bool es.up):=h.own.cell 1;have x5:w.cell? ⟨e,5,none⟩=some wt:=h.own.cell 5;have m1:=h.own.mark 1;have m5:=h.own.mark 5;have bt:aG (w.setCell ⟨e,1,none⟩ (.bool false)) e 68 _:=h.own.put 1 _;have y5:(w.setCell ⟨e,1,none⟩ (.bool false)).cell? ⟨e,5,none⟩=some wt:=bt.cell 5;have n5:=bt.mark 5;have ht:aI (· =e) w ((w.setCell ⟨e,1,none⟩ (.bool false)).setCell ⟨e,5,none⟩ (.slice none 0 0)):=(aI.at w e 1 _).Cb 5 _;have HF:=aa (fun u=>(show adL aB e q es w (.returned u) ((w.setCell ⟨e,1,none⟩ (.bool false)).setCell ⟨e,5,none⟩ (.slice none 0 0))from⟨⟨u,rfl⟩,h.I0 false (by exact aG.put bt 5 _) ht,ht⟩));clear h bt ht;go_enter Tryz.func211,Tryz.ntmps211;go_wp2_with fail;exact bodyPost_end (results_none Tryz.results211 _ _ _) rfl (HF.o _)
theorem qo: (af.info? 108).map (fun i=>(i.zero,i.size,i.bytes))=some (some (.agg #[.int .u32 0,.int .i64 0,.int .i64 0,.int .u32 0,.int .i64 0,.int .i64 0,.int .i64 0]),7,56):=br
theorem Uu{S:Nat→Prop}{W:World}{A:Option Addr}{l:List Rp}{c:Nat}(h:aM S W 108 7 (.slice A l.length c) l.length (oY l)): Si W A l:=fun hne=>by
 have hp:0<l.length:=by cases l with|nil=>exact absurd rfl hne|cons x r=>simp
 obtain⟨g,cap,hv,hg,h1,h2,h3⟩:=h.form hp;injection hv with e1 e2 e3
 subst e1;subst e3;refine⟨g,0,rfl,h3,fun i hi=>?_⟩;have:=h.range (zJ l) hi;rw[gX];simpa[oY,bN,bY hi] using this
def eX(aB:Nat→Nat)(e:Nat)(q:sQ)(l:List Rp)(es':Es)(w:World)(en:Ending)(w':World): Prop:=
 ∃ eL vC A c,en= .returned (.slice A l.length c)∧Si w' A l∧bC eL w' e q vC es'∧(∀ k,eL k≠0→aB k≠0∨w.heap.size≤k)∧aI (fun k=>aB k≠0) w w'
theorem B9(h:bC aB w e q wt es)(rq:Rq)(hn:es.aF.length≤1000): Calls af 212 #[.pointer (some ⟨e,0,none⟩),.agg (cZ rq)] w (eX aB e q (counted es rq) {es with aF:=[]} w):=by
 obtain⟨j0,hj,hz0,hz1,hz2⟩:=info_parts qo;obtain⟨xq,iO⟩:=ae w.heap.size;obtain⟨w1,aZ⟩:=ae (w.alloc (.cells (cZ rq) 41));have bz:=aa (aL aZ);have vz:=aa (aK aZ iO);have vA:=aa (h.ak bz.o);have iY:=aa h.rest.lt;have vx:=aa (show xq=w.heap.size from iO.symm);obtain⟨n,hn'⟩:=ae es.aF.length;have HN:=aa hn';rw[hn'] at hn;clear h hn';go_enter Tryz.func212,Tryz.ntmps212;go_wp2_with fail;clear aZ iO;refine(Bu vA.o).mono ?_;rintro en w2 ⟨rfl,hE2,qz,jB⟩;have wW:=aa hE2;have gh:=aa jB;have aau:=qz;rw[HN.o] at aau;have kU:=aa aau;have kV:=aa (show xq≠e from fun c=>by have:=iY.o e (by rw[vA.o.rest.r5];decide);have:=vx.o;omega);have hQ2:=jB.arr vz.o kV.o;obtain⟨A,cp,hA⟩:=aau.any;have HA:=aa hA;have c1:w2.cell? ⟨xq,1,none⟩=some (.int .u32 rq.tag):=hQ2.cell 1;have c0:w2.cell? ⟨xq,0,none⟩=some (.int .i64 rq.ay):=hQ2.cell 0;clear hE2 qz aau jB hQ2 vz vA;subst hA;obtain⟨w3,hw3⟩:=ae (w2.alloc (.cells #[.int .u32 rq.tag,.int .i64 rq.ay,.int .i64 0,.int .u32 0,.int .i64 0,.int .i64 0,.int .i64 (n:Int)] 108));have dV:=aa (aL hw3);have gM:=aa (kU.o.ai dV.o);have Zq:=aa (show ∀ (j:Nat) (u:Value),[Value.int .u32 rq.tag,.int .i64 rq.ay,.int .i64 0,.int .u32 0,.int .i64 0,.int .i64 0,.int .i64 (n:Int)][j]? =some u→w3.cell? ((⟨w2.heap.size,0,none⟩:Addr).add j)=some u by rw[←hw3];exact iN w2 _ _);go_wp2_with (refine gN _ rfl (.tmp 8) (.tmp 16) 65 rfl 108 j0 (.agg #[.int .u32 0,.int .i64 0,.int .i64 0,.int .u32 0,.int .i64 0,.int .i64 0,.int .i64 0]) 7 56 Tryz.underlying65 hj hz0 hz1 hz2 rfl aN (.slice A n cp) n _ rfl gM.o ⟨w2.heap.size,0,none⟩ 1 [.int .u32 rq.tag,.int .i64 rq.ay,.int .i64 0,.int .u32 0,.int .i64 0,.int .i64 0,.int .i64 (n:Int)] rfl rfl Zq.o S8 km aj ?_;intro ga ca w4 hr4 hg4;have HN4:=aa hr4;have ve:=aa hg4;clear hr4 hg4);go_ret;have hg4:w3.grownBy w4 (ji A n cp).ownBlock:=ve.o;have hblk: ∀ k,(ji A n cp).ownBlock=some k→aB k=4:=kU.o.block;have CM:aI (fun k=>aB k=4) w2 w4:=(aI.aU (S:=fun k=>aB k=4) dV.o).grown hg4 (fun k hk=>.inl (hblk k hk));have hT:aI (fun k=>aB k≠0) w w4:=((aI.aU (S:=fun k=>aB k≠0) bz.o).trans (gh.o.mono fun k _ hk=>by subst hk;show aB k≠0;rw[wW.o.rest.r5];decide)).trans (CM.mono fun k _ hk=>oz);have hE4:bC aB w4 e q (.slice none 0 0) {es with aF:=[]}:=⟨wW.o.rest.cO (CM.mono fun k _ hk=>.inl hk),CM.arr wW.o.own (fun c=>by have:=wW.o.rest.r5;rw[c] at this;exact absurd this aN),aM.nil _ _ _ _ _⟩;have hlen:(counted es rq).length=n+1:=by unfold counted;rw[List.length_append,HN.o];rfl
 have JP:aM (fun k=>aB k=4∨k=w3.heap.size) w4 108 7 (.slice (some ⟨ga,0,none⟩) (n+1) ca) (n+1) (oY (counted es rq)):=by
  have h1:=HN4.o;have h2:=IY es.aF ⟨rq.tag,rq.ay,0,0,0,0,es.aF.length⟩;rw[HN.o] at h2;unfold counted;rw[HN.o,←h2];exact h1
 rw[←hlen] at JP;exact⟨aB,_,some ⟨ga,0,none⟩,ca,by rw[hlen];rfl,Uu JP,hE4,fun k hk=>.inl hk,hT⟩
end
end En
end
section
namespace En
theorem MH(l:Lg)(g:Rg)(d:bK)(hs:1≤d.dk.size): (l.flush g d).2.2.dk.size=d.dk.size:=by
 unfold Lg.flush;split
 ·rfl
 have h1:=(Rg.pC g d l.cw.length l.aF hs).1;split
 ·have h2:=(bK.FA (g.write d l.cw.length l.aF).2).1;split <;>exact h2.trans h1
 exact h1
section
variable {aB:Nat→Nat}{w w':World}{e:Nat}{q:sQ}{wt:Value}{es:Es}
variable{w1:World}
theorem eX.trans{mN:Nat→Nat}{l:List Rp}{es':Es}{en:Ending}(h1:aI (fun k=>aB k≠0) w w1)(hs: ∀ k,mN k≠0→aB k≠0∨w.heap.size≤k)(h2:eX mN e q l es' w1 en w'): eX aB e q l es' w en w':=by
 obtain⟨eL,vC,A,c,a1,a2,a3,a4,a5⟩:=h2;refine⟨eL,vC,A,c,a1,a2,a3,fun k hk=>?_,h1.new (a5.mono fun k _ hk=>hs k hk)⟩;rcases a4 k hk with h|h
 ·exact hs k h
 exact .inr (aT h1.size h)
theorem eX.one{mN:Nat→Nat}{vC:Value}{es':Es}{r:Rp}{A:Option Addr}{c:Nat}(h:bC mN w1 e q vC es')(hs: ∀ k,mN k≠0→aB k≠0∨w.heap.size≤k)(ht:aI (fun k=>aB k≠0) w w1)(hr:Si w' A [r])(hb:Below w1.heap.size w1 w'):
 eX aB e q [r] es' w (.returned (.slice A 1 c)) w':=⟨mN,vC,A,c,rfl,hr,h.ak hb,hs,ht.ak hb⟩
theorem bC.iH(h:bC aB w e q wt es){en:Ending}(hf:EH (fun k=>aB k=1) (fun k=>aB k=2) q.lq q.rl q.p es.rg es.dev.dk.size (es.log.flush es.rg es.dev) w en w1)(hs:1≤es.dev.dk.size):
  en= .returned (.int .i64 (es.log.flush es.rg es.dev).1)∧bC (grow aB w w1 2) w1 e q wt {es with log:=(es.log.flush es.rg es.dev).2.1,dev:=(es.log.flush es.rg es.dev).2.2}∧aI (fun k=>aB k=1∨aB k=2) w w1:=by
 obtain⟨a1,a2,a3,a4⟩:=hf;refine⟨a1,h.keeps (h.rest.flush (MH _ _ _ hs) a2 a3 a4) rfl rfl a4 (fun k hk=>?_) (nA h.rest.lt),a4⟩;rcases hk with hk|hk <;>rw[hk] <;>exact⟨aN,aN⟩
theorem bC.B2(h:bC aB w e q wt es)(hr:es.dev.dk.row.length+es.log.aF.length≤1000000)(hs:1≤es.dev.dk.size):
  Calls af 210 #[.pointer (some ⟨q.lq,0,none⟩)] w fun en w1=>en= .returned (.int .i64 (es.log.flush es.rg es.dev).1)∧bC (grow aB w w1 2) w1 e q wt {es with log:=(es.log.flush es.rg es.dev).2.1,dev:=(es.log.flush es.rg es.dev).2.2}∧aI (fun k=>aB k=1∨aB k=2) w w1:=by
 obtain⟨v,hv⟩:=h.rest.log;exact(Ry hv h.rest.dev (fun k h1 h2=>by rw[h1] at h2;exact absurd h2 aN) hr).mono fun en w1 hf=>h.iH hf hs
theorem WO(h:bC aB w e q wt es)(rq:Rq)(hn:es.aF.length≤1000)(hr:es.dev.dk.row.length+es.log.aF.length≤1000000)(hs:1≤es.dev.dk.size):
  Calls af 99 #[.pointer (some ⟨e,0,none⟩),.agg (cZ rq)] w (eX aB e q (es.flush rq).1 (es.flush rq).2 w):=by
 obtain⟨xq,iO⟩:=ae w.heap.size;obtain⟨w1,aZ⟩:=ae (w.alloc (.cells (cZ rq) 41));have bz:=aa (aL aZ);have vz:=aa (aK aZ iO);have hE1:=h.ak bz.o;have x2:w1.cell? ⟨e,2,none⟩=some (.pointer (some ⟨q.lq,0,none⟩)):=hE1.own.cell 2;have Gs:=aa (hE1.B2 hr hs);have iY:=aa h.rest.lt;have vx:=aa (show xq=w.heap.size from iO.symm);have HZ:=aa (show ∀ k,aB k≠0→k≠xq from fun k hk c=>by have:=h.rest.lt k hk;omega);obtain⟨R,hR⟩:=ae (es.log.flush es.rg es.dev);have sO:=aa hR;rw[hR] at Gs;clear h hE1 hR hr hs;by_cases c:R.1=0
 ·have hc1:(R.1 != 0)=false:=by rw[c];rfl
  have Gu:=aa (show es.flush rq=(counted es rq,{es with dev:=R.2.2,log:=R.2.1,aF:=[]})from by unfold Es.flush;rw[sO.o,if_neg qh]);have HC:=aa c;clear c;go_enter Tryz.func99,Tryz.ntmps99;go_wp2_with fail;clear aZ iO;refine Gs.o.mono ?_;rintro en w2 ⟨rfl,hE2,jB⟩;have wW:=aa hE2;have gh:=aa jB;have rI:=aa (jB.arr vz.o (fun k=>TE));clear hE2 jB Gs x2;go_wp2_with (refine aC rfl 41 (.tmp 3) rfl xq 41 _ rI.o rfl _ cA rfl aH ?_);refine(B9 wW.o rq hn).mono ?_;rintro en w3 h3;have hT:aI (fun k=>aB k≠0) w w2:=(aI.aU (S:=fun k=>aB k≠0) bz.o).trans (gh.o.mono fun k _ hk=>Ty);have h4:=eX.trans hT (fun k hk=>by
   rcases iP k hk with h|h
   ·exact .inl h
   exact .inr (aT bz.o.size h)) h3
  have e1:counted {es with log:=R.2.1,dev:=R.2.2} rq=counted es rq:=rfl;rw[e1] at h4;have h5:eX aB e q (es.flush rq).1 (es.flush rq).2 w en w3:=by rw[Gu.o];exact h4
  obtain⟨eL,vC,A,cp,rfl,b2,b3,b4,b5⟩:=h5;have HF:=aa (show eX aB e q (es.flush rq).1 (es.flush rq).2 w (.returned (.slice A (es.flush rq).1.length cp)) w3 from⟨eL,vC,A,cp,rfl,b2,b3,b4,b5⟩);clear h3 h4 b2 b3 b4 b5 hT;go_wp2_with fail;go_ret;exact HF.o
 ·have hc1:(R.1 != 0)=true:=bne_iff_ne.2 c;have Gu:=aa (show es.flush rq=([bZ rq 230],{es with up:=false,dev:=R.2.2,log:=R.2.1,aF:=[]})from by unfold Es.flush;rw[sO.o,if_pos c];rfl);clear c;go_enter Tryz.func99,Tryz.ntmps99;go_wp2_with fail;clear aZ iO;refine Gs.o.mono ?_;rintro en w2 ⟨rfl,hE2,jB⟩;have wW:=aa hE2;have gh:=aa jB;have rI:=aa (jB.arr vz.o (fun k=>TE));clear hE2 jB Gs x2;go_wp2_with fail;refine(Ge wW.o).mono ?_;rintro en w3 ⟨⟨u,rfl⟩,hE3,kf⟩;have Ks:=aa hE3;have jF:=aa kf;have hee:(grow aB w1 w2 2) e≠0:=by rw[wW.o.rest.r5];decide
  have HEN:=aa (show aB e≠0 from by
   have h5:=wW.o.rest.r5;unfold grow at h5;split at h5
   ·rw[h5];decide
   split at h5
   ·exact absurd h5 aN
   exact absurd h5 aN)
  have jx:=aa (kf.arr rI.o (fun k=>HZ.o e HEN.o k.symm));clear hE3 kf;go_wp2_with (refine aC rfl 41 (.tmp 3) rfl xq 41 _ jx.o rfl _ cA rfl aH ?_);refine(lz rq 230 w3).mono ?_;rintro en w4 ⟨A,cp,rfl,hr4,hb4⟩;have hT:aI (fun k=>aB k≠0) w w3:=((aI.aU (S:=fun k=>aB k≠0) bz.o).trans (gh.o.mono fun k _ hk=>Ty)).trans (jF.o.mono fun k _ hk=>by subst hk;exact HEN.o);have HF:=aa (show eX aB e q (es.flush rq).1 (es.flush rq).2 w (.returned (.slice A 1 cp)) w4 from by
   rw[Gu.o];exact eX.one Ks.o (fun k hk=>by
    rcases iP k hk with h|h
    ·exact .inl h
    exact .inr (aT bz.o.size h)) hT hr4 hb4)
  clear hT hr4 hb4;go_wp2_with fail;go_ret;exact HF.o
end
end En
end
section
namespace En
open Bk (KD EJ)
section
variable {aB:Nat→Nat}{w w':World}{e:Nat}{q:sQ}{wt:Value}{es:Es}
theorem bC.other{T:Nat→Prop}(h:bC aB w e q wt es)(ht:aI T w w')(hT: ∀ k,T k→aB k=0∧k≠1∧k≠0): bC aB w' e q wt es:=by
 have no: ∀ {k r:Nat},aB k=r→r≠0→¬T k:=fun hk hr c=>hr (hk.symm.trans (hT _ c).1)
 refine⟨⟨?_,(cE ..).cO h.rest.log ht (fun k hk=>no hk aN),(aD ..).cO h.rest.dev ht (fun k hk=>no hk aN),iJ h.rest.book ht (fun k hk=>no hk aN),h.rest.slots.cO ht (no h.rest.r7.1 aN) (no h.rest.r7.2.1 aN) (no h.rest.r7.2.2 aN),h.rest.r5,h.rest.r6,h.rest.r7,fun k hk=>aW (h.rest.lt k hk) ht.size,
  h.rest.ic.cO ht (fun c=>(hT _ c).2.1 rfl),h.rest.rep.cO ht (fun c=>(hT _ c).2.2 rfl),h.rest.kT⟩,ht.arr h.own (no h.rest.r5 aN),h.aF.same fun k hk hl=>ht.block k hl (no hk aN)⟩
 exact h.rest.does.same (ht.block _ h.rest.does.lt (no h.rest.r6 aN))
theorem bC.grown{x:Nat}{w0:World}(h:bC aB w e q wt es)(hg:w.grownBy w' (some x))(hx:w0.heap.size≤x)(h0: ∀ k,w0.heap.size≤k→aB k=0∧k≠1∧k≠0): bC aB w' e q wt es:=
 h.other ((aI.refl (· =x) w).grown hg (fun k e=>ID)) (fun k hk=>h0 k (by subst hk;exact hx))
theorem bC.news(h:bC aB w e q wt es): ∀ k,w.heap.size≤k→aB k=0∧k≠1∧k≠0:=fun k hk=>
 ⟨by
  by_cases c:aB k=0
  ·exact c
  have:=h.rest.lt k c;omega,fun c=>by have:=h.rest.ic.lt;omega,fun c=>by have:=h.rest.rep.lt;omega⟩
theorem vH{w1 w2:World}{x:Nat}(h:aI (fun k=>aB k≠0) w w1)(hg:w1.grownBy w2 (some x))(hx:w.heap.size≤x): aI (fun k=>aB k≠0) w w2:=h.grown hg (fun k e=>LF)
theorem bC.asked(h:bC aB w e q wt es)(hb:fK (fun k=>aB k=3) w' q.bk es.bk)(ht:aI (fun k=>aB k=3) w w'): bC aB w' e q wt es:=
 h.keeps (h.rest.asked hb ht) rfl rfl ht (fun k hk=>by have Hz:aB k=3:=hk;rw[Hz];exact⟨aN,aN⟩) (fun _ h=>h)
theorem afw(h:bC aB w e q wt es)(rq:Rq)(hb:es.bk.Ok)(hq:rq.Good)(Dl:zv rq)(hk:rq.ay=5∨rq.ay=6∨rq.ay=10):
  Calls af 98 #[.pointer (some ⟨e,0,none⟩),.agg (cZ rq)] w (eX aB e q [dZ es.bk rq] es w):=by
 obtain⟨xq,iO⟩:=ae w.heap.size;obtain⟨w1,aZ⟩:=ae (w.alloc (.cells (cZ rq) 41));have bz:=aa (aL aZ);have vz:=aa (aK aZ iO);have vA:=aa (h.ak bz.o);have HN:=aa h.news;have vx:=aa (show w.heap.size≤xq∧xq<w1.heap.size from⟨aj,vz.o.lt⟩);have HAN:=aa (show ∀ W,fK (fun k=>aB k=3) W q.bk es.bk→Calls af 209 #[.pointer (some ⟨q.bk,0,none⟩),.agg (cZ rq)] W (KD (fun k=>aB k=3) q.bk es.bk rq W)from fun W hW=>EJ _ W q.bk es.bk rq hW hb hq Dl hk);obtain⟨Xk,JK⟩:=ae (dZ es.bk rq);have RT:=aa JK;clear h hb hq Dl hk JK;go_enter Tryz.func98,Tryz.ntmps98;go_upto_region 1 with fail
 clear aZ iO;go_cut [5,6] from 7 to 15 (fun s5 s6 wc=>∃ xa,s5= .pointer (some ⟨xa,0,none⟩)∧aG wc xa 108 (iW Xk)∧bC aB wc e q wt es∧aI (fun k=>aB k≠0) w wc)
 case first=>
  have gi:=aa (show ∀ W,bC aB W e q wt es→aG W xq 41 (cZ rq)→(W.cell? ⟨e,4,none⟩=some (.pointer (some ⟨q.bk,0,none⟩))∧W.rangeAt xq 0 (cZ rq).toList)from fun W hE hQ=>⟨hE.own.cell 4,fun j u hj=>by rw[gX,hQ.cell j];simpa using hj⟩);obtain⟨wd,hwd⟩:=ae w1.drew;have gQ:Below w1.heap.size w1 wd:=mS;have ma:=aa (vA.o.ak gQ);have kG:=vz.js gQ;have kj:=aa (show aI (fun k=>aB k≠0) w wd from aI.aU (av bz.o gQ));clear gQ;refine wp_region_held_drew (S:=(fun W=>W.cell? ⟨e,4,none⟩=some (.pointer (some ⟨q.bk,0,none⟩))∧W.rangeAt xq 0 (cZ rq).toList)) br (by rw[hwd];exact gi.o _ ma.o kG.o) (fun hHeld=>?_);rw[hwd] at hHeld ⊢;clear hwd vA vz;refine lu 0 1 2 3 ?_;refine eZ 4 (some 12) hHeld 41 (.tmp 3) xq 0 (cZ rq).toList _ (fun w' h=>h.2) cA rfl aH ?_;try simp only[aY]
  refine qp 5 9 (fun K hK=>?_) fun K hK=>?_
  ·go_simp;refine(HAN.o _ ma.o.rest.book).mono ?_;rintro en v1 ⟨rfl,cL,ht⟩;rw[RT.o];have iU:=aa (ma.o.asked cL ht);have kY:=aa (ht.arr kG.o (fun c=>xd));have iK:=aa (kj.o.trans (ht.mono fun k _ hk=>oz));clear cL ht;go_wp2_with fail;refine bW hK Bd fun hh1=>?_
   clear hK K;refine SX 6 7 8 ?_;refine cG 9 fun K hK=>?_
   obtain⟨v2,hv2⟩:=ae (v1.alloc (.cells #[.int .u32 0,.int .i64 0,.int .i64 0,.int .u32 0,.int .i64 0,.int .i64 0,.int .i64 0] 108));obtain⟨xa,iz⟩:=ae v1.heap.size;have hb:=aL hv2;have eI:=aa (show bC aB v2 e q wt es from iU.o.ak hb);have fY:=aa (show aG v2 xq 41 (cZ rq)from kY.o.ai hb);have eW:=aa (show aI (fun k=>aB k≠0) w v2 from iK.o.ak hb);have YA:=aa (aK hv2 iz);have HW9:=aa (show w.heap.size≤xa from Ln);have qK:=aa (show xq<xa from AX);clear hb;go_simp;go_wp2_with fail;try rw[hv2]
   try rw[iz]
   clear hv2 iz;refine bW hK vE fun Q4=>?_
   clear hK K;exact acK
  obtain⟨v1,ko⟩:=ae (wd.alloc (.cells #[.int .u32 0,.int .i64 0,.int .i64 0,.int .u32 0,.int .i64 0,.int .i64 0,.int .i64 0] 108));obtain⟨xa,iz⟩:=ae wd.heap.size;have hb:=aL ko;have iU:=aa (show bC aB v1 e q wt es from ma.o.ak hb);have kY:=aa (show aG v1 xq 41 (cZ rq)from kG.o.ai hb);have iK:=aa (show aI (fun k=>aB k≠0) w v1 from kj.o.ak hb);have af9:=aa (aK ko iz);have HW9:=aa (show w.heap.size≤xa from by rw[←iz];exact kj.o.size);have qK:=aa (show xq<xa from AV);clear hb;go_simp;go_wp2_with fail;try rw[ko]
  try rw[iz]
  clear ko iz;refine bW hK Bd fun hh1=>?_
  clear hK K;refine cG 5 fun K hK=>?_
  go_simp;refine(HAN.o _ iU.o.rest.book).mono ?_;rintro en v2 ⟨rfl,cL,ht⟩;rw[RT.o];have eI:=aa (iU.o.asked cL ht);have fY:=aa (ht.arr kY.o (fun c=>xd));have eW:=aa (iK.o.trans (ht.mono fun k _ hk=>oz));have YA:=aa (ht.arr af9.o (fun c=>by have:=(HN.o _ HW9.o).1;rw[this] at c;exact absurd c aN));clear cL ht;go_wp2_with fail;refine bW hK vE fun Q4=>?_
  clear hK K;refine SX 6 7 8 ?_;exact acK
 case rest=>
  obtain⟨xa,rfl,hA,hE,hT⟩:=hcut;have HA:=aa hA;have HE:=aa hE;have HT:=aa hT;clear hA hE hT vA vz;have HF:=aa (show ∀ g c,g=wc.heap.size→eX aB e q [dZ es.bk rq] es w (.returned (.slice (some ⟨g,0,none⟩) 1 c)) (wc.alloc (.cells (iW Xk) 108))from fun g c hg=>by
   rw[RT.o];refine eX.one HE.o (fun k hk=>.inl hk) HT.o (fun _=>⟨g,0,rfl,by rw[hg];simp,fun i hi j u hj=>?_⟩) (ax (au _ _) _);have h0:i=0:=AK;subst h0;have:=(aG.fresh wc 108 (iW Xk)).cell j;simp only[Nat.zero_mul,gX];rw[hg];refine this.trans ?_;simpa using hj)
  go_wp2_with (refine aC rfl 108 (.tmp 5) rfl xa 108 #[.int .u32 Xk.tag,.int .i64 Xk.ay,.int .i64 Xk.err,.int .u32 Xk.id,.int .i64 Xk.aw,.int .i64 Xk.aS,.int .i64 Xk.count] HA.o rfl _ dJ rfl aR ?_);go_ret;exact HF.o _ _ rfl
