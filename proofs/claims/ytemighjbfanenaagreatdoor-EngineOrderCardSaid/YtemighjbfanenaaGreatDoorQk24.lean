import Derived.Deep.CutBlock
import Derived.Test.YtemighjbfanenaaGreatDoorQk31
set_option linter.all false
set_option maxRecDepth 100000
set_option maxHeartbeats 16000000
namespace Go.Proofs.YtemighjbfanenaaGreatDoor
open RowKit
open Oc (Bs mL le qV val)
open Eg (ia jv jF LR)
open Cr (cj)
open Bk (fL)
open En (yQ dI Rec Rq jU zb dW aS aH lf bt cS)
open Go.Act renaming eval→abt
open Go.Proofs.Tryz renaming prog→af,underlying108→eA,underlying41→cD,underlying38→abu,underlying66→abr
open Go.Value renaming slice→jl,oneCell'→fY
open Go.WalkArith renaming wf_i64→lM
open List renaming getElem?_eq_getElem→bY,getD_eq_getElem?_getD→bR,getElem?_eq_none→gW
open Nat renaming zero_add→gV,le_of_eq→po,lt_of_lt_of_le→aU,le_trans→aV
open RowKit.Below renaming refl→ar
theorem On{p:Prop}(h:p:=by
 try simp only[aZ]
 refine fc 7 (some 34) hHeld 41 (.tmp 5) xq 0 (cS (bK b).1).toList _ (fun w' h=>h.2.2.1) cD rfl aH ?_;try simp only[aZ]
 refine cJ 8 fun K hK=>?_
 go_simp;refine(HC.o _ (av dV.o Zm.o)).mono ?_;rintro en w4 ⟨⟨A',c',rfl,h5⟩,h6,⟨T,h7,h8⟩,h9,h10⟩;have HH:=aa (show ∃ A'' c'',jl A' l.length c'= .slice A'' l.length c''∧R4 w4 A'' l∧R w4 from⟨A',c',rfl,h5,h6⟩);have hq4:aG w4 xq 41 (cS (bK b).1):=h7.arr (jy.o.ah Zm.o) (fun hx=>ad4);have gj:=aa (show w4.cell? ⟨e,6,none⟩=some (.map (some mb))∧w4.cell? ⟨xq,0,none⟩=some (.int .i64 (bK b).1.ax)∧w4.rangeAt xq 0 (cS (bK b).1).toList∧jv w4 mb (jF e)from⟨h9,hq4.cell 0,fun j u hj=>ad9,h10⟩);clear h5 h6 h7 h8 h9 h10 hq4;go_wp2_with fail;refine bW hK (by exact gj.o) fun hH8=>?_
 clear hK K;refine ty 9 ?_;refine bM ?_;go_wp2_with fail;go_meet;exact HH.o):p:=h
theorem acA{p:Prop}(h:p:=by
 refine cJ 10 fun K hK=>?_
 refine cW 108 _ _ rfl xa 108 _ (lf Xc) Ys.o rfl rfl rfl aS vu ?_;intro v3 dG hg gJ;have jI:=HW9.o;have dY:=aa (show bD aB v3 e q wt es from eH.o.grown hg jI HN.o);have fH:=aa (show aG v3 xq 41 (cS rq)from gi.o.bz hg (fun e=>abI));have eX:=aa (show aI (fun k=>aB k≠0) w v3 from vy eY.o hg jI);have afY:=aa dG;clear dG hg gJ jI;refine bW hK pH fun Ko=>?_
 clear hK K;refine ty 11 ?_;refine bM ?_;go_wp2_with fail;go_meet;exact⟨xa,rfl,afY.o,dY.o,eX.o⟩):p:=h
theorem Om{p:Prop}(h:p:=by
 intro w' hSw;have h7:=fB.agC (z:=.nilFunc) hSw.2.2.2 abu abr bh (i:=(bK b).1.ax) (lM AE);rw[HF.o] at h7;simp[execOp,h7,abt]):p:=h
theorem ach{p:Prop}(h:p:=by
 all_goals(refine bodyPost_ret (results_cell_tmp Tryz.results209 _ iI (aL 108 HAZ.o _ eA rfl aS)) rfl ?_;refine⟨by rw[RG.o];rfl,nQ HBZ.o Yc.o (fun k hk e=>oT.o k AF hk),HTZ.o.grown Yc.o (fun k e=>adV)⟩)):p:=h
theorem Ve{p:Prop}(h:p:=by
 exact h9.mono fun e w' h=>⟨h.1,by obtain⟨x,hx⟩:=hW;exact⟨x,hx.ak h.2⟩,aI.aW h.2⟩):p:=h
theorem wR{p:Prop}(h:p:=by have:=(HN.o xq tj.o.1).1;rw[this] at c;exact absurd c (by decide)):p:=h
theorem pH{p:Prop}(h:p:=by exact fX.o _ dY.o fH.o):p:=h
theorem oA{p:Prop}(h:p:=by show aB k≠0;rw[hk];decide):p:=h
theorem SU{p:Prop}(h:p:=by intro u hu;simp at hu;rcases hu with rfl|rfl|rfl|rfl|rfl|rfl|rfl <;>rfl):p:=h
theorem vt{p:Prop}(h:p:=by exact fX.o _ eH.o gi.o):p:=h
theorem abI{p:Prop}(h:p:=by injection e with e;have:=qF.o;omega):p:=h
theorem NB{p:Prop}(h:p:=by rw[gV,(jy.o.ah hW).cell j];simpa using hj):p:=h
theorem TY{p:Prop}(h:p:=by rw[←Cu];exact En.gS (CF.o) (aI.at w9 x6 2 _) (fun k hk e=>oT.o k (by omega) hk)):p:=h
theorem TU{p:Prop}(h:p:=by rw[←Cu];exact Ef.o.put (p:=⟨x6,2,none⟩) (.inr (by show w.heap.size≤x6;omega)) _):p:=h
theorem AG{p:Prop}(h:p:=by exact fX.o _ iV.o lj.o):p:=h
theorem ad9{p:Prop}(h:p:=by rw[gV,hq4.cell j];simpa using hj):p:=h
theorem E0{p:Prop}(h:p:=by injection e with e;have:=Ya.o;omega):p:=h
theorem AF{p:Prop}(h:p:=by have:=ze.o;omega):p:=h
theorem TF{p:Prop}(h:p:=by rw[←Cu];exact R7.o.other (p:=⟨x6,2,none⟩) (by show xr≠x6;omega) _):p:=h
theorem TE{p:Prop}(h:p:=by rw[←Cu];exact HK9.o.other (p:=⟨x6,2,none⟩) (by show x7≠x6;omega) _):p:=h
theorem ad4{p:Prop}(h:p:=by have:=h8 _ hx;have:=HXL.o;omega):p:=h
theorem Ll{p:Prop}(h:p:=by injection e with e;exact .inr (by omega)):p:=h
theorem Tu{p:Prop}(h:p:=by rcases k with k|k <;>exact HZ.o xq (by rw[k];decide) rfl):p:=h
theorem Ay{p:Prop}(h:p:=by have:=lj.o.lt;omega):p:=h
theorem Ax{p:Prop}(h:p:=by have:=kJ.o.lt;omega):p:=h
theorem ER{p:Prop}(h:p:=by rw[hwd];exact Rk.o _ Zm.o):p:=h
theorem To{p:Prop}(h:p:=by rcases hk with hk|hk <;>(show aB k≠0;rw[hk];decide)):p:=h
theorem adV{p:Prop}(h:p:=by injection e with e;exact .inr (by have:=ze.o;omega)):p:=h
theorem K4{p:Prop}(h:p:=by rw[←iZ];exact iE.o.size):p:=h
section
namespace En
def adB(l:List Rp)(R:World→Prop)(w:World)(e mb:Nat)(W:World)(en:Ending)(W':World): Prop:=
 (∃ A c,en= .returned (.slice A l.length c)∧R4 W' A l)∧R W'∧(∃ T:Nat→Prop,aI T W W'∧∀ k,T k→k<w.heap.size)∧W'.cell? ⟨e,6,none⟩=some (.map (some mb))∧jv W' mb (jF e)
inductive akW (w:World) (e:Nat) (b:By) (up:Bool) (mp:Value) (l:List Rp) (R:World→Prop):Prop where
 | bad (h:(bK b).2≠0) (hl:l= [⟨0,0,200,0,0,0,0⟩]) (hR: ∀ W,Below w.heap.size w W→R W)
 | idle (h:(bK b).2=0) (hu:up=false) (hl:l= [⟨(bK b).1.tag,(bK b).1.ax,230,0,0,0,0⟩]) (hR: ∀ W,Below w.heap.size w W→R W)
 | does (h:(bK b).2=0) (hu:up=true) (mb f:Nat) (hm:mp= .map (some mb)) (hM:jv w mb (jF e)) (hf:LR (jF e) (bK b).1.ax=some (.func (.func f) #[.pointer (some ⟨e,0,none⟩)] #[]))
  (hC: ∀ W,Below w.heap.size w W→Calls af f #[.pointer (some ⟨e,0,none⟩),.agg (cS (bK b).1)] W (adB l R w e mb W))
theorem Qm: (af.info? 34).map (fun i=>(i.zero,i.size,i.bytes))=some (some (.slice none 0 0),1,24):=bh
theorem LG(b:By)(h:(bK b).2=0): 1≤(bK b).1.ax∧(bK b).1.ax≤10:=by
 unfold bK at h ⊢;split at h
 ·rename_i h1;rw[if_pos h1];have h2:(kv b).1.ax=(NV b).1.ax:=by unfold kv;rw[yA]
  show 1≤(kv b).1.ax∧(kv b).1.ax≤10
  rw[h2];have:=h1.1;simpa[jt] using this
 exact absurd h aM
theorem aax{e f:Nat}{k:Int}(hk:1≤k∧k≤10)(h:LR (jF e) k=some (.func (.func f) #[.pointer (some ⟨e,0,none⟩)] #[])): f=101∨f=99∨f=100∨f=98:=by
 have Hb:k=1∨k=2∨k=3∨k=4∨k=5∨k=6∨k=7∨k=8∨k=9∨k=10:=ai;rcases Hb with rfl|rfl|rfl|rfl|rfl|rfl|rfl|rfl|rfl|rfl <;>simp[LR,jF] at h <;>simp[←h]
theorem Yy{w:World}{e:Nat}{up:Bool}{lg sl bk:Option Addr}{wt mp:Value}(hE:ia w e up lg sl bk wt mp)(b:By)(A:Option Addr)(c:Nat)(hB:Bs w A b)(hA:qV A)(hl:b.length≤70368744177664)(l:List Rp)(R:World→Prop)
  (hR: ∀ W W',R W→Below W.heap.size W W'→R W') (hT: ∀ W,R W→fp W) (hs: ∀ W,R W→w.heap.size≤W.heap.size) (fw: ∀ r∈l,yb r (yT r.ax r.err)) (C7:l.length≤1000) (hW:akW w e b up mp l R) :
  Calls af 12 #[.pointer (some ⟨e,0,none⟩),.slice A b.length c] w (M8 (l.map cN) R w):=by
 have x0:w.cell? ⟨e,0,none⟩=some (.bool true):=hE.cell 0;have HG:=aa (Xo b A c w hB hA hl);have HE:=aa hE;have HR:=aa hR;have HT:=aa hT;have HS:=aa hs;have uk:=aa fw;have HW:=aa hW;clear hE hB hA hl hR hT hs fw hW;go_enter Tryz.func12,Tryz.ntmps12;go_wp2_with fail;refine HG.o.mono ?_;rintro en w1 ⟨rfl,hb1⟩;have bA:=aa hb1;clear hb1 x0;obtain⟨xq,il⟩:=ae w1.heap.size;obtain⟨w2,hw2⟩:=ae (w1.alloc (.cells #[.int .i64 0,.int .u32 0,.int .u32 0,.int .i64 0,.int .i64 0] 41));have jB:=aa (aJ hw2 il);have cu:=aa (aK hw2);have tj:=aa il;go_upto_block 0 with(refine aj rfl 41 _ _ rfl xq 41 _ (cS (bK b).1) jB.o rfl rfl rfl aH KZ ?_;intro w3 dE hg3 hs3;have dV:=aa (av bA.o (show Below w1.heap.size w1 w3 from br cu.o hg3 (po tj.o)));have jy:=aa dE;clear dE hg3 hs3)
 have J':=aa (show ia w3 e up lg sl bk wt mp from aG.ah HE.o dV.o);have HXL:=aa (show w.heap.size≤xq by have:=bA.o.size;have:=tj.o;omega);clear HE HG jB bA cu tj il hw2;go_cut [7] from 27 to 48 (fun s7 wc=>∃ A' c',s7= .slice A' l.length c'∧R4 wc A' l∧R wc)
 case first=>
  rcases HW.o with⟨h1,h2,h3⟩|⟨h1,h2,h3,h4⟩|⟨h1,h2,mb,f,hm,hM,hf,hC⟩
  ·have R2:((bK b).2==0)=false:=beq_eq_false_iff_ne.2 h1;go_wp2_with fail;refine(lB Rq.zero 200 w3).mono ?_;rintro en w4 ⟨A',c',rfl,h5,h6⟩;have HH:=aa (show ∃ A'' c'',jl A' 1 c'= .slice A'' l.length c''∧R4 w4 A'' l∧R w4 from by subst h2;exact⟨A',c',rfl,h5,h3 _ (av dV.o h6)⟩);clear h1 h2 h3 h5 h6 R2;go_wp2_with fail;go_meet;exact HH.o
  ·subst h2;have e1:w3.cell? ⟨e,1,none⟩=some (.bool false):=J'.o.cell 1;have R1:((bK b).2==0)=true:=Aj;have Y':((bK b).2 != 0)=false:=Aj;clear h1;go_wp2_with (refine aC rfl 41 (.tmp 5) rfl xq 41 _ jy.o rfl _ cD rfl aH ?_);refine(lB (bK b).1 230 w3).mono ?_;rintro en w4 ⟨A',c',rfl,h5,h6⟩;have HH:=aa (show ∃ A'' c'',jl A' 1 c'= .slice A'' l.length c''∧R4 w4 A'' l∧R w4 from by subst h3;exact⟨A',c',rfl,h5,h4 _ (av dV.o h6)⟩);clear R1 Y' h3 h4 h5 h6 e1;go_wp2_with fail;go_meet;exact HH.o
  subst h2;subst hm;have e1:w3.cell? ⟨e,1,none⟩=some (.bool true):=J'.o.cell 1;have HM:=aa hM;have HC:=aa hC;have HF:=aa hf;have HK:=aa (LG b h1);have R1:((bK b).2==0)=true:=Aj;have Y':((bK b).2 != 0)=false:=Aj;clear hM hC hf h1;rcases aax HK.o HF.o with rfl|rfl|rfl|rfl
  ·go_upto_region 5 with fail
   clear e1 R1 Y';obtain⟨wd,hwd⟩:=ae w3.drew;have Zm:=aa (show Below w3.heap.size w3 wd from mU);have Rk:=aa (show ∀ W,Below w3.heap.size w3 W→W.cell? ⟨e,6,none⟩=some (.map (some mb))∧W.cell? ⟨xq,0,none⟩=some (.int .i64 (bK b).1.ax)∧W.rangeAt xq 0 (cS (bK b).1).toList∧jv W mb (jF e)from fun W hW=>⟨(J'.o.ah hW).cell 6,(jy.o.ah hW).cell 0,fun j u hj=>NB,(HM.o.ah dV.o).ah hW⟩);refine wp_region_held_drew (S:=fun w'=>w'.cell? ⟨e,6,none⟩=some (.map (some mb))∧w'.cell? ⟨xq,0,none⟩=some (.int .i64 (bK b).1.ax)∧w'.rangeAt xq 0 (cS (bK b).1).toList∧jv w' mb (jF e)) bh ER (fun hHeld=>?_);rw[hwd] at hHeld ⊢;refine cV 0 (some 27) hHeld ?_;refine cV 1 (some 28) hHeld ?_;refine cV 2 (some 29) hHeld ?_;refine cV 3 (some 30) hHeld ?_;refine cV 4 (some 31) hHeld ?_;refine ty 5 ?_;refine pJ (i:=6) (oi:=?o61) (d:=some 33) (v:=.func (.func 101) #[.pointer (some ⟨e,0,none⟩)] #[]) ?akx bh bh bh (fun _ _ _ h=>h) ?akF ?aj6 ?aj2 hHeld ?_
   case akx=>(simp only[nL];exact rfl)
   case akF=>rfl
   case aj6=>rfl
   case aj2=>
    exact Om
   exact On
  ·go_upto_region 5 with fail
   clear e1 R1 Y';obtain⟨wd,hwd⟩:=ae w3.drew;have Zm:=aa (show Below w3.heap.size w3 wd from mU);have Rk:=aa (show ∀ W,Below w3.heap.size w3 W→W.cell? ⟨e,6,none⟩=some (.map (some mb))∧W.cell? ⟨xq,0,none⟩=some (.int .i64 (bK b).1.ax)∧W.rangeAt xq 0 (cS (bK b).1).toList∧jv W mb (jF e)from fun W hW=>⟨(J'.o.ah hW).cell 6,(jy.o.ah hW).cell 0,fun j u hj=>NB,(HM.o.ah dV.o).ah hW⟩);refine wp_region_held_drew (S:=fun w'=>w'.cell? ⟨e,6,none⟩=some (.map (some mb))∧w'.cell? ⟨xq,0,none⟩=some (.int .i64 (bK b).1.ax)∧w'.rangeAt xq 0 (cS (bK b).1).toList∧jv w' mb (jF e)) bh ER (fun hHeld=>?_);rw[hwd] at hHeld ⊢;refine cV 0 (some 27) hHeld ?_;refine cV 1 (some 28) hHeld ?_;refine cV 2 (some 29) hHeld ?_;refine cV 3 (some 30) hHeld ?_;refine cV 4 (some 31) hHeld ?_;refine ty 5 ?_;refine pJ (i:=6) (oi:=?o62) (d:=some 33) (v:=.func (.func 99) #[.pointer (some ⟨e,0,none⟩)] #[]) ?akw bh bh bh (fun _ _ _ h=>h) ?akE ?aj5 ?aj1 hHeld ?_
   case akw=>(simp only[nL];exact rfl)
   case akE=>rfl
   case aj5=>rfl
   case aj1=>
    exact Om
   exact On
  ·go_upto_region 5 with fail
   clear e1 R1 Y';obtain⟨wd,hwd⟩:=ae w3.drew;have Zm:=aa (show Below w3.heap.size w3 wd from mU);have Rk:=aa (show ∀ W,Below w3.heap.size w3 W→W.cell? ⟨e,6,none⟩=some (.map (some mb))∧W.cell? ⟨xq,0,none⟩=some (.int .i64 (bK b).1.ax)∧W.rangeAt xq 0 (cS (bK b).1).toList∧jv W mb (jF e)from fun W hW=>⟨(J'.o.ah hW).cell 6,(jy.o.ah hW).cell 0,fun j u hj=>NB,(HM.o.ah dV.o).ah hW⟩);refine wp_region_held_drew (S:=fun w'=>w'.cell? ⟨e,6,none⟩=some (.map (some mb))∧w'.cell? ⟨xq,0,none⟩=some (.int .i64 (bK b).1.ax)∧w'.rangeAt xq 0 (cS (bK b).1).toList∧jv w' mb (jF e)) bh ER (fun hHeld=>?_);rw[hwd] at hHeld ⊢;refine cV 0 (some 27) hHeld ?_;refine cV 1 (some 28) hHeld ?_;refine cV 2 (some 29) hHeld ?_;refine cV 3 (some 30) hHeld ?_;refine cV 4 (some 31) hHeld ?_;refine ty 5 ?_;refine pJ (i:=6) (oi:=?o63) (d:=some 33) (v:=.func (.func 100) #[.pointer (some ⟨e,0,none⟩)] #[]) ?akv bh bh bh (fun _ _ _ h=>h) ?akD ?aj4 ?aj0 hHeld ?_
   case akv=>(simp only[nL];exact rfl)
   case akD=>rfl
   case aj4=>rfl
   case aj0=>
    exact Om
   exact On
  go_upto_region 5 with fail
  clear e1 R1 Y';obtain⟨wd,hwd⟩:=ae w3.drew;have Zm:=aa (show Below w3.heap.size w3 wd from mU);have Rk:=aa (show ∀ W,Below w3.heap.size w3 W→W.cell? ⟨e,6,none⟩=some (.map (some mb))∧W.cell? ⟨xq,0,none⟩=some (.int .i64 (bK b).1.ax)∧W.rangeAt xq 0 (cS (bK b).1).toList∧jv W mb (jF e)from fun W hW=>⟨(J'.o.ah hW).cell 6,(jy.o.ah hW).cell 0,fun j u hj=>NB,(HM.o.ah dV.o).ah hW⟩);refine wp_region_held_drew (S:=fun w'=>w'.cell? ⟨e,6,none⟩=some (.map (some mb))∧w'.cell? ⟨xq,0,none⟩=some (.int .i64 (bK b).1.ax)∧w'.rangeAt xq 0 (cS (bK b).1).toList∧jv w' mb (jF e)) bh ER (fun hHeld=>?_);rw[hwd] at hHeld ⊢;refine cV 0 (some 27) hHeld ?_;refine cV 1 (some 28) hHeld ?_;refine cV 2 (some 29) hHeld ?_;refine cV 3 (some 30) hHeld ?_;refine cV 4 (some 31) hHeld ?_;refine ty 5 ?_;refine pJ (i:=6) (oi:=?o64) (d:=some 33) (v:=.func (.func 98) #[.pointer (some ⟨e,0,none⟩)] #[]) ?aku bh bh bh (fun _ _ _ h=>h) ?akC ?aj3 ?ajZ hHeld ?_
  case aku=>(simp only[nL];exact rfl)
  case akC=>rfl
  case aj3=>rfl
  case ajZ=>
   exact Om
  exact On
 case rest=>
  obtain⟨Ar,cr,rfl,hr,hRc⟩:=hcut;obtain⟨j0,hj,hz0,hz1,hz2⟩:=info_parts Qm;have HRc:=aa hRc;have HZc:=aa (HS.o wc hRc);have ale:=aa hr;clear hRc HW hr;go_wp2_with fail;go_loopw [8,51] (fun v8 i wr=>∃ (j:Nat) (G C:Nat→Nat),j≤l.length∧i= .int .i64 j∧kG wc.heap.size wr v8 ((l.take j).map cN) G C∧Below wc.heap.size wc wr) (fun _ i _=>(l.length - intOf i).toNat)
  case atStart=>exact⟨0,fun _=>0,fun _=>0,Nat.zero_le _,rfl,kG.nil _ _,ar _ _⟩
  case round=>
   obtain⟨j,G,C,V3,rfl,hO,hbr⟩:=hrel;have hr:=ale.o.ah hbr;have hRr:=HR.o _ _ HRc.o hbr;by_cases h2:j<l.length
   ·have Yn:=aa hbr;obtain⟨g,off,rfl,pU,hcell⟩:=hr (fun h0=>by rw[h0] at h2;simp at h2);have Y9:(j:Int)<l.length:=ai;obtain⟨r,Z7⟩:=ae (l[j]);have M1:=aa (hcell j h2);have HRK:=aa (uk.o r (by rw[←Z7];exact List.getElem_mem h2));rw[Z7] at M1;have wj:=aa Z7;have HO:=aa hO;have HRr:=aa hRr;have HJ:=aa h2;clear hcell hO hRr hbr pU Z7 hr;obtain⟨xb,yX⟩:=ae wr.heap.size;obtain⟨w4,hw4⟩:=ae (wr.alloc (.cells #[.int .u32 0,.int .i64 0,.int .i64 0,.int .u32 0,.int .i64 0,.int .i64 0,.int .i64 0] 108));have pB:=aa (aJ hw4 yX);have gj:=aa (aK hw4);have qF:=aa yX;go_wp2_with (first|(refine wpList_load_mid rfl 108 (.tmp 53) rfl g (off+j*7) rfl (lf r).toList _ M1.o eA rfl aS ?_)|(refine aj rfl 108 (.tmp 10) _ rfl xb 108 _ (lf r) pB.o rfl rfl rfl aS vu ?_;intro w5 gB fF hs5;have eu:=aa (show Below wr.heap.size wr w5 from br gj.o fF (po qF.o));have pj:=aa gB;clear gB fF hs5)|(refine aC rfl 108 (.tmp 10) rfl xb 108 _ pj.o rfl _ eA rfl aS ?_));refine(Xs r w5 (HT.o _ (HR.o _ _ HRr.o eu.o)) HRK.o).mono ?_;rintro en w6 ⟨A2,c2,rfl,hG2,hc2,mZ⟩;obtain⟨g2,rfl,hg2,ahL⟩:=hG2 (fun h0=>by have:=(yB r).1;rw[h0] at this;simp at this);have iL:=eu.dQ mZ;have yc:=aa (show wr.heap.size≤g2∧mL w6 g2 (cN r) c2∧(cN r).length≤c2 from⟨by have:=eu.o.size;omega,ahL,hc2⟩);have HLJ:=aa (show((l.take j).map cN).length=j by have:=HJ.o;simp;omega);have HO6:=aa (HO.o.ah (ay iL.o (.cells #[.slice (some ⟨g2,0,none⟩) (cN r).length c2] 34)));clear hG2 hc2 hg2 ahL mZ;go_wp2_with (refine gM _ rfl (.tmp 60) (.tmp 62) 33 rfl 34 j0 (.slice none 0 0) 1 24 Tryz.underlying33 hj hz0 hz1 hz2 rfl aM u8 ((l.take j).map cN).length _ rfl HO6.o.row ⟨w6.heap.size,0,none⟩ 1 [.slice (some ⟨g2,0,none⟩) (cN r).length c2] rfl rfl (iQ w6 _ _) EY (by have:=HLJ.o;unfold maxLen;omega) (by have:=HLJ.o;omega) ?_;intro ga ca w8 hr8 V6;have HN8:=aa (show aP _ w8 _ _ _ _ _∧(w6.alloc (.cells #[.slice (some ⟨g2,0,none⟩) (cN r).length c2] 34)).grownBy w8 u8.ownBlock from⟨hr8,V6⟩);clear hr8 V6);go_roundw
    case rel=>
     have su:=ay iL.o (.cells #[.slice (some ⟨g2,0,none⟩) (cN r).length c2] 34);have ho8:=HO.o.snoc (x:=cN r) (g2:=g2) (c2:=c2) (ga:=ga) (ca:=ca) su (yc.o.2.1.same (Below.heap_alloc w6 _ _ yc.o.2.1.lt)) yc.o.1 Yn.o.size yc.o.2.2 HN8.o.1 HN8.o.2;have hl8:(l.take (j+1)).map cN=(l.take j).map cN++ [cN r]:=by rw[List.take_add_one,bY HJ.o,wj.o];simp
     rw[←hl8,HLJ.o] at ho8;exact⟨j+1,_,_,HJ.o,by go_num,ho8,(av Yn.o su).grown HN8.o.2 (av Yn.o su).size (fun k e=>HO.o.new k e)⟩
    case measure=>simp[intOf];omega
   obtain rfl:j=l.length:=ai;rw[List.take_length] at hO;have HF:=aa (show M8 (l.map cN) R w (.returned u8) wr from⟨u8,G,C,wc,rfl,hO,HZc.o,HRc.o,hbr⟩);clear hO hr hRr hbr;go_wp2_with fail;go_ret;exact HF.o
end En
end
section
namespace En
structure rB where
 lq:Nat
 rl:Nat
 sl:Nat
 ra:Nat
 rb:Nat
 p:Nat
 bk:Nat
 mb:Nat
def Rp.none: Rp:=⟨0,0,0,0,0,0,0⟩
def yU(l:List Rp)(i:Nat): List Value:=(lf (l.getD i Rp.none)).toList
theorem Fm(l:List Rp)(i:Nat): (yU l i).length=7:=rfl
theorem Ix(l:List Rp)(x:Rp): cK (yU l) l.length (lf x).toList=yU (l++ [x]):=by
 funext i;unfold cK yU;by_cases h:i=l.length
 ·subst h;simp
 rw[if_neg h];simp only[bR];rcases Nat.lt_or_ge i l.length with h1|h1
 ·rw[List.getElem?_append_left h1]
 rw[gW h1,gW fZ]
theorem gS{S T:Nat→Prop}{w w':World}{b:Nat}{bk:dI}(h:fL S w b bk)(ht:aI T w w')(hd: ∀ k,S k→¬T k): fL S w' b bk:=by
 obtain⟨x,hx⟩:=h;exact⟨x,⟨hx.bg.same ht.size fun k hk hl=>ht.block k hl (hd k hk),hx.bits,hx.cw,hx.under,hx.listed,hx.small,hx.qo⟩⟩
structure di(aB:Nat→Nat)(w:World)(e:Nat)(q:rB)(es:Es): Prop where
 does:jv w q.mb (jF e)
 log:uR q.lq q.rl q.p es.log es.rg es.dev.dk.size (fun k=>aB k=1) w
 dev:dB q.p es.dev (fun k=>aB k=2) w
 book:fL (fun k=>aB k=3) w q.bk es.bk
 slots:qC w q.sl q.ra q.rb q.p es.sl es.dev.dk.size
 r5:aB e=5
 r6:aB q.mb=6
 r7:aB q.sl=7∧aB q.ra=7∧aB q.rb=7
 lt: ∀ k,aB k≠0→k<w.heap.size
 ij:cj w
 rep:fp w
 kW:aB 1=0∧aB 0=0
structure bD(aB:Nat→Nat)(w:World)(e:Nat)(q:rB)(wt:Value)(es:Es): Prop where
 rest:di aB w e q es
 own:ia w e es.up (some ⟨q.lq,0,none⟩) (some ⟨q.sl,0,none⟩) (some ⟨q.bk,0,none⟩) wt (.map (some q.mb))
 aD:aP (fun k=>aB k=4) w 108 7 wt es.aD.length (yU es.aD)
def grow(aB:Nat→Nat)(w w':World)(r:Nat): Nat→Nat:=fun k=>if k<w.heap.size then aB k else if k<w'.heap.size then r else 0
section
variable {aB:Nat→Nat}{w w':World}{e:Nat}{q:rB}{wt:Value}{es:Es}
variable{r:Nat}
theorem xR(hlt: ∀ k,aB k≠0→k<w.heap.size)(hz:w.heap.size≤w'.heap.size)(hr:r≠0): (fun k=>grow aB w w' r k=r)=Gr (fun k=>aB k=r) w w':=by
 funext k;unfold grow Gr;apply propext;by_cases h1:k<w.heap.size
 ·rw[if_pos h1];constructor
  ·exact fun h=>.inl h
  rintro(h|h);exact h;omega
 rw[if_neg h1];by_cases h2:k<w'.heap.size
 ·rw[if_pos h2];exact⟨fun _=>.inr ⟨ai,h2⟩,fun _=>rfl⟩
 rw[if_neg h2];constructor
 ·exact fun h=>absurd h.symm hr
 rintro(h|h)
 ·exact absurd (hlt k (by rw[h];exact hr)) h1
 omega
theorem gP{s:Nat} (hlt: ∀ k,aB k≠0→k<w.heap.size)(hs:s≠0)(hrs:s≠r): (fun k=>grow aB w w' r k=s)=(fun k=>aB k=s):=by
 funext k;unfold grow;apply propext;by_cases h1:k<w.heap.size
 ·rw[if_pos h1]
 rw[if_neg h1];have h0: ¬aB k=s:=fun h=>h1 (hlt k (by rw[h];exact hs))
 by_cases h2:k<w'.heap.size
 ·rw[if_pos h2];exact⟨fun h=>absurd h.symm hrs,fun h=>absurd h h0⟩
 rw[if_neg h2];exact⟨fun h=>absurd h.symm hs,fun h=>absurd h h0⟩
theorem dH{k:Nat} (h:k<w.heap.size): grow aB w w' r k=aB k:=if_pos h
theorem zz(hlt: ∀ k,aB k≠0→k<w.heap.size)(hz:w.heap.size≤w'.heap.size): ∀ k,grow aB w w' r k≠0→k<w'.heap.size:=fun k hk=>by
 unfold grow at hk;by_cases h1:k<w.heap.size
 ·omega
 rw[if_neg h1] at hk;by_cases h2:k<w'.heap.size
 ·exact h2
 rw[if_neg h2] at hk;exact absurd rfl hk
theorem iR: ∀ k,grow aB w w' r k≠0→aB k≠0∨w.heap.size≤k:=fun k hk=>by
 unfold grow at hk;by_cases h1:k<w.heap.size
 ·rw[if_pos h1] at hk;exact .inl hk
 exact .inr ai
theorem di.ak(h:di aB w e q es)(hb:Below w.heap.size w w'): di aB w' e q es:=
 ⟨h.does.ah hb,(cI ..).ak h.log hb,(aF ..).ak h.dev hb,by obtain⟨x,hx⟩:=h.book;exact⟨x,hx.ak hb⟩,h.slots.ah hb,h.r5,h.r6,h.r7,fun k hk=>aU (h.lt k hk) hb.size,h.ij.ah hb,h.rep.ah hb,h.kW⟩
theorem bD.ak(h:bD aB w e q wt es)(hb:Below w.heap.size w w'): bD aB w' e q wt es:=⟨h.rest.ak hb,aG.ah h.own hb,h.aD.ah hb⟩
theorem di.cR(h:di aB w e q es)(ht:aI (fun k=>aB k=4∨aB k=5) w w'): di aB w' e q es:=by
 have no: ∀ {k r:Nat},aB k=r→r≠4→r≠5→¬(aB k=4∨aB k=5):=fun h a b c=>by
  rcases c with c|c
  ·exact a (h.symm.trans c)
  exact b (h.symm.trans c)
 refine⟨?_,(cI ..).cR h.log ht (fun k hk=>no hk aM aM),(aF ..).cR h.dev ht (fun k hk=>no hk aM aM),?_,h.slots.cR ht (no h.r7.1 aM aM) (no h.r7.2.1 aM aM) (no h.r7.2.2 aM aM),h.r5,h.r6,h.r7,fun k hk=>aU (h.lt k hk) ht.size,
  h.ij.cR ht (no h.kW.1 aM aM),h.rep.cR ht (no h.kW.2 aM aM),h.kW⟩
 ·exact h.does.same (ht.block _ h.does.lt (no h.r6 aM aM))
 exact gS h.book ht (fun k hk=>no hk aM aM)
theorem di.flush(h:di aB w e q es){l:Lg}{d:bJ}(hz:d.dk.size=es.dev.dk.size)(hl:uR q.lq q.rl q.p l es.rg es.dev.dk.size (fun k=>aB k=1) w')(hd:dB q.p d (Gr (fun k=>aB k=2) w w') w')(ht:aI (fun k=>aB k=1∨aB k=2) w w'):
  di (grow aB w w' 2) w' e q {es with log:=l,dev:=d}:=by
 have no: ∀ {k r:Nat},aB k=r→r≠1→r≠2→¬(aB k=1∨aB k=2):=fun h a b c=>by
  rcases c with c|c
  ·exact a (h.symm.trans c)
  exact b (h.symm.trans c)
 have e1:=gP (w':=w') (r:=2) (s:=1) h.lt aM aM;have e2:=xR (w':=w') (r:=2) h.lt ht.size aM;have e3:=gP (w':=w') (r:=2) (s:=3) h.lt aM aM;have o: ∀ {k r:Nat},aB k=r→r≠0→grow aB w w' 2 k=r:=fun hk hr=>(dH (h.lt _ (by rw[hk];exact hr))).trans hk
 refine⟨?_,?_,?_,?_,?_,o h.r5 aM,o h.r6 aM,⟨o h.r7.1 aM,o h.r7.2.1 aM,o h.r7.2.2 aM⟩,zz h.lt ht.size,h.ij.cR ht (no h.kW.1 aM aM),h.rep.cR ht (no h.kW.2 aM aM),⟨(dH h.ij.lt).trans h.kW.1,(dH h.rep.lt).trans h.kW.2⟩⟩
 ·exact h.does.same (ht.block _ h.does.lt (no h.r6 aM aM))
 ·show uR q.lq q.rl q.p l es.rg d.dk.size _ w'
  rw[e1,hz];exact hl
 ·show dB q.p d _ w'
  rw[e2];exact hd
 ·rw[e3];exact gS h.book ht (fun k hk=>no hk aM aM)
 ·show qC w' q.sl q.ra q.rb q.p es.sl d.dk.size
  rw[hz];exact h.slots.cR ht (no h.r7.1 aM aM) (no h.r7.2.1 aM aM) (no h.r7.2.2 aM aM)
theorem di.append(h:di aB w e q es){l:Lg}(hl:uR q.lq q.rl q.p l es.rg es.dev.dk.size (Gr (fun k=>aB k=1) w w') w')(ht:aI (fun k=>aB k=1) w w'): di (grow aB w w' 1) w' e q {es with log:=l}:=by
 have no: ∀ {k r:Nat},aB k=r→r≠1→¬(aB k=1):=fun h a c=>a (h.symm.trans c)
 have e1:=xR (w':=w') (r:=1) h.lt ht.size aM;have e2:=gP (w':=w') (r:=1) (s:=2) h.lt aM aM;have e3:=gP (w':=w') (r:=1) (s:=3) h.lt aM aM;have o: ∀ {k r:Nat},aB k=r→r≠0→grow aB w w' 1 k=r:=fun hk hr=>(dH (h.lt _ (by rw[hk];exact hr))).trans hk
 refine⟨?_,?_,?_,?_,?_,o h.r5 aM,o h.r6 aM,⟨o h.r7.1 aM,o h.r7.2.1 aM,o h.r7.2.2 aM⟩,zz h.lt ht.size,h.ij.cR ht (no h.kW.1 aM),h.rep.cR ht (no h.kW.2 aM),⟨(dH h.ij.lt).trans h.kW.1,(dH h.rep.lt).trans h.kW.2⟩⟩
 ·exact h.does.same (ht.block _ h.does.lt (no h.r6 aM))
 ·show uR q.lq q.rl q.p l es.rg es.dev.dk.size _ w'
  rw[e1];exact hl
 ·rw[e2];exact(aF ..).cR h.dev ht (fun k hk=>no hk aM)
 ·rw[e3];exact gS h.book ht (fun k hk=>no hk aM)
 exact h.slots.cR ht (no h.r7.1 aM) (no h.r7.2.1 aM) (no h.r7.2.2 aM)
theorem di.apply(h:di aB w e q es){b:dI}(hb:fL (Gr (fun k=>aB k=3) w w') w' q.bk b)(ht:aI (fun k=>aB k=3) w w'): di (grow aB w w' 3) w' e q {es with bk:=b}:=by
 have no: ∀ {k r:Nat},aB k=r→r≠3→¬(aB k=3):=fun h a c=>a (h.symm.trans c)
 have e1:=gP (w':=w') (r:=3) (s:=1) h.lt aM aM;have e2:=gP (w':=w') (r:=3) (s:=2) h.lt aM aM;have e3:=xR (w':=w') (r:=3) h.lt ht.size aM;have o: ∀ {k r:Nat},aB k=r→r≠0→grow aB w w' 3 k=r:=fun hk hr=>(dH (h.lt _ (by rw[hk];exact hr))).trans hk
 refine⟨?_,?_,?_,?_,?_,o h.r5 aM,o h.r6 aM,⟨o h.r7.1 aM,o h.r7.2.1 aM,o h.r7.2.2 aM⟩,zz h.lt ht.size,h.ij.cR ht (no h.kW.1 aM),h.rep.cR ht (no h.kW.2 aM),⟨(dH h.ij.lt).trans h.kW.1,(dH h.rep.lt).trans h.kW.2⟩⟩
 ·exact h.does.same (ht.block _ h.does.lt (no h.r6 aM))
 ·rw[e1];exact(cI ..).cR h.log ht (fun k hk=>no hk aM)
 ·rw[e2];exact(aF ..).cR h.dev ht (fun k hk=>no hk aM)
 ·rw[e3];exact hb
 exact h.slots.cR ht (no h.r7.1 aM) (no h.r7.2.1 aM) (no h.r7.2.2 aM)
theorem di.asked(h:di aB w e q es)(hb:fL (fun k=>aB k=3) w' q.bk es.bk)(ht:aI (fun k=>aB k=3) w w'): di aB w' e q es:=by
 have no: ∀ {k r:Nat},aB k=r→r≠3→¬(aB k=3):=fun h a c=>a (h.symm.trans c)
 refine⟨?_,(cI ..).cR h.log ht (fun k hk=>no hk aM),(aF ..).cR h.dev ht (fun k hk=>no hk aM),hb,h.slots.cR ht (no h.r7.1 aM) (no h.r7.2.1 aM) (no h.r7.2.2 aM),h.r5,h.r6,h.r7,fun k hk=>aU (h.lt k hk) ht.size,h.ij.cR ht (no h.kW.1 aM),h.rep.cR ht (no h.kW.2 aM),h.kW⟩;exact h.does.same (ht.block _ h.does.lt (no h.r6 aM))
theorem di.save(h:di aB w e q es){d:bJ}(hz:d.dk.size=es.dev.dk.size)(hd:dB q.p d (Gr (fun k=>aB k=2) w w') w')(ht:aI (fun k=>aB k=2) w w'): di (grow aB w w' 2) w' e q {es with dev:=d}:=
 h.flush (l:=es.log) hz ((cI ..).cR h.log ht (fun k hk c=>by rw[hk] at c;exact absurd c aM)) hd (ht.mono fun k _ hk=>.inr hk)
theorem di.reset(h:di aB w e q es){l:Lg}(hl:uR q.lq q.rl q.p l es.rg es.dev.dk.size (fun k=>aB k=1) w')(ht:aI (· =q.lq) w w'): di aB w' e q {es with log:=l}:=by
 obtain⟨v,hv⟩:=h.log;have hq:aB q.lq=1:=hv.bB.1;have no: ∀ {k r:Nat},aB k=r→r≠1→¬(k=q.lq):=fun h a c=>by rw[c,hq] at h;exact a h.symm
 refine⟨?_,hl,(aF ..).cR h.dev ht (fun k hk=>no hk aM),?_,h.slots.cR ht (no h.r7.1 aM) (no h.r7.2.1 aM) (no h.r7.2.2 aM),h.r5,h.r6,h.r7,fun k hk=>aU (h.lt k hk) ht.size,h.ij.cR ht (no h.kW.1 aM),h.rep.cR ht (no h.kW.2 aM),h.kW⟩
 ·exact h.does.same (ht.block _ h.does.lt (no h.r6 aM))
 exact gS h.book ht (fun k hk=>no hk aM)
theorem bD.keeps{eN:Nat→Nat}{es':Es}{T:Nat→Prop}(h:bD aB w e q wt es)(hr:di eN w' e q es')(hu:es'.up=es.up)(hw:es'.aD=es.aD)(ht:aI T w w')(hT: ∀ k,T k→aB k≠4∧aB k≠5)(h4: ∀ k,aB k=4→eN k=4): bD eN w' e q wt es':=by
 refine⟨hr,?_,?_⟩
 ·rw[hu];exact ht.arr h.own (fun c=>(hT e c).2 h.rest.r5)
 rw[hw];exact(h.aD.same fun k hk hl=>ht.block k hl (fun c=>(hT k c).1 hk)).mono fun k hk _=>h4 k hk
theorem nt(hlt: ∀ k,aB k≠0→k<w.heap.size): ∀ k,aB k=4→grow aB w w' r k=4:=fun k hk=>(dH (hlt k (by rw[hk];decide))).trans hk
end
end En
end
section
namespace Bk
open En (Rp)
def H7(o:Option bS): bS:=o.getD ⟨0,0,0⟩
theorem Hz(o:Option bS)(er:Int): pE o er= .tuple #[.agg #[.int .u32 (H7 o).id,.int .i64 ((H7 o).aw:Int),.int .i64 (H7 o).aR],.int .i64 (if o.isSome then 0 else er)]:=by cases o <;>rfl
def Ki(S:Nat→Prop)(b:Nat)(bk:dI)(q:Rq)(w:World)(e:Ending)(w':World): Prop:=e= .returned (.tuple #[.agg (lf (dW bk q)),.int .i64 0])∧fL S w' b bk∧aI S w w'
theorem Kh(S:Nat→Prop)(w:World)(b:Nat)(bk:dI)(q:Rq)(h:fL S w b bk)(hb:bk.Ok)(hq:q.Good)(C1:zb q)(hk:q.ax=5): Calls af 209 #[.pointer (some ⟨b,0,none⟩),.agg (cS q)] w (Ki S b bk q w):=by
 have i':=aa (show ∀ k,S k→k<w.heap.size from Lc);have fC:=aa (show ∀ W,Below w.heap.size w W→fL S W b bk from fun W hW=>Li);have Hj:=aa (show ∀ W,Below w.heap.size w W→Calls af 38 #[.pointer (some ⟨b,0,none⟩)] W fun e w'=>e= .returned (.agg #[.int .i64 bk.n,.int .i64 bk.au,.int .i64 bk.aA])∧Below W.heap.size W w' from fun W hW=>Lo);obtain⟨o,er,Jk,Jn⟩: ∃ (o:bS) (er:Int),(∀ W,fL S W b bk→Calls af 71 #[.pointer (some ⟨b,0,none⟩),.int .u32 q.id] W fun e w'=>e= .returned (.tuple #[.agg #[.int .u32 o.id,.int .i64 (o.aw:Int),.int .i64 o.aR],.int .i64 er])∧fL S w' b bk∧aI S W w')∧dW bk q=⟨q.tag,5,er,0,o.aw,o.aR,0⟩:=by
  refine⟨H7 (bk.find q.id),if(bk.find q.id).isSome then 0 else 171,fun W hW=>?_,?_⟩
  ·have:=Gn hW q.id hq.id;rw[Hz] at this;exact this
  unfold dW;rw[if_pos hk];cases bk.find q.id with
  | none=>unfold En.cf;rw[hk];rfl
  | some x=>simp only[hk];rfl
 have Yl:=aa Jk;have RG:=aa Jn;have jz:=aa C1;have hnz:((bk.n:Int)==0)=false:=beq_eq_false_iff_ne.2 wZ;have VT: ¬(bk.n:Int)=0:=wZ;clear h hb hq C1 Jk Jn;obtain⟨xq,il⟩:=ae w.heap.size;obtain⟨w1,a8⟩:=ae (w.alloc (.cells (cS q) 41));obtain⟨xr,nZ⟩:=ae w1.heap.size;obtain⟨w2,hw2⟩:=ae (w1.alloc (.cells #[.int .u32 0,.int .i64 0,.int .i64 0,.int .u32 0,.int .i64 0,.int .i64 0,.int .i64 0] 108));have rH:=aa (show aG w2 xq 41 (cS q) from NC);have oc:=aa (aJ hw2 nZ);have cu:=aa (show Below w.heap.size w w2 from Ic);have pd:=aa (show w.heap.size≤xq∧xr=xq+1 from⟨ai,KP⟩);go_enter Tryz.func209,Tryz.ntmps209;go_wp2_with fail;clear a8 hw2 il nZ;refine(Hj.o _ cu.o).mono ?_;rintro e w3 ⟨rfl,hb3⟩;have jy:=rH.jC hb3;have iu:=oc.jC hb3;have dV:=cu.dQ hb3;clear hb3 rH oc cu;go_wp2_with (refine aC rfl 41 (.tmp 3) rfl xq 41 _ jy.o rfl _ cD rfl aH ?_);refine(jU q w3 jz.o).mono ?_;rintro e w4 ⟨rfl,hb4⟩;have tO:=jy.jC hb4;have nV:=iu.jC hb4;have gj:=dV.dQ hb4;clear hb4 jy iu dV hnz VT;have c0:w4.cell? ⟨xq,0,none⟩=some (.int .i64 5):=by rw[←hk];exact tO.o.cell 0
 have c1:w4.cell? ⟨xq,1,none⟩=some (.int .u32 q.tag):=tO.o.cell 1;obtain⟨x6,YV⟩:=ae w4.heap.size;obtain⟨w5,jD⟩:=ae (w4.alloc (.cells #[.int .u32 0,.int .i64 0,.int .i64 0,.int .u32 0,.int .i64 0,.int .i64 0,.int .i64 0] 108));have pj:=aa (aJ jD YV);have eu:=aa (aK jD);have J3:=aa YV;go_upto_region 6 with(refine aj rfl 108 _ _ rfl x6 108 _ #[.int .u32 q.tag,.int .i64 5,.int .i64 0,.int .u32 0,.int .i64 0,.int .i64 0,.int .i64 0] pj.o rfl rfl rfl aS et ?_;intro w6 yG kr VO;have iL:=aa (show Below w4.heap.size w4 w6 from br eu.o kr (po J3.o));have tx:=aa yG;clear yG kr VO)
 have HL6:=aa (show xr<x6 from by have:=nV.o.lt;have:=J3.o;omega);obtain⟨x7,hx7⟩:=ae w6.heap.size;obtain⟨w7,wE⟩:=ae (w6.alloc (.cells #[.int .u32 0,.int .i64 0,.int .i64 0] 171));have su:=aK wE;have vq:=aa (tx.o.ah su);have HK7:=aa (aJ wE hx7);have Ya:=aa (show x6<x7 from by have:=tx.o.lt;omega);have nc:=iL.dQ su;have Rn:=nV.jC nc.o;have yP:=tO.jC nc.o;have kS:=aa (av gj.o nc.o);have M4:=aa (fC.o _ kS.o);have d0:w7.cell? ⟨xq,0,none⟩=some (.int .i64 5):=by rw[←hk];exact yP.o.cell 0
 have d2:w7.cell? ⟨xq,2,none⟩=some (.int .u32 q.id):=yP.o.cell 2;clear su c0 c1 nV tO pj eu J3 tx iL nc gj;go_wp2_with fail;clear jD YV wE hx7;refine(Yl.o _ M4.o).mono ?_;rintro e w8 ⟨rfl,mY,VK⟩;have oT:=aa (show ∀ k,w.heap.size≤k→¬S k from fun k hk hs=>by have:=i'.o k hs;omega);have hx:=pd.o;have RT:=HL6.o;have Y1:=Ya.o;have wM:=aa (VK.arr vq.o (oT.o _ ai));have HK8:=aa (VK.arr HK7.o (oT.o _ ai));have Kz:=aa (VK.arr Rn.o (oT.o _ ai));have ou:=aa mY;have X1:=aa ((aI.aW (S:=S) kS.o).trans VK);clear mY VK d0 d2 hx RT Y1 vq HK7 Rn yP M4 kS;go_upto_region 11 with(refine aj rfl 171 _ _ rfl x7 171 _ #[.int .u32 o.id,.int .i64 (o.aw:Int),.int .i64 o.aR] HK8.o rfl rfl rfl eV et ?_;intro w9 dG dD gJ;have HK9:=aa dG;have p8:=aa dD;have a92:w9.cell? ⟨x6,2,none⟩=some (.int .i64 0):=(wM.o.bz dD (fun e=>E0)).cell 2;have m92:=(wM.o.bz dD (fun e=>E0)).mark 2;clear dG dD gJ)
 have hx:=pd.o;have RT:=HL6.o;have Y1:=Ya.o;have pA:=aa (wM.o.bz p8.o (fun e=>l9));have R7:=aa (Kz.o.bz p8.o (fun e=>l9));have Ef:=aa ((X1.o).grown p8.o (fun k e=>Ll));have CF:=aa (nQ ou.o p8.o (fun k hk e=>oT.o k ai hk));obtain⟨wa,Cu⟩:=ae (w9.setCell ⟨x6,2,none⟩ (.int .i64 er));have KF:=aa (show aG wa x6 108 #[.int .u32 q.tag,.int .i64 5,.int .i64 er,.int .u32 0,.int .i64 0,.int .i64 0,.int .i64 0] by rw[←Cu];exact pA.o.put 2 _);have HRa:=aa (show aG wa xr 108 _ from TF);have HKa:=aa (show aG wa x7 171 _ from TE);have HTa:=aa (show aI S w wa from TU);have Sg:=aa (show fL S wa b bk from TY);rw[Cu];clear Cu hx RT Y1 a92 m92 wM HK8 Kz ou X1 pA R7 Ef CF HK9 p8;have k1:=HKa.o.cl 1;have k2:=HKa.o.cl 2;have VW:x7≠x6:=by have:=Ya.o;omega
 have f2:(wa.setCell ⟨x6,4,none⟩ (.int .i64 (o.aw:Int))).cell? ⟨x7,2,none⟩=some (.int .i64 o.aR):=(HKa.o.other (p:=⟨x6,4,none⟩) VW _).cell 2;have f1:(wa.setCell ⟨x6,5,none⟩ (.int .i64 o.aR)).cell? ⟨x7,1,none⟩=some (.int .i64 (o.aw:Int)):=(HKa.o.other (p:=⟨x6,5,none⟩) VW _).cell 1;have o4:=KF.o.cl 4;have o5:=KF.o.cl 5;have m4:=KF.o.mark 4;have m5:=KF.o.mark 5;have FI:xr≠x6:=by have:=HL6.o;omega
 have ze:=aa (show w.heap.size≤x6∧w.heap.size≤xr from by have:=pd.o;have:=HL6.o;omega);have afX:=aa (show aG ((wa.setCell ⟨x6,4,none⟩ (.int .i64 (o.aw:Int))).setCell ⟨x6,5,none⟩ (.int .i64 o.aR)) x6 108 #[.int .u32 q.tag,.int .i64 5,.int .i64 er,.int .u32 0,.int .i64 (o.aw:Int),.int .i64 o.aR,.int .i64 0] from(KF.o.put 4 _).put 5 _);have afW:=aa (show aG ((wa.setCell ⟨x6,5,none⟩ (.int .i64 o.aR)).setCell ⟨x6,4,none⟩ (.int .i64 (o.aw:Int))) x6 108 #[.int .u32 q.tag,.int .i64 5,.int .i64 er,.int .u32 0,.int .i64 (o.aw:Int),.int .i64 o.aR,.int .i64 0] from(KF.o.put 5 _).put 4 _);have B9:=aa (show aG ((wa.setCell ⟨x6,4,none⟩ (.int .i64 (o.aw:Int))).setCell ⟨x6,5,none⟩ (.int .i64 o.aR)) xr 108 _ from(HRa.o.other (p:=⟨x6,4,none⟩) FI _).other (p:=⟨x6,5,none⟩) FI _);have X5:=aa (show aG ((wa.setCell ⟨x6,5,none⟩ (.int .i64 o.aR)).setCell ⟨x6,4,none⟩ (.int .i64 (o.aw:Int))) xr 108 _ from(HRa.o.other (p:=⟨x6,5,none⟩) FI _).other (p:=⟨x6,4,none⟩) FI _);have afG:=aa (show aI S w ((wa.setCell ⟨x6,4,none⟩ (.int .i64 (o.aw:Int))).setCell ⟨x6,5,none⟩ (.int .i64 o.aR)).drew from((HTa.o.put (p:=⟨x6,4,none⟩) (.inr ze.o.1) _).put (p:=⟨x6,5,none⟩) (.inr ze.o.1) _).ak (az (ar _ _)));have afF:=aa (show aI S w ((wa.setCell ⟨x6,5,none⟩ (.int .i64 o.aR)).setCell ⟨x6,4,none⟩ (.int .i64 (o.aw:Int))).drew from((HTa.o.put (p:=⟨x6,5,none⟩) (.inr ze.o.1) _).put (p:=⟨x6,4,none⟩) (.inr ze.o.1) _).ak (az (ar _ _)));have afP:=aa (show fL S ((wa.setCell ⟨x6,4,none⟩ (.int .i64 (o.aw:Int))).setCell ⟨x6,5,none⟩ (.int .i64 o.aR)).drew b bk from En.gS Sg.o (((aI.at wa x6 4 _).BQ 5 _).ak (az (ar _ _))) (fun k hk e=>oT.o k AF hk));have afO:=aa (show fL S ((wa.setCell ⟨x6,5,none⟩ (.int .i64 o.aR)).setCell ⟨x6,4,none⟩ (.int .i64 (o.aw:Int))).drew b bk from En.gS Sg.o (((aI.at wa x6 5 _).BQ 4 _).ak (az (ar _ _))) (fun k hk e=>oT.o k AF hk));go_region;all_goals(go_wp2_with (first|(refine aC rfl 108 (.tmp 6) rfl x6 108 _ afX.o rfl _ eA rfl aS ?_)|(refine aj rfl 108 (.tmp 4) _ rfl xr 108 _ #[.int .u32 q.tag,.int .i64 5,.int .i64 er,.int .u32 0,.int .i64 (o.aw:Int),.int .i64 o.aR,.int .i64 0] B9.o rfl rfl rfl aS et ?_;intro wz dG dD gJ;have HAZ:=aa dG;have Yc:=aa dD;have HTZ:=aa afG.o;have HBZ:=aa afP.o;clear dG dD gJ)|(refine aC rfl 108 (.tmp 6) rfl x6 108 _ afW.o rfl _ eA rfl aS ?_)|(refine aj rfl 108 (.tmp 4) _ rfl xr 108 _ #[.int .u32 q.tag,.int .i64 5,.int .i64 er,.int .u32 0,.int .i64 (o.aw:Int),.int .i64 o.aR,.int .i64 0] X5.o rfl rfl rfl aS et ?_;intro wz dG dD gJ;have HAZ:=aa dG;have Yc:=aa dD;have HTZ:=aa afF.o;have HBZ:=aa afO.o;clear dG dD gJ)))
 exact ach
theorem Nj(S:Nat→Prop)(w:World)(b:Nat)(bk:dI)(q:Rq)(h:fL S w b bk)(hb:bk.Ok)(hq:q.Good)(C1:zb q)(hk:q.ax=6): Calls af 209 #[.pointer (some ⟨b,0,none⟩),.agg (cS q)] w (Ki S b bk q w):=by
 have i':=aa (show ∀ k,S k→k<w.heap.size from Lc);have fC:=aa (show ∀ W,Below w.heap.size w W→fL S W b bk from fun W hW=>Li);have Hj:=aa (show ∀ W,Below w.heap.size w W→Calls af 38 #[.pointer (some ⟨b,0,none⟩)] W fun e w'=>e= .returned (.agg #[.int .i64 bk.n,.int .i64 bk.au,.int .i64 bk.aA])∧Below W.heap.size W w' from fun W hW=>Lo);obtain⟨o,er,Jk,Jn⟩: ∃ (o:bS) (er:Int),(∀ W,fL S W b bk→Calls af 293 #[.pointer (some ⟨b,0,none⟩),.int .i64 q.aw] W fun e w'=>e= .returned (.tuple #[.agg #[.int .u32 o.id,.int .i64 (o.aw:Int),.int .i64 o.aR],.int .i64 er])∧fL S w' b bk∧aI S W w')∧dW bk q=⟨q.tag,6,er,o.id,0,o.aR,0⟩:=by
  obtain⟨s,hs⟩:=Int.eq_ofNat_of_zero_le hq.aw.1;refine⟨if bk.n≤s then⟨0,0,0⟩else H7 (bk.on q.aw),if bk.n≤s then 140 else if(bk.on q.aw).isSome then 0 else 171,fun W hW=>?_,?_⟩
  ·have h9:=Nf hW hb s;rw[hs];by_cases c:bk.n≤s
   ·rw[if_pos c] at h9 ⊢;rw[if_pos c];exact Ve
   rw[if_neg c,Hz] at h9;rw[if_neg c,if_neg c];exact Ve
  unfold dW;rw[if_neg ai,if_pos hk,hs];by_cases c:bk.n≤s
  ·rw[if_pos ai,if_pos c,if_pos c];unfold En.cf;rw[hk]
  rw[if_neg ai,if_neg c,if_neg c];cases bk.on (s:Int)with
  | none=>unfold En.cf;rw[hk];rfl
  | some x=>simp only[hk];rfl
 have Yl:=aa Jk;have RG:=aa Jn;have jz:=aa C1;have hnz:((bk.n:Int)==0)=false:=beq_eq_false_iff_ne.2 wZ;have VT: ¬(bk.n:Int)=0:=wZ;clear h hb hq C1 Jk Jn;obtain⟨xq,il⟩:=ae w.heap.size;obtain⟨w1,a8⟩:=ae (w.alloc (.cells (cS q) 41));obtain⟨xr,nZ⟩:=ae w1.heap.size;obtain⟨w2,hw2⟩:=ae (w1.alloc (.cells #[.int .u32 0,.int .i64 0,.int .i64 0,.int .u32 0,.int .i64 0,.int .i64 0,.int .i64 0] 108));have rH:=aa (show aG w2 xq 41 (cS q) from NC);have oc:=aa (aJ hw2 nZ);have cu:=aa (show Below w.heap.size w w2 from Ic);have pd:=aa (show w.heap.size≤xq∧xr=xq+1 from⟨ai,KP⟩);go_enter Tryz.func209,Tryz.ntmps209;go_wp2_with fail;clear a8 hw2 il nZ;refine(Hj.o _ cu.o).mono ?_;rintro e w3 ⟨rfl,hb3⟩;have jy:=rH.jC hb3;have iu:=oc.jC hb3;have dV:=cu.dQ hb3;clear hb3 rH oc cu;go_wp2_with (refine aC rfl 41 (.tmp 3) rfl xq 41 _ jy.o rfl _ cD rfl aH ?_);refine(jU q w3 jz.o).mono ?_;rintro e w4 ⟨rfl,hb4⟩;have tO:=jy.jC hb4;have nV:=iu.jC hb4;have gj:=dV.dQ hb4;clear hb4 jy iu dV hnz VT;have c0:w4.cell? ⟨xq,0,none⟩=some (.int .i64 6):=by rw[←hk];exact tO.o.cell 0
 have c1:w4.cell? ⟨xq,1,none⟩=some (.int .u32 q.tag):=tO.o.cell 1;obtain⟨x6,YV⟩:=ae w4.heap.size;obtain⟨w5,jD⟩:=ae (w4.alloc (.cells #[.int .u32 0,.int .i64 0,.int .i64 0,.int .u32 0,.int .i64 0,.int .i64 0,.int .i64 0] 108));have pj:=aa (aJ jD YV);have eu:=aa (aK jD);have J3:=aa YV;go_upto_region 6 with(refine aj rfl 108 _ _ rfl x6 108 _ #[.int .u32 q.tag,.int .i64 6,.int .i64 0,.int .u32 0,.int .i64 0,.int .i64 0,.int .i64 0] pj.o rfl rfl rfl aS et ?_;intro w6 yG kr VO;have iL:=aa (show Below w4.heap.size w4 w6 from br eu.o kr (po J3.o));have tx:=aa yG;clear yG kr VO)
 have HL6:=aa (show xr<x6 from by have:=nV.o.lt;have:=J3.o;omega);obtain⟨x7,hx7⟩:=ae w6.heap.size;obtain⟨w7,wE⟩:=ae (w6.alloc (.cells #[.int .u32 0,.int .i64 0,.int .i64 0] 171));have su:=aK wE;have vq:=aa (tx.o.ah su);have HK7:=aa (aJ wE hx7);have Ya:=aa (show x6<x7 from by have:=tx.o.lt;omega);have nc:=iL.dQ su;have Rn:=nV.jC nc.o;have yP:=tO.jC nc.o;have kS:=aa (av gj.o nc.o);have M4:=aa (fC.o _ kS.o);have d0:w7.cell? ⟨xq,0,none⟩=some (.int .i64 6):=by rw[←hk];exact yP.o.cell 0
 have d3:w7.cell? ⟨xq,3,none⟩=some (.int .i64 q.aw):=yP.o.cell 3;clear su c0 c1 nV tO pj eu J3 tx iL nc gj;go_wp2_with fail;clear jD YV wE hx7;refine(Yl.o _ M4.o).mono ?_;rintro e w8 ⟨rfl,mY,VK⟩;have oT:=aa (show ∀ k,w.heap.size≤k→¬S k from fun k hk hs=>by have:=i'.o k hs;omega);have hx:=pd.o;have RT:=HL6.o;have Y1:=Ya.o;have wM:=aa (VK.arr vq.o (oT.o _ ai));have HK8:=aa (VK.arr HK7.o (oT.o _ ai));have Kz:=aa (VK.arr Rn.o (oT.o _ ai));have ou:=aa mY;have X1:=aa ((aI.aW (S:=S) kS.o).trans VK);clear mY VK d0 d3 hx RT Y1 vq HK7 Rn yP M4 kS;go_upto_region 14 with(refine aj rfl 171 _ _ rfl x7 171 _ #[.int .u32 o.id,.int .i64 (o.aw:Int),.int .i64 o.aR] HK8.o rfl rfl rfl eV et ?_;intro w9 dG dD gJ;have HK9:=aa dG;have p8:=aa dD;have a92:w9.cell? ⟨x6,2,none⟩=some (.int .i64 0):=(wM.o.bz dD (fun e=>E0)).cell 2;have m92:=(wM.o.bz dD (fun e=>E0)).mark 2;clear dG dD gJ)
 have hx:=pd.o;have RT:=HL6.o;have Y1:=Ya.o;have pA:=aa (wM.o.bz p8.o (fun e=>l9));have R7:=aa (Kz.o.bz p8.o (fun e=>l9));have Ef:=aa ((X1.o).grown p8.o (fun k e=>Ll));have CF:=aa (nQ ou.o p8.o (fun k hk e=>oT.o k ai hk));obtain⟨wa,Cu⟩:=ae (w9.setCell ⟨x6,2,none⟩ (.int .i64 er));have KF:=aa (show aG wa x6 108 #[.int .u32 q.tag,.int .i64 6,.int .i64 er,.int .u32 0,.int .i64 0,.int .i64 0,.int .i64 0] by rw[←Cu];exact pA.o.put 2 _);have HRa:=aa (show aG wa xr 108 _ from TF);have HKa:=aa (show aG wa x7 171 _ from TE);have HTa:=aa (show aI S w wa from TU);have Sg:=aa (show fL S wa b bk from TY);rw[Cu];clear Cu hx RT Y1 a92 m92 wM HK8 Kz ou X1 pA R7 Ef CF HK9 p8;have k0:=HKa.o.cl 0;have k2:=HKa.o.cl 2;have VW:x7≠x6:=by have:=Ya.o;omega
 have f2:(wa.setCell ⟨x6,3,none⟩ (.int .u32 o.id)).cell? ⟨x7,2,none⟩=some (.int .i64 o.aR):=(HKa.o.other (p:=⟨x6,3,none⟩) VW _).cell 2;have f0:(wa.setCell ⟨x6,5,none⟩ (.int .i64 o.aR)).cell? ⟨x7,0,none⟩=some (.int .u32 o.id):=(HKa.o.other (p:=⟨x6,5,none⟩) VW _).cell 0;have o3:=KF.o.cl 3;have o5:=KF.o.cl 5;have m3:=KF.o.mark 3;have m5:=KF.o.mark 5;have FI:xr≠x6:=by have:=HL6.o;omega
 have ze:=aa (show w.heap.size≤x6∧w.heap.size≤xr from by have:=pd.o;have:=HL6.o;omega);have afX:=aa (show aG ((wa.setCell ⟨x6,3,none⟩ (.int .u32 o.id)).setCell ⟨x6,5,none⟩ (.int .i64 o.aR)) x6 108 #[.int .u32 q.tag,.int .i64 6,.int .i64 er,.int .u32 o.id,.int .i64 0,.int .i64 o.aR,.int .i64 0] from(KF.o.put 3 _).put 5 _);have afW:=aa (show aG ((wa.setCell ⟨x6,5,none⟩ (.int .i64 o.aR)).setCell ⟨x6,3,none⟩ (.int .u32 o.id)) x6 108 #[.int .u32 q.tag,.int .i64 6,.int .i64 er,.int .u32 o.id,.int .i64 0,.int .i64 o.aR,.int .i64 0] from(KF.o.put 5 _).put 3 _);have B9:=aa (show aG ((wa.setCell ⟨x6,3,none⟩ (.int .u32 o.id)).setCell ⟨x6,5,none⟩ (.int .i64 o.aR)) xr 108 _ from(HRa.o.other (p:=⟨x6,3,none⟩) FI _).other (p:=⟨x6,5,none⟩) FI _);have X5:=aa (show aG ((wa.setCell ⟨x6,5,none⟩ (.int .i64 o.aR)).setCell ⟨x6,3,none⟩ (.int .u32 o.id)) xr 108 _ from(HRa.o.other (p:=⟨x6,5,none⟩) FI _).other (p:=⟨x6,3,none⟩) FI _);have afG:=aa (show aI S w ((wa.setCell ⟨x6,3,none⟩ (.int .u32 o.id)).setCell ⟨x6,5,none⟩ (.int .i64 o.aR)).drew from((HTa.o.put (p:=⟨x6,3,none⟩) (.inr ze.o.1) _).put (p:=⟨x6,5,none⟩) (.inr ze.o.1) _).ak (az (ar _ _)));have afF:=aa (show aI S w ((wa.setCell ⟨x6,5,none⟩ (.int .i64 o.aR)).setCell ⟨x6,3,none⟩ (.int .u32 o.id)).drew from((HTa.o.put (p:=⟨x6,5,none⟩) (.inr ze.o.1) _).put (p:=⟨x6,3,none⟩) (.inr ze.o.1) _).ak (az (ar _ _)));have afP:=aa (show fL S ((wa.setCell ⟨x6,3,none⟩ (.int .u32 o.id)).setCell ⟨x6,5,none⟩ (.int .i64 o.aR)).drew b bk from En.gS Sg.o (((aI.at wa x6 3 _).BQ 5 _).ak (az (ar _ _))) (fun k hk e=>oT.o k AF hk));have afO:=aa (show fL S ((wa.setCell ⟨x6,5,none⟩ (.int .i64 o.aR)).setCell ⟨x6,3,none⟩ (.int .u32 o.id)).drew b bk from En.gS Sg.o (((aI.at wa x6 5 _).BQ 3 _).ak (az (ar _ _))) (fun k hk e=>oT.o k AF hk));go_region;all_goals(go_wp2_with (first|(refine aC rfl 108 (.tmp 6) rfl x6 108 _ afX.o rfl _ eA rfl aS ?_)|(refine aj rfl 108 (.tmp 4) _ rfl xr 108 _ #[.int .u32 q.tag,.int .i64 6,.int .i64 er,.int .u32 o.id,.int .i64 0,.int .i64 o.aR,.int .i64 0] B9.o rfl rfl rfl aS et ?_;intro wz dG dD gJ;have HAZ:=aa dG;have Yc:=aa dD;have HTZ:=aa afG.o;have HBZ:=aa afP.o;clear dG dD gJ)|(refine aC rfl 108 (.tmp 6) rfl x6 108 _ afW.o rfl _ eA rfl aS ?_)|(refine aj rfl 108 (.tmp 4) _ rfl xr 108 _ #[.int .u32 q.tag,.int .i64 6,.int .i64 er,.int .u32 o.id,.int .i64 0,.int .i64 o.aR,.int .i64 0] X5.o rfl rfl rfl aS et ?_;intro wz dG dD gJ;have HAZ:=aa dG;have Yc:=aa dD;have HTZ:=aa afF.o;have HBZ:=aa afO.o;clear dG dD gJ)))
 exact ach
theorem Eo(S:Nat→Prop)(w:World)(b:Nat)(bk:dI)(q:Rq)(h:fL S w b bk)(hb:bk.Ok)(hq:q.Good)(C1:zb q)(hk:q.ax=5∨q.ax=6∨q.ax=10): Calls af 209 #[.pointer (some ⟨b,0,none⟩),.agg (cS q)] w (Ki S b bk q w):=by
 rcases hk with hk|hk|hk
 ·exact Kh S w b bk q h hb hq C1 hk
 ·exact Nj S w b bk q h hb hq C1 hk
 obtain⟨x,hx⟩:=h;refine(yQ hx.bg hb.n.1 q C1 hk).mono ?_;rintro e w' ⟨rfl,hb'⟩;have e1:dW bk q=⟨q.tag,10,0,0,0,0,bk.L.length⟩:=by unfold dW;rw[if_neg ai,if_neg ai,hk]
 exact⟨by rw[e1],⟨x,hx.ak hb'⟩,aI.aW hb'⟩
end Bk
end
section
namespace En
section
variable {aB:Nat→Nat}{w w':World}{e:Nat}{q:rB}{wt:Value}{es:Es}
theorem di.agw(h:di aB w e q es)(ht:aI (· =e) w w'): di aB w' e q es:=h.cR (ht.mono fun k _ hk=>by subst hk;exact .inr h.r5)
theorem di.as{es':Es}(h:di aB w e q es)(h1:es'.log=es.log)(h2:es'.rg=es.rg)(h3:es'.dev=es.dev)(h4:es'.bk=es.bk)(h5:es'.sl=es.sl): di aB w e q es':=
 ⟨h.does,by rw[h1,h2,h3];exact h.log,by rw[h3];exact h.dev,by rw[h4];exact h.book,by rw[h5,h3];exact h.slots,h.r5,h.r6,h.r7,h.lt,h.ij,h.rep,h.kW⟩
theorem bD.Fo(h:bD aB w e q wt es): ∀ k,wt.ownBlock=some k→k≠e:=fun k hk c=>by
 have:=h.aD.block k hk;rw[c,h.rest.r5] at this;exact absurd this aM
def ac4(aB:Nat→Nat)(e:Nat)(q:rB)(wt:Value)(es:Es)(w:World)(en:Ending)(w':World): Prop:=
 en= .returned wt∧bD aB w' e q (.slice none 0 0) {es with aD:=[]}∧aP (fun k=>aB k=4) w' 108 7 wt es.aD.length (yU es.aD)∧aI (· =e) w w'
theorem bD.Iy(h:bD aB w e q wt es)(up:Bool)(hA:ia w' e up (some ⟨q.lq,0,none⟩) (some ⟨q.sl,0,none⟩) (some ⟨q.bk,0,none⟩) (.slice none 0 0) (.map (some q.mb)))(ht:aI (· =e) w w'): bD aB w' e q (.slice none 0 0) {es with up:=up,aD:=[]}:=
 ⟨(h.rest.agw ht).as rfl rfl rfl rfl rfl,hA,aP.nil _ _ _ _ _⟩
theorem AY(h:bD aB w e q wt es): Calls af 219 #[.pointer (some ⟨e,0,none⟩)] w (ac4 aB e q wt es w):=by
 have x5:w.cell? ⟨e,5,none⟩=some wt:=h.own.cell 5;have m5:=h.own.mark 5;have hF:ac4 aB e q wt es w (.returned wt) (w.setCell ⟨e,5,none⟩ (.slice none 0 0)):=by
  refine⟨rfl,h.Iy es.up (by exact aG.put h.own 5 _) (aI.at w e 5 _),?_,aI.at w e 5 _⟩;exact h.aD.put (q:=⟨e,5,none⟩) (fun g hg c=>h.Fo g hg c.symm) _
 have HF:=aa hF;clear h hF;go_enter Tryz.func219,Tryz.ntmps219;go_wp2_with fail;go_ret;exact HF.o
def adC(aB:Nat→Nat)(e:Nat)(q:rB)(es:Es)(w:World)(en:Ending)(w':World): Prop:=
 (∃ u,en= .returned u)∧bD aB w' e q (.slice none 0 0) {es with up:=false,aD:=[]}∧aI (· =e) w w'
theorem FU(h:bD aB w e q wt es): Calls af 211 #[.pointer (some ⟨e,0,none⟩)] w (adC aB e q es w):=by
 have x1:w.cell? ⟨e,1,none⟩=some (.bool es.up):=h.own.cell 1;have x5:w.cell? ⟨e,5,none⟩=some wt:=h.own.cell 5;have m1:=h.own.mark 1;have m5:=h.own.mark 5;have bp:aG (w.setCell ⟨e,1,none⟩ (.bool false)) e 68 _:=h.own.put 1 _;have y5:(w.setCell ⟨e,1,none⟩ (.bool false)).cell? ⟨e,5,none⟩=some wt:=bp.cell 5;have n5:=bp.mark 5;have ht:aI (· =e) w ((w.setCell ⟨e,1,none⟩ (.bool false)).setCell ⟨e,5,none⟩ (.slice none 0 0)):=(aI.at w e 1 _).BQ 5 _;have HF:=aa (fun u=>(show adC aB e q es w (.returned u) ((w.setCell ⟨e,1,none⟩ (.bool false)).setCell ⟨e,5,none⟩ (.slice none 0 0))from⟨⟨u,rfl⟩,h.Iy false (by exact aG.put bp 5 _) ht,ht⟩));clear h bp ht;go_enter Tryz.func211,Tryz.ntmps211;go_wp2_with fail;exact bodyPost_end (results_none Tryz.results211 _ _ _) rfl (HF.o _)
theorem uB: (af.info? 108).map (fun i=>(i.zero,i.size,i.bytes))=some (some (.agg #[.int .u32 0,.int .i64 0,.int .i64 0,.int .u32 0,.int .i64 0,.int .i64 0,.int .i64 0]),7,56):=bh
theorem Uh{S:Nat→Prop}{W:World}{A:Option Addr}{l:List Rp}{c:Nat}(h:aP S W 108 7 (.slice A l.length c) l.length (yU l)): R4 W A l:=fun hne=>by
 have hp:0<l.length:=by cases l with|nil=>exact absurd rfl hne|cons x r=>simp
 obtain⟨g,cap,hv,hg,h1,h2,h3⟩:=h.form hp;injection hv with e1 e2 e3
 subst e1;subst e3;refine⟨g,0,rfl,h3,fun i hi=>?_⟩;have:=h.range (Fm l) hi;rw[gV];simpa[yU,bR,bY hi] using this
def eZ(aB:Nat→Nat)(e:Nat)(q:rB)(l:List Rp)(es':Es)(w:World)(en:Ending)(w':World): Prop:=
 ∃ eN rC A c,en= .returned (.slice A l.length c)∧R4 w' A l∧bD eN w' e q rC es'∧(∀ k,eN k≠0→aB k≠0∨w.heap.size≤k)∧aI (fun k=>aB k≠0) w w'
theorem BN(h:bD aB w e q wt es)(rq:Rq)(hn:es.aD.length≤1000): Calls af 212 #[.pointer (some ⟨e,0,none⟩),.agg (cS rq)] w (eZ aB e q (counted es rq) {es with aD:=[]} w):=by
 obtain⟨j0,hj,hz0,hz1,hz2⟩:=info_parts uB;obtain⟨xq,il⟩:=ae w.heap.size;obtain⟨w1,a8⟩:=ae (w.alloc (.cells (cS rq) 41));have bA:=aa (aK a8);have vo:=aa (aJ a8 il);have vp:=aa (h.ak bA.o);have i':=aa h.rest.lt;have tj:=aa (show xq=w.heap.size from il.symm);obtain⟨n,hn'⟩:=ae es.aD.length;have HN:=aa hn';rw[hn'] at hn;clear h hn';go_enter Tryz.func212,Tryz.ntmps212;go_wp2_with fail;clear a8 il;refine(AY vp.o).mono ?_;rintro en w2 ⟨rfl,hE2,qp,jE⟩;have wL:=aa hE2;have gI:=aa jE;have aan:=qp;rw[HN.o] at aan;have oc:=aa aan;have kX:=aa (show xq≠e from fun c=>by have:=i'.o e (by rw[vp.o.rest.r5];decide);have:=tj.o;omega);have hQ2:=jE.arr vo.o kX.o;obtain⟨A,cp,hA⟩:=aan.any;have HA:=aa hA;have c1:w2.cell? ⟨xq,1,none⟩=some (.int .u32 rq.tag):=hQ2.cell 1;have c0:w2.cell? ⟨xq,0,none⟩=some (.int .i64 rq.ax):=hQ2.cell 0;clear hE2 qp aan jE hQ2 vo vp;subst hA;obtain⟨w3,hw3⟩:=ae (w2.alloc (.cells #[.int .u32 rq.tag,.int .i64 rq.ax,.int .i64 0,.int .u32 0,.int .i64 0,.int .i64 0,.int .i64 (n:Int)] 108));have dV:=aa (aK hw3);have iu:=aa (oc.o.ah dV.o);have Zj:=aa (show ∀ (j:Nat) (u:Value),[Value.int .u32 rq.tag,.int .i64 rq.ax,.int .i64 0,.int .u32 0,.int .i64 0,.int .i64 0,.int .i64 (n:Int)][j]? =some u→w3.cell? ((⟨w2.heap.size,0,none⟩:Addr).add j)=some u by rw[←hw3];exact iQ w2 _ _);go_wp2_with (refine gM _ rfl (.tmp 8) (.tmp 16) 65 rfl 108 j0 (.agg #[.int .u32 0,.int .i64 0,.int .i64 0,.int .u32 0,.int .i64 0,.int .i64 0,.int .i64 0]) 7 56 Tryz.underlying65 hj hz0 hz1 hz2 rfl aM (.slice A n cp) n _ rfl iu.o ⟨w2.heap.size,0,none⟩ 1 [.int .u32 rq.tag,.int .i64 rq.ax,.int .i64 0,.int .u32 0,.int .i64 0,.int .i64 0,.int .i64 (n:Int)] rfl rfl Zj.o SU jR ai ?_;intro ga ca w4 hr4 hg4;have HN4:=aa hr4;have uV:=aa hg4;clear hr4 hg4);go_ret;have hg4:w3.grownBy w4 (jl A n cp).ownBlock:=uV.o;have hblk: ∀ k,(jl A n cp).ownBlock=some k→aB k=4:=oc.o.block;have Cv:aI (fun k=>aB k=4) w2 w4:=(aI.aW (S:=fun k=>aB k=4) dV.o).grown hg4 (fun k hk=>.inl (hblk k hk));have hT:aI (fun k=>aB k≠0) w w4:=((aI.aW (S:=fun k=>aB k≠0) bA.o).trans (gI.o.mono fun k _ hk=>by subst hk;show aB k≠0;rw[wL.o.rest.r5];decide)).trans (Cv.mono fun k _ hk=>oA);have hE4:bD aB w4 e q (.slice none 0 0) {es with aD:=[]}:=⟨wL.o.rest.cR (Cv.mono fun k _ hk=>.inl hk),Cv.arr wL.o.own (fun c=>by have:=wL.o.rest.r5;rw[c] at this;exact absurd this aM),aP.nil _ _ _ _ _⟩;have hlen:(counted es rq).length=n+1:=by unfold counted;rw[List.length_append,HN.o];rfl
 have Js:aP (fun k=>aB k=4∨k=w3.heap.size) w4 108 7 (.slice (some ⟨ga,0,none⟩) (n+1) ca) (n+1) (yU (counted es rq)):=by
  have h1:=HN4.o;have h2:=Ix es.aD ⟨rq.tag,rq.ax,0,0,0,0,es.aD.length⟩;rw[HN.o] at h2;unfold counted;rw[HN.o,←h2];exact h1
 rw[←hlen] at Js;exact⟨aB,_,some ⟨ga,0,none⟩,ca,by rw[hlen];rfl,Uh Js,hE4,fun k hk=>.inl hk,hT⟩
end
end En
end
section
namespace En
theorem Mp(l:Lg)(g:Rg)(d:bJ)(hs:1≤d.dk.size): (l.flush g d).2.2.dk.size=d.dk.size:=by
 unfold Lg.flush;split
 ·rfl
 have h1:=(Rg.pD g d l.cz.length l.aD hs).1;split
 ·have h2:=(bJ.Ff (g.write d l.cz.length l.aD).2).1;split <;>exact h2.trans h1
 exact h1
section
variable {aB:Nat→Nat}{w w':World}{e:Nat}{q:rB}{wt:Value}{es:Es}
variable{w1:World}
theorem eZ.trans{lh:Nat→Nat}{l:List Rp}{es':Es}{en:Ending}(h1:aI (fun k=>aB k≠0) w w1)(hs: ∀ k,lh k≠0→aB k≠0∨w.heap.size≤k)(h2:eZ lh e q l es' w1 en w'): eZ aB e q l es' w en w':=by
 obtain⟨eN,rC,A,c,a1,a2,a3,a4,a5⟩:=h2;refine⟨eN,rC,A,c,a1,a2,a3,fun k hk=>?_,h1.new (a5.mono fun k _ hk=>hs k hk)⟩;rcases a4 k hk with h|h
 ·exact hs k h
 exact .inr (aV h1.size h)
theorem eZ.one{lh:Nat→Nat}{rC:Value}{es':Es}{r:Rp}{A:Option Addr}{c:Nat}(h:bD lh w1 e q rC es')(hs: ∀ k,lh k≠0→aB k≠0∨w.heap.size≤k)(ht:aI (fun k=>aB k≠0) w w1)(hr:R4 w' A [r])(hb:Below w1.heap.size w1 w'):
 eZ aB e q [r] es' w (.returned (.slice A 1 c)) w':=⟨lh,rC,A,c,rfl,hr,h.ak hb,hs,ht.ak hb⟩
theorem bD.iB(h:bD aB w e q wt es){en:Ending}(hf:Em (fun k=>aB k=1) (fun k=>aB k=2) q.lq q.rl q.p es.rg es.dev.dk.size (es.log.flush es.rg es.dev) w en w1)(hs:1≤es.dev.dk.size):
  en= .returned (.int .i64 (es.log.flush es.rg es.dev).1)∧bD (grow aB w w1 2) w1 e q wt {es with log:=(es.log.flush es.rg es.dev).2.1,dev:=(es.log.flush es.rg es.dev).2.2}∧aI (fun k=>aB k=1∨aB k=2) w w1:=by
 obtain⟨a1,a2,a3,a4⟩:=hf;refine⟨a1,h.keeps (h.rest.flush (Mp _ _ _ hs) a2 a3 a4) rfl rfl a4 (fun k hk=>?_) (nt h.rest.lt),a4⟩;rcases hk with hk|hk <;>rw[hk] <;>exact⟨aM,aM⟩
theorem bD.BD(h:bD aB w e q wt es)(hr:es.dev.dk.row.length+es.log.aD.length≤1000000)(hs:1≤es.dev.dk.size):
  Calls af 210 #[.pointer (some ⟨q.lq,0,none⟩)] w fun en w1=>en= .returned (.int .i64 (es.log.flush es.rg es.dev).1)∧bD (grow aB w w1 2) w1 e q wt {es with log:=(es.log.flush es.rg es.dev).2.1,dev:=(es.log.flush es.rg es.dev).2.2}∧aI (fun k=>aB k=1∨aB k=2) w w1:=by
 obtain⟨v,hv⟩:=h.rest.log;exact(Re hv h.rest.dev (fun k h1 h2=>by rw[h1] at h2;exact absurd h2 aM) hr).mono fun en w1 hf=>h.iB hf hs
theorem WG(h:bD aB w e q wt es)(rq:Rq)(hn:es.aD.length≤1000)(hr:es.dev.dk.row.length+es.log.aD.length≤1000000)(hs:1≤es.dev.dk.size):
  Calls af 99 #[.pointer (some ⟨e,0,none⟩),.agg (cS rq)] w (eZ aB e q (es.flush rq).1 (es.flush rq).2 w):=by
 obtain⟨xq,il⟩:=ae w.heap.size;obtain⟨w1,a8⟩:=ae (w.alloc (.cells (cS rq) 41));have bA:=aa (aK a8);have vo:=aa (aJ a8 il);have hE1:=h.ak bA.o;have x2:w1.cell? ⟨e,2,none⟩=some (.pointer (some ⟨q.lq,0,none⟩)):=hE1.own.cell 2;have Ga:=aa (hE1.BD hr hs);have i':=aa h.rest.lt;have tj:=aa (show xq=w.heap.size from il.symm);have HZ:=aa (show ∀ k,aB k≠0→k≠xq from fun k hk c=>by have:=h.rest.lt k hk;omega);obtain⟨R,hR⟩:=ae (es.log.flush es.rg es.dev);have wj:=aa hR;rw[hR] at Ga;clear h hE1 hR hr hs;by_cases c:R.1=0
 ·have hc1:(R.1 != 0)=false:=by rw[c];rfl
  have Gc:=aa (show es.flush rq=(counted es rq,{es with dev:=R.2.2,log:=R.2.1,aD:=[]})from by unfold Es.flush;rw[wj.o,if_neg p9]);have HC:=aa c;clear c;go_enter Tryz.func99,Tryz.ntmps99;go_wp2_with fail;clear a8 il;refine Ga.o.mono ?_;rintro en w2 ⟨rfl,hE2,jE⟩;have wL:=aa hE2;have gI:=aa jE;have rH:=aa (jE.arr vo.o (fun k=>Tu));clear hE2 jE Ga x2;go_wp2_with (refine aC rfl 41 (.tmp 3) rfl xq 41 _ rH.o rfl _ cD rfl aH ?_);refine(BN wL.o rq hn).mono ?_;rintro en w3 h3;have hT:aI (fun k=>aB k≠0) w w2:=(aI.aW (S:=fun k=>aB k≠0) bA.o).trans (gI.o.mono fun k _ hk=>To);have h4:=eZ.trans hT (fun k hk=>by
   rcases iR k hk with h|h
   ·exact .inl h
   exact .inr (aV bA.o.size h)) h3
  have e1:counted {es with log:=R.2.1,dev:=R.2.2} rq=counted es rq:=rfl;rw[e1] at h4;have h5:eZ aB e q (es.flush rq).1 (es.flush rq).2 w en w3:=by rw[Gc.o];exact h4
  obtain⟨eN,rC,A,cp,rfl,b2,b3,b4,b5⟩:=h5;have HF:=aa (show eZ aB e q (es.flush rq).1 (es.flush rq).2 w (.returned (.slice A (es.flush rq).1.length cp)) w3 from⟨eN,rC,A,cp,rfl,b2,b3,b4,b5⟩);clear h3 h4 b2 b3 b4 b5 hT;go_wp2_with fail;go_ret;exact HF.o
 ·have hc1:(R.1 != 0)=true:=bne_iff_ne.2 c;have Gc:=aa (show es.flush rq=([cf rq 230],{es with up:=false,dev:=R.2.2,log:=R.2.1,aD:=[]})from by unfold Es.flush;rw[wj.o,if_pos c];rfl);clear c;go_enter Tryz.func99,Tryz.ntmps99;go_wp2_with fail;clear a8 il;refine Ga.o.mono ?_;rintro en w2 ⟨rfl,hE2,jE⟩;have wL:=aa hE2;have gI:=aa jE;have rH:=aa (jE.arr vo.o (fun k=>Tu));clear hE2 jE Ga x2;go_wp2_with fail;refine(FU wL.o).mono ?_;rintro en w3 ⟨⟨u,rfl⟩,hE3,ki⟩;have J':=aa hE3;have iJ:=aa ki;have hee:(grow aB w1 w2 2) e≠0:=by rw[wL.o.rest.r5];decide
  have HEN:=aa (show aB e≠0 from by
   have h5:=wL.o.rest.r5;unfold grow at h5;split at h5
   ·rw[h5];decide
   split at h5
   ·exact absurd h5 aM
   exact absurd h5 aM)
  have jy:=aa (ki.arr rH.o (fun k=>HZ.o e HEN.o k.symm));clear hE3 ki;go_wp2_with (refine aC rfl 41 (.tmp 3) rfl xq 41 _ jy.o rfl _ cD rfl aH ?_);refine(lB rq 230 w3).mono ?_;rintro en w4 ⟨A,cp,rfl,hr4,hb4⟩;have hT:aI (fun k=>aB k≠0) w w3:=((aI.aW (S:=fun k=>aB k≠0) bA.o).trans (gI.o.mono fun k _ hk=>To)).trans (iJ.o.mono fun k _ hk=>by subst hk;exact HEN.o);have HF:=aa (show eZ aB e q (es.flush rq).1 (es.flush rq).2 w (.returned (.slice A 1 cp)) w4 from by
   rw[Gc.o];exact eZ.one J'.o (fun k hk=>by
    rcases iR k hk with h|h
    ·exact .inl h
    exact .inr (aV bA.o.size h)) hT hr4 hb4)
  clear hT hr4 hb4;go_wp2_with fail;go_ret;exact HF.o
end
end En
end
section
namespace En
open Bk (Ki Eo)
section
variable {aB:Nat→Nat}{w w':World}{e:Nat}{q:rB}{wt:Value}{es:Es}
theorem bD.other{T:Nat→Prop}(h:bD aB w e q wt es)(ht:aI T w w')(hT: ∀ k,T k→aB k=0∧k≠1∧k≠0): bD aB w' e q wt es:=by
 have no: ∀ {k r:Nat},aB k=r→r≠0→¬T k:=fun hk hr c=>hr (hk.symm.trans (hT _ c).1)
 refine⟨⟨?_,(cI ..).cR h.rest.log ht (fun k hk=>no hk aM),(aF ..).cR h.rest.dev ht (fun k hk=>no hk aM),gS h.rest.book ht (fun k hk=>no hk aM),h.rest.slots.cR ht (no h.rest.r7.1 aM) (no h.rest.r7.2.1 aM) (no h.rest.r7.2.2 aM),h.rest.r5,h.rest.r6,h.rest.r7,fun k hk=>aU (h.rest.lt k hk) ht.size,
  h.rest.ij.cR ht (fun c=>(hT _ c).2.1 rfl),h.rest.rep.cR ht (fun c=>(hT _ c).2.2 rfl),h.rest.kW⟩,ht.arr h.own (no h.rest.r5 aM),h.aD.same fun k hk hl=>ht.block k hl (no hk aM)⟩
 exact h.rest.does.same (ht.block _ h.rest.does.lt (no h.rest.r6 aM))
theorem bD.grown{x:Nat}{w0:World}(h:bD aB w e q wt es)(hg:w.grownBy w' (some x))(hx:w0.heap.size≤x)(h0: ∀ k,w0.heap.size≤k→aB k=0∧k≠1∧k≠0): bD aB w' e q wt es:=
 h.other ((aI.refl (· =x) w).grown hg (fun k e=>Ib)) (fun k hk=>h0 k (by subst hk;exact hx))
theorem bD.news(h:bD aB w e q wt es): ∀ k,w.heap.size≤k→aB k=0∧k≠1∧k≠0:=fun k hk=>
 ⟨by
  by_cases c:aB k=0
  ·exact c
  have:=h.rest.lt k c;omega,fun c=>by have:=h.rest.ij.lt;omega,fun c=>by have:=h.rest.rep.lt;omega⟩
theorem vy{w1 w2:World}{x:Nat}(h:aI (fun k=>aB k≠0) w w1)(hg:w1.grownBy w2 (some x))(hx:w.heap.size≤x): aI (fun k=>aB k≠0) w w2:=h.grown hg (fun k e=>Ll)
theorem bD.asked(h:bD aB w e q wt es)(hb:fL (fun k=>aB k=3) w' q.bk es.bk)(ht:aI (fun k=>aB k=3) w w'): bD aB w' e q wt es:=
 h.keeps (h.rest.asked hb ht) rfl rfl ht (fun k hk=>by have Hb:aB k=3:=hk;rw[Hb];exact⟨aM,aM⟩) (fun _ h=>h)
theorem afo(h:bD aB w e q wt es)(rq:Rq)(hb:es.bk.Ok)(hq:rq.Good)(C1:zb rq)(hk:rq.ax=5∨rq.ax=6∨rq.ax=10):
  Calls af 98 #[.pointer (some ⟨e,0,none⟩),.agg (cS rq)] w (eZ aB e q [dW es.bk rq] es w):=by
 obtain⟨xq,il⟩:=ae w.heap.size;obtain⟨w1,a8⟩:=ae (w.alloc (.cells (cS rq) 41));have bA:=aa (aK a8);have vo:=aa (aJ a8 il);have vp:=aa (h.ak bA.o);have HN:=aa h.news;have tj:=aa (show w.heap.size≤xq∧xq<w1.heap.size from⟨ai,vo.o.lt⟩);have HAN:=aa (show ∀ W,fL (fun k=>aB k=3) W q.bk es.bk→Calls af 209 #[.pointer (some ⟨q.bk,0,none⟩),.agg (cS rq)] W (Ki (fun k=>aB k=3) q.bk es.bk rq W)from fun W hW=>Eo _ W q.bk es.bk rq hW hb hq C1 hk);obtain⟨Xc,Jn⟩:=ae (dW es.bk rq);have RG:=aa Jn;clear h hb hq C1 hk Jn;go_enter Tryz.func98,Tryz.ntmps98;go_upto_region 1 with fail
 clear a8 il;go_cut [5,6] from 7 to 15 (fun s5 s6 wc=>∃ xa,s5= .pointer (some ⟨xa,0,none⟩)∧aG wc xa 108 (lf Xc)∧bD aB wc e q wt es∧aI (fun k=>aB k≠0) w wc)
 case first=>
  have fX:=aa (show ∀ W,bD aB W e q wt es→aG W xq 41 (cS rq)→(W.cell? ⟨e,4,none⟩=some (.pointer (some ⟨q.bk,0,none⟩))∧W.rangeAt xq 0 (cS rq).toList)from fun W hE hQ=>⟨hE.own.cell 4,fun j u hj=>by rw[gV,hQ.cell j];simpa using hj⟩);obtain⟨wd,hwd⟩:=ae w1.drew;have gO:Below w1.heap.size w1 wd:=mU;have mm:=aa (vp.o.ak gO);have kJ:=vo.jC gO;have ko:=aa (show aI (fun k=>aB k≠0) w wd from aI.aW (av bA.o gO));clear gO;refine wp_region_held_drew (S:=(fun W=>W.cell? ⟨e,4,none⟩=some (.pointer (some ⟨q.bk,0,none⟩))∧W.rangeAt xq 0 (cS rq).toList)) bh (by rw[hwd];exact fX.o _ mm.o kJ.o) (fun hHeld=>?_);rw[hwd] at hHeld ⊢;clear hwd vp vo;refine lA 0 1 2 3 ?_;refine fc 4 (some 12) hHeld 41 (.tmp 3) xq 0 (cS rq).toList _ (fun w' h=>h.2) cD rfl aH ?_;try simp only[aZ]
  refine qh 5 9 (fun K hK=>?_) fun K hK=>?_
  ·go_simp;refine(HAN.o _ mm.o.rest.book).mono ?_;rintro en v1 ⟨rfl,cL,ht⟩;rw[RG.o];have iV:=aa (mm.o.asked cL ht);have lj:=aa (ht.arr kJ.o (fun c=>wR));have iE:=aa (ko.o.trans (ht.mono fun k _ hk=>oA));clear cL ht;go_wp2_with fail;refine bW hK AG fun hh1=>?_
   clear hK K;refine SH 6 7 8 ?_;refine cJ 9 fun K hK=>?_
   obtain⟨v2,hv2⟩:=ae (v1.alloc (.cells #[.int .u32 0,.int .i64 0,.int .i64 0,.int .u32 0,.int .i64 0,.int .i64 0,.int .i64 0] 108));obtain⟨xa,iZ⟩:=ae v1.heap.size;have hb:=aK hv2;have eH:=aa (show bD aB v2 e q wt es from iV.o.ak hb);have gi:=aa (show aG v2 xq 41 (cS rq)from lj.o.ah hb);have eY:=aa (show aI (fun k=>aB k≠0) w v2 from iE.o.ak hb);have Ys:=aa (aJ hv2 iZ);have HW9:=aa (show w.heap.size≤xa from K4);have qF:=aa (show xq<xa from Ay);clear hb;go_simp;go_wp2_with fail;try rw[hv2]
   try rw[iZ]
   clear hv2 iZ;refine bW hK vt fun QO=>?_
   clear hK K;exact acA
  obtain⟨v1,kq⟩:=ae (wd.alloc (.cells #[.int .u32 0,.int .i64 0,.int .i64 0,.int .u32 0,.int .i64 0,.int .i64 0,.int .i64 0] 108));obtain⟨xa,iZ⟩:=ae wd.heap.size;have hb:=aK kq;have iV:=aa (show bD aB v1 e q wt es from mm.o.ak hb);have lj:=aa (show aG v1 xq 41 (cS rq)from kJ.o.ah hb);have iE:=aa (show aI (fun k=>aB k≠0) w v1 from ko.o.ak hb);have afZ:=aa (aJ kq iZ);have HW9:=aa (show w.heap.size≤xa from by rw[←iZ];exact ko.o.size);have qF:=aa (show xq<xa from Ax);clear hb;go_simp;go_wp2_with fail;try rw[kq]
  try rw[iZ]
  clear kq iZ;refine bW hK AG fun hh1=>?_
  clear hK K;refine cJ 5 fun K hK=>?_
  go_simp;refine(HAN.o _ iV.o.rest.book).mono ?_;rintro en v2 ⟨rfl,cL,ht⟩;rw[RG.o];have eH:=aa (iV.o.asked cL ht);have gi:=aa (ht.arr lj.o (fun c=>wR));have eY:=aa (iE.o.trans (ht.mono fun k _ hk=>oA));have Ys:=aa (ht.arr afZ.o (fun c=>by have:=(HN.o _ HW9.o).1;rw[this] at c;exact absurd c aM));clear cL ht;go_wp2_with fail;refine bW hK vt fun QO=>?_
  clear hK K;refine SH 6 7 8 ?_;exact acA
 case rest=>
  obtain⟨xa,rfl,hA,hE,hT⟩:=hcut;have HA:=aa hA;have HE:=aa hE;have HT:=aa hT;clear hA hE hT vp vo;have HF:=aa (show ∀ g c,g=wc.heap.size→eZ aB e q [dW es.bk rq] es w (.returned (.slice (some ⟨g,0,none⟩) 1 c)) (wc.alloc (.cells (lf Xc) 108))from fun g c hg=>by
   rw[RG.o];refine eZ.one HE.o (fun k hk=>.inl hk) HT.o (fun _=>⟨g,0,rfl,by rw[hg];simp,fun i hi j u hj=>?_⟩) (ay (ar _ _) _);have h0:i=0:=Ak;subst h0;have:=(aG.fresh wc 108 (lf Xc)).cell j;simp only[Nat.zero_mul,gV];rw[hg];refine this.trans ?_;simpa using hj)
  go_wp2_with (refine aC rfl 108 (.tmp 5) rfl xa 108 #[.int .u32 Xc.tag,.int .i64 Xc.ax,.int .i64 Xc.err,.int .u32 Xc.id,.int .i64 Xc.aw,.int .i64 Xc.aR,.int .i64 Xc.count] HA.o rfl _ eA rfl aS ?_);go_ret;exact HF.o _ _ rfl
