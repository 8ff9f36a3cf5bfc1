import Derived.Deep.CutBlock
import Derived.Test.YtemighjbfanenaaGreatDoorPk38
set_option linter.all false
set_option maxRecDepth 100000
set_option maxHeartbeats 16000000
namespace Go.Proofs.YtemighjbfanenaaGreatDoor
open List renaming getElem?_toArray→GZ,getElem?_cons_zero→Ow,getElem?_cons_succ→ZY
open RowKit
open Oc (Bs kQ le rU val)
open Eg (im jB jM KW)
open Cr (cn)
open Bk (fQ)
open En (yP dJ Rec Rq ki za ed aV aF pW bE dc)
open Go.Act renaming eval→acg
open Go.Value renaming oneCell'→eA,slice→jr
open Go.WalkArith renaming wf_i64→lJ
open List renaming getElem?_eq_getElem→cI,getElem?_eq_none→gZ,getD_eq_getElem?_getD→bQ
open Nat renaming le_trans→bf,zero_add→gY,le_of_eq→fX,lt_of_lt_of_le→aP
open RowKit.Below renaming refl→aq
open Tryz renaming prog→af,underlying108→eW,underlying66→ach,underlying38→aci,underlying41→cq
theorem aaI{p:Prop}(h:p:=by
 try simp only[aQ]
 refine fj 7 (some 34) hHeld 41 (.tmp 5) xq 0 (dc (bI b).1).toList _ (fun w' h=>h.2.2.1) cq rfl aF ?_;try simp only[aQ]
 refine cD 8 fun K hK=>?_
 go_simp;refine(HC.o _ (ar ek.o HBd.o)).mono ?_;rintro en w4 ⟨⟨A',c',rfl,h5⟩,h6,⟨T,h7,h8⟩,h9,h10⟩;have HH:=aa (show ∃A'' c'',jr A' l.length c'=.slice A'' l.length c''∧Tl w4 A'' l∧R w4 from⟨A',c',rfl,h5,h6⟩);have hq4:aD w4 xq 41 (dc (bI b).1):=h7.arr (jE.o.keep HBd.o) (fun hx=>ae0);have gI:=aa (show w4.cell? ⟨e,6,none⟩=some (.map (some mb))∧w4.cell? ⟨xq,0,none⟩=some (.int .i64 (bI b).1.ax)∧w4.rangeAt xq 0 (dc (bI b).1).toList∧jB w4 mb (jM e)from⟨h9,hq4.cell 0,fun j u hj=>ae5,h10⟩);clear h5 h6 h7 h8 h9 h10 hq4;go_wp2_with fail;refine bW hK (by exact gI.o) fun hH8=>?_
 clear hK K;refine ty 9 ?_;refine bF ?_;go_wp2_with fail;go_meet;exact HH.o):p:=h
theorem adw{p:Prop}(h:p:=by
 refine cD 10 fun K hK=>?_
 refine cT 108 _ _ rfl xa 108 _ (pW Ym) ZI.o rfl rfl rfl aV T7 ?_;intro v3 dE hg gL;have jT:=HW9.o;have ei:=aa (show bw aA v3 e q wt es from eN.o.grown hg jT HN.o);have fK:=aa (show aD v3 xq 41 (dc rq)from gi.o.bo hg (fun e=>T4));have fe:=aa (show aG (fun k=>aA k≠0) w v3 from vC fg.o hg jT);have ahe:=aa dE;clear dE hg gL jT;refine bW hK pC fun K3=>?_
 clear hK K;refine ty 11 ?_;refine bF ?_;go_wp2_with fail;go_meet;exact⟨xa,rfl,ahe.o,ei.o,fe.o⟩):p:=h
theorem Pj{p:Prop}(h:p:=by
 intro w' hSw;have h7:=fG.ahP (z:=.nilFunc) hSw.2.2.2 aci ach aW (i:=(bI b).1.ax) (lJ AF);rw[HF.o] at h7;simp[execOp,h7,acg]):p:=h
theorem adf{p:Prop}(h:p:=by
 all_goals(refine bodyPost_ret (results_cell_tmp Tryz.results209 _ iN (aI 108 HAZ.o _ eW rfl aV)) rfl ?_;refine⟨by rw[SQ.o];rfl,nQ HBZ.o Zp.o (fun k hk e=>oJ.o k AK hk),HTZ.o.grown Zp.o (fun k e=>aeR)⟩)):p:=h
theorem Wl{p:Prop}(h:p:=by
 exact h9.mono fun e w' h=>⟨h.1,by obtain⟨x,hx⟩:=hW;exact⟨x,hx.ai h.2⟩,aG.aU h.2⟩):p:=h
theorem wQ{p:Prop}(h:p:=by have:=(HN.o xq yM.o.1).1;rw[this] at c;exact absurd c (by decide)):p:=h
theorem pC{p:Prop}(h:p:=by exact ic.o _ ei.o fK.o):p:=h
theorem oo{p:Prop}(h:p:=by show aA k≠0;rw[hk];decide):p:=h
theorem T7{p:Prop}(h:p:=by simp[pW,eA]):p:=h
theorem vA{p:Prop}(h:p:=by exact ic.o _ eN.o gi.o):p:=h
theorem acx{p:Prop}(h:p:=by intro u hu;simp at hu;rcases hu with rfl|rfl|rfl|rfl|rfl|rfl|rfl <;>rfl):p:=h
theorem acu{p:Prop}(h:p:=by rw[←hw2,←aX,←jw];exact(aD.fresh w _ _).alloc _):p:=h
theorem FK{p:Prop}(h:p:=by rw[gY,(jE.o.keep hW).cell j];simpa using hj):p:=h
theorem U6{p:Prop}(h:p:=by rw[←WQ];exact En.iI (CT.o) (aG.at w9 x6 2 _) (fun k hk e=>oJ.o k (by omega) hk)):p:=h
theorem U3{p:Prop}(h:p:=by rw[←WQ];exact EJ.o.put (p:=⟨x6,2,none⟩) (.inr (by show w.heap.size≤x6;omega)) _):p:=h
theorem UT{p:Prop}(h:p:=by obtain⟨x,hx⟩:=h;exact fT (hx.ai hW).bg):p:=h
theorem AM{p:Prop}(h:p:=by exact ic.o _ iW.o ll.o):p:=h
theorem ae5{p:Prop}(h:p:=by rw[gY,hq4.cell j];simpa using hj):p:=h
theorem FA{p:Prop}(h:p:=by injection e with e;have:=Zm.o;omega):p:=h
theorem AK{p:Prop}(h:p:=by have:=Cf.o;omega):p:=h
theorem UM{p:Prop}(h:p:=by rw[←WQ];exact HR9.o.other (p:=⟨x6,2,none⟩) (by show xr≠x6;omega) _):p:=h
theorem UL{p:Prop}(h:p:=by rw[←WQ];exact HK9.o.other (p:=⟨x6,2,none⟩) (by show x7≠x6;omega) _):p:=h
theorem ae0{p:Prop}(h:p:=by have:=h8 _ hx;have:=HXL.o;omega):p:=h
theorem LZ{p:Prop}(h:p:=by injection e with e;exact .inr (by omega)):p:=h
theorem UB{p:Prop}(h:p:=by rcases k with k|k <;>exact HZ.o xq (by rw[k];decide) rfl):p:=h
theorem AB{p:Prop}(h:p:=by have:=ll.o.lt;omega):p:=h
theorem AA{p:Prop}(h:p:=by have:=kM.o.lt;omega):p:=h
theorem Fo{p:Prop}(h:p:=by rw[hwd];exact NN.o _ HBd.o):p:=h
theorem Uw{p:Prop}(h:p:=by rcases hk with hk|hk <;>(show aA k≠0;rw[hk];decide)):p:=h
theorem aeR{p:Prop}(h:p:=by injection e with e;exact .inr (by have:=Cf.o;omega)):p:=h
theorem Fj{p:Prop}(h:p:=by have:=hb.n;omega):p:=h
theorem LK{p:Prop}(h:p:=by rw[←jb];exact iJ.o.size):p:=h
section
namespace En
def aey(l:List Rp)(R:World→Prop)(w:World)(e mb:Nat)(W:World)(en:Ending)(W':World): Prop:=
 (∃A c,en=.returned (.slice A l.length c)∧Tl W' A l)∧R W'∧(∃T:Nat→Prop,aG T W W'∧∀k,T k→k<w.heap.size)∧W'.cell? ⟨e,6,none⟩=some (.map (some mb))∧jB W' mb (jM e)
inductive amH (w:World) (e:Nat) (b:By) (up:Bool) (mp:Value) (l:List Rp) (R:World→Prop):Prop where
 | bad (h:(bI b).2≠0) (hl:l= [⟨0,0,200,0,0,0,0⟩]) (hR:∀W,Below w.heap.size w W→R W)
 | idle (h:(bI b).2=0) (hu:up=false) (hl:l= [⟨(bI b).1.tag,(bI b).1.ax,230,0,0,0,0⟩]) (hR:∀W,Below w.heap.size w W→R W)
 | does (h:(bI b).2=0) (hu:up=true) (mb f:Nat) (hm:mp=.map (some mb)) (hM:jB w mb (jM e)) (hf:KW (jM e) (bI b).1.ax=some (.func (.func f) #[.pointer (some ⟨e,0,none⟩)] #[]))
  (hC:∀W,Below w.heap.size w W→Calls af f #[.pointer (some ⟨e,0,none⟩),.agg (dc (bI b).1)] W (aey l R w e mb W))
theorem Rc: (af.info? 34).map (fun i=>(i.zero,i.size,i.bytes))=some (some (.slice none 0 0),1,24):=aW
theorem Mo(b:By)(h:(bI b).2=0): 1≤(bI b).1.ax∧(bI b).1.ax≤10:=by
 unfold bI at h ⊢;split at h
 ·rename_i h1;rw[if_pos h1];have h2:(kD b).1.ax=(OV b).1.ax:=by unfold kD;rw[yB]
  show 1≤(kD b).1.ax∧(kD b).1.ax≤10
  rw[h2];have:=h1.1;simpa[jz] using this
 exact absurd h aM
theorem abk{e f:Nat}{k:Int}(hk:1≤k∧k≤10)(h:KW (jM e) k=some (.func (.func f) #[.pointer (some ⟨e,0,none⟩)] #[])): f=101∨f=99∨f=100∨f=98:=by
 have Ie:k=1∨k=2∨k=3∨k=4∨k=5∨k=6∨k=7∨k=8∨k=9∨k=10:=ag;rcases Ie with rfl|rfl|rfl|rfl|rfl|rfl|rfl|rfl|rfl|rfl <;>simp[KW,jM] at h <;>simp[←h]
theorem ZN{w:World}{e:Nat}{up:Bool}{lg sl bk:Option Addr}{wt mp:Value}(hE:im w e up lg sl bk wt mp)(b:By)(A:Option Addr)(c:Nat)(hB:Bs w A b)(hA:rU A)(hl:b.length≤70368744177664)(l:List Rp)(R:World→Prop)
  (hR:∀W W',R W→Below W.heap.size W W'→R W') (hT:∀W,R W→gh W) (hs:∀W,R W→w.heap.size≤W.heap.size) (fz:∀r∈l,zb r (zq r.ax r.err)) (MY:l.length≤1000) (hW:amH w e b up mp l R) :
  Calls af 12 #[.pointer (some ⟨e,0,none⟩),.slice A b.length c] w (N6 (l.map cV) R w):=by
 have x0:w.cell? ⟨e,0,none⟩=some (.bool true):=hE.cell 0;have HG:=aa (YA b A c w hB hA hl);have HE:=aa hE;have HR:=aa hR;have HT:=aa hT;have HS:=aa hs;have uq:=aa fz;have HW:=aa hW;clear hE hB hA hl hR hT hs fz hW;go_enter Tryz.func12,Tryz.ntmps12;go_wp2_with fail;refine HG.o.mono ?_;rintro en w1 ⟨rfl,hb1⟩;have bu:=aa hb1;clear hb1 x0;obtain⟨xq,jw⟩:=ae w1.heap.size;obtain⟨w2,hw2⟩:=ae (w1.alloc (.cells #[.int .i64 0,.int .u32 0,.int .u32 0,.int .i64 0,.int .i64 0] 41));have jI:=aa (aH hw2 jw);have cx:=aa (aJ hw2);have yM:=aa jw;go_upto_block 0 with(refine aj rfl 41 _ _ rfl xq 41 _ (dc (bI b).1) jI.o rfl rfl rfl aF LF ?_;intro w3 dB hg3 hs3;have ek:=aa (ar bu.o (show Below w1.heap.size w1 w3 from br cx.o hg3 (fX yM.o)));have jE:=aa dB;clear dB hg3 hs3)
 have KI:=aa (show im w3 e up lg sl bk wt mp from aD.keep HE.o ek.o);have HXL:=aa (show w.heap.size≤xq by have:=bu.o.size;have:=yM.o;omega);clear HE HG jI bu cx yM jw hw2;go_cut [7] from 27 to 48 (fun s7 wc=>∃A' c',s7=.slice A' l.length c'∧Tl wc A' l∧R wc)
 case first=>
  rcases HW.o with⟨h1,h2,h3⟩|⟨h1,h2,h3,h4⟩|⟨h1,h2,mb,f,hm,hM,hf,hC⟩
  ·have K8:((bI b).2==0)=false:=beq_eq_false_iff_ne.2 h1;go_wp2_with fail;refine(lz Rq.zero 200 w3).mono ?_;rintro en w4 ⟨A',c',rfl,h5,h6⟩;have HH:=aa (show ∃A'' c'',jr A' 1 c'=.slice A'' l.length c''∧Tl w4 A'' l∧R w4 from by subst h2;exact⟨A',c',rfl,h5,h3 _ (ar ek.o h6)⟩);clear h1 h2 h3 h5 h6 K8;go_wp2_with fail;go_meet;exact HH.o
  ·subst h2;have e1:w3.cell? ⟨e,1,none⟩=some (.bool false):=KI.o.cell 1;have Tj:((bI b).2==0)=true:=Aq;have h1b:((bI b).2 != 0)=false:=Aq;clear h1;go_wp2_with (refine aB rfl 41 (.tmp 5) rfl xq 41 _ jE.o rfl _ cq rfl aF ?_);refine(lz (bI b).1 230 w3).mono ?_;rintro en w4 ⟨A',c',rfl,h5,h6⟩;have HH:=aa (show ∃A'' c'',jr A' 1 c'=.slice A'' l.length c''∧Tl w4 A'' l∧R w4 from by subst h3;exact⟨A',c',rfl,h5,h4 _ (ar ek.o h6)⟩);clear Tj h1b h3 h4 h5 h6 e1;go_wp2_with fail;go_meet;exact HH.o
  subst h2;subst hm;have e1:w3.cell? ⟨e,1,none⟩=some (.bool true):=KI.o.cell 1;have HM:=aa hM;have HC:=aa hC;have HF:=aa hf;have HK:=aa (Mo b h1);have Tj:((bI b).2==0)=true:=Aq;have h1b:((bI b).2 != 0)=false:=Aq;clear hM hC hf h1;rcases abk HK.o HF.o with rfl|rfl|rfl|rfl
  ·go_upto_region 5 with fail
   clear e1 Tj h1b;obtain⟨wd,hwd⟩:=ae w3.drew;have HBd:=aa (show Below w3.heap.size w3 wd from mR);have NN:=aa (show ∀W,Below w3.heap.size w3 W→W.cell? ⟨e,6,none⟩=some (.map (some mb))∧W.cell? ⟨xq,0,none⟩=some (.int .i64 (bI b).1.ax)∧W.rangeAt xq 0 (dc (bI b).1).toList∧jB W mb (jM e)from fun W hW=>⟨(KI.o.keep hW).cell 6,(jE.o.keep hW).cell 0,fun j u hj=>FK,(HM.o.keep ek.o).keep hW⟩);refine wp_region_held_drew (S:=fun w'=>w'.cell? ⟨e,6,none⟩=some (.map (some mb))∧w'.cell? ⟨xq,0,none⟩=some (.int .i64 (bI b).1.ax)∧w'.rangeAt xq 0 (dc (bI b).1).toList∧jB w' mb (jM e)) aW Fo (fun hHeld=>?_);rw[hwd] at hHeld ⊢;refine cS 0 (some 27) hHeld ?_;refine cS 1 (some 28) hHeld ?_;refine cS 2 (some 29) hHeld ?_;refine cS 3 (some 30) hHeld ?_;refine cS 4 (some 31) hHeld ?_;refine ty 5 ?_;refine pE (i:=6) (oi:=?o61) (d:=some 33) (v:=.func (.func 101) #[.pointer (some ⟨e,0,none⟩)] #[]) ?al9 aW aW aW (fun _ _ _ h=>h) ?amn ?aly ?aln hHeld ?_
   case al9=>(simp only[dZ];exact rfl)
   case amn=>rfl
   case aly=>rfl
   case aln=>
    exact Pj
   exact aaI
  ·go_upto_region 5 with fail
   clear e1 Tj h1b;obtain⟨wd,hwd⟩:=ae w3.drew;have HBd:=aa (show Below w3.heap.size w3 wd from mR);have NN:=aa (show ∀W,Below w3.heap.size w3 W→W.cell? ⟨e,6,none⟩=some (.map (some mb))∧W.cell? ⟨xq,0,none⟩=some (.int .i64 (bI b).1.ax)∧W.rangeAt xq 0 (dc (bI b).1).toList∧jB W mb (jM e)from fun W hW=>⟨(KI.o.keep hW).cell 6,(jE.o.keep hW).cell 0,fun j u hj=>FK,(HM.o.keep ek.o).keep hW⟩);refine wp_region_held_drew (S:=fun w'=>w'.cell? ⟨e,6,none⟩=some (.map (some mb))∧w'.cell? ⟨xq,0,none⟩=some (.int .i64 (bI b).1.ax)∧w'.rangeAt xq 0 (dc (bI b).1).toList∧jB w' mb (jM e)) aW Fo (fun hHeld=>?_);rw[hwd] at hHeld ⊢;refine cS 0 (some 27) hHeld ?_;refine cS 1 (some 28) hHeld ?_;refine cS 2 (some 29) hHeld ?_;refine cS 3 (some 30) hHeld ?_;refine cS 4 (some 31) hHeld ?_;refine ty 5 ?_;refine pE (i:=6) (oi:=?o62) (d:=some 33) (v:=.func (.func 99) #[.pointer (some ⟨e,0,none⟩)] #[]) ?afL aW aW aW (fun _ _ _ h=>h) ?afV ?afy ?alm hHeld ?_
   case afL=>(simp only[dZ];exact rfl)
   case afV=>rfl
   case afy=>rfl
   case alm=>
    exact Pj
   exact aaI
  ·go_upto_region 5 with fail
   clear e1 Tj h1b;obtain⟨wd,hwd⟩:=ae w3.drew;have HBd:=aa (show Below w3.heap.size w3 wd from mR);have NN:=aa (show ∀W,Below w3.heap.size w3 W→W.cell? ⟨e,6,none⟩=some (.map (some mb))∧W.cell? ⟨xq,0,none⟩=some (.int .i64 (bI b).1.ax)∧W.rangeAt xq 0 (dc (bI b).1).toList∧jB W mb (jM e)from fun W hW=>⟨(KI.o.keep hW).cell 6,(jE.o.keep hW).cell 0,fun j u hj=>FK,(HM.o.keep ek.o).keep hW⟩);refine wp_region_held_drew (S:=fun w'=>w'.cell? ⟨e,6,none⟩=some (.map (some mb))∧w'.cell? ⟨xq,0,none⟩=some (.int .i64 (bI b).1.ax)∧w'.rangeAt xq 0 (dc (bI b).1).toList∧jB w' mb (jM e)) aW Fo (fun hHeld=>?_);rw[hwd] at hHeld ⊢;refine cS 0 (some 27) hHeld ?_;refine cS 1 (some 28) hHeld ?_;refine cS 2 (some 29) hHeld ?_;refine cS 3 (some 30) hHeld ?_;refine cS 4 (some 31) hHeld ?_;refine ty 5 ?_;refine pE (i:=6) (oi:=?o63) (d:=some 33) (v:=.func (.func 100) #[.pointer (some ⟨e,0,none⟩)] #[]) ?afK aW aW aW (fun _ _ _ h=>h) ?afU ?afx ?alk hHeld ?_
   case afK=>(simp only[dZ];exact rfl)
   case afU=>rfl
   case afx=>rfl
   case alk=>
    exact Pj
   exact aaI
  go_upto_region 5 with fail
  clear e1 Tj h1b;obtain⟨wd,hwd⟩:=ae w3.drew;have HBd:=aa (show Below w3.heap.size w3 wd from mR);have NN:=aa (show ∀W,Below w3.heap.size w3 W→W.cell? ⟨e,6,none⟩=some (.map (some mb))∧W.cell? ⟨xq,0,none⟩=some (.int .i64 (bI b).1.ax)∧W.rangeAt xq 0 (dc (bI b).1).toList∧jB W mb (jM e)from fun W hW=>⟨(KI.o.keep hW).cell 6,(jE.o.keep hW).cell 0,fun j u hj=>FK,(HM.o.keep ek.o).keep hW⟩);refine wp_region_held_drew (S:=fun w'=>w'.cell? ⟨e,6,none⟩=some (.map (some mb))∧w'.cell? ⟨xq,0,none⟩=some (.int .i64 (bI b).1.ax)∧w'.rangeAt xq 0 (dc (bI b).1).toList∧jB w' mb (jM e)) aW Fo (fun hHeld=>?_);rw[hwd] at hHeld ⊢;refine cS 0 (some 27) hHeld ?_;refine cS 1 (some 28) hHeld ?_;refine cS 2 (some 29) hHeld ?_;refine cS 3 (some 30) hHeld ?_;refine cS 4 (some 31) hHeld ?_;refine ty 5 ?_;refine pE (i:=6) (oi:=?o64) (d:=some 33) (v:=.func (.func 98) #[.pointer (some ⟨e,0,none⟩)] #[]) ?aaW aW aW aW (fun _ _ _ h=>h) ?afT ?afw ?alj hHeld ?_
  case aaW=>(simp only[dZ];exact rfl)
  case afT=>rfl
  case afw=>rfl
  case alj=>
   exact Pj
  exact aaI
 case rest=>
  obtain⟨Ar,cr,rfl,hr,hRc⟩:=hcut;obtain⟨j0,hj,hz0,hz1,hz2⟩:=info_parts Rc;have HRc:=aa hRc;have HZc:=aa (HS.o wc hRc);have am0:=aa hr;clear hRc HW hr;go_wp2_with fail;go_loopw [8,51] (fun v8 i wr=>∃(j:Nat) (G C:Nat→Nat),j≤l.length∧i=.int .i64 j∧cR wc.heap.size wr v8 ((l.take j).map cV) G C∧Below wc.heap.size wc wr) (fun _ i _=>(l.length-intOf i).toNat)
  case atStart=>exact⟨0,fun _=>0,fun _=>0,Nat.zero_le _,rfl,cR.nil _ _,aq _ _⟩
  case round=>
   obtain⟨j,G,C,S9,rfl,hO,hbr⟩:=hrel;have hr:=am0.o.keep hbr;have hRr:=HR.o _ _ HRc.o hbr;by_cases h2:j<l.length
   ·have ZA:=aa hbr;obtain⟨g,off,rfl,oT,hcell⟩:=hr (fun h0=>Fi);have h2':(j:Int)<l.length:=ag;obtain⟨r,hre⟩:=ae (l[j]);have HCE:=aa (hcell j h2);have HRK:=aa (uq.o r (by rw[←hre];exact List.getElem_mem h2));rw[hre] at HCE;have vw:=aa hre;have HO:=aa hO;have HRr:=aa hRr;have HJ:=aa h2;clear hcell hO hRr hbr oT hre hr;obtain⟨xb,Dg⟩:=ae wr.heap.size;obtain⟨w4,hw4⟩:=ae (wr.alloc (.cells #[.int .u32 0,.int .i64 0,.int .i64 0,.int .u32 0,.int .i64 0,.int .i64 0,.int .i64 0] 108));have po:=aa (aH hw4 Dg);have gI:=aa (aJ hw4);have rE:=aa Dg;go_wp2_with (first|(refine wpList_load_mid rfl 108 (.tmp 53) rfl g (off+j*7) rfl (pW r).toList _ HCE.o eW rfl aV ?_)|(refine aj rfl 108 (.tmp 10) _ rfl xb 108 _ (pW r) po.o rfl rfl rfl aV T7 ?_;intro w5 fY cJ hs5;have eQ:=aa (show Below wr.heap.size wr w5 from br gI.o cJ (fX rE.o));have o6:=aa fY;clear fY cJ hs5)|(refine aB rfl 108 (.tmp 10) rfl xb 108 _ o6.o rfl _ eW rfl aV ?_));refine(YD r w5 (HT.o _ (HR.o _ _ HRr.o eQ.o)) HRK.o).mono ?_;rintro en w6 ⟨A2,c2,rfl,hG2,hc2,kB⟩;obtain⟨g2,rfl,hg2,XD⟩:=hG2 (fun h0=>by have:=(rS r).1;rw[h0] at this;simp at this);have jy:=eQ.eo kB;have tR:=aa (show wr.heap.size≤g2∧kQ w6 g2 (cV r) c2∧(cV r).length≤c2 from⟨by have:=eQ.o.size;omega,XD,hc2⟩);have HLJ:=aa (show((l.take j).map cV).length=j by have:=HJ.o;simp;omega);have HO6:=aa (HO.o.keep (aw jy.o (.cells #[.slice (some ⟨g2,0,none⟩) (cV r).length c2] 34)));clear hG2 hc2 hg2 XD kB;go_wp2_with (refine gO _ rfl (.tmp 60) (.tmp 62) 33 rfl 34 j0 (.slice none 0 0) 1 24 Tryz.underlying33 hj hz0 hz1 hz2 rfl aM u8 ((l.take j).map cV).length _ rfl HO6.o.row ⟨w6.heap.size,0,none⟩ 1 [.slice (some ⟨g2,0,none⟩) (cV r).length c2] rfl rfl (ik w6 _ _) AU (by have:=HLJ.o;unfold maxLen;omega) (by have:=HLJ.o;omega) ?_;intro ga ca w8 hr8 Xr;have HN8:=aa (show aO _ w8 _ _ _ _ _∧(w6.alloc (.cells #[.slice (some ⟨g2,0,none⟩) (cV r).length c2] 34)).grownBy w8 u8.ownBlock from⟨hr8,Xr⟩);clear hr8 Xr);go_roundw
    case rel=>
     have pc:=aw jy.o (.cells #[.slice (some ⟨g2,0,none⟩) (cV r).length c2] 34);have ho8:=HO.o.snoc (x:=cV r) (g2:=g2) (c2:=c2) (ga:=ga) (ca:=ca) pc (tR.o.2.1.same (Below.heap_alloc w6 _ _ tR.o.2.1.lt)) tR.o.1 ZA.o.size tR.o.2.2 HN8.o.1 HN8.o.2;have hl8:(l.take (j+1)).map cV=(l.take j).map cV++[cV r]:=by rw[List.take_add_one,cI HJ.o,vw.o];simp
     rw[←hl8,HLJ.o] at ho8;exact⟨j+1,_,_,HJ.o,by go_num,ho8,(ar ZA.o pc).grown HN8.o.2 (ar ZA.o pc).size (fun k e=>HO.o.new k e)⟩
    case measure=>simp[intOf];omega
   obtain rfl:j=l.length:=ag;rw[List.take_length] at hO;have HF:=aa (show N6 (l.map cV) R w (.returned u8) wr from⟨u8,G,C,wc,rfl,hO,HZc.o,HRc.o,hbr⟩);clear hO hr hRr hbr;go_wp2_with fail;go_ret;exact HF.o
end En
end
section
namespace En
structure sM where
 lq:Nat
 rl:Nat
 sl:Nat
 ra:Nat
 rb:Nat
 p:Nat
 bk:Nat
 mb:Nat
def Rp.none: Rp:=⟨0,0,0,0,0,0,0⟩
def Mq(l:List Rp)(i:Nat): List Value:=(pW (l.getD i Rp.none)).toList
theorem aap(l:List Rp)(i:Nat): (Mq l i).length=7:=rfl
theorem I5(l:List Rp)(x:Rp): cO (Mq l) l.length (pW x).toList=Mq (l++[x]):=by
 funext i;unfold cO Mq;by_cases h:i=l.length
 ·subst h;simp
 rw[if_neg h];simp only[bQ];rcases Nat.lt_or_ge i l.length with h1|h1
 ·rw[List.getElem?_append_left h1]
 rw[gZ h1,gZ fH]
theorem iI{S T:Nat→Prop}{w w':World}{b:Nat}{bk:dJ}(h:fQ S w b bk)(ht:aG T w w')(hd:∀k,S k→¬T k): fQ S w' b bk:=by
 obtain⟨x,hx⟩:=h;exact⟨x,⟨hx.bg.same ht.size fun k hk hl=>ht.block k hl (hd k hk),hx.bits,hx.dQ,hx.under,hx.listed,hx.small,hx.qm⟩⟩
structure df(aA:Nat→Nat)(w:World)(e:Nat)(q:sM)(es:Es): Prop where
 does:jB w q.mb (jM e)
 log:uW q.lq q.rl q.p es.log es.rg es.dev.dk.size (fun k=>aA k=1) w
 dev:dI q.p es.dev (fun k=>aA k=2) w
 book:fQ (fun k=>aA k=3) w q.bk es.bk
 slots:qz w q.sl q.ra q.rb q.p es.sl es.dev.dk.size
 r5:aA e=5
 r6:aA q.mb=6
 r7:aA q.sl=7∧aA q.ra=7∧aA q.rb=7
 lt:∀k,aA k≠0→k<w.heap.size
 iy:cn w
 rep:gh w
 lh:aA 1=0∧aA 0=0
structure bw(aA:Nat→Nat)(w:World)(e:Nat)(q:sM)(wt:Value)(es:Es): Prop where
 rest:df aA w e q es
 own:im w e es.up (some ⟨q.lq,0,none⟩) (some ⟨q.sl,0,none⟩) (some ⟨q.bk,0,none⟩) wt (.map (some q.mb))
 aK:aO (fun k=>aA k=4) w 108 7 wt es.aK.length (Mq es.aK)
def grow(aA:Nat→Nat)(w w':World)(r:Nat): Nat→Nat:=fun k=>if k<w.heap.size then aA k else if k<w'.heap.size then r else 0
section
variable {aA:Nat→Nat}{w w':World}{e:Nat}{q:sM}{wt:Value}{es:Es}
variable{r:Nat}
theorem xQ(hlt:∀k,aA k≠0→k<w.heap.size)(hz:w.heap.size≤w'.heap.size)(hr:r≠0): (fun k=>grow aA w w' r k=r)=Gr (fun k=>aA k=r) w w':=by
 funext k;unfold grow Gr;apply propext;by_cases h1:k<w.heap.size
 ·rw[if_pos h1];constructor
  ·exact fun h=>.inl h
  rintro(h|h);exact h;omega
 rw[if_neg h1];by_cases h2:k<w'.heap.size
 ·rw[if_pos h2];exact⟨fun _=>.inr ⟨ag,h2⟩,fun _=>rfl⟩
 rw[if_neg h2];constructor
 ·exact fun h=>absurd h.symm hr
 rintro(h|h)
 ·exact absurd (hlt k (by rw[h];exact hr)) h1
 omega
theorem gR{s:Nat} (hlt:∀k,aA k≠0→k<w.heap.size)(hs:s≠0)(hrs:s≠r): (fun k=>grow aA w w' r k=s)=(fun k=>aA k=s):=by
 funext k;unfold grow;apply propext;by_cases h1:k<w.heap.size
 ·rw[if_pos h1]
 rw[if_neg h1];have h0:¬aA k=s:=fun h=>h1 (hlt k (by rw[h];exact hs))
 by_cases h2:k<w'.heap.size
 ·rw[if_pos h2];exact⟨fun h=>absurd h.symm hrs,fun h=>absurd h h0⟩
 rw[if_neg h2];exact⟨fun h=>absurd h.symm hs,fun h=>absurd h h0⟩
theorem dM{k:Nat} (h:k<w.heap.size): grow aA w w' r k=aA k:=if_pos h
theorem zC(hlt:∀k,aA k≠0→k<w.heap.size)(hz:w.heap.size≤w'.heap.size):∀k,grow aA w w' r k≠0→k<w'.heap.size:=fun k hk=>by
 unfold grow at hk;by_cases h1:k<w.heap.size
 ·omega
 rw[if_neg h1] at hk;by_cases h2:k<w'.heap.size
 ·exact h2
 rw[if_neg h2] at hk;exact absurd rfl hk
theorem iR:∀k,grow aA w w' r k≠0→aA k≠0∨w.heap.size≤k:=fun k hk=>by
 unfold grow at hk;by_cases h1:k<w.heap.size
 ·rw[if_pos h1] at hk;exact .inl hk
 exact .inr ag
theorem df.ai(h:df aA w e q es)(hb:Below w.heap.size w w'): df aA w' e q es:=
 ⟨h.does.keep hb,(cC ..).ai h.log hb,(aC ..).ai h.dev hb,by obtain⟨x,hx⟩:=h.book;exact⟨x,hx.ai hb⟩,h.slots.keep hb,h.r5,h.r6,h.r7,fun k hk=>aP (h.lt k hk) hb.size,h.iy.keep hb,h.rep.keep hb,h.lh⟩
theorem bw.ai(h:bw aA w e q wt es)(hb:Below w.heap.size w w'): bw aA w' e q wt es:=⟨h.rest.ai hb,aD.keep h.own hb,h.aK.keep hb⟩
theorem df.cG(h:df aA w e q es)(ht:aG (fun k=>aA k=4∨aA k=5) w w'): df aA w' e q es:=by
 have no:∀ {k r:Nat},aA k=r→r≠4→r≠5→¬(aA k=4∨aA k=5):=fun h a b c=>by
  rcases c with c|c
  ·exact a (h.symm.trans c)
  exact b (h.symm.trans c)
 refine⟨?_,(cC ..).cG h.log ht (fun k hk=>no hk aM aM),(aC ..).cG h.dev ht (fun k hk=>no hk aM aM),?_,h.slots.cG ht (no h.r7.1 aM aM) (no h.r7.2.1 aM aM) (no h.r7.2.2 aM aM),h.r5,h.r6,h.r7,fun k hk=>aP (h.lt k hk) ht.size,
  h.iy.cG ht (no h.lh.1 aM aM),h.rep.cG ht (no h.lh.2 aM aM),h.lh⟩
 ·exact h.does.same (ht.block _ h.does.lt (no h.r6 aM aM))
 exact iI h.book ht (fun k hk=>no hk aM aM)
theorem df.flush(h:df aA w e q es){l:Lg}{d:bG}(hz:d.dk.size=es.dev.dk.size)(hl:uW q.lq q.rl q.p l es.rg es.dev.dk.size (fun k=>aA k=1) w')(hd:dI q.p d (Gr (fun k=>aA k=2) w w') w')(ht:aG (fun k=>aA k=1∨aA k=2) w w'):
  df (grow aA w w' 2) w' e q {es with log:=l,dev:=d}:=by
 have no:∀ {k r:Nat},aA k=r→r≠1→r≠2→¬(aA k=1∨aA k=2):=fun h a b c=>by
  rcases c with c|c
  ·exact a (h.symm.trans c)
  exact b (h.symm.trans c)
 have e1:=gR (w':=w') (r:=2) (s:=1) h.lt aM aM;have e2:=xQ (w':=w') (r:=2) h.lt ht.size aM;have e3:=gR (w':=w') (r:=2) (s:=3) h.lt aM aM;have o:∀ {k r:Nat},aA k=r→r≠0→grow aA w w' 2 k=r:=fun hk hr=>(dM (h.lt _ (by rw[hk];exact hr))).trans hk
 refine⟨?_,?_,?_,?_,?_,o h.r5 aM,o h.r6 aM,⟨o h.r7.1 aM,o h.r7.2.1 aM,o h.r7.2.2 aM⟩,zC h.lt ht.size,h.iy.cG ht (no h.lh.1 aM aM),h.rep.cG ht (no h.lh.2 aM aM),⟨(dM h.iy.lt).trans h.lh.1,(dM h.rep.lt).trans h.lh.2⟩⟩
 ·exact h.does.same (ht.block _ h.does.lt (no h.r6 aM aM))
 ·show uW q.lq q.rl q.p l es.rg d.dk.size _ w'
  rw[e1,hz];exact hl
 ·show dI q.p d _ w'
  rw[e2];exact hd
 ·rw[e3];exact iI h.book ht (fun k hk=>no hk aM aM)
 ·show qz w' q.sl q.ra q.rb q.p es.sl d.dk.size
  rw[hz];exact h.slots.cG ht (no h.r7.1 aM aM) (no h.r7.2.1 aM aM) (no h.r7.2.2 aM aM)
theorem df.append(h:df aA w e q es){l:Lg}(hl:uW q.lq q.rl q.p l es.rg es.dev.dk.size (Gr (fun k=>aA k=1) w w') w')(ht:aG (fun k=>aA k=1) w w'): df (grow aA w w' 1) w' e q {es with log:=l}:=by
 have no:∀ {k r:Nat},aA k=r→r≠1→¬(aA k=1):=fun h a c=>a (h.symm.trans c)
 have e1:=xQ (w':=w') (r:=1) h.lt ht.size aM;have e2:=gR (w':=w') (r:=1) (s:=2) h.lt aM aM;have e3:=gR (w':=w') (r:=1) (s:=3) h.lt aM aM;have o:∀ {k r:Nat},aA k=r→r≠0→grow aA w w' 1 k=r:=fun hk hr=>(dM (h.lt _ (by rw[hk];exact hr))).trans hk
 refine⟨?_,?_,?_,?_,?_,o h.r5 aM,o h.r6 aM,⟨o h.r7.1 aM,o h.r7.2.1 aM,o h.r7.2.2 aM⟩,zC h.lt ht.size,h.iy.cG ht (no h.lh.1 aM),h.rep.cG ht (no h.lh.2 aM),⟨(dM h.iy.lt).trans h.lh.1,(dM h.rep.lt).trans h.lh.2⟩⟩
 ·exact h.does.same (ht.block _ h.does.lt (no h.r6 aM))
 ·show uW q.lq q.rl q.p l es.rg es.dev.dk.size _ w'
  rw[e1];exact hl
 ·rw[e2];exact(aC ..).cG h.dev ht (fun k hk=>no hk aM)
 ·rw[e3];exact iI h.book ht (fun k hk=>no hk aM)
 exact h.slots.cG ht (no h.r7.1 aM) (no h.r7.2.1 aM) (no h.r7.2.2 aM)
theorem df.apply(h:df aA w e q es){b:dJ}(hb:fQ (Gr (fun k=>aA k=3) w w') w' q.bk b)(ht:aG (fun k=>aA k=3) w w'): df (grow aA w w' 3) w' e q {es with bk:=b}:=by
 have no:∀ {k r:Nat},aA k=r→r≠3→¬(aA k=3):=fun h a c=>a (h.symm.trans c)
 have e1:=gR (w':=w') (r:=3) (s:=1) h.lt aM aM;have e2:=gR (w':=w') (r:=3) (s:=2) h.lt aM aM;have e3:=xQ (w':=w') (r:=3) h.lt ht.size aM;have o:∀ {k r:Nat},aA k=r→r≠0→grow aA w w' 3 k=r:=fun hk hr=>(dM (h.lt _ (by rw[hk];exact hr))).trans hk
 refine⟨?_,?_,?_,?_,?_,o h.r5 aM,o h.r6 aM,⟨o h.r7.1 aM,o h.r7.2.1 aM,o h.r7.2.2 aM⟩,zC h.lt ht.size,h.iy.cG ht (no h.lh.1 aM),h.rep.cG ht (no h.lh.2 aM),⟨(dM h.iy.lt).trans h.lh.1,(dM h.rep.lt).trans h.lh.2⟩⟩
 ·exact h.does.same (ht.block _ h.does.lt (no h.r6 aM))
 ·rw[e1];exact(cC ..).cG h.log ht (fun k hk=>no hk aM)
 ·rw[e2];exact(aC ..).cG h.dev ht (fun k hk=>no hk aM)
 ·rw[e3];exact hb
 exact h.slots.cG ht (no h.r7.1 aM) (no h.r7.2.1 aM) (no h.r7.2.2 aM)
theorem df.asked(h:df aA w e q es)(hb:fQ (fun k=>aA k=3) w' q.bk es.bk)(ht:aG (fun k=>aA k=3) w w'): df aA w' e q es:=by
 have no:∀ {k r:Nat},aA k=r→r≠3→¬(aA k=3):=fun h a c=>a (h.symm.trans c)
 refine⟨?_,(cC ..).cG h.log ht (fun k hk=>no hk aM),(aC ..).cG h.dev ht (fun k hk=>no hk aM),hb,h.slots.cG ht (no h.r7.1 aM) (no h.r7.2.1 aM) (no h.r7.2.2 aM),h.r5,h.r6,h.r7,fun k hk=>aP (h.lt k hk) ht.size,h.iy.cG ht (no h.lh.1 aM),h.rep.cG ht (no h.lh.2 aM),h.lh⟩;exact h.does.same (ht.block _ h.does.lt (no h.r6 aM))
theorem df.save(h:df aA w e q es){d:bG}(hz:d.dk.size=es.dev.dk.size)(hd:dI q.p d (Gr (fun k=>aA k=2) w w') w')(ht:aG (fun k=>aA k=2) w w'): df (grow aA w w' 2) w' e q {es with dev:=d}:=
 h.flush (l:=es.log) hz ((cC ..).cG h.log ht (fun k hk c=>by rw[hk] at c;exact absurd c aM)) hd (ht.mono fun k _ hk=>.inr hk)
theorem df.reset(h:df aA w e q es){l:Lg}(hl:uW q.lq q.rl q.p l es.rg es.dev.dk.size (fun k=>aA k=1) w')(ht:aG (· =q.lq) w w'): df aA w' e q {es with log:=l}:=by
 obtain⟨v,hv⟩:=h.log;have hq:aA q.lq=1:=hv.bt.1;have no:∀ {k r:Nat},aA k=r→r≠1→¬(k=q.lq):=fun h a c=>by rw[c,hq] at h;exact a h.symm
 refine⟨?_,hl,(aC ..).cG h.dev ht (fun k hk=>no hk aM),?_,h.slots.cG ht (no h.r7.1 aM) (no h.r7.2.1 aM) (no h.r7.2.2 aM),h.r5,h.r6,h.r7,fun k hk=>aP (h.lt k hk) ht.size,h.iy.cG ht (no h.lh.1 aM),h.rep.cG ht (no h.lh.2 aM),h.lh⟩
 ·exact h.does.same (ht.block _ h.does.lt (no h.r6 aM))
 exact iI h.book ht (fun k hk=>no hk aM)
theorem bw.keeps{eI:Nat→Nat}{es':Es}{T:Nat→Prop}(h:bw aA w e q wt es)(hr:df eI w' e q es')(hu:es'.up=es.up)(hw:es'.aK=es.aK)(ht:aG T w w')(hT:∀k,T k→aA k≠4∧aA k≠5)(h4:∀k,aA k=4→eI k=4): bw eI w' e q wt es':=by
 refine⟨hr,?_,?_⟩
 ·rw[hu];exact ht.arr h.own (fun c=>(hT e c).2 h.rest.r5)
 rw[hw];exact(h.aK.same fun k hk hl=>ht.block k hl (fun c=>(hT k c).1 hk)).mono fun k hk _=>h4 k hk
theorem np(hlt:∀k,aA k≠0→k<w.heap.size):∀k,aA k=4→grow aA w w' r k=4:=fun k hk=>(dM (hlt k (by rw[hk];decide))).trans hk
end
end En
end
section
namespace Bk
open En (Rp)
def IJ(o:Option bU): bU:=o.getD ⟨0,0,0⟩
theorem II(o:Option bU)(er:Int): px o er=.tuple #[.agg #[.int .u32 (IJ o).id,.int .i64 ((IJ o).av:Int),.int .i64 (IJ o).aR],.int .i64 (if o.isSome then 0 else er)]:=by cases o <;>rfl
def KV(S:Nat→Prop)(b:Nat)(bk:dJ)(q:Rq)(w:World)(e:Ending)(w':World): Prop:=e=.returned (.tuple #[.agg (pW (ed bk q)),.int .i64 0])∧fQ S w' b bk∧aG S w w'
theorem KU(S:Nat→Prop)(w:World)(b:Nat)(bk:dJ)(q:Rq)(h:fQ S w b bk)(hb:bk.Ok)(hq:q.Good)(Dl:za q)(hk:q.ax=5): Calls af 209 #[.pointer (some ⟨b,0,none⟩),.agg (dc q)] w (KV S b bk q w):=by
 have jd:=aa (show ∀k,S k→k<w.heap.size from by obtain⟨x,hx⟩:=h;exact hx.bg.lt);have eX:=aa (show ∀W,Below w.heap.size w W→fQ S W b bk from fun W hW=>by obtain⟨x,hx⟩:=h;exact⟨x,hx.ai hW⟩);have Ck:=aa (show ∀W,Below w.heap.size w W→Calls af 38 #[.pointer (some ⟨b,0,none⟩)] W fun e w'=>e=.returned (.agg #[.int .i64 bk.n,.int .i64 bk.au,.int .i64 bk.az])∧Below W.heap.size W w' from fun W hW=>UT);obtain⟨o,er,JO,JR⟩:∃(o:bU) (er:Int),(∀W,fQ S W b bk→Calls af 71 #[.pointer (some ⟨b,0,none⟩),.int .u32 q.id] W fun e w'=>e=.returned (.tuple #[.agg #[.int .u32 o.id,.int .i64 (o.av:Int),.int .i64 o.aR],.int .i64 er])∧fQ S w' b bk∧aG S W w')∧ed bk q=⟨q.tag,5,er,0,o.av,o.aR,0⟩:=by
  refine⟨IJ (bk.find q.id),if(bk.find q.id).isSome then 0 else 171,fun W hW=>?_,?_⟩
  ·have:=GV hW q.id hq.id;rw[II] at this;exact this
  unfold ed;rw[if_pos hk];cases bk.find q.id with
  | none=>unfold En.cy;rw[hk];rfl
  | some x=>simp only[hk];rfl
 have Zy:=aa JO;have SQ:=aa JR;have jH:=aa Dl;have hnz:((bk.n:Int)==0)=false:=beq_eq_false_iff_ne.2 Fj;have Xc:¬(bk.n:Int)=0:=Fj;clear h hb hq Dl JO JR;obtain⟨xq,jw⟩:=ae w.heap.size;obtain⟨w1,aX⟩:=ae (w.alloc (.cells (dc q) 41));obtain⟨xr,oc⟩:=ae w1.heap.size;obtain⟨w2,hw2⟩:=ae (w1.alloc (.cells #[.int .u32 0,.int .i64 0,.int .i64 0,.int .u32 0,.int .i64 0,.int .i64 0,.int .i64 0] 108));have rC:=aa (show aD w2 xq 41 (dc q) from acu);have pU:=aa (aH hw2 oc);have cx:=aa (show Below w.heap.size w w2 from IQ);have pS:=aa (show w.heap.size≤xq∧xr=xq+1 from⟨ag,by rw[←oc,←aX,←jw];simp⟩);go_enter Tryz.func209,Tryz.ntmps209;go_wp2_with fail;clear aX hw2 jw oc;refine(Ck.o _ cx.o).mono ?_;rintro e w3 ⟨rfl,hb3⟩;have jE:=rC.jS hb3;have iO:=pU.jS hb3;have ek:=cx.eo hb3;clear hb3 rC pU cx;go_wp2_with (refine aB rfl 41 (.tmp 3) rfl xq 41 _ jE.o rfl _ cq rfl aF ?_);refine(ki q w3 jH.o).mono ?_;rintro e w4 ⟨rfl,hb4⟩;have tQ:=jE.jS hb4;have oI:=iO.jS hb4;have gI:=ek.eo hb4;clear hb4 jE iO ek hnz Xc;have c0:w4.cell? ⟨xq,0,none⟩=some (.int .i64 5):=by rw[←hk];exact tQ.o.cell 0
 have c1:w4.cell? ⟨xq,1,none⟩=some (.int .u32 q.tag):=tQ.o.cell 1;obtain⟨x6,Z7⟩:=ae w4.heap.size;obtain⟨w5,jK⟩:=ae (w4.alloc (.cells #[.int .u32 0,.int .i64 0,.int .i64 0,.int .u32 0,.int .i64 0,.int .i64 0,.int .i64 0] 108));have o6:=aa (aH jK Z7);have eQ:=aa (aJ jK);have KC:=aa Z7;go_upto_region 6 with(refine aj rfl 108 _ _ rfl x6 108 _ #[.int .u32 q.tag,.int .i64 5,.int .i64 0,.int .u32 0,.int .i64 0,.int .i64 0,.int .i64 0] o6.o rfl rfl rfl aV ie ?_;intro w6 vt jG WZ;have jy:=aa (show Below w4.heap.size w4 w6 from br eQ.o jG (fX KC.o));have wA:=aa vt;clear vt jG WZ)
 have HL6:=aa (show xr<x6 from by have:=oI.o.lt;have:=KC.o;omega);obtain⟨x7,hx7⟩:=ae w6.heap.size;obtain⟨w7,zx⟩:=ae (w6.alloc (.cells #[.int .u32 0,.int .i64 0,.int .i64 0] 171));have pc:=aJ zx;have zh:=aa (wA.o.keep pc);have Zn:=aa (aH zx hx7);have Zm:=aa (show x6<x7 from by have:=wA.o.lt;omega);have pj:=jy.eo pc;have Sr:=oI.jS pj.o;have Dv:=tQ.jS pj.o;have jl:=aa (ar gI.o pj.o);have NY:=aa (eX.o _ jl.o);have d0:w7.cell? ⟨xq,0,none⟩=some (.int .i64 5):=by rw[←hk];exact Dv.o.cell 0
 have d2:w7.cell? ⟨xq,2,none⟩=some (.int .u32 q.id):=Dv.o.cell 2;clear pc c0 c1 oI tQ o6 eQ KC wA jy pj gI;go_wp2_with fail;clear jK Z7 zx hx7;refine(Zy.o _ NY.o).mono ?_;rintro e w8 ⟨rfl,mC,Py⟩;have oJ:=aa (show ∀k,w.heap.size≤k→¬S k from fun k hk hs=>by have:=jd.o k hs;omega);have hx:=pS.o;have MZ:=HL6.o;have hl7:=Zm.o;have zg:=aa (Py.arr zh.o (oJ.o _ ag));have HK8:=aa (Py.arr Zn.o (oJ.o _ ag));have La:=aa (Py.arr Sr.o (oJ.o _ ag));have ru:=aa mC;have Za:=aa ((aG.aU (S:=S) jl.o).trans Py);clear mC Py d0 d2 hx MZ hl7 zh Zn Sr Dv NY jl;go_upto_region 11 with(refine aj rfl 171 _ _ rfl x7 171 _ #[.int .u32 o.id,.int .i64 (o.av:Int),.int .i64 o.aR] HK8.o rfl rfl rfl e9 ie ?_;intro w9 dE dL gL;have HK9:=aa dE;have rp:=aa dL;have a92:w9.cell? ⟨x6,2,none⟩=some (.int .i64 0):=(zg.o.bo dL (fun e=>FA)).cell 2;have m92:=(zg.o.bo dL (fun e=>FA)).mark 2;clear dE dL gL)
 have hx:=pS.o;have MZ:=HL6.o;have hl7:=Zm.o;have pn:=aa (zg.o.bo rp.o (fun e=>lV));have HR9:=aa (La.o.bo rp.o (fun e=>lV));have EJ:=aa ((Za.o).grown rp.o (fun k e=>LZ));have CT:=aa (nQ ru.o rp.o (fun k hk e=>oJ.o k ag hk));obtain⟨wa,WQ⟩:=ae (w9.setCell ⟨x6,2,none⟩ (.int .i64 er));have Lk:=aa (show aD wa x6 108 #[.int .u32 q.tag,.int .i64 5,.int .i64 er,.int .u32 0,.int .i64 0,.int .i64 0,.int .i64 0] by rw[←WQ];exact pn.o.put 2 _);have HRa:=aa (show aD wa xr 108 _ from UM);have HKa:=aa (show aD wa x7 171 _ from UL);have HTa:=aa (show aG S w wa from U3);have Tv:=aa (show fQ S wa b bk from U6);rw[WQ];clear WQ hx MZ hl7 a92 m92 zg HK8 La ru Za pn HR9 EJ CT HK9 rp;have k1:=HKa.o.cl 1;have k2:=HKa.o.cl 2;have Xg:x7≠x6:=by have:=Zm.o;omega
 have f2:(wa.setCell ⟨x6,4,none⟩ (.int .i64 (o.av:Int))).cell? ⟨x7,2,none⟩=some (.int .i64 o.aR):=(HKa.o.other (p:=⟨x6,4,none⟩) Xg _).cell 2;have f1:(wa.setCell ⟨x6,5,none⟩ (.int .i64 o.aR)).cell? ⟨x7,1,none⟩=some (.int .i64 (o.av:Int)):=(HKa.o.other (p:=⟨x6,5,none⟩) Xg _).cell 1;have o4:=Lk.o.cl 4;have o5:=Lk.o.cl 5;have m4:=Lk.o.mark 4;have m5:=Lk.o.mark 5;have Ge:xr≠x6:=by have:=HL6.o;omega
 have Cf:=aa (show w.heap.size≤x6∧w.heap.size≤xr from by have:=pS.o;have:=HL6.o;omega);have ahd:=aa (show aD ((wa.setCell ⟨x6,4,none⟩ (.int .i64 (o.av:Int))).setCell ⟨x6,5,none⟩ (.int .i64 o.aR)) x6 108 #[.int .u32 q.tag,.int .i64 5,.int .i64 er,.int .u32 0,.int .i64 (o.av:Int),.int .i64 o.aR,.int .i64 0] from(Lk.o.put 4 _).put 5 _);have ahc:=aa (show aD ((wa.setCell ⟨x6,5,none⟩ (.int .i64 o.aR)).setCell ⟨x6,4,none⟩ (.int .i64 (o.av:Int))) x6 108 #[.int .u32 q.tag,.int .i64 5,.int .i64 er,.int .u32 0,.int .i64 (o.av:Int),.int .i64 o.aR,.int .i64 0] from(Lk.o.put 5 _).put 4 _);have Cl:=aa (show aD ((wa.setCell ⟨x6,4,none⟩ (.int .i64 (o.av:Int))).setCell ⟨x6,5,none⟩ (.int .i64 o.aR)) xr 108 _ from(HRa.o.other (p:=⟨x6,4,none⟩) Ge _).other (p:=⟨x6,5,none⟩) Ge _);have Ze:=aa (show aD ((wa.setCell ⟨x6,5,none⟩ (.int .i64 o.aR)).setCell ⟨x6,4,none⟩ (.int .i64 (o.av:Int))) xr 108 _ from(HRa.o.other (p:=⟨x6,5,none⟩) Ge _).other (p:=⟨x6,4,none⟩) Ge _);have agW:=aa (show aG S w ((wa.setCell ⟨x6,4,none⟩ (.int .i64 (o.av:Int))).setCell ⟨x6,5,none⟩ (.int .i64 o.aR)).drew from((HTa.o.put (p:=⟨x6,4,none⟩) (.inr Cf.o.1) _).put (p:=⟨x6,5,none⟩) (.inr Cf.o.1) _).ai (ay (aq _ _)));have agV:=aa (show aG S w ((wa.setCell ⟨x6,5,none⟩ (.int .i64 o.aR)).setCell ⟨x6,4,none⟩ (.int .i64 (o.av:Int))).drew from((HTa.o.put (p:=⟨x6,5,none⟩) (.inr Cf.o.1) _).put (p:=⟨x6,4,none⟩) (.inr Cf.o.1) _).ai (ay (aq _ _)));have ag6:=aa (show fQ S ((wa.setCell ⟨x6,4,none⟩ (.int .i64 (o.av:Int))).setCell ⟨x6,5,none⟩ (.int .i64 o.aR)).drew b bk from En.iI Tv.o (((aG.at wa x6 4 _).B1 5 _).ai (ay (aq _ _))) (fun k hk e=>oJ.o k AK hk));have ag5:=aa (show fQ S ((wa.setCell ⟨x6,5,none⟩ (.int .i64 o.aR)).setCell ⟨x6,4,none⟩ (.int .i64 (o.av:Int))).drew b bk from En.iI Tv.o (((aG.at wa x6 5 _).B1 4 _).ai (ay (aq _ _))) (fun k hk e=>oJ.o k AK hk));go_region;all_goals(go_wp2_with (first|(refine aB rfl 108 (.tmp 6) rfl x6 108 _ ahd.o rfl _ eW rfl aV ?_)|(refine aj rfl 108 (.tmp 4) _ rfl xr 108 _ #[.int .u32 q.tag,.int .i64 5,.int .i64 er,.int .u32 0,.int .i64 (o.av:Int),.int .i64 o.aR,.int .i64 0] Cl.o rfl rfl rfl aV ie ?_;intro wz dE dL gL;have HAZ:=aa dE;have Zp:=aa dL;have HTZ:=aa agW.o;have HBZ:=aa ag6.o;clear dE dL gL)|(refine aB rfl 108 (.tmp 6) rfl x6 108 _ ahc.o rfl _ eW rfl aV ?_)|(refine aj rfl 108 (.tmp 4) _ rfl xr 108 _ #[.int .u32 q.tag,.int .i64 5,.int .i64 er,.int .u32 0,.int .i64 (o.av:Int),.int .i64 o.aR,.int .i64 0] Ze.o rfl rfl rfl aV ie ?_;intro wz dE dL gL;have HAZ:=aa dE;have Zp:=aa dL;have HTZ:=aa agV.o;have HBZ:=aa ag5.o;clear dE dL gL)))
 exact adf
theorem Oi(S:Nat→Prop)(w:World)(b:Nat)(bk:dJ)(q:Rq)(h:fQ S w b bk)(hb:bk.Ok)(hq:q.Good)(Dl:za q)(hk:q.ax=6): Calls af 209 #[.pointer (some ⟨b,0,none⟩),.agg (dc q)] w (KV S b bk q w):=by
 have jd:=aa (show ∀k,S k→k<w.heap.size from by obtain⟨x,hx⟩:=h;exact hx.bg.lt);have eX:=aa (show ∀W,Below w.heap.size w W→fQ S W b bk from fun W hW=>by obtain⟨x,hx⟩:=h;exact⟨x,hx.ai hW⟩);have Ck:=aa (show ∀W,Below w.heap.size w W→Calls af 38 #[.pointer (some ⟨b,0,none⟩)] W fun e w'=>e=.returned (.agg #[.int .i64 bk.n,.int .i64 bk.au,.int .i64 bk.az])∧Below W.heap.size W w' from fun W hW=>UT);obtain⟨o,er,JO,JR⟩:∃(o:bU) (er:Int),(∀W,fQ S W b bk→Calls af 293 #[.pointer (some ⟨b,0,none⟩),.int .i64 q.av] W fun e w'=>e=.returned (.tuple #[.agg #[.int .u32 o.id,.int .i64 (o.av:Int),.int .i64 o.aR],.int .i64 er])∧fQ S w' b bk∧aG S W w')∧ed bk q=⟨q.tag,6,er,o.id,0,o.aR,0⟩:=by
  obtain⟨s,hs⟩:=Int.eq_ofNat_of_zero_le hq.av.1;refine⟨if bk.n≤s then⟨0,0,0⟩else IJ (bk.on q.av),if bk.n≤s then 140 else if(bk.on q.av).isSome then 0 else 171,fun W hW=>?_,?_⟩
  ·have h9:=Od hW hb s;rw[hs];by_cases c:bk.n≤s
   ·rw[if_pos c] at h9 ⊢;rw[if_pos c];exact Wl
   rw[if_neg c,II] at h9;rw[if_neg c,if_neg c];exact Wl
  unfold ed;rw[if_neg ag,if_pos hk,hs];by_cases c:bk.n≤s
  ·rw[if_pos ag,if_pos c,if_pos c];unfold En.cy;rw[hk]
  rw[if_neg ag,if_neg c,if_neg c];cases bk.on (s:Int)with
  | none=>unfold En.cy;rw[hk];rfl
  | some x=>simp only[hk];rfl
 have Zy:=aa JO;have SQ:=aa JR;have jH:=aa Dl;have hnz:((bk.n:Int)==0)=false:=beq_eq_false_iff_ne.2 Fj;have Xc:¬(bk.n:Int)=0:=Fj;clear h hb hq Dl JO JR;obtain⟨xq,jw⟩:=ae w.heap.size;obtain⟨w1,aX⟩:=ae (w.alloc (.cells (dc q) 41));obtain⟨xr,oc⟩:=ae w1.heap.size;obtain⟨w2,hw2⟩:=ae (w1.alloc (.cells #[.int .u32 0,.int .i64 0,.int .i64 0,.int .u32 0,.int .i64 0,.int .i64 0,.int .i64 0] 108));have rC:=aa (show aD w2 xq 41 (dc q) from acu);have pU:=aa (aH hw2 oc);have cx:=aa (show Below w.heap.size w w2 from IQ);have pS:=aa (show w.heap.size≤xq∧xr=xq+1 from⟨ag,by rw[←oc,←aX,←jw];simp⟩);go_enter Tryz.func209,Tryz.ntmps209;go_wp2_with fail;clear aX hw2 jw oc;refine(Ck.o _ cx.o).mono ?_;rintro e w3 ⟨rfl,hb3⟩;have jE:=rC.jS hb3;have iO:=pU.jS hb3;have ek:=cx.eo hb3;clear hb3 rC pU cx;go_wp2_with (refine aB rfl 41 (.tmp 3) rfl xq 41 _ jE.o rfl _ cq rfl aF ?_);refine(ki q w3 jH.o).mono ?_;rintro e w4 ⟨rfl,hb4⟩;have tQ:=jE.jS hb4;have oI:=iO.jS hb4;have gI:=ek.eo hb4;clear hb4 jE iO ek hnz Xc;have c0:w4.cell? ⟨xq,0,none⟩=some (.int .i64 6):=by rw[←hk];exact tQ.o.cell 0
 have c1:w4.cell? ⟨xq,1,none⟩=some (.int .u32 q.tag):=tQ.o.cell 1;obtain⟨x6,Z7⟩:=ae w4.heap.size;obtain⟨w5,jK⟩:=ae (w4.alloc (.cells #[.int .u32 0,.int .i64 0,.int .i64 0,.int .u32 0,.int .i64 0,.int .i64 0,.int .i64 0] 108));have o6:=aa (aH jK Z7);have eQ:=aa (aJ jK);have KC:=aa Z7;go_upto_region 6 with(refine aj rfl 108 _ _ rfl x6 108 _ #[.int .u32 q.tag,.int .i64 6,.int .i64 0,.int .u32 0,.int .i64 0,.int .i64 0,.int .i64 0] o6.o rfl rfl rfl aV ie ?_;intro w6 vt jG WZ;have jy:=aa (show Below w4.heap.size w4 w6 from br eQ.o jG (fX KC.o));have wA:=aa vt;clear vt jG WZ)
 have HL6:=aa (show xr<x6 from by have:=oI.o.lt;have:=KC.o;omega);obtain⟨x7,hx7⟩:=ae w6.heap.size;obtain⟨w7,zx⟩:=ae (w6.alloc (.cells #[.int .u32 0,.int .i64 0,.int .i64 0] 171));have pc:=aJ zx;have zh:=aa (wA.o.keep pc);have Zn:=aa (aH zx hx7);have Zm:=aa (show x6<x7 from by have:=wA.o.lt;omega);have pj:=jy.eo pc;have Sr:=oI.jS pj.o;have Dv:=tQ.jS pj.o;have jl:=aa (ar gI.o pj.o);have NY:=aa (eX.o _ jl.o);have d0:w7.cell? ⟨xq,0,none⟩=some (.int .i64 6):=by rw[←hk];exact Dv.o.cell 0
 have d3:w7.cell? ⟨xq,3,none⟩=some (.int .i64 q.av):=Dv.o.cell 3;clear pc c0 c1 oI tQ o6 eQ KC wA jy pj gI;go_wp2_with fail;clear jK Z7 zx hx7;refine(Zy.o _ NY.o).mono ?_;rintro e w8 ⟨rfl,mC,Py⟩;have oJ:=aa (show ∀k,w.heap.size≤k→¬S k from fun k hk hs=>by have:=jd.o k hs;omega);have hx:=pS.o;have MZ:=HL6.o;have hl7:=Zm.o;have zg:=aa (Py.arr zh.o (oJ.o _ ag));have HK8:=aa (Py.arr Zn.o (oJ.o _ ag));have La:=aa (Py.arr Sr.o (oJ.o _ ag));have ru:=aa mC;have Za:=aa ((aG.aU (S:=S) jl.o).trans Py);clear mC Py d0 d3 hx MZ hl7 zh Zn Sr Dv NY jl;go_upto_region 14 with(refine aj rfl 171 _ _ rfl x7 171 _ #[.int .u32 o.id,.int .i64 (o.av:Int),.int .i64 o.aR] HK8.o rfl rfl rfl e9 ie ?_;intro w9 dE dL gL;have HK9:=aa dE;have rp:=aa dL;have a92:w9.cell? ⟨x6,2,none⟩=some (.int .i64 0):=(zg.o.bo dL (fun e=>FA)).cell 2;have m92:=(zg.o.bo dL (fun e=>FA)).mark 2;clear dE dL gL)
 have hx:=pS.o;have MZ:=HL6.o;have hl7:=Zm.o;have pn:=aa (zg.o.bo rp.o (fun e=>lV));have HR9:=aa (La.o.bo rp.o (fun e=>lV));have EJ:=aa ((Za.o).grown rp.o (fun k e=>LZ));have CT:=aa (nQ ru.o rp.o (fun k hk e=>oJ.o k ag hk));obtain⟨wa,WQ⟩:=ae (w9.setCell ⟨x6,2,none⟩ (.int .i64 er));have Lk:=aa (show aD wa x6 108 #[.int .u32 q.tag,.int .i64 6,.int .i64 er,.int .u32 0,.int .i64 0,.int .i64 0,.int .i64 0] by rw[←WQ];exact pn.o.put 2 _);have HRa:=aa (show aD wa xr 108 _ from UM);have HKa:=aa (show aD wa x7 171 _ from UL);have HTa:=aa (show aG S w wa from U3);have Tv:=aa (show fQ S wa b bk from U6);rw[WQ];clear WQ hx MZ hl7 a92 m92 zg HK8 La ru Za pn HR9 EJ CT HK9 rp;have k0:=HKa.o.cl 0;have k2:=HKa.o.cl 2;have Xg:x7≠x6:=by have:=Zm.o;omega
 have f2:(wa.setCell ⟨x6,3,none⟩ (.int .u32 o.id)).cell? ⟨x7,2,none⟩=some (.int .i64 o.aR):=(HKa.o.other (p:=⟨x6,3,none⟩) Xg _).cell 2;have f0:(wa.setCell ⟨x6,5,none⟩ (.int .i64 o.aR)).cell? ⟨x7,0,none⟩=some (.int .u32 o.id):=(HKa.o.other (p:=⟨x6,5,none⟩) Xg _).cell 0;have o3:=Lk.o.cl 3;have o5:=Lk.o.cl 5;have m3:=Lk.o.mark 3;have m5:=Lk.o.mark 5;have Ge:xr≠x6:=by have:=HL6.o;omega
 have Cf:=aa (show w.heap.size≤x6∧w.heap.size≤xr from by have:=pS.o;have:=HL6.o;omega);have ahd:=aa (show aD ((wa.setCell ⟨x6,3,none⟩ (.int .u32 o.id)).setCell ⟨x6,5,none⟩ (.int .i64 o.aR)) x6 108 #[.int .u32 q.tag,.int .i64 6,.int .i64 er,.int .u32 o.id,.int .i64 0,.int .i64 o.aR,.int .i64 0] from(Lk.o.put 3 _).put 5 _);have ahc:=aa (show aD ((wa.setCell ⟨x6,5,none⟩ (.int .i64 o.aR)).setCell ⟨x6,3,none⟩ (.int .u32 o.id)) x6 108 #[.int .u32 q.tag,.int .i64 6,.int .i64 er,.int .u32 o.id,.int .i64 0,.int .i64 o.aR,.int .i64 0] from(Lk.o.put 5 _).put 3 _);have Cl:=aa (show aD ((wa.setCell ⟨x6,3,none⟩ (.int .u32 o.id)).setCell ⟨x6,5,none⟩ (.int .i64 o.aR)) xr 108 _ from(HRa.o.other (p:=⟨x6,3,none⟩) Ge _).other (p:=⟨x6,5,none⟩) Ge _);have Ze:=aa (show aD ((wa.setCell ⟨x6,5,none⟩ (.int .i64 o.aR)).setCell ⟨x6,3,none⟩ (.int .u32 o.id)) xr 108 _ from(HRa.o.other (p:=⟨x6,5,none⟩) Ge _).other (p:=⟨x6,3,none⟩) Ge _);have agW:=aa (show aG S w ((wa.setCell ⟨x6,3,none⟩ (.int .u32 o.id)).setCell ⟨x6,5,none⟩ (.int .i64 o.aR)).drew from((HTa.o.put (p:=⟨x6,3,none⟩) (.inr Cf.o.1) _).put (p:=⟨x6,5,none⟩) (.inr Cf.o.1) _).ai (ay (aq _ _)));have agV:=aa (show aG S w ((wa.setCell ⟨x6,5,none⟩ (.int .i64 o.aR)).setCell ⟨x6,3,none⟩ (.int .u32 o.id)).drew from((HTa.o.put (p:=⟨x6,5,none⟩) (.inr Cf.o.1) _).put (p:=⟨x6,3,none⟩) (.inr Cf.o.1) _).ai (ay (aq _ _)));have ag6:=aa (show fQ S ((wa.setCell ⟨x6,3,none⟩ (.int .u32 o.id)).setCell ⟨x6,5,none⟩ (.int .i64 o.aR)).drew b bk from En.iI Tv.o (((aG.at wa x6 3 _).B1 5 _).ai (ay (aq _ _))) (fun k hk e=>oJ.o k AK hk));have ag5:=aa (show fQ S ((wa.setCell ⟨x6,5,none⟩ (.int .i64 o.aR)).setCell ⟨x6,3,none⟩ (.int .u32 o.id)).drew b bk from En.iI Tv.o (((aG.at wa x6 5 _).B1 3 _).ai (ay (aq _ _))) (fun k hk e=>oJ.o k AK hk));go_region;all_goals(go_wp2_with (first|(refine aB rfl 108 (.tmp 6) rfl x6 108 _ ahd.o rfl _ eW rfl aV ?_)|(refine aj rfl 108 (.tmp 4) _ rfl xr 108 _ #[.int .u32 q.tag,.int .i64 6,.int .i64 er,.int .u32 o.id,.int .i64 0,.int .i64 o.aR,.int .i64 0] Cl.o rfl rfl rfl aV ie ?_;intro wz dE dL gL;have HAZ:=aa dE;have Zp:=aa dL;have HTZ:=aa agW.o;have HBZ:=aa ag6.o;clear dE dL gL)|(refine aB rfl 108 (.tmp 6) rfl x6 108 _ ahc.o rfl _ eW rfl aV ?_)|(refine aj rfl 108 (.tmp 4) _ rfl xr 108 _ #[.int .u32 q.tag,.int .i64 6,.int .i64 er,.int .u32 o.id,.int .i64 0,.int .i64 o.aR,.int .i64 0] Ze.o rfl rfl rfl aV ie ?_;intro wz dE dL gL;have HAZ:=aa dE;have Zp:=aa dL;have HTZ:=aa agV.o;have HBZ:=aa ag5.o;clear dE dL gL)))
 exact adf
theorem EV(S:Nat→Prop)(w:World)(b:Nat)(bk:dJ)(q:Rq)(h:fQ S w b bk)(hb:bk.Ok)(hq:q.Good)(Dl:za q)(hk:q.ax=5∨q.ax=6∨q.ax=10): Calls af 209 #[.pointer (some ⟨b,0,none⟩),.agg (dc q)] w (KV S b bk q w):=by
 rcases hk with hk|hk|hk
 ·exact KU S w b bk q h hb hq Dl hk
 ·exact Oi S w b bk q h hb hq Dl hk
 obtain⟨x,hx⟩:=h;refine(yP hx.bg hb.n.1 q Dl hk).mono ?_;rintro e w' ⟨rfl,hb'⟩;have e1:ed bk q=⟨q.tag,10,0,0,0,0,bk.L.length⟩:=by unfold ed;rw[if_neg ag,if_neg ag,hk]
 exact⟨by rw[e1],⟨x,hx.ai hb'⟩,aG.aU hb'⟩
end Bk
end
section
namespace En
section
variable {aA:Nat→Nat}{w w':World}{e:Nat}{q:sM}{wt:Value}{es:Es}
theorem df.ahH(h:df aA w e q es)(ht:aG (· =e) w w'): df aA w' e q es:=h.cG (ht.mono fun k _ hk=>by subst hk;exact .inr h.r5)
theorem df.as{es':Es}(h:df aA w e q es)(h1:es'.log=es.log)(h2:es'.rg=es.rg)(h3:es'.dev=es.dev)(h4:es'.bk=es.bk)(h5:es'.sl=es.sl): df aA w e q es':=
 ⟨h.does,by rw[h1,h2,h3];exact h.log,by rw[h3];exact h.dev,by rw[h4];exact h.book,by rw[h5,h3];exact h.slots,h.r5,h.r6,h.r7,h.lt,h.iy,h.rep,h.lh⟩
theorem bw.FT(h:bw aA w e q wt es):∀k,wt.ownBlock=some k→k≠e:=fun k hk c=>by
 have:=h.aK.block k hk;rw[c,h.rest.r5] at this;exact absurd this aM
def ad3(aA:Nat→Nat)(e:Nat)(q:sM)(wt:Value)(es:Es)(w:World)(en:Ending)(w':World): Prop:=
 en=.returned wt∧bw aA w' e q (.slice none 0 0) {es with aK:=[]}∧aO (fun k=>aA k=4) w' 108 7 wt es.aK.length (Mq es.aK)∧aG (· =e) w w'
theorem bw.I6(h:bw aA w e q wt es)(up:Bool)(hA:im w' e up (some ⟨q.lq,0,none⟩) (some ⟨q.sl,0,none⟩) (some ⟨q.bk,0,none⟩) (.slice none 0 0) (.map (some q.mb)))(ht:aG (· =e) w w'): bw aA w' e q (.slice none 0 0) {es with up:=up,aK:=[]}:=
 ⟨(h.rest.ahH ht).as rfl rfl rfl rfl rfl,hA,aO.nil _ _ _ _ _⟩
theorem Bd(h:bw aA w e q wt es): Calls af 219 #[.pointer (some ⟨e,0,none⟩)] w (ad3 aA e q wt es w):=by
 have x5:w.cell? ⟨e,5,none⟩=some wt:=h.own.cell 5;have m5:=h.own.mark 5;have hF:ad3 aA e q wt es w (.returned wt) (w.setCell ⟨e,5,none⟩ (.slice none 0 0)):=by
  refine⟨rfl,h.I6 es.up (by exact aD.put h.own 5 _) (aG.at w e 5 _),?_,aG.at w e 5 _⟩;exact h.aK.put (q:=⟨e,5,none⟩) (fun g hg c=>h.FT g hg c.symm) _
 have HF:=aa hF;clear h hF;go_enter Tryz.func219,Tryz.ntmps219;go_wp2_with fail;go_ret;exact HF.o
def aez(aA:Nat→Nat)(e:Nat)(q:sM)(es:Es)(w:World)(en:Ending)(w':World): Prop:=
 (∃u,en=.returned u)∧bw aA w' e q (.slice none 0 0) {es with up:=false,aK:=[]}∧aG (· =e) w w'
theorem Gn(h:bw aA w e q wt es): Calls af 211 #[.pointer (some ⟨e,0,none⟩)] w (aez aA e q es w):=by
 have x1:w.cell? ⟨e,1,none⟩=some (.bool es.up):=h.own.cell 1;have x5:w.cell? ⟨e,5,none⟩=some wt:=h.own.cell 5;have m1:=h.own.mark 1;have m5:=h.own.mark 5;have bh:aD (w.setCell ⟨e,1,none⟩ (.bool false)) e 68 _:=h.own.put 1 _;have y5:(w.setCell ⟨e,1,none⟩ (.bool false)).cell? ⟨e,5,none⟩=some wt:=bh.cell 5;have n5:=bh.mark 5;have ht:aG (· =e) w ((w.setCell ⟨e,1,none⟩ (.bool false)).setCell ⟨e,5,none⟩ (.slice none 0 0)):=(aG.at w e 1 _).B1 5 _;have HF:=aa (fun u=>(show aez aA e q es w (.returned u) ((w.setCell ⟨e,1,none⟩ (.bool false)).setCell ⟨e,5,none⟩ (.slice none 0 0))from⟨⟨u,rfl⟩,h.I6 false (by exact aD.put bh 5 _) ht,ht⟩));clear h bh ht;go_enter Tryz.func211,Tryz.ntmps211;go_wp2_with fail;exact bodyPost_end (results_none Tryz.results211 _ _ _) rfl (HF.o _)
theorem Bc: (af.info? 108).map (fun i=>(i.zero,i.size,i.bytes))=some (some (.agg #[.int .u32 0,.int .i64 0,.int .i64 0,.int .u32 0,.int .i64 0,.int .i64 0,.int .i64 0]),7,56):=aW
theorem Vl{S:Nat→Prop}{W:World}{A:Option Addr}{l:List Rp}{c:Nat}(h:aO S W 108 7 (.slice A l.length c) l.length (Mq l)): Tl W A l:=fun hne=>by
 have hp:0<l.length:=by cases l with|nil=>exact absurd rfl hne|cons x r=>simp
 obtain⟨g,cap,hv,hg,h1,h2,h3⟩:=h.form hp;injection hv with e1 e2 e3
 subst e1;subst e3;refine⟨g,0,rfl,h3,fun i hi=>?_⟩;have:=h.range (aap l) hi;rw[gY];simpa[Mq,bQ,cI hi] using this
def fh(aA:Nat→Nat)(e:Nat)(q:sM)(l:List Rp)(es':Es)(w:World)(en:Ending)(w':World): Prop:=
 ∃eI wF A c,en=.returned (.slice A l.length c)∧Tl w' A l∧bw eI w' e q wF es'∧(∀k,eI k≠0→aA k≠0∨w.heap.size≤k)∧aG (fun k=>aA k≠0) w w'
theorem BW(h:bw aA w e q wt es)(rq:Rq)(hn:es.aK.length≤1000): Calls af 212 #[.pointer (some ⟨e,0,none⟩),.agg (dc rq)] w (fh aA e q (counted es rq) {es with aK:=[]} w):=by
 obtain⟨j0,hj,hz0,hz1,hz2⟩:=info_parts Bc;obtain⟨xq,jw⟩:=ae w.heap.size;obtain⟨w1,aX⟩:=ae (w.alloc (.cells (dc rq) 41));have bu:=aa (aJ aX);have vx:=aa (aH aX jw);have vy:=aa (h.ai bu.o);have jd:=aa h.rest.lt;have yM:=aa (show xq=w.heap.size from jw.symm);obtain⟨n,hn'⟩:=ae es.aK.length;have HN:=aa hn';rw[hn'] at hn;clear h hn';go_enter Tryz.func212,Tryz.ntmps212;go_wp2_with fail;clear aX jw;refine(Bd vy.o).mono ?_;rintro en w2 ⟨rfl,hE2,qo,jL⟩;have wL:=aa hE2;have gV:=aa jL;have aa8:=qo;rw[HN.o] at aa8;have pU:=aa aa8;have jV:=aa (show xq≠e from fun c=>by have:=jd.o e (by rw[vy.o.rest.r5];decide);have:=yM.o;omega);have hQ2:=jL.arr vx.o jV.o;obtain⟨A,cp,hA⟩:=aa8.any;have HA:=aa hA;have c1:w2.cell? ⟨xq,1,none⟩=some (.int .u32 rq.tag):=hQ2.cell 1;have c0:w2.cell? ⟨xq,0,none⟩=some (.int .i64 rq.ax):=hQ2.cell 0;clear hE2 qo aa8 jL hQ2 vx vy;subst hA;obtain⟨w3,hw3⟩:=ae (w2.alloc (.cells #[.int .u32 rq.tag,.int .i64 rq.ax,.int .i64 0,.int .u32 0,.int .i64 0,.int .i64 0,.int .i64 (n:Int)] 108));have ek:=aa (aJ hw3);have iO:=aa (pU.o.keep ek.o);have Lc:=aa (show ∀(j:Nat) (u:Value),[Value.int .u32 rq.tag,.int .i64 rq.ax,.int .i64 0,.int .u32 0,.int .i64 0,.int .i64 0,.int .i64 (n:Int)][j]? =some u→w3.cell? ((⟨w2.heap.size,0,none⟩:Addr).add j)=some u by rw[←hw3];exact ik w2 _ _);go_wp2_with (refine gO _ rfl (.tmp 8) (.tmp 16) 65 rfl 108 j0 (.agg #[.int .u32 0,.int .i64 0,.int .i64 0,.int .u32 0,.int .i64 0,.int .i64 0,.int .i64 0]) 7 56 Tryz.underlying65 hj hz0 hz1 hz2 rfl aM (.slice A n cp) n _ rfl iO.o ⟨w2.heap.size,0,none⟩ 1 [.int .u32 rq.tag,.int .i64 rq.ax,.int .i64 0,.int .u32 0,.int .i64 0,.int .i64 0,.int .i64 (n:Int)] rfl rfl Lc.o acx iM ag ?_;intro ga ca w4 hr4 hg4;have HN4:=aa hr4;have uZ:=aa hg4;clear hr4 hg4);go_ret;have hg4:w3.grownBy w4 (jr A n cp).ownBlock:=uZ.o;have hblk:∀k,(jr A n cp).ownBlock=some k→aA k=4:=pU.o.block;have CG:aG (fun k=>aA k=4) w2 w4:=(aG.aU (S:=fun k=>aA k=4) ek.o).grown hg4 (fun k hk=>.inl (hblk k hk));have hT:aG (fun k=>aA k≠0) w w4:=((aG.aU (S:=fun k=>aA k≠0) bu.o).trans (gV.o.mono fun k _ hk=>by subst hk;show aA k≠0;rw[wL.o.rest.r5];decide)).trans (CG.mono fun k _ hk=>oo);have hE4:bw aA w4 e q (.slice none 0 0) {es with aK:=[]}:=⟨wL.o.rest.cG (CG.mono fun k _ hk=>.inl hk),CG.arr wL.o.own (fun c=>by have:=wL.o.rest.r5;rw[c] at this;exact absurd this aM),aO.nil _ _ _ _ _⟩;have hlen:(counted es rq).length=n+1:=by unfold counted;rw[List.length_append,HN.o];rfl
 have JW:aO (fun k=>aA k=4∨k=w3.heap.size) w4 108 7 (.slice (some ⟨ga,0,none⟩) (n+1) ca) (n+1) (Mq (counted es rq)):=by
  have h1:=HN4.o;have h2:=I5 es.aK ⟨rq.tag,rq.ax,0,0,0,0,es.aK.length⟩;rw[HN.o] at h2;unfold counted;rw[HN.o,←h2];exact h1
 rw[←hlen] at JW;exact⟨aA,_,some ⟨ga,0,none⟩,ca,by rw[hlen];rfl,Vl JW,hE4,fun k hk=>.inl hk,hT⟩
end
end En
end
section
namespace En
theorem Ni(l:Lg)(g:Rg)(d:bG)(hs:1≤d.dk.size): (l.flush g d).2.2.dk.size=d.dk.size:=by
 unfold Lg.flush;split
 ·rfl
 have h1:=(Rg.pw g d l.cE.length l.aK hs).1;split
 ·have h2:=(bG.FN (g.write d l.cE.length l.aK).2).1;split <;>exact h2.trans h1
 exact h1
section
variable {aA:Nat→Nat}{w w':World}{e:Nat}{q:sM}{wt:Value}{es:Es}
variable{w1:World}
theorem fh.trans{mL:Nat→Nat}{l:List Rp}{es':Es}{en:Ending}(h1:aG (fun k=>aA k≠0) w w1)(hs:∀k,mL k≠0→aA k≠0∨w.heap.size≤k)(h2:fh mL e q l es' w1 en w'): fh aA e q l es' w en w':=by
 obtain⟨eI,wF,A,c,a1,a2,a3,a4,a5⟩:=h2;refine⟨eI,wF,A,c,a1,a2,a3,fun k hk=>?_,h1.new (a5.mono fun k _ hk=>hs k hk)⟩;rcases a4 k hk with h|h
 ·exact hs k h
 exact .inr (bf h1.size h)
theorem fh.one{mL:Nat→Nat}{wF:Value}{es':Es}{r:Rp}{A:Option Addr}{c:Nat}(h:bw mL w1 e q wF es')(hs:∀k,mL k≠0→aA k≠0∨w.heap.size≤k)(ht:aG (fun k=>aA k≠0) w w1)(hr:Tl w' A [r])(hb:Below w1.heap.size w1 w'):
 fh aA e q [r] es' w (.returned (.slice A 1 c)) w':=⟨mL,wF,A,c,rfl,hr,h.ai hb,hs,ht.ai hb⟩
theorem bw.iF(h:bw aA w e q wt es){en:Ending}(hf:ER (fun k=>aA k=1) (fun k=>aA k=2) q.lq q.rl q.p es.rg es.dev.dk.size (es.log.flush es.rg es.dev) w en w1)(hs:1≤es.dev.dk.size):
  en=.returned (.int .i64 (es.log.flush es.rg es.dev).1)∧bw (grow aA w w1 2) w1 e q wt {es with log:=(es.log.flush es.rg es.dev).2.1,dev:=(es.log.flush es.rg es.dev).2.2}∧aG (fun k=>aA k=1∨aA k=2) w w1:=by
 obtain⟨a1,a2,a3,a4⟩:=hf;refine⟨a1,h.keeps (h.rest.flush (Ni _ _ _ hs) a2 a3 a4) rfl rfl a4 (fun k hk=>?_) (np h.rest.lt),a4⟩;rcases hk with hk|hk <;>rw[hk] <;>exact⟨aM,aM⟩
theorem bw.BM(h:bw aA w e q wt es)(hr:es.dev.dk.row.length+es.log.aK.length≤1000000)(hs:1≤es.dev.dk.size):
  Calls af 210 #[.pointer (some ⟨q.lq,0,none⟩)] w fun en w1=>en=.returned (.int .i64 (es.log.flush es.rg es.dev).1)∧bw (grow aA w w1 2) w1 e q wt {es with log:=(es.log.flush es.rg es.dev).2.1,dev:=(es.log.flush es.rg es.dev).2.2}∧aG (fun k=>aA k=1∨aA k=2) w w1:=by
 obtain⟨v,hv⟩:=h.rest.log;exact(Si hv h.rest.dev (fun k h1 h2=>by rw[h1] at h2;exact absurd h2 aM) hr).mono fun en w1 hf=>h.iF hf hs
theorem XX(h:bw aA w e q wt es)(rq:Rq)(hn:es.aK.length≤1000)(hr:es.dev.dk.row.length+es.log.aK.length≤1000000)(hs:1≤es.dev.dk.size):
  Calls af 99 #[.pointer (some ⟨e,0,none⟩),.agg (dc rq)] w (fh aA e q (es.flush rq).1 (es.flush rq).2 w):=by
 obtain⟨xq,jw⟩:=ae w.heap.size;obtain⟨w1,aX⟩:=ae (w.alloc (.cells (dc rq) 41));have bu:=aa (aJ aX);have vx:=aa (aH aX jw);have hE1:=h.ai bu.o;have x2:w1.cell? ⟨e,2,none⟩=some (.pointer (some ⟨q.lq,0,none⟩)):=hE1.own.cell 2;have GJ:=aa (hE1.BM hr hs);have jd:=aa h.rest.lt;have yM:=aa (show xq=w.heap.size from jw.symm);have HZ:=aa (show ∀k,aA k≠0→k≠xq from fun k hk c=>by have:=h.rest.lt k hk;omega);obtain⟨R,hR⟩:=ae (es.log.flush es.rg es.dev);have vw:=aa hR;rw[hR] at GJ;clear h hE1 hR hr hs;by_cases c:R.1=0
 ·have hc1:(R.1 != 0)=false:=by rw[c];rfl
  have GK:=aa (show es.flush rq=(counted es rq,{es with dev:=R.2.2,log:=R.2.1,aK:=[]})from by unfold Es.flush;rw[vw.o,if_neg p4]);have HC:=aa c;clear c;go_enter Tryz.func99,Tryz.ntmps99;go_wp2_with fail;clear aX jw;refine GJ.o.mono ?_;rintro en w2 ⟨rfl,hE2,jL⟩;have wL:=aa hE2;have gV:=aa jL;have rC:=aa (jL.arr vx.o (fun k=>UB));clear hE2 jL GJ x2;go_wp2_with (refine aB rfl 41 (.tmp 3) rfl xq 41 _ rC.o rfl _ cq rfl aF ?_);refine(BW wL.o rq hn).mono ?_;rintro en w3 h3;have hT:aG (fun k=>aA k≠0) w w2:=(aG.aU (S:=fun k=>aA k≠0) bu.o).trans (gV.o.mono fun k _ hk=>Uw);have h4:=fh.trans hT (fun k hk=>by
   rcases iR k hk with h|h
   ·exact .inl h
   exact .inr (bf bu.o.size h)) h3
  have e1:counted {es with log:=R.2.1,dev:=R.2.2} rq=counted es rq:=rfl;rw[e1] at h4;have h5:fh aA e q (es.flush rq).1 (es.flush rq).2 w en w3:=by rw[GK.o];exact h4
  obtain⟨eI,wF,A,cp,rfl,b2,b3,b4,b5⟩:=h5;have HF:=aa (show fh aA e q (es.flush rq).1 (es.flush rq).2 w (.returned (.slice A (es.flush rq).1.length cp)) w3 from⟨eI,wF,A,cp,rfl,b2,b3,b4,b5⟩);clear h3 h4 b2 b3 b4 b5 hT;go_wp2_with fail;go_ret;exact HF.o
 ·have hc1:(R.1 != 0)=true:=bne_iff_ne.2 c;have GK:=aa (show es.flush rq=([cy rq 230],{es with up:=false,dev:=R.2.2,log:=R.2.1,aK:=[]})from by unfold Es.flush;rw[vw.o,if_pos c];rfl);clear c;go_enter Tryz.func99,Tryz.ntmps99;go_wp2_with fail;clear aX jw;refine GJ.o.mono ?_;rintro en w2 ⟨rfl,hE2,jL⟩;have wL:=aa hE2;have gV:=aa jL;have rC:=aa (jL.arr vx.o (fun k=>UB));clear hE2 jL GJ x2;go_wp2_with fail;refine(Gn wL.o).mono ?_;rintro en w3 ⟨⟨u,rfl⟩,hE3,kv⟩;have KI:=aa hE3;have jR:=aa kv;have hee:(grow aA w1 w2 2) e≠0:=by rw[wL.o.rest.r5];decide
  have HEN:=aa (show aA e≠0 from by
   have h5:=wL.o.rest.r5;unfold grow at h5;split at h5
   ·rw[h5];decide
   split at h5
   ·exact absurd h5 aM
   exact absurd h5 aM)
  have jE:=aa (kv.arr rC.o (fun k=>HZ.o e HEN.o k.symm));clear hE3 kv;go_wp2_with (refine aB rfl 41 (.tmp 3) rfl xq 41 _ jE.o rfl _ cq rfl aF ?_);refine(lz rq 230 w3).mono ?_;rintro en w4 ⟨A,cp,rfl,hr4,hb4⟩;have hT:aG (fun k=>aA k≠0) w w3:=((aG.aU (S:=fun k=>aA k≠0) bu.o).trans (gV.o.mono fun k _ hk=>Uw)).trans (jR.o.mono fun k _ hk=>by subst hk;exact HEN.o);have HF:=aa (show fh aA e q (es.flush rq).1 (es.flush rq).2 w (.returned (.slice A 1 cp)) w4 from by
   rw[GK.o];exact fh.one KI.o (fun k hk=>by
    rcases iR k hk with h|h
    ·exact .inl h
    exact .inr (bf bu.o.size h)) hT hr4 hb4)
  clear hT hr4 hb4;go_wp2_with fail;go_ret;exact HF.o
end
end En
end
section
namespace En
open Bk (KV EV)
section
variable {aA:Nat→Nat}{w w':World}{e:Nat}{q:sM}{wt:Value}{es:Es}
theorem bw.other{T:Nat→Prop}(h:bw aA w e q wt es)(ht:aG T w w')(hT:∀k,T k→aA k=0∧k≠1∧k≠0): bw aA w' e q wt es:=by
 have no:∀ {k r:Nat},aA k=r→r≠0→¬T k:=fun hk hr c=>hr (hk.symm.trans (hT _ c).1)
 refine⟨⟨?_,(cC ..).cG h.rest.log ht (fun k hk=>no hk aM),(aC ..).cG h.rest.dev ht (fun k hk=>no hk aM),iI h.rest.book ht (fun k hk=>no hk aM),h.rest.slots.cG ht (no h.rest.r7.1 aM) (no h.rest.r7.2.1 aM) (no h.rest.r7.2.2 aM),h.rest.r5,h.rest.r6,h.rest.r7,fun k hk=>aP (h.rest.lt k hk) ht.size,
  h.rest.iy.cG ht (fun c=>(hT _ c).2.1 rfl),h.rest.rep.cG ht (fun c=>(hT _ c).2.2 rfl),h.rest.lh⟩,ht.arr h.own (no h.rest.r5 aM),h.aK.same fun k hk hl=>ht.block k hl (no hk aM)⟩
 exact h.rest.does.same (ht.block _ h.rest.does.lt (no h.rest.r6 aM))
theorem bw.grown{x:Nat}{w0:World}(h:bw aA w e q wt es)(hg:w.grownBy w' (some x))(hx:w0.heap.size≤x)(h0:∀k,w0.heap.size≤k→aA k=0∧k≠1∧k≠0): bw aA w' e q wt es:=
 h.other ((aG.refl (· =x) w).grown hg (fun k e=>IP)) (fun k hk=>h0 k (by subst hk;exact hx))
theorem bw.news(h:bw aA w e q wt es):∀k,w.heap.size≤k→aA k=0∧k≠1∧k≠0:=fun k hk=>
 ⟨by
  by_cases c:aA k=0
  ·exact c
  have:=h.rest.lt k c;omega,fun c=>by have:=h.rest.iy.lt;omega,fun c=>by have:=h.rest.rep.lt;omega⟩
theorem vC{w1 w2:World}{x:Nat}(h:aG (fun k=>aA k≠0) w w1)(hg:w1.grownBy w2 (some x))(hx:w.heap.size≤x): aG (fun k=>aA k≠0) w w2:=h.grown hg (fun k e=>LZ)
theorem bw.asked(h:bw aA w e q wt es)(hb:fQ (fun k=>aA k=3) w' q.bk es.bk)(ht:aG (fun k=>aA k=3) w w'): bw aA w' e q wt es:=
 h.keeps (h.rest.asked hb ht) rfl rfl ht (fun k hk=>by have Ie:aA k=3:=hk;rw[Ie];exact⟨aM,aM⟩) (fun _ h=>h)
theorem agD(h:bw aA w e q wt es)(rq:Rq)(hb:es.bk.Ok)(hq:rq.Good)(Dl:za rq)(hk:rq.ax=5∨rq.ax=6∨rq.ax=10):
  Calls af 98 #[.pointer (some ⟨e,0,none⟩),.agg (dc rq)] w (fh aA e q [ed es.bk rq] es w):=by
 obtain⟨xq,jw⟩:=ae w.heap.size;obtain⟨w1,aX⟩:=ae (w.alloc (.cells (dc rq) 41));have bu:=aa (aJ aX);have vx:=aa (aH aX jw);have vy:=aa (h.ai bu.o);have HN:=aa h.news;have yM:=aa (show w.heap.size≤xq∧xq<w1.heap.size from⟨ag,vx.o.lt⟩);have HAN:=aa (show ∀W,fQ (fun k=>aA k=3) W q.bk es.bk→Calls af 209 #[.pointer (some ⟨q.bk,0,none⟩),.agg (dc rq)] W (KV (fun k=>aA k=3) q.bk es.bk rq W)from fun W hW=>EV _ W q.bk es.bk rq hW hb hq Dl hk);obtain⟨Ym,JR⟩:=ae (ed es.bk rq);have SQ:=aa JR;clear h hb hq Dl hk JR;go_enter Tryz.func98,Tryz.ntmps98;go_upto_region 1 with fail
 clear aX jw;go_cut [5,6] from 7 to 15 (fun s5 s6 wc=>∃xa,s5=.pointer (some ⟨xa,0,none⟩)∧aD wc xa 108 (pW Ym)∧bw aA wc e q wt es∧aG (fun k=>aA k≠0) w wc)
 case first=>
  have ic:=aa (show ∀W,bw aA W e q wt es→aD W xq 41 (dc rq)→(W.cell? ⟨e,4,none⟩=some (.pointer (some ⟨q.bk,0,none⟩))∧W.rangeAt xq 0 (dc rq).toList)from fun W hE hQ=>⟨hE.own.cell 4,fun j u hj=>by rw[gY,hQ.cell j];simpa using hj⟩);obtain⟨wd,hwd⟩:=ae w1.drew;have gQ:Below w1.heap.size w1 wd:=mR;have l9:=aa (vy.o.ai gQ);have kM:=vx.jS gQ;have kz:=aa (show aG (fun k=>aA k≠0) w wd from aG.aU (ar bu.o gQ));clear gQ;refine wp_region_held_drew (S:=(fun W=>W.cell? ⟨e,4,none⟩=some (.pointer (some ⟨q.bk,0,none⟩))∧W.rangeAt xq 0 (dc rq).toList)) aW (by rw[hwd];exact ic.o _ l9.o kM.o) (fun hHeld=>?_);rw[hwd] at hHeld ⊢;clear hwd vy vx;refine kW 0 1 2 3 ?_;refine fj 4 (some 12) hHeld 41 (.tmp 3) xq 0 (dc rq).toList _ (fun w' h=>h.2) cq rfl aF ?_;try simp only[aQ]
  refine qc 5 9 (fun K hK=>?_) fun K hK=>?_
  ·go_simp;refine(HAN.o _ l9.o.rest.book).mono ?_;rintro en v1 ⟨rfl,cK,ht⟩;rw[SQ.o];have iW:=aa (l9.o.asked cK ht);have ll:=aa (ht.arr kM.o (fun c=>wQ));have iJ:=aa (kz.o.trans (ht.mono fun k _ hk=>oo));clear cK ht;go_wp2_with fail;refine bW hK AM fun hh1=>?_
   clear hK K;refine QN 6 7 8 ?_;refine cD 9 fun K hK=>?_
   obtain⟨v2,hv2⟩:=ae (v1.alloc (.cells #[.int .u32 0,.int .i64 0,.int .i64 0,.int .u32 0,.int .i64 0,.int .i64 0,.int .i64 0] 108));obtain⟨xa,jb⟩:=ae v1.heap.size;have hb:=aJ hv2;have eN:=aa (show bw aA v2 e q wt es from iW.o.ai hb);have gi:=aa (show aD v2 xq 41 (dc rq)from ll.o.keep hb);have fg:=aa (show aG (fun k=>aA k≠0) w v2 from iJ.o.ai hb);have ZI:=aa (aH hv2 jb);have HW9:=aa (show w.heap.size≤xa from LK);have rE:=aa (show xq<xa from AB);clear hb;go_simp;go_wp2_with fail;try rw[hv2]
   try rw[jb]
   clear hv2 jb;refine bW hK vA fun RQ=>?_
   exact adw
  obtain⟨v1,kA⟩:=ae (wd.alloc (.cells #[.int .u32 0,.int .i64 0,.int .i64 0,.int .u32 0,.int .i64 0,.int .i64 0,.int .i64 0] 108));obtain⟨xa,jb⟩:=ae wd.heap.size;have hb:=aJ kA;have iW:=aa (show bw aA v1 e q wt es from l9.o.ai hb);have ll:=aa (show aD v1 xq 41 (dc rq)from kM.o.keep hb);have iJ:=aa (show aG (fun k=>aA k≠0) w v1 from kz.o.ai hb);have ahf:=aa (aH kA jb);have HW9:=aa (show w.heap.size≤xa from by rw[←jb];exact kz.o.size);have rE:=aa (show xq<xa from AA);clear hb;go_simp;go_wp2_with fail;try rw[kA]
  try rw[jb]
  clear kA jb;refine bW hK AM fun hh1=>?_
  clear hK K;refine cD 5 fun K hK=>?_
  go_simp;refine(HAN.o _ iW.o.rest.book).mono ?_;rintro en v2 ⟨rfl,cK,ht⟩;rw[SQ.o];have eN:=aa (iW.o.asked cK ht);have gi:=aa (ht.arr ll.o (fun c=>wQ));have fg:=aa (iJ.o.trans (ht.mono fun k _ hk=>oo));have ZI:=aa (ht.arr ahf.o (fun c=>by have:=(HN.o _ HW9.o).1;rw[this] at c;exact absurd c aM));clear cK ht;go_wp2_with fail;refine bW hK vA fun RQ=>?_
  clear hK K;refine QN 6 7 8 ?_;exact adw
 case rest=>
  obtain⟨xa,rfl,hA,hE,hT⟩:=hcut;have HA:=aa hA;have HE:=aa hE;have HT:=aa hT;clear hA hE hT vy vx;have HF:=aa (show ∀g c,g=wc.heap.size→fh aA e q [ed es.bk rq] es w (.returned (.slice (some ⟨g,0,none⟩) 1 c)) (wc.alloc (.cells (pW Ym) 108))from fun g c hg=>by
   rw[SQ.o];refine fh.one HE.o (fun k hk=>.inl hk) HT.o (fun _=>⟨g,0,rfl,by rw[hg];simp,fun i hi j u hj=>?_⟩) (aw (aq _ _) _);have h0:i=0:=Au;subst h0;have:=(aD.fresh wc 108 (pW Ym)).cell j;simp only[Nat.zero_mul,gY];rw[hg];refine this.trans ?_;simpa using hj)
  go_wp2_with (refine aB rfl 108 (.tmp 5) rfl xa 108 #[.int .u32 Ym.tag,.int .i64 Ym.ax,.int .i64 Ym.err,.int .u32 Ym.id,.int .i64 Ym.av,.int .i64 Ym.aR,.int .i64 Ym.count] HA.o rfl _ eW rfl aV ?_);go_ret;exact HF.o _ _ rfl
