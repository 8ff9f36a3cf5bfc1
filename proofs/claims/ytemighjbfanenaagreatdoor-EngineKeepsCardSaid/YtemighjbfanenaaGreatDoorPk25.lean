import Derived.Test.YtemighjbfanenaaGreatDoorPk5
set_option linter.all false
set_option maxRecDepth 100000
set_option maxHeartbeats 16000000
namespace Go.Proofs.YtemighjbfanenaaGreatDoor
open RowKit
open Go.World renaming cell?_of_block→eF
open Nat renaming lt_of_lt_of_le→aP,zero_add→gY,le_refl→aL
open RowKit.Below renaming refl→aq,heap_setCell→cH
open Tryz renaming prog→af,underlying34→ey
open _root_.Array renaming getElem?_eq_getElem→ja,size_setIfInBounds→qK
theorem ac7{p:Prop}(h:p:=by
 have KH:=aa hinv;clear hinv;go_wp2_with fail;go_roundw
 case rel=>exact⟨q+1,ag,by go_num,KH.o⟩
 case measure=>simp[intOf];omega):p:=h
theorem acD{p:Prop}(h:p:=by first|exact⟨eU x0 ry,aP afP ry.size⟩|exact⟨(eF (a:=⟨hd,k,none⟩) (cH _ _ _ _ hdk)).trans (eU x0 ry),by simp;exact aP afP ry.size⟩):p:=h
theorem pA{p:Prop}(h:p:=by assumption):p:=h
theorem L9{p:Prop}(h:p:=by exact qC _ (ay (aq _ _))):p:=h
theorem AJ{p:Prop}(h:p:=by exact qC _ (by assumption)):p:=h
section
namespace Fl
open Oc (dX)
theorem SR(hd m hc:Nat)(AD AH:Nat→Option Addr)(N C:Nat→Nat)(w:World)(RU:Ce 5 uu w hd m AD AH N C):
  Calls af 170 #[.slice (some ⟨hd,0,none⟩) m hc] w fun e w'=>e= .returned (.bool true)∧aG (Pv AD m) w w':=by
 have hm:=RU.X1;have tM:=RU.lt;have hN:=RU.small;have HH:=aa RU.hdr;have HE:=aa Nl;have HF:=aa RU.form;have jV:=aa RU.ne;have Ck:=aa RU.apart;clear RU;go_enter Tryz.func170,Tryz.ntmps170;go_wp2_with fail;go_loopw [3] (fun k wr=>∃ j:Nat,j≤m∧k= .int .i64 j∧(∀ q,q<m→∀ g,At AD q g→eC 5 uu wr g (C q) q (lv N j q))∧aG (Pv AD m) w wr) (fun k _=>(m - intOf k).toNat)
 case atStart=>
  refine⟨0,ag,rfl,fun q hq g hg=>?_,aG.refl _ _⟩;rw[Wz ag];rcases HF.o q hq with⟨h1,_⟩|⟨g2,h1,_,h2⟩
  ·unfold At at hg;rw[h1] at hg;cases hg
  obtain rfl:=h1.eq hg;exact h2
 case round=>
  obtain⟨k,hk,rfl,hBl,ht⟩:=hrel;have vd:=aa hBl;clear hBl;by_cases h:k<m
  ·have vV:(k:Int)<(m:Int):=by omega
   obtain⟨pN,mW⟩:=hN k h;go_wp2_with fail;go_loopw [4] (fun i wi=>∃ i':Nat,i'≤N k∧i= .int .i64 i'∧(∀ q,q<m→q≠k→∀ g,At AD q g→eC 5 uu wi g (C q) q (lv N k q))∧(∀ g,At AD k g→eC 5 uu wi g (C k) k i')∧aG (Pv AD m) w wi) (fun i _=>(N k - intOf i).toNat)
   case atStart=>exact⟨0,ag,rfl,fun q hq _ g hg=>vd.o q hq g hg,fun g hg=>(vd.o k h g hg).less ag,ht⟩
   case round=>
    obtain⟨i,hi,rfl,hOt,hBk,hti⟩:=hrel;have x0:wr.cell? ⟨hd,k,none⟩=some (.slice (AH k) (N k) (C k)):=HH.o.cG hti tM Ck.o k h;have afP:hd<wr.heap.size:=aP tM hti.size;have HOT:=aa hOt;have eX:=aa hBk;have HT:=aa hti;clear hOt hBk hti;by_cases h2:i<N k
    ·obtain⟨gk,hgk,aiS⟩: ∃ g,At AD k g∧At AH k g:=by
      rcases HF.o k h with⟨_,h3,_⟩|⟨g,h3,h4,_⟩
      ·omega
      exact⟨g,h3,pA⟩
     rw[show AH k=some ⟨gk,0,none⟩from aiS] at x0;have HGK:=aa hgk;have Iv:=aa (eX.o gk hgk);have gkl:=Iv.o.lt;have kC:(i:Int)<(N k:Int):=ag;have hdk:hd≠gk:=fun e=>Ck.o ⟨k,h,by rw[e];exact HGK.o⟩
     have aol:gk≠hd:=fun e=>hdk e.symm
     have yZ:(0:Int)≤(i:Int):=ag;obtain⟨⟨u0,u0c⟩,m0⟩:=Iv.o.there (show i<C k from ag);clear hgk aiS;go_wp2_with fail;refine wp_region_held_drew (S:=(fun w'=>w'.cell? ⟨hd,k,none⟩=some (.slice (some ⟨gk,0,none⟩) (N k) (C k))∧hd<w'.heap.size)) aW (by exact⟨x0,aP afP (aL _)⟩) (fun hHeld=>?_);refine OC 0 1 2 3 4 5 ?_;refine ty 6 ?_;refine cD 7 fun K hK=>?_
     go_simp
     (go_at_call 250;refine(wj k i _).mono ?_;rintro e w3 ⟨rfl,hb3⟩;have ry:=ar (ay (aq wr.heap.size wr)) hb3;have y0:=eU u0c ry;have q0:=(ry.frozen (p:=⟨gk,i,none⟩) gkl).trans m0)
     go_wp2_with fail;refine bW hK acD fun nK=>?_
     clear hK K;refine ty 8 ?_;refine cD 9 fun K hK=>?_
     go_simp;skip;go_wp2_with fail;refine bW hK acD fun oW=>?_
     clear hK K;refine bF ?_;go_wp2_with fail;go_roundw
     case rel=>
      have hb4:Below wr.heap.size wr w3:=ry;have hg4:w3.grownBy (w3.setCell ⟨gk,i,none⟩ (.int .u8 (mkV k i))) (some gk):=(bL gk [.int .u8 (mkV k i)] i w3).1;have hk4:Ks uu w3 (w3.setCell ⟨gk,i,none⟩ (.int .u8 (mkV k i))):=ksB _ _;refine⟨i+1,ag,by go_num,fun q hq hqk g hg=>?_,fun g hg=>?_,?_⟩
      ·have dR:=(HOT.o q hq hqk g hg).keep HE.o hb4;exact dR.same hk4 (hg4.block g dR.lt (fun e=>by
        injection e with e
        subst e;exact hqk (jV.o q k _ hq h hg HGK.o)))
      ·obtain rfl:=HGK.o.eq hg;exact(Iv.o.keep HE.o hb4).put HE.o rfl ag
      exact(HT.o.ai hb4).grown hg4 (fun x hx=>by injection hx with hx;subst hx;exact .inl ⟨k,h,HGK.o⟩)
     case measure=>simp[intOf];omega
    obtain rfl:i=N k:=ag;go_wp2_with fail;go_roundw
    case rel=>
     refine⟨k+1,ag,by go_num,fun q hq g hg=>?_,HT.o⟩;rcases Nat.lt_trichotomy q k with h3|h3|h3
     ·have:=HOT.o q hq ag g hg;rw[Pk h3] at this;rw[Pk ag];exact this
     ·subst h3;rw[Pk ag];exact eX.o g hg
     have:=HOT.o q hq ag g hg;rw[Wz ag] at this;rw[Wz ag];exact this
    case measure=>simp[intOf];omega
  obtain rfl:k=m:=ag;have nL:Mrk 5 uu wr k AD N C:=fun q hq g hg=>by have:=vd.o q hq g hg;rw[Pk hq] at this;exact this
  have cx:=aa nL;have HT:=aa ht;have ajl: ∀ q g,q<k→At AD q g→g<wr.heap.size:=fun q g hq hg=>(nL q hq g hg).lt
  have Ts:=aa ajl;have hw:=ht.size;clear nL vd ht h ajl;obtain⟨i1,kC,gC,gB,oa⟩:=info_parts gz;obtain⟨i0,hi,hz0,hz1,hz2⟩:=info_parts dX;go_wp2_with (refine wpList_make_full _ rfl _ _ 33 rfl wr.heap.size 34 i1 (.slice none 0 0) 1 Tryz.underlying33 kC gC gB .i64 .i64 _ _ k rfl rfl rfl rfl (by rw[oa];omega) iM (aL _) ?_;intro w5 bT cJ;have rj:=aa bT;have jk:=aa cJ;clear bT cJ);obtain⟨cs0,aa2,ai3⟩:=aax rj.o;have dR:Below wr.heap.size wr w5:=Below.grown (aq _ _) jk.o (aL _) dA;obtain⟨nk,Xp⟩: ∃ nk,nk=wr.heap.size:=⟨_,rfl⟩;have hl5:=aa2.lt;rw[←Xp] at aa2 hl5 ⊢;have HGS:=aa Xp;have hB5:Mrk 5 uu w5 k AD N C:=cx.o.keep HE.o dR;have Bu:=HT.o.ai dR;have eQ:=aa hB5;clear Xp rj jk cx hB5
  rename World=>w5'
  have hgw:w.heap.size≤nk:=by have:=HGS.o;omega
  have hGl: ∀ q g,q<k→At AD q g→g<nk:=fun q g hq hg=>by rw[HGS.o];exact Ts.o q g hq hg
  have SC:=aa hGl;clear hGl;go_loopw [6] (fun j wr=>∃ (j':Nat) (cs:Array Value),j'≤k∧j= .int .i64 j'∧cs.size=k∧Inv 5 34 uu k AD N C w wr.heap.size nk cs j' 64 wr) (fun j _=>(k - intOf j).toNat)
  case atStart=>exact⟨0,cs0,ag,rfl,ai3,aa2,fun q hq=>absurd hq ag,eQ.o,Bu,aL _⟩
  case round=>
   clear aa2 ai3 dR hl5 Bu eQ;obtain⟨j,cs,hj,rfl,Tg,hinv⟩:=hrel
   rename World=>wo
   have hgo:nk<wo.heap.size:=hinv.1.lt;have SA:=aa hinv;have hlo:hd<wo.heap.size:=aP tM hinv.2.2.2.1.size;by_cases h:j<k
   ·obtain⟨pN,mW⟩:=hN j h;have x0:wo.cell? ⟨hd,j,none⟩=some (.slice (AH j) (N j) (C j)):=HH.o.cG hinv.2.2.2.1 tM Ck.o j h;have hj1:(j:Int)<(k:Int):=ag;clear hinv;go_wp2_with fail;go_loopw [7,8] (fun g i wi=>∃ i':Nat,i'≤64∧i= .int .i64 i'∧ab5 5 uu wi AD wo.heap.size wi.heap.size j (N j+i') g∧Inv 5 34 uu k AD N C w wo.heap.size nk cs j 64 wi) (fun _ i _=>(64 - intOf i).toNat)
    case atStart=>
     refine⟨0,ag,rfl,⟨AH j,C j,rfl,pN,?_⟩,SA.o⟩;rcases HF.o j h with⟨h1,h2,h3⟩|⟨g,h1,K8,_⟩
     ·exact .inl ⟨h2,h3⟩
     exact .inr ⟨g,K8,SA.o.2.2.1 j h g h1,.inl h1,(SA.o.2.2.1 j h g h1).lt⟩
    case round=>
     obtain⟨i,hi',rfl,hg,Tb⟩:=hrel;obtain⟨ao,gc,rfl,RL,RF⟩:=hg;have x0:wr.cell? ⟨hd,j,none⟩=some (.slice (AH j) (N j) (C j)):=HH.o.cG Tb.2.2.2.1 tM Ck.o j h;have HIV:=aa Tb;have agU:=aa RF;have hsz:=Tb.2.2.2.2;have aom:=Tb.1.lt;clear RF;by_cases aaW:i<64
     ·clear Tb;go_wp2_with fail;refine(EI j (N j+i) _ _ rfl dA _).mono ?_;rintro e w4 ⟨rfl,hb4⟩;have hbA:=aw hb4 (.cells #[.int .u8 (mkV j (N j+i))] 5);have Lc:=aa (ik w4 [.int .u8 (mkV j (N j+i))] 5);have HIA:=aa (HIV.o.ai HE.o hbA);have adL:(N j+i=0∧gc=0)∨∃ g,ao=some ⟨g,0,none⟩∧eC 5 uu (w4.alloc (.cells #[.int .u8 (mkV j (N j+i))] 5)) g gc j (N j+i)∧(At AD j g∨wo.heap.size≤g)∧g<wr.heap.size:=by
       rcases agU.o with h1|⟨g,h1,h2,h3,h4⟩
       ·exact .inl h1
       exact .inr ⟨g,h1,h2.keep HE.o hbA,h3,h4⟩
      have HWA:=aa adL;have Tx:=aa hbA;clear adL hbA hb4;by_cases hroom:N j+i+1≤gc
      ·obtain⟨gg,rfl,cK,hat,alP⟩: ∃ g,ao=some ⟨g,0,none⟩∧eC 5 uu (w4.alloc (.cells #[.int .u8 (mkV j (N j+i))] 5)) g gc j (N j+i)∧(At AD j g∨wo.heap.size≤g)∧g<wr.heap.size:=by
        rcases HWA.o with⟨_,h3⟩|h1
        ·omega
        exact h1
       obtain⟨olds,ho1,gM,_⟩:=cK.olds RL;have Sy:=aa gM;have eX:=aa cK;clear gM cK;go_wp2_with (at_builtin;refine wpList_append_arg _ rfl (.tmp 57) (.tmp 67) 34 rfl 5 i0 (.int .u8 0) 1 1 ey hi hz0 hz1 hz2 rfl aM gg 0 (N j+i) gc olds rfl ho1 Sy.o ⟨w4.heap.size,0,none⟩ 1 1 [.int .u8 (mkV j (N j+i))] rfl rfl Lc.o (mk_one _) (fun _ s hs=>by have hs2:s<1:=hs;have:=eX.o.there (j:=0+(N j+i)*1+s) ag;exact⟨by obtain⟨u,hu⟩:=this.1;rw[hu];rfl,this.2⟩) iM ag (fun _=>?_) (fun hc=>absurd hroom ag);rw[gY];generalize mM:World.setCells _ gg ((N j+i)*1) _=w6;have Y8:=aa mM;clear mM);go_roundw
       case rel=>
        have hbp:=eX.o.put HE.o (u:=.int .u8 (mkV j (N j+i))) rfl (show N j+i<gc from ag);have xN:=(bL gg [.int .u8 (mkV j (N j+i))] (N j+i) (w4.alloc (.cells #[.int .u8 (mkV j (N j+i))] 5))).1;have mM:=Y8.o;rw[Nat.mul_one] at mM;rw[mU] at mM xN;rw[mM] at hbp xN;refine⟨i+1,ag,by go_num,⟨_,gc,rfl,ag,.inr ⟨gg,rfl,hbp,hat,hbp.lt⟩⟩,HIA.o.mQ (ksB _ _) xN SC.o jV.o h hgo ag ?_⟩;rcases hat with h1|h1
        ·refine .inl ⟨h1,?_⟩;have hrm:=((HIA.o.2.2.1 j h gg h1).a8 HE.o [.int .u8 (mkV j (N j+i))] (show N j≤N j+i from ag) (by
          have h8:=HIA.o.2.2.1 j h gg h1;obtain⟨c1,d1,e1,_⟩:=h8;obtain⟨c2,d2,e2,_⟩:=eX.o;have d3:=Eq.trans (Eq.symm (show _=_ from d1)) (show _=_ from d2);injection d3 with d3
          injection d3 with d3
          subst d3;simp;omega)).1
         rw[mU,mM] at hrm;exact hrm
        exact .inr h1
       case measure=>simp[intOf];omega
      obtain⟨olds,ho1,Z',gM,ho3⟩:=ab5.olds (El:=uu) RL HWA.o;have Sy:=aa gM;have HO3:=aa ho3;have HO4:=aa Z';clear gM ho3 Z';go_wp2_with (at_builtin;refine wpList_append_grows _ rfl (.tmp 57) (.tmp 67) 34 rfl 5 i0 (.int .u8 0) 1 1 ey hi hz0 hz1 hz2 rfl aM ao (N j+i) gc olds rfl HO4.o ho1 Sy.o ⟨w4.heap.size,0,none⟩ 1 1 [.int .u8 (mkV j (N j+i))] rfl rfl Lc.o (mk_one _) ag iM ag (fun v6 w6 JE jG=>?_);obtain⟨g6,c6,rfl,kB,hn6,MZ⟩:=eC.afl (El:=uu) (q:=j) (w:=w6) (ksB _ _) JE ho1 HO3.o rfl;have jy:=aa kB;have GI:=aa jG;clear JE jG kB);go_roundw
      case rel=>
       have hz6:=Tx.o.size;exact⟨i+1,ag,by go_num,⟨_,c6,rfl,hn6,.inr ⟨g6,rfl,jy.o,.inr (by simp at MZ hz6;omega),jy.o.lt⟩⟩,HIA.o.ai HE.o (uN GI.o)⟩
      case measure=>simp[intOf];omega
     obtain rfl:i=64:=ag;obtain⟨gg,rfl,cK,hat,alP⟩: ∃ g,ao=some ⟨g,0,none⟩∧eC 5 uu wr g gc j (N j+64)∧(At AD j g∨wo.heap.size≤g)∧g<wr.heap.size:=by
      rcases agU.o with⟨h3,_⟩|h1
      ·omega
      exact h1
     have eX:=aa cK;have hcj:cs[j]? =some (cs[j]' ag):=ja _;have y0:wr.cell? ⟨nk,j,none⟩=some (cs[j]' ag):=(Tb.1.cell j).trans hcj;have m0:=Tb.1.mark j;clear Tb cK;go_wp2_with fail;go_roundw
     case rel=>exact⟨j+1,_,ag,by go_num,by rw[qK];exact Tg,HIV.o.next HE.o eX.o hat h Tg SC.o hgo hgw⟩
     case measure=>simp[intOf];omega
   obtain rfl:j=k:=ag;obtain⟨top,alB⟩:=ae wo.heap.size;rw[alB] at SA hgo;clear hinv;go_wp2_with fail;go_loopw [9] (fun q wr=>∃ q':Nat,q'≤j∧q= .int .i64 q'∧Inv 5 34 uu j AD N C w top nk cs j 64 wr) (fun q _=>(j - intOf q).toNat)
   case atStart=>exact⟨0,ag,rfl,SA.o⟩
   case round=>
    obtain⟨q,hq,rfl,hinv⟩:=hrel;by_cases h5:q<j
    ·obtain⟨pN,mW⟩:=hN q h5;have hq1:(q:Int)<(j:Int):=ag;obtain⟨g,c,hv,hb1,aof,oT⟩:=hinv.2.1 q h5;have y0:wr.cell? ⟨nk,q,none⟩=some (.slice (some ⟨g,0,none⟩) (N q+64) c):=(hinv.1.cell q).trans hv;have EN:=aa hinv;have HV:=aa hv;clear hinv hb1 hv;go_wp2_with fail;go_loopw [10] (fun i wi=>∃ i':Nat,i'≤N q+64∧i= .int .i64 i'∧Inv 5 34 uu j AD N C w top nk cs j 64 wi) (fun i _=>(N q+64 - intOf i).toNat)
     case atStart=>exact⟨0,ag,rfl,EN.o⟩
     case round=>
      clear y0;obtain⟨i,hi6,rfl,hinv⟩:=hrel;have z1:wr.cell? ⟨nk,q,none⟩=some (.slice (some ⟨g,0,none⟩) (N q+64) c):=(hinv.1.cell q).trans HV.o;have z2:wr.cell? ⟨hd,q,none⟩=some (.slice (AH q) (N q) (C q)):=HH.o.cG hinv.2.2.2.1 tM Ck.o q h5;by_cases h6:i<N q+64
      ·obtain⟨_,z3,rfl⟩:=(hinv.row h5 HV.o).cell h6;have kC:(i:Int)<(N q:Int)+64:=ag;have yZ:(0:Int)≤(i:Int):=ag;obtain⟨M,hM⟩:=ae (mkV q i);have hms: ∀ W:World,Calls af 250 #[.int .i64 q,.int .i64 i] W fun e w'=>e= .returned (.int .u8 M)∧Below W.heap.size W w':=fun W=>by rw[←hM];exact wj q i W
       have Zl:=aa hms;by_cases h7:i<N q
       ·obtain⟨gq,hgq,Xq⟩: ∃ g,At AD q g∧At AH q g:=by
         rcases HF.o q h5 with⟨_,h3,_⟩|⟨g,h3,h4,_⟩
         ·omega
         exact⟨g,h3,h4⟩
        obtain⟨_,z5,rfl⟩:=(hinv.2.2.1 q h5 gq hgq).cell h7;rw[show AH q=some ⟨gq,0,none⟩from Xq] at z2;rw[hM] at z3 z5;have qC:(∀ w',Below wr.heap.size wr w'→((fun w'=>w'.cell? ⟨nk,q,none⟩=some (.slice (some ⟨g,0,none⟩) (N q+64) c)∧w'.cell? ⟨hd,q,none⟩=some (.slice (some ⟨gq,0,none⟩) (N q) (C q))∧w'.cell? ⟨g,i,none⟩=some (.int .u8 M)∧w'.cell? ⟨gq,i,none⟩=some (.int .u8 M)∧Below wr.heap.size wr w') w')):=fun w' hb=>⟨eU z1 hb,eU z2 hb,eU z3 hb,eU z5 hb,hb⟩
        have hi7:(i:Int)<(N q:Int):=ag;have KH:=aa hinv;clear hinv hms hM hgq Xq;go_wp2_with fail;refine sY (S:=(fun w'=>w'.cell? ⟨nk,q,none⟩=some (.slice (some ⟨g,0,none⟩) (N q+64) c)∧w'.cell? ⟨hd,q,none⟩=some (.slice (some ⟨gq,0,none⟩) (N q) (C q))∧w'.cell? ⟨g,i,none⟩=some (.int .u8 M)∧w'.cell? ⟨gq,i,none⟩=some (.int .u8 M)∧Below wr.heap.size wr w')) L9 fun hHeld=>?_
        refine nZ 0 1 2 3 4 5 6 7 ?_;refine ty 8 ?_;refine cD 9 fun K hK=>?_
        go_simp
        (go_at_call 250;refine(Zl.o _).mono ?_;rintro e w9 ⟨rfl,BJ⟩;have ai5:=ar hHeld.2.2.2.2 BJ)
        go_wp2_with fail;refine bW hK AJ fun oW=>?_
        clear hK K;refine nZ 10 11 12 13 14 15 16 17 ?_;refine nZ 18 19 20 21 22 23 24 25 ?_;refine kW 26 27 28 29 ?_;refine cD 30 fun K hK=>?_
        go_simp
        (go_at_call 250;refine(Zl.o _).mono ?_;rintro e w30 ⟨rfl,amt⟩;have anC:=ar oW.2.2.2.2 amt)
        go_wp2_with fail;refine bW hK AJ fun aba=>?_
        clear hK K;refine kW 31 32 33 34 ?_;refine bF ?_;go_wp2_with fail;go_roundw
        case rel=>exact⟨i+1,ag,by go_num,KH.o.ai HE.o aba.2.2.2.2⟩
        case measure=>simp[intOf];omega
       rw[hM] at z3;have qC:(∀ w',Below wr.heap.size wr w'→((fun w'=>w'.cell? ⟨nk,q,none⟩=some (.slice (some ⟨g,0,none⟩) (N q+64) c)∧w'.cell? ⟨hd,q,none⟩=some (.slice (AH q) (N q) (C q))∧w'.cell? ⟨g,i,none⟩=some (.int .u8 M)∧Below wr.heap.size wr w') w')):=fun w' hb=>⟨eU z1 hb,eU z2 hb,eU z3 hb,hb⟩
       have hi7: ¬(i:Int)<(N q:Int):=ag;have KH:=aa hinv;clear hinv hms hM;go_wp2_with fail;refine sY (S:=(fun w'=>w'.cell? ⟨nk,q,none⟩=some (.slice (some ⟨g,0,none⟩) (N q+64) c)∧w'.cell? ⟨hd,q,none⟩=some (.slice (AH q) (N q) (C q))∧w'.cell? ⟨g,i,none⟩=some (.int .u8 M)∧Below wr.heap.size wr w')) L9 fun hHeld=>?_
       refine nZ 0 1 2 3 4 5 6 7 ?_;refine ty 8 ?_;refine cD 9 fun K hK=>?_
       go_simp
       (go_at_call 250;refine(Zl.o _).mono ?_;rintro e w9 ⟨rfl,BJ⟩;have ai5:=ar hHeld.2.2.2 BJ)
       go_wp2_with fail;refine bW hK AJ fun oW=>?_
       clear hK K;refine nZ 10 11 12 13 14 15 16 17 ?_;refine QN 18 19 20 ?_;refine iD (i:=21) (oi:=?o62) (d:=(some 109)) ?afL aW aW aW (fun _ _ _ h=>h) ?afV ?afy pA ?_
       case afL=>(simp only[dZ];exact rfl)
       case afV=>rfl
       case afy=>rfl
       try simp only[aQ]
       refine iD (i:=22) (oi:=?o63) (d:=(some 110)) ?afK aW aW aW (fun _ _ _ h=>h) ?afU ?afx pA ?_
       case afK=>(simp only[dZ];exact rfl)
       case afU=>rfl
       case afx=>rfl
       try simp only[aQ]
       refine iD (i:=23) (oi:=?o64) (d:=(some 111)) ?aaW aW aW aW (fun _ _ _ h=>h) ?afT ?afw pA ?_
       case aaW=>(simp only[dZ];exact rfl)
       case afT=>rfl
       case afw=>rfl
       try simp only[aQ]
       refine iD (i:=24) (oi:=?o65) (d:=(some 112)) ?al8 aW aW aW (fun _ _ _ h=>h) ?amm ?alx pA ?_
       case al8=>(simp only[dZ];exact rfl)
       case amm=>rfl
       case alx=>rfl
       try simp only[aQ]
       refine iD (i:=25) (oi:=?o66) (d:=(some 113)) ?al7 aW aW aW (fun _ _ _ h=>h) ?aml ?alw pA ?_
       case al7=>(simp only[dZ];exact rfl)
       case aml=>rfl
       case alw=>rfl
       try simp only[aQ]
       refine iD (i:=26) (oi:=?o67) (d:=(some 114)) ?al6 aW aW aW (fun _ _ _ h=>h) ?amk ?alv pA ?_
       case al6=>(simp only[dZ];exact rfl)
       case amk=>rfl
       case alv=>rfl
       try simp only[aQ]
       refine iD (i:=27) (oi:=?o68) (d:=(some 115)) ?al5 aW aW aW (fun _ _ _ h=>h) ?amj ?alu pA ?_
       case al5=>(simp only[dZ];exact rfl)
       case amj=>rfl
       case alu=>rfl
       try simp only[aQ]
       refine iD (i:=28) (oi:=?o69) (d:=(some 116)) ?al4 aW aW aW (fun _ _ _ h=>h) ?ami ?als pA ?_
       case al4=>(simp only[dZ];exact rfl)
       case ami=>rfl
       case als=>rfl
       try simp only[aQ]
       refine iD (i:=29) (oi:=?o70) (d:=(some 117)) ?al3 aW aW aW (fun _ _ _ h=>h) ?amh ?alr pA ?_
       case al3=>(simp only[dZ];exact rfl)
       case amh=>rfl
       case alr=>rfl
       try simp only[aQ]
       refine iD (i:=30) (oi:=?o71) (d:=(some 118)) ?al2 aW aW aW (fun _ _ _ h=>h) ?amg ?alq pA ?_
       case al2=>(simp only[dZ];exact rfl)
       case amg=>rfl
       case alq=>rfl
       try simp only[aQ]
       refine iD (i:=31) (oi:=?o72) (d:=(some 119)) ?al1 aW aW aW (fun _ _ _ h=>h) ?amf ?alp pA ?_
       case al1=>(simp only[dZ];exact rfl)
       case amf=>rfl
       case alp=>rfl
       try simp only[aQ]
       refine iD (i:=32) (oi:=?o73) (d:=(some 120)) ?al0 aW aW aW (fun _ _ _ h=>h) ?ame ?alo pA ?_
       case al0=>(simp only[dZ];exact rfl)
       case ame=>rfl
       case alo=>rfl
       try simp only[aQ]
       refine uw 33 34 ?_;refine bF ?_;go_wp2_with fail;go_roundw
       case rel=>exact⟨i+1,ag,by go_num,KH.o.ai HE.o oW.2.2.2⟩
       case measure=>simp[intOf];omega
      obtain rfl:i=N q+64:=ag;exact ac7
    obtain rfl:q=j:=ag;have EN:=aa hinv;clear hinv;have h70:Inv 5 34 uu q AD N C w top nk cs 0 0 wr:=⟨EN.o.1,fun p hp=>absurd hp ag,EN.o.2.2.1,EN.o.2.2.2⟩;have H70:=aa h70;clear h70;go_wp2_with fail;go_loopw [11] (fun p wr=>∃ (p' tp:Nat) (cs:Array Value),p'≤q∧p= .int .i64 p'∧cs.size=q∧nk<tp∧w.heap.size≤tp∧Inv 5 34 uu q AD N C w tp nk cs p' 0 wr) (fun p _=>(q - intOf p).toNat)
    case atStart=>exact⟨0,top,cs,ag,rfl,Tg,hgo,ag,H70.o⟩
    case round=>
     clear H70 EN SA Tg hgo hlo;obtain⟨p,tp,cs,hp,rfl,Tg,hgo,ahW,hinv⟩:=hrel;by_cases h7:p<q
     ·obtain⟨pN,mW⟩:=hN p h7;have hp1:(p:Int)<(q:Int):=ag;have zH:=aa hinv;have anR:=hinv.2.2.2.2;clear hinv;go_wp2_with (refine wpList_make_full _ rfl _ _ 34 rfl wr.heap.size 5 i0 (.int .u8 0) 1 ey hi hz0 hz1 .i64 .i64 _ _ 64 rfl rfl rfl rfl (by rw[hz2];omega) iM (aL _) ?_;intro w5 bT cJ;have rj:=aa (Rs rfl bT);have jk:=aa cJ;clear bT cJ);have h7b:=zH.o.ai HE.o (uN jk.o);have H7B:=aa h7b;obtain⟨mb,MW⟩: ∃ mb,mb=wr.heap.size:=⟨_,rfl⟩;have HMB:=aa MW;have alO:tp≤mb:=ag;have CS:uV 5 w5 mb:=by rw[MW];exact rj.o
      rw[←MW];have HMM:=aa CS;clear MW CS h7b rj jk zH
      rename World=>w5'
      go_loopw [13] (fun i wi=>∃ i':Nat,i'≤64∧i= .int .i64 i'∧Inv 5 34 uu q AD N C w tp nk cs p 0 wi∧uV 5 wi mb) (fun i _=>(64 - intOf i).toNat)
      case atStart=>exact⟨0,ag,rfl,H7B.o,HMM.o⟩
      case round=>
       clear H7B HMM;obtain⟨i,hi8,rfl,hinv,JG⟩:=hrel;have Tr:=aa hinv;have HMN:=aa JG;have anT:=hinv.2.2.2.2;have an4:=JG.lt;by_cases h8:i<64
       ·clear hinv JG;go_wp2_with fail;refine(EI (p+q) i _ _ dA rfl _).mono ?_;rintro e w4 ⟨rfl,hb4⟩;have Sz:=aa (HMN.o.keep hb4);obtain⟨⟨u0,y0⟩,m0⟩:=Sz.o.there (show i<64 from ag);have HI9:=aa (Tr.o.ai HE.o hb4);clear hb4;go_wp2_with fail;go_roundw
        case rel=>
         have kY:w4.grownBy (w4.setCell ⟨mb,i,none⟩ (.int .u8 (mkV (p+q) i))) (some mb):=(bL mb [.int .u8 (mkV (p+q) i)] i w4).1;exact⟨i+1,ag,by go_num,HI9.o.mQ (ksB _ _) kY SC.o jV.o h7 hgo ahW (.inr alO),Sz.o.put i (.int .u8 (mkV (p+q) i)) rfl⟩
        case measure=>simp[intOf];omega
       obtain rfl:i=64:=ag;have z2:wr.cell? ⟨hd,p,none⟩=some (.slice (AH p) (N p) (C p)):=HH.o.cG hinv.2.2.2.1 tM Ck.o p h7;obtain⟨news,aX,hw2,hw3⟩:=JG.list;have Gz:=aa hw2;have Ir:=aa hw3;have hcj:cs[p]? =some (cs[p]' ag):=ja _;have pj:=aa (show ∀ g,At AD p g→eC 5 uu wr g (C p) p (N p)from fun g h1=>hinv.2.2.1 p h7 g h1);have RF:(N p=0∧C p=0)∨∃ g,AH p=some ⟨g,0,none⟩∧eC 5 uu wr g (C p) p (N p)∧(At AD p g∨wr.heap.size≤g)∧g<wr.heap.size:=by
        rcases HF.o p h7 with⟨_,h1⟩|⟨g,h1,K8,_⟩
        ·exact .inl h1
        exact .inr ⟨g,K8,hinv.2.2.1 p h7 g h1,.inl h1,(hinv.2.2.1 p h7 g h1).lt⟩
       obtain⟨olds,ho1,Z',gM,ho3⟩:=ab5.olds (El:=uu) pN RF;have Sy:=aa gM;have HO3:=aa ho3;have HO4:=aa Z';have agU:=aa RF;clear hw2 hw3 gM ho3 Z' hinv JG RF;by_cases hroom:N p+64≤C p
       ·obtain⟨gp,xN,afN,hbp⟩: ∃ g,At AD p g∧AH p=some ⟨g,0,none⟩∧eC 5 uu wr g (C p) p (N p):=by
         rcases HF.o p h7 with⟨_,_,h3⟩|⟨g,h1,h2,_⟩
         ·omega
         exact⟨g,h1,h2,pj.o g h1⟩
        rw[afN] at z2;have jc:=hbp.a8 HE.o (o:=N p*1) news ag ag;obtain⟨w6,mM⟩:=ae (wr.setCells gp (N p*1) news);rw[mM] at jc;have Y8:=aa mM;clear mM;have N5:=aa (Tr.o.mQ (ksB _ _) jc.2 SC.o jV.o h7 hgo ahW (.inl ⟨xN,jc.1⟩));have tP:=aa jc.1;have HBP:=aa hbp;have HGP:=aa xN;have y0:=(N5.o.1.cell p).trans hcj;have m0:=N5.o.1.mark p;have am8:=aa (fun j u hu=>by have:=Sy.o ⟨gp,0,none⟩ afN j u hu;rwa [gU,←gY j] at this: ∀ j u,olds[j]? =some u→wr.cell? ⟨gp,0+j,none⟩=some u);clear jc hbp xN afN;go_wp2_with (at_builtin;refine wpList_append_arg _ rfl (.tmp 148) (.tmp 149) 34 rfl 5 i0 (.int .u8 0) 1 1 ey hi hz0 hz1 hz2 rfl aM gp 0 (N p) (C p) olds rfl ho1 am8.o ⟨mb,0,none⟩ 64 64 news rfl aX Gz.o Ir.o (fun _ s hs=>by have:=HBP.o.there (j:=0+N p*1+s) ag;exact⟨by obtain⟨u,hu⟩:=this.1;rw[hu];rfl,this.2⟩) iM ag (fun _=>?_) (fun hc=>absurd hroom ag);rw[gY,Y8.o]);go_roundw
        case rel=>
         have hn9:=N5.o.next HE.o tP.o (.inl HGP.o) h7 Tg SC.o hgo hgw;exact⟨p+1,_,_,ag,by go_num,by rw[qK];exact Tg,hn9.1.lt,hn9.2.2.2.1.size,hn9⟩
        case measure=>simp[intOf];omega
       go_wp2_with (at_builtin;refine wpList_append_grows _ rfl (.tmp 148) (.tmp 149) 34 rfl 5 i0 (.int .u8 0) 1 1 ey hi hz0 hz1 hz2 rfl aM (AH p) (N p) (C p) olds rfl HO4.o ho1 Sy.o ⟨mb,0,none⟩ 64 64 news rfl aX Gz.o Ir.o ag iM ag (fun v6 w6 JE jG=>?_);obtain⟨g6,c6,rfl,kB,hn6,MZ⟩:=eC.ahK (El:=uu) (q:=p) (w:=w6) (ksB _ _) JE ag ho1 HO3.o;have jy:=aa kB;have N5:=aa (Tr.o.ai HE.o (uN jG));have y0:=(N5.o.1.cell p).trans hcj;have m0:=N5.o.1.mark p;clear JE jG kB);go_roundw
       case rel=>
        have hn9:=N5.o.next HE.o jy.o (.inr ag) h7 Tg SC.o hgo hgw;exact⟨p+1,_,_,ag,by go_num,by rw[qK];exact Tg,hn9.1.lt,hn9.2.2.2.1.size,hn9⟩
       case measure=>simp[intOf];omega
     obtain rfl:p=q:=ag;have zH:=aa hinv;clear hinv;go_wp2_with fail;go_loopw [14] (fun s wr=>∃ s':Nat,s'≤p∧s= .int .i64 s'∧Inv 5 34 uu p AD N C w tp nk cs p 0 wr) (fun s _=>(p - intOf s).toNat)
     case atStart=>exact⟨0,ag,rfl,zH.o⟩
     case round=>
      clear zH;obtain⟨q,hs,rfl,hinv⟩:=hrel;by_cases h9:q<p
      ·obtain⟨pN,mW⟩:=hN q h9;have hs1:(q:Int)<(p:Int):=ag;obtain⟨g,c,hv,_⟩:=hinv.2.1 q h9;have z2:wr.cell? ⟨hd,q,none⟩=some (.slice (AH q) (N q) (C q)):=HH.o.cG hinv.2.2.2.1 tM Ck.o q h9;have HV:=aa hv;have HI9:=aa hinv;clear hinv hv;go_wp2_with fail;go_loopw [15] (fun i wi=>∃ i':Nat,i'≤N q∧i= .int .i64 i'∧Inv 5 34 uu p AD N C w tp nk cs p 0 wi) (fun i _=>(N q - intOf i).toNat)
       case atStart=>exact⟨0,ag,rfl,HI9.o⟩
       case round=>
        clear HI9 z2;obtain⟨i,hi9,rfl,hinv⟩:=hrel;have z1:wr.cell? ⟨nk,q,none⟩=some (.slice (some ⟨g,0,none⟩) (N q+64) c):=(hinv.1.cell q).trans HV.o;have z2:wr.cell? ⟨hd,q,none⟩=some (.slice (AH q) (N q) (C q)):=HH.o.cG hinv.2.2.2.1 tM Ck.o q h9;by_cases h10:i<N q
        ·obtain⟨gq,hgq,Xq⟩: ∃ g,At AD q g∧At AH q g:=by
          rcases HF.o q h9 with⟨_,h3,_⟩|⟨g,h3,h4,_⟩
          ·omega
          exact⟨g,h3,h4⟩
         obtain⟨_,z3,rfl⟩:=(hinv.row h9 HV.o).cell (show i<N q+0 from h10);obtain⟨_,z5,rfl⟩:=(hinv.2.2.1 q h9 gq hgq).cell h10;rw[show AH q=some ⟨gq,0,none⟩from Xq] at z2;have kC:(i:Int)<(N q:Int):=ag;have hi2:(i:Int)<(N q:Int)+64:=ag;have yZ:(0:Int)≤(i:Int):=ag;obtain⟨M,hM⟩:=ae (mkV q i);have hms: ∀ W:World,Calls af 250 #[.int .i64 q,.int .i64 i] W fun e w'=>e= .returned (.int .u8 M)∧Below W.heap.size W w':=fun W=>by rw[←hM];exact wj q i W
         have Zl:=aa hms;rw[hM] at z3 z5;have qC:(∀ w',Below wr.heap.size wr w'→((fun w'=>w'.cell? ⟨nk,q,none⟩=some (.slice (some ⟨g,0,none⟩) (N q+64) c)∧w'.cell? ⟨hd,q,none⟩=some (.slice (some ⟨gq,0,none⟩) (N q) (C q))∧w'.cell? ⟨g,i,none⟩=some (.int .u8 M)∧w'.cell? ⟨gq,i,none⟩=some (.int .u8 M)∧Below wr.heap.size wr w') w')):=fun w' hb=>⟨eU z1 hb,eU z2 hb,eU z3 hb,eU z5 hb,hb⟩
         have ag1:=aa hinv;clear hinv hms hM hgq Xq;go_wp2_with fail;refine sY (S:=(fun w'=>w'.cell? ⟨nk,q,none⟩=some (.slice (some ⟨g,0,none⟩) (N q+64) c)∧w'.cell? ⟨hd,q,none⟩=some (.slice (some ⟨gq,0,none⟩) (N q) (C q))∧w'.cell? ⟨g,i,none⟩=some (.int .u8 M)∧w'.cell? ⟨gq,i,none⟩=some (.int .u8 M)∧Below wr.heap.size wr w')) L9 fun hHeld=>?_
         refine nZ 0 1 2 3 4 5 6 7 ?_;refine ty 8 ?_;refine cD 9 fun K hK=>?_
         go_simp
         (go_at_call 250;refine(Zl.o _).mono ?_;rintro e w9 ⟨rfl,BJ⟩;have ai5:=ar hHeld.2.2.2.2 BJ)
         go_wp2_with fail;refine bW hK AJ fun oW=>?_
         clear hK K;refine nZ 10 11 12 13 14 15 16 17 ?_;refine kW 18 19 20 21 ?_;refine cD 22 fun K hK=>?_
         go_simp
         (go_at_call 250;refine(Zl.o _).mono ?_;rintro e w22 ⟨rfl,amu⟩;have anD:=ar oW.2.2.2.2 amu)
         go_wp2_with fail;refine bW hK AJ fun abb=>?_
         clear hK K;refine QN 23 24 25 ?_;refine bF ?_;go_wp2_with fail;go_roundw
         case rel=>exact⟨i+1,ag,by go_num,ag1.o.ai HE.o abb.2.2.2.2⟩
         case measure=>simp[intOf];omega
        obtain rfl:i=N q:=ag;exact ac7
      obtain rfl:q=p:=ag;have ag1:=aa hinv;clear hinv;go_wp2_with fail;go_ret;exact⟨rfl,ag1.o.2.2.2.1⟩
