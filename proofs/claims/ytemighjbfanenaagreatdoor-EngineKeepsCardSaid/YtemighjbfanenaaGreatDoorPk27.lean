import Derived.Test.YtemighjbfanenaaGreatDoorPk25
import Derived.Test.YtemighjbfanenaaGreatDoorPk26
import Derived.Test.YtemighjbfanenaaGreatDoorPk5
import Derived.Test.YtemighjbfanenaaGreatDoorPk4
set_option linter.all false
set_option maxRecDepth 100000
set_option maxHeartbeats 16000000
namespace Go.Proofs.YtemighjbfanenaaGreatDoor
open RowKit
open Go.Instr renaming index→j9
open Go.Value renaming oneCell'→eA
open Nat renaming le_of_eq→fX
open RowKit.Below renaming refl→aq
open Tryz renaming prog→af,underlying41→cq
theorem acV{p:Prop}(h:p:=by
 go_wp2_with fail;go_roundw
 case rel=>exact⟨0+1,ag,by go_num,Le.o,ZF.o,ar HBr.o jy.o⟩
 case measure=>simp[intOf]):p:=h
theorem acU{p:Prop}(h:p:=by
 go_wp2_with fail;go_roundw
 case rel=>exact⟨1+1,ag,by go_num,Le.o,ZF.o,ar HBr.o jy.o⟩
 case measure=>simp[intOf]):p:=h
theorem acT{p:Prop}(h:p:=by
 go_wp2_with fail;go_roundw
 case rel=>exact⟨2+1,ag,by go_num,Le.o,ZF.o,ar HBr.o jy.o⟩
 case measure=>simp[intOf]):p:=h
section
namespace Fl
def Kf(v:Value): Array Value:=#[.slice none 0 0,.slice none 0 0,.slice none 0 0,.slice none 0 0,v,.slice none 0 0,.slice none 0 0,.slice none 0 0,.slice none 0 0,.slice none 0 0,.slice none 0 0,.slice none 0 0,.slice none 0 0,.slice none 0 0,.slice none 0 0,.slice none 0 0,.slice none 0 0,.slice none 0 0,.slice none 0 0]
theorem YJ(gb n:Nat)(v:Value)(base:Nat)(xs:List Value)(ao:Option Addr)(N C:Nat)(w:World)(hA:aD w gb 197 (Kf v))(hown:w.ownsRow base 34 1 v n xs)(hb:gb<base)(hbw:base≤w.heap.size)(hn:n≤600000):
  Calls af 76 #[.pointer (some ⟨gb,0,none⟩),.slice ao N C] w fun e w'=>(∃ u,e= .returned u)∧∃ v',aD w' gb 197 (Kf v')∧w'.ownsRow base 34 1 v' (n+1) (xs++ [.slice ao N C])∧(∀ k,k<w.heap.size→k≠gb→k<base→w'.heap[k]? =w.heap[k]?)∧w'.os=w.os∧w'.tape=w.tape∧w'.output=w.output∧w.heap.size≤w'.heap.size:=by
 obtain⟨i1,kC,gC,gB,oa⟩:=info_parts gz;obtain⟨A,c,rfl⟩:=cg hown;have x7:w.cell? ⟨gb,4,none⟩=some (.slice A n c):=hA.cell 4;have HA:=aa hA;have HO:=aa hown;have oT:=hA.lt;clear hA hown;have hnews: ∀ i u,[Value.slice ao N C][i]? =some u→(w.alloc (.cells #[.slice ao N C] 34)).cell? ((⟨w.heap.size,0,none⟩:Addr).add i)=some u:=fun i u hu=>by
  rw[gU,(aD.fresh w 34 #[.slice ao N C]).cell i];simpa using hu
 have Lc:=aa hnews;clear hnews;go_enter Tryz.func76,Tryz.ntmps76;go_wp2_with (at_builtin;refine wpList_append_own _ rfl (.tmp 8) (.tmp 10) 33 rfl base 34 i1 (.slice none 0 0) 1 24 Tryz.underlying33 kC gC gB oa rfl aM (.slice A n c) _ _ rfl (D7 HO.o _) ⟨w.heap.size,0,none⟩ 1 1 [.slice ao N C] rfl rfl Lc.o (by intro u hu;rw[List.mem_singleton.1 hu];rfl) iM ag fH ?_;intro v1 w1 ui hg hnil;obtain⟨g1,c1,rfl⟩:=vK ui;have bh:=(HA.o.alloc _).app (D7 HO.o _) hg hb;have y7:w1.cell? ⟨gb,4,none⟩=some (.slice A n c):=bh.cell 4;have m7:=bh.mark 4;have dH:=aa bh;have HO1:=aa ui;have HG:=aa hg;clear ui hg hnil bh);have eT:=HG.o.size;refine bodyPost_end (results_none Tryz.results76 _ _ _) rfl ⟨⟨_,rfl⟩,_,dH.o.put 4 (.slice (some ⟨g1,0,none⟩) (n+1) c1),aav HO1.o hb _,fun k h1 h2 h3=>?_,HG.o.os,HG.o.tape,HG.o.output,by simp at eT ⊢;omega⟩;have e1:=Below.heap_setCell w1 ⟨gb,4,none⟩ (.slice (some ⟨g1,0,none⟩) (n+1) c1) k h2;have e2:=HG.o.block k fH (fun e=>by have:=dP HO.o e.symm;omega);exact(e1.trans e2).trans (heap_alloc_old w _ h1)
theorem KR(gb:Nat)(v:Value)(T:Nat→Prop)(w:World)(hA:aD w gb 197 (Kf v))(hgb: ¬T gb)(hF: ∀ W,Below w.heap.size w W→Calls af 170 #[v] W fun e w'=>e= .returned (.bool true)∧aG T W w'):
  Calls af 77 #[.pointer (some ⟨gb,0,none⟩)] w fun e w'=>e= .returned (.bool true)∧aG T w w':=by
 have HL:=aa hF;have GH:=aa hgb;clear hF hgb;have hb0:=aq w.heap.size w;have RV:=hA;have x0:w.cell? ⟨gb,0,none⟩=some (.slice none 0 0):=hA.cell 0;clear hA;go_enter Tryz.func77,Tryz.ntmps77;go_wp2_with fail;refine(DI _).mono ?_;rintro e w1 ⟨rfl,hb⟩;have bh:=RV.keep hb;have hb1:=ar hb0 hb;clear hb0 RV x0 hb;have x1:w1.cell? ⟨gb,1,none⟩=some (.slice none 0 0):=bh.cell 1;go_wp2_with fail;refine(GP _).mono ?_;rintro e w2 ⟨rfl,hb⟩;have gK:=bh.keep hb;have hb2:=ar hb1 hb;clear hb1 bh x1 hb;have x2:w2.cell? ⟨gb,2,none⟩=some (.slice none 0 0):=gK.cell 2;go_wp2_with fail;refine(DF _).mono ?_;rintro e w3 ⟨rfl,hb⟩;have dB:=gK.keep hb;have hb3:=ar hb2 hb;clear hb2 gK x2 hb;have x3:w3.cell? ⟨gb,3,none⟩=some (.slice none 0 0):=dB.cell 3;go_wp2_with fail;refine(DB _).mono ?_;rintro e w4 ⟨rfl,hb⟩;have mh:=dB.keep hb;have hb4:=ar hb3 hb;clear hb3 dB x3 hb;have x4:w4.cell? ⟨gb,4,none⟩=some (v):=mh.cell 4;go_wp2_with fail;refine(HL.o _ hb4).mono ?_;rintro e w5 ⟨rfl,ht⟩;have fY:=ht.arr mh GH.o;have Bu:aG T w w5:=((aG.refl _ w).ai hb4).trans ht;clear ht hb4 mh x4;have x5:w5.cell? ⟨gb,5,none⟩=some (.slice none 0 0):=fY.cell 5;go_wp2_with fail;refine(DD _).mono ?_;rintro e w6 ⟨rfl,hb⟩;have vt:=fY.keep hb;have ht6:=Bu.ai hb;clear Bu fY x5 hb;have x6:w6.cell? ⟨gb,6,none⟩=some (.slice none 0 0):=vt.cell 6;go_wp2_with fail;refine(DJ _).mono ?_;rintro e w7 ⟨rfl,hb⟩;have Ik:=vt.keep hb;have ht7:=ht6.ai hb;clear ht6 vt x6 hb;have x7:w7.cell? ⟨gb,7,none⟩=some (.slice none 0 0):=Ik.cell 7;go_wp2_with fail;refine(DC _).mono ?_;rintro e w8 ⟨rfl,hb⟩;have Nh:=Ik.keep hb;have Py:=ht7.ai hb;clear ht7 Ik x7 hb;have x8:w8.cell? ⟨gb,8,none⟩=some (.slice none 0 0):=Nh.cell 8;go_wp2_with fail;refine(Cu _).mono ?_;rintro e w9 ⟨rfl,hb⟩;have dE:=Nh.keep hb;have WV:=Py.ai hb;clear Py Nh x8 hb;have x9:w9.cell? ⟨gb,9,none⟩=some (.slice none 0 0):=dE.cell 9;go_wp2_with fail;refine(Cv _).mono ?_;rintro e tX ⟨rfl,hb⟩;have agl:=dE.keep hb;have aie:=WV.ai hb;clear WV dE x9 hb;have x10:tX.cell? ⟨gb,10,none⟩=some (.slice none 0 0):=agl.cell 10;go_wp2_with fail;refine(zj _).mono ?_;rintro e yS ⟨rfl,hb⟩;have agk:=agl.keep hb;have aid:=aie.ai hb;clear aie agl x10 hb;have x11:yS.cell? ⟨gb,11,none⟩=some (.slice none 0 0):=agk.cell 11;go_wp2_with fail;refine(yf _).mono ?_;rintro e QK ⟨rfl,hb⟩;have agj:=agk.keep hb;have aic:=aid.ai hb;clear aid agk x11 hb;have x12:QK.cell? ⟨gb,12,none⟩=some (.slice none 0 0):=agj.cell 12;go_wp2_with fail;refine(yc _).mono ?_;rintro e TM ⟨rfl,hb⟩;have agi:=agj.keep hb;have aib:=aic.ai hb;clear aic agj x12 hb;have x13:TM.cell? ⟨gb,13,none⟩=some (.slice none 0 0):=agi.cell 13;go_wp2_with fail;refine(zi _).mono ?_;rintro e w14 ⟨rfl,hb⟩;have agh:=agi.keep hb;have aia:=aib.ai hb;clear aib agi x13 hb;have x14:w14.cell? ⟨gb,14,none⟩=some (.slice none 0 0):=agh.cell 14;go_wp2_with fail;refine(DK _).mono ?_;rintro e w15 ⟨rfl,hb⟩;have agf:=agh.keep hb;have ah9:=aia.ai hb;clear aia agh x14 hb;have x15:w15.cell? ⟨gb,15,none⟩=some (.slice none 0 0):=agf.cell 15;go_wp2_with fail;refine(Dz _).mono ?_;rintro e w16 ⟨rfl,hb⟩;have age:=agf.keep hb;have ah8:=ah9.ai hb;clear ah9 agf x15 hb;have x16:w16.cell? ⟨gb,16,none⟩=some (.slice none 0 0):=age.cell 16;go_wp2_with fail;refine(DG _).mono ?_;rintro e w17 ⟨rfl,hb⟩;have agd:=age.keep hb;have ah7:=ah8.ai hb;clear ah8 age x16 hb;have x17:w17.cell? ⟨gb,17,none⟩=some (.slice none 0 0):=agd.cell 17;go_wp2_with fail;refine(DA _).mono ?_;rintro e w18 ⟨rfl,hb⟩;have agc:=agd.keep hb;have ah6:=ah7.ai hb;clear ah7 agd x17 hb;have x18:w18.cell? ⟨gb,18,none⟩=some (.slice none 0 0):=agc.cell 18;go_wp2_with fail;refine(ye _).mono ?_;rintro e TK ⟨rfl,hb⟩;have aoE:=agc.keep hb;have alC:=ah6.ai hb;clear ah6 agc x18 hb;go_wp2_with fail;go_ret;exact⟨rfl,alC⟩
def M5(AH:Nat→Option Addr)(N C:Nat→Nat)(j:Nat): List Value:=(List.range j).map fun q=>.slice (AH q) (N q) (C q)
theorem RR(AH:Nat→Option Addr)(N C:Nat→Nat)(j:Nat): M5 AH N C (j+1)=M5 AH N C j++ [.slice (AH j) (N j) (C j)]:=by simp[M5,List.range_succ]
theorem aa0{AH:Nat→Option Addr}{N C:Nat→Nat}{j q:Nat}(h:q<j): (M5 AH N C j)[q]? =some (.slice (AH q) (N q) (C q)):=by simp[M5,List.getElem?_map,List.getElem?_range h]
theorem Oh(hd m hc:Nat)(AD AH:Nat→Option Addr)(N C:Nat→Nat)(w:World)(RU:Ce 5 uu w hd m AD AH N C)(hm0:0<m):
  Calls af 18 #[.slice (some ⟨hd,0,none⟩) m hc] w fun e w'=>e= .returned (.bool true)∧aG (Pv AD m) w w':=by
 have hm:=RU.X1;have tM:=RU.lt;have HL:=aa RU;clear RU;go_enter Tryz.func18,Tryz.ntmps18;go_wp2_with fail;obtain⟨gb,hgb⟩: ∃ gb,gb=w.heap.size:=⟨_,rfl⟩;have GH:=aa hgb;have hAg:=aD.new (w:=w) (t:=197) (cs:=Kf (.slice none 0 0)) hgb;rw[←hgb];clear hgb;go_loopw [4] (fun i wr=>∃ (j:Nat) (v:Value),j≤m∧i= .int .i64 j∧aD wr gb 197 (Kf v)∧wr.ownsRow (gb+1) 34 1 v j (M5 AH N C j)∧Below w.heap.size w wr) (fun i _=>(m - intOf i).toNat)
 case atStart=>exact⟨0,.slice none 0 0,ag,rfl,hAg,qd _ _ _ _,aw (aq _ _) _⟩
 case round=>
  obtain⟨j,v,hj,rfl,hA,hown,hb⟩:=hrel;by_cases h:j<m
  ·have x0:wr.cell? ⟨hd,j,none⟩=some (.slice (AH j) (N j) (C j)):=(hb.cell (p:=⟨hd,j,none⟩) tM).trans (HL.o.hdr j h);have hj1:(j:Int)<(m:Int):=ag;have oT:=hA.lt;have HA:=aa hA;have HO:=aa hown;have jl:=aa hb;clear hA hown hb;go_wp2_with fail;refine(YJ gb j v (gb+1) _ (AH j) (N j) (C j) _ HA.o HO.o ag ag ag).mono ?_;rintro e w4 ⟨⟨u,rfl⟩,v',hA',hown',hk,ho,htp,hop,hsz⟩;have mh:=aa hA';have hO4:=aa hown';have hb4:Below w.heap.size w w4:=⟨ho.trans jl.o.os,htp.trans jl.o.tape,hop.trans jl.o.output,Nat.le_trans jl.o.size hsz,fun k vV=>(hk k (by have:=jl.o.size;omega) (by have:=GH.o;omega) (by have:=GH.o;omega)).trans (jl.o.block k vV)⟩;clear hA' hown' hk ho htp hop hsz;go_wp2_with fail;go_roundw
   case rel=>exact⟨j+1,v',ag,by go_num,mh.o,by rw[RR];exact hO4.o,hb4⟩
   case measure=>simp[intOf];omega
  obtain rfl:j=m:=ag;obtain⟨k,rfl⟩: ∃ k,j=k+1:=⟨j - 1,ag⟩;obtain⟨g2,c2,rfl⟩:=vK hown;have hl2:=dP (g:=g2) hown rfl;have yY: ∀ x,Pv AD (k+1) x→x<w.heap.size:=fun x ⟨q,hq,hx⟩=>by
   rcases HL.o.form q hq with⟨h1,_⟩|⟨g,h1,_,h2⟩
   ·unfold At at hx;rw[h1] at hx;cases hx
   rw[hx.eq h1];exact h2.lt
  have hL0:=HL.o.keep Nl hb;have hL2:Ce 5 uu wr g2 (k+1) AD AH N C:=⟨fun q hq=>by rw[hown.cellAt q ag];exact aa0 hq,hL0.form,hL0.ne,fun hx=>by have h1:=yY g2 hx;have h2:=GH.o;omega,hl2.1,hm,hL0.small⟩;have tR:=aa (show ¬Pv AD (k+1) gb from fun hx=>by have h1:=yY gb hx;have h2:=GH.o;omega);have Lh:=aa (show ∀ W,Below wr.heap.size wr W→Calls af 170 #[.slice (some ⟨g2,0,none⟩) (k+1) c2] W fun e w'=>e= .returned (.bool true)∧aG (Pv AD (k+1)) W w' from fun W hW=>SR g2 (k+1) c2 AD AH N C W (hL2.keep Nl hW));have HA:=aa hA;have jl:=aa hb;clear yY hL0 hL2 hA hb hown;go_wp2_with fail;refine(KR gb _ (Pv AD (k+1)) _ HA.o tR.o Lh.o).mono ?_;rintro e w5 ⟨rfl,ht⟩;have Bu:=((aG.refl (Pv AD (k+1)) w).ai jl.o).trans ht;go_wp2_with fail;go_ret;exact⟨rfl,Bu⟩
theorem CA(A:Option Addr)(hc:Nat)(w:World):
  Calls af 18 #[.slice A 0 hc] w fun e w'=>e= .returned (.bool true)∧Below w.heap.size w w':=by
 go_enter Tryz.func18,Tryz.ntmps18;go_wp2_with fail;obtain⟨gb,hgb⟩: ∃ gb,gb=w.heap.size:=⟨_,rfl⟩;have hAg:=aD.new (w:=w) (t:=197) (cs:=Kf (.slice none 0 0)) hgb;rw[←hgb];clear hgb;have hbg:=aw (aq _ w) (.cells (Kf (.slice none 0 0)) 197);go_loopw [4] (fun i wr=>i= .int .i64 0∧aD wr gb 197 (Kf (.slice none 0 0))∧Below w.heap.size w wr) (fun _ _=>0)
 case atStart=>exact⟨rfl,hAg,hbg⟩
 case round=>
  obtain⟨rfl,hA,hb⟩:=hrel;have HA:=aa hA;have jl:=aa hb;clear hA hb hAg hbg;go_wp2_with fail;refine(KR gb _ (fun _=>False) _ HA.o id (fun W _=>(DL W).mono fun e w' h=>⟨h.1,(aG.refl _ W).ai h.2⟩)).mono ?_;rintro e w5 ⟨rfl,ht⟩;have Bu:=aG.fresh ht jl.o (fun j hj=>hj.elim);go_wp2_with fail;go_ret;exact⟨rfl,Bu⟩
end Fl
end
section
namespace En
def Nts(w:World)(A:Option Addr)(l:List Nat): Prop:=l≠ []→∃ g off,A=some ⟨g,off,none⟩∧g<w.heap.size∧∀ i (h:i<l.length),w.cell? ⟨g,off+i,none⟩=some (.int .i64 (l[i]:Int))
theorem Nts.keep{w w':World}{A:Option Addr}{l:List Nat}(h:Nts w A l)(hb:Below w.heap.size w w'): Nts w' A l:=fun hne=>by
 obtain⟨g,off,h1,h2,h3⟩:=h hne;exact⟨g,off,h1,Nat.lt_of_lt_of_le h2 hb.size,fun i hi=>(hb.cell (p:=⟨g,off+i,none⟩) h2).trans (h3 i hi)⟩
theorem Sj(A:Option Addr)(c x:Nat)(l:List Nat)(w:World)(h:Nts w A l)(hx:x∈l)(hl:l.length≤1000): Calls af 235 #[.slice A l.length c,.int .i64 (x:Int)] w fun e w'=>(∃ i:Nat,e= .returned (.int .i64 i))∧w'=w:=by
 obtain⟨g,off,rfl,_,hc⟩:=h (fun h0=>by rw[h0] at hx;cases hx);have HC:=aa hc;have HX:=aa hx;clear h hc hx;go_enter Tryz.func235,Tryz.ntmps235;go_wp2_with fail;go_loopw [8] (fun i wr=>∃ j:Nat,j≤l.length∧i= .int .i64 j∧(∀ q,q<j→l.getD q 0≠x)∧wr=w) (fun i _=>(l.length - intOf i).toNat)
 case atStart=>exact⟨0,Nat.zero_le _,rfl,fun q hq=>ag,rfl⟩
 case round=>
  obtain⟨j,hj,rfl,hn,rfl⟩:=hrel;by_cases h2:j<l.length
  ·have h2':(j:Int)<l.length:=by omega
   have c1:wr.cell? ⟨g,off+j,none⟩=some (.int .i64 (l[j]:Int)):=HC.o j h2;obtain⟨y,hy⟩:=ae (l[j]);rw[hy] at c1;have HN:=aa hn;have HY:=aa (show l.getD j 0=y by rw[←hy];simp[h2]);clear hn hy;by_cases S6:x=y
   ·have hb:((x:Int)==(y:Int))=true:=by rw[S6];simp
    clear S6;go_wp2_with fail;go_ret;exact⟨⟨j,rfl⟩,rfl⟩
   have hb:((x:Int)==(y:Int))=false:=by rw[beq_eq_false_iff_ne];omega
   have HXY:=aa S6;clear S6;go_wp2_with fail;go_roundw
   case rel=>
    refine⟨j+1,ag,by go_num,fun q hq=>?_,xg⟩;rcases Nat.lt_or_ge q j with h|h
    ·exact HN.o q h
    have h5:q=j:=ag;rw[h5,HY.o];exact fun e=>HXY.o e.symm
   case measure=>simp[intOf];omega
  exfalso;obtain⟨q,hq,he⟩:=List.getElem_of_mem HX.o;exact hn q ag (by simp[hq,he])
theorem qE(A:Option Addr)(c x:Nat)(l:List Nat)(w:World)(h:Nts w A l)(hx:x∈l)(hl:l.length≤1000): Calls af 132 #[.slice A l.length c,.int .i64 (x:Int)] w fun e w'=>e= .returned (.bool true)∧w'=w:=by
 have HI:=aa (Sj A c x l w h hx hl);clear h hx;go_enter Tryz.func132,Tryz.ntmps132;go_wp2_with fail;refine HI.o.mono ?_;rintro e wq ⟨⟨i,rfl⟩,yG⟩;rw[yG];clear yG wq;have h0:decide ((0:Int)≤(i:Int))=true:=zD;go_wp2_with fail;go_ret;exact⟨rfl,rfl⟩
theorem aab(q:Rq)(w:World): Calls af 137 #[.agg (dc q)] w fun e w'=>e= .returned (.bool (q.id==0))∧Below w.heap.size w w':=by
 obtain⟨xq,jw⟩:=ae w.heap.size;obtain⟨w1,aX⟩:=ae (w.alloc (.cells (dc q) 41));have hA:=aH aX jw;have c2:w1.cell? ⟨xq,2,none⟩=some (.int .u32 q.id):=hA.cell 2;have HB:=aa (aJ aX);clear hA;go_enter Tryz.func137,Tryz.ntmps137;go_wp2_with fail;go_ret;exact⟨rfl,HB.o⟩
theorem QI(q:Rq)(w:World): Calls af 142 #[.agg (dc q)] w fun e w'=>e= .returned (.bool (q.av==0))∧Below w.heap.size w w':=by
 obtain⟨xq,jw⟩:=ae w.heap.size;obtain⟨w1,aX⟩:=ae (w.alloc (.cells (dc q) 41));have hA:=aH aX jw;have c2:w1.cell? ⟨xq,3,none⟩=some (.int .i64 q.av):=hA.cell 3;have HB:=aa (aJ aX);clear hA;go_enter Tryz.func142,Tryz.ntmps142;go_wp2_with fail;go_ret;exact⟨rfl,HB.o⟩
theorem TA(q:Rq)(w:World): Calls af 147 #[.agg (dc q)] w fun e w'=>e= .returned (.bool (q.bS==0))∧Below w.heap.size w w':=by
 obtain⟨xq,jw⟩:=ae w.heap.size;obtain⟨w1,aX⟩:=ae (w.alloc (.cells (dc q) 41));have hA:=aH aX jw;have c2:w1.cell? ⟨xq,4,none⟩=some (.int .i64 q.bS):=hA.cell 4;have HB:=aa (aJ aX);clear hA;go_enter Tryz.func147,Tryz.ntmps147;go_wp2_with fail;go_ret;exact⟨rfl,HB.o⟩
structure za(q:Rq): Prop where
 ax:jz q.ax=true
 av:0≤q.av∧q.av≤65535
 bS:0≤q.bS
 idf:q.id=0∨0∈cw q.ax
 I2:q.av=0∨1∈cw q.ax
 TV:q.bS=0∨2∈cw q.ax
theorem uQ: (af.info? 160).map (·.size)=some 3:=aW
theorem afu(W:World): (j9 161 (.agg gv) (.int .i64 0)).run af W= .ok (.agg #[.func (.func 134) #[] #[],.func (.func 135) #[] #[],.func (.func 137) #[] #[]]) W:=aW
theorem aft(W:World): (j9 161 (.agg gv) (.int .i64 1)).run af W= .ok (.agg #[.func (.func 138) #[] #[],.func (.func 140) #[] #[],.func (.func 142) #[] #[]]) W:=aW
theorem afs(W:World): (j9 161 (.agg gv) (.int .i64 2)).run af W= .ok (.agg #[.func (.func 143) #[] #[],.func (.func 145) #[] #[],.func (.func 147) #[] #[]]) W:=aW
theorem ki(q:Rq)(w:World)(h:za q): Calls af 57 #[.agg (dc q)] w fun e w'=>e= .returned (.int .i64 0)∧Below w.heap.size w w':=by
 obtain⟨xq,jw⟩:=ae w.heap.size;obtain⟨w1,aX⟩:=ae (w.alloc (.cells (dc q) 41));have dH:=aa (aH aX jw);have bu:=aa (aJ aX);have c0:w1.cell? ⟨xq,0,none⟩=some (.int .i64 q.ax):=dH.o.cell 0;have HQ:=aa h;clear h;go_enter Tryz.func57,Tryz.ntmps57;go_wp2_with fail;refine(FQ q.ax w1).mono ?_;rintro e w2 ⟨A,rfl,hG,hb2⟩;have Ic:=HQ.o.ax;have Tp:=aa (show Nts w2 A (cw q.ax)from fun hne=>by
  obtain⟨g,h1,_,h3⟩:=hG hne;refine⟨g,0,h1,h3.lt,fun i hi=>?_⟩;rw[Nat.zero_add,h3.cell i];simp[ks,hi])
 have jI:=dH.jS hb2;have cx:=bu.eo hb2;clear hG hb2 c0;have c3:w2.cell? ⟨xq,3,none⟩=some (.int .i64 q.av):=jI.o.cell 3;have c4:w2.cell? ⟨xq,4,none⟩=some (.int .i64 q.bS):=jI.o.cell 4;have s1:decide (q.av<0)=false:=decide_eq_false (by have:=HQ.o.av;omega);have s2:decide ((65535:Int)<q.av)=false:=decide_eq_false (by have:=HQ.o.av;omega);have s3:decide (q.bS<0)=false:=decide_eq_false (by have:=HQ.o.bS;omega);go_wp2_with fail;refine(xS w2).mono ?_;rintro e w3 ⟨rfl,hb3⟩;have HN3:=aa (Tp.o.keep hb3);have pq:=jI.jS hb3;have ek:=cx.eo hb3;have HLN:=aa (BK q.ax);clear hb3 c3 c4 s1 s2 s3 Tp jI;go_wp2_with fail;go_loopw [31] (fun i wr=>∃ j:Nat,j≤3∧i= .int .i64 j∧Nts wr A (cw q.ax)∧aD wr xq 41 (dc q)∧Below w.heap.size w wr) (fun i _=>(3 - intOf i).toNat)
 case atStart=>exact⟨0,ag,rfl,HN3.o,pq.o,ek.o⟩
 case round=>
  obtain⟨j,hj,rfl,hn,ha,hb⟩:=hrel;have HNr:=aa hn;have HAr:=aa ha;have HBr:=aa hb;clear hn ha hb;obtain⟨xb,Dg⟩:=ae wr.heap.size;obtain⟨w4,hw4⟩:=ae (wr.alloc (.cells #[.nilFunc,.nilFunc,.nilFunc] 160));have po:=aa (aH hw4 Dg);have gI:=aa (aJ hw4);have rE:=aa Dg;rcases(show j=0∨j=1∨j=2∨j=3 from ag)with rfl|rfl|rfl|rfl
  ·have ix:=afu wr;go_wp2_with (first|(refine aj rfl 160 _ _ rfl xb 160 _ #[.func (.func 134) #[] #[],.func (.func 135) #[] #[],.func (.func 137) #[] #[]] po.o rfl rfl rfl uQ ie ?_;intro w5 fY cJ hs5;have eQ:=aa (show Below wr.heap.size wr w5 from br gI.o cJ (fX rE.o));have c5:w5.cell? ⟨xb,2,none⟩=some (.func (.func 137) #[] #[]):=fY.cell 2;have HAq:=aa (HAr.o.keep eQ.o);clear fY cJ hs5)|(refine aB rfl 41 (.tmp 1) rfl xq 41 _ HAq.o rfl _ cq rfl aF ?_));refine(aab q w5).mono ?_;rintro e w6 ⟨rfl,kB⟩;have jy:=eQ.eo kB;have ZF:=aa (HAr.o.keep jy.o);have Le:=aa (HNr.o.keep jy.o);clear kB c5 ix;by_cases hz:q.id=0
   ·have hz1:(q.id==0)=true:=by rw[hz];rfl
    clear hz;exact acV
   have hz1:(q.id==0)=false:=beq_eq_false_iff_ne.2 hz;have hm:0∈cw q.ax:=HQ.o.idf.resolve_left hz;have HCY:=aa (qE A (cw q.ax).length 0 (cw q.ax) w6 Le.o hm (by have:=HLN.o;omega));clear hz hm;go_wp2_with fail;refine ah HCY.o ?_;exact acV
  ·have ix:=aft wr;go_wp2_with (first|(refine aj rfl 160 _ _ rfl xb 160 _ #[.func (.func 138) #[] #[],.func (.func 140) #[] #[],.func (.func 142) #[] #[]] po.o rfl rfl rfl uQ ie ?_;intro w5 fY cJ hs5;have eQ:=aa (show Below wr.heap.size wr w5 from br gI.o cJ (fX rE.o));have c5:w5.cell? ⟨xb,2,none⟩=some (.func (.func 142) #[] #[]):=fY.cell 2;have HAq:=aa (HAr.o.keep eQ.o);clear fY cJ hs5)|(refine aB rfl 41 (.tmp 1) rfl xq 41 _ HAq.o rfl _ cq rfl aF ?_));refine(QI q w5).mono ?_;rintro e w6 ⟨rfl,kB⟩;have jy:=eQ.eo kB;have ZF:=aa (HAr.o.keep jy.o);have Le:=aa (HNr.o.keep jy.o);clear kB c5 ix;by_cases hz:q.av=0
   ·have hz1:(q.av==0)=true:=by rw[hz];rfl
    clear hz;exact acU
   have hz1:(q.av==0)=false:=beq_eq_false_iff_ne.2 hz;have hm:1∈cw q.ax:=HQ.o.I2.resolve_left hz;have HCY:=aa (qE A (cw q.ax).length 1 (cw q.ax) w6 Le.o hm (by have:=HLN.o;omega));clear hz hm;go_wp2_with fail;refine ah HCY.o ?_;exact acU
  ·have ix:=afs wr;go_wp2_with (first|(refine aj rfl 160 _ _ rfl xb 160 _ #[.func (.func 143) #[] #[],.func (.func 145) #[] #[],.func (.func 147) #[] #[]] po.o rfl rfl rfl uQ ie ?_;intro w5 fY cJ hs5;have eQ:=aa (show Below wr.heap.size wr w5 from br gI.o cJ (fX rE.o));have c5:w5.cell? ⟨xb,2,none⟩=some (.func (.func 147) #[] #[]):=fY.cell 2;have HAq:=aa (HAr.o.keep eQ.o);clear fY cJ hs5)|(refine aB rfl 41 (.tmp 1) rfl xq 41 _ HAq.o rfl _ cq rfl aF ?_));refine(TA q w5).mono ?_;rintro e w6 ⟨rfl,kB⟩;have jy:=eQ.eo kB;have ZF:=aa (HAr.o.keep jy.o);have Le:=aa (HNr.o.keep jy.o);clear kB c5 ix;by_cases hz:q.bS=0
   ·have hz1:(q.bS==0)=true:=by rw[hz];rfl
    clear hz;exact acT
   have hz1:(q.bS==0)=false:=beq_eq_false_iff_ne.2 hz;have hm:2∈cw q.ax:=HQ.o.TV.resolve_left hz;have HCY:=aa (qE A (cw q.ax).length 2 (cw q.ax) w6 Le.o hm (by have:=HLN.o;omega));clear hz hm;go_wp2_with fail;refine ah HCY.o ?_;exact acT
  go_wp2_with fail;go_ret;exact⟨rfl,HBr.o⟩
