import Derived.Test.YtemighjbfanenaaGreatDoorPk3
import Derived.StillTailTactics
set_option linter.all false
set_option maxRecDepth 100000
set_option maxHeartbeats 16000000
namespace Go.Proofs.YtemighjbfanenaaGreatDoor
open RowKit
open Oc (Bs fZ fF aP le rh eP cI)
open Cr (cj ic)
open Bool renaming or_eq_false_iff→yC
open Go.IntKind renaming wrap_u64→mJ,u64→cR
open Go.Proofs.Tryz renaming underlying34→fL,prog→af
open List renaming getElem?_eq_some_iff→oa,length_append→dh,length_pos_iff→vo
open Nat renaming le_refl→aQ
open RowKit.Below renaming refl→au
theorem OE{p:Prop}(h:p:=by
 go_wp2_with fail;refine ag (cV p d.size HS.o w x0) ?_;go_wp2_with fail;go_ret;exact⟨rfl,rfl⟩):p:=h
theorem fH{p:Prop}(h:p:=by simp[Oc.bF]):p:=h
theorem ib{p:Prop}(h:p:=by have:=HP.o;omega):p:=h
theorem DG{p:Prop}(h:p:=by simp only[Dk.bad,yC,decide_eq_false_iff_not] at hb;omega):p:=h
theorem AF{p:Prop}(h:p:=by have:=iY.o;have:=Pt.o.size;omega):p:=h
theorem AE{p:Prop}(h:p:=by have:=iY.o;have:=Ps.o.size;omega):p:=h
theorem qW{p:Prop}(h:p:=by rw[mJ];omega):p:=h
theorem rR{p:Prop}(h:p:=by have:=iY.o;omega):p:=h
theorem AY{p:Prop}(h:p:=by rw[hz2];omega):p:=h
section
namespace Oc
structure eG(w:World)(p:Nat)(bs:List UInt8): Prop where
 ex: ∃ A c,aG w p 150 #[.slice A bs.length c]∧Bs w A bs∧(A=none→bs= []∧c=0)∧bs.length≤c∧rh A∧(∀ g off,A=some ⟨g,off,none⟩→g≠p)
theorem eG.ai{w w':World}{p:Nat}{bs:List UInt8}(h:eG w p bs)(hb:Below w.heap.size w w'): eG w' p bs:=by
 obtain⟨A,c,h1,h2,h3⟩:=h.ex;exact⟨A,c,h1.ai hb,h2.ai hb,h3⟩
theorem eG.fresh(w:World): eG (w.alloc (.cells #[.slice none 0 0] 150)) w.heap.size []:=⟨none,0,aG.fresh _ _ _,Bs.nil _ _,fun _=>⟨rfl,rfl⟩,aQ _,eP,fun g off e=>qf⟩
def il(p:Nat)(bs:List UInt8)(w:World)(e:Ending)(w':World): Prop:=(∃ u,e= .returned u)∧eG w' p bs∧aI (· =p) w w'
theorem Xl(p:Nat)(bs cs:List UInt8)(ad:Addr)(d:Nat)(w:World)(h:eG w p bs)(hc:Bs w (some ad) cs)(hne:cs≠ [])(hl:bs.length+cs.length≤70000000):
  Calls af 236 #[.pointer (some ⟨p,0,none⟩),.slice (some ad) cs.length d] w (il p (bs++cs) w):=by
 obtain⟨A,c,h1,h2,h3,h4,h5,h6⟩:=h.ex;have x0:w.cell? ⟨p,0,none⟩=some (.slice A bs.length c):=h1.cell 0;have m0:=h1.mark 0;have hpl:=h1.lt;have Dq:0<cs.length:=vo.2 hne;have sx:(bs.length:Int)≤(c:Int):=aj;have H1:=aa h1;have H2:=aa h2;have H3:=aa h3;have H5:=aa h5;have H6:=aa h6;have HC:=aa hc;clear h h1 h2 h3 h5 h6 hc;go_enter Tryz.func236,Tryz.ntmps236;go_wp2_with fail;refine dI br ?_;refine bj.any (S:=(fun w'=>w'.cell? ⟨p,0,none⟩=some (.slice A bs.length c))) (t:=20) _ _ _ _ ?_;have hHeld:=(show(fun w'=>w'.cell? ⟨p,0,none⟩=some (.slice A bs.length c)) w.drew from x0);refine tt 0 ?_;refine tt 1 ?_;refine tt 2 ?_;refine tt 3 ?_;refine tt 4 ?_;refine tt 5 ?_;refine tt 6 ?_;refine tt 7 ?_;refine tt 8 ?_;refine tt 9 ?_;refine tt 10 ?_;refine tt 11 ?_;refine tt 12 ?_;refine tt 13 ?_;refine tt 14 ?_;refine tt 15 ?_;refine tt 16 ?_;refine bj.step (i:=17) br br rfl (fun K hK=>?_);rw[if_pos im];refine NQ _ (.tmp 21) (.tmp 22) rfl bs cs A bs.length bs.length rfl rfl (by rintro rfl;exact⟨by rw[(H3.o rfl).1];rfl,by rw[(H3.o rfl).1];rfl⟩) H2.o ad cs.length d rfl rfl HC.o aj aj ?_;intro g5 c5 w5 ft dX Y0 F5;have x5:w5.cell? ⟨p,0,none⟩=some (.slice A bs.length c):=(Y0.cell (p:=⟨p,0,none⟩) hpl).trans x0;have m5:=(Y0.frozen (p:=⟨p,0,none⟩) hpl).trans m0;have oP:=aa ft;have eA:=aa dX;have M4:=aa Y0;have Nj:=aa F5;clear ft dX Y0 F5;refine hK.out _ _ (by exact x5) (fun Gb=>?_);clear hK K;try simp only[aY]
 refine tp 18 ?_;refine tt 19 ?_;refine bj.last br ?_;refine kB 20 br br ?_;simp only[List.drop_succ_cons,List.drop_zero];go_wp2_with fail;have hb:Below w.heap.size w w5:=av (az (au _ _)) M4.o;have CU:aG w5 p 150 #[.slice A bs.length c]:=H1.o.ai hb;have ft:=oP.o;have F5:=Nj.o;refine bodyPost_end (results_none Tryz.results236 _ _ _) rfl ⟨⟨_,rfl⟩,⟨some ⟨g5,0,none⟩,c5,by simpa using CU.put 0 (.slice (some ⟨g5,0,none⟩) (bs.length+cs.length) c5),?_,(fun e=>qf),by simpa using F5,cI _ _,fun g off e=>?_⟩,?_⟩
 ·refine eA.o.bs.cO (aI.at w5 p 0 _) fun g off e _ e2=>?_
  injection e with e;injection e with e
  have:w.heap.size≤g5:=ft;omega
 ·injection e with e;injection e with e
  have:w.heap.size≤g5:=ft;omega
 ·exact(aI.aU (S:=(· =p)) (show Below w.heap.size w w5 from hb)).Cb 0 _
theorem vT(p k n:Nat)(bs:List UInt8)(w:World)(h:eG w p bs)(hk:1≤k∧k≤8)(hl:bs.length≤67108900)(hn:n<18446744073709551616):
  Calls af 133 #[.pointer (some ⟨p,0,none⟩),.int .u64 n,.int .i64 k] w (il p (bs++le n k) w):=by
 obtain⟨i0,hi,hz0,hz1,hz2⟩:=info_parts eY;have HH:=aa h;have yU:(1:Int)≤(k:Int):=aj;have hk8:(k:Int)≤8:=aj;have hpl:p<w.heap.size:=by obtain⟨A,c,h1,_⟩:=h.ex;exact h1.lt
 clear h;go_enter Tryz.func133,Tryz.ntmps133;go_wp2_with (refine wpList_make_full _ rfl _ _ 34 rfl w.heap.size 5 i0 (.int .u8 0) 1 fL hi hz0 hz1 .i64 .i64 _ _ k rfl rfl rfl rfl AY km (aQ _) ?_;intro w5 kz ft;have uu:=aa kz;have oP:=aa ft;clear kz ft);have dX:Below w.heap.size w w5:=Below.grown (au _ _) oP.o (aQ _) dR;obtain⟨gb,hgb⟩:=ae w.heap.size;have hrow: ∃ cs:Array Value,aG w5 gb 5 cs∧cs.size=k:=by
  rcases uu.o.2 with⟨h0,_⟩|⟨g',cap,cur,hv,hb,hh,hnc,hcm,hcs,ht⟩
  ·cases h0
  injection hv with e1 _ e2
  injection e1 with e1
  injection e1 with e1
  subst e1 e2;rw[←hgb];exact⟨cur,hh,aj⟩
 have eA:=aa dX;have nY:=aa hrow;have Sv:=aa hgb;rw[hgb];clear dX hrow uu oP hgb;go_loopw [12] (fun i wr=>∃ (j:Nat) (cs:Array Value),j≤k∧i= .int .i64 j∧aG wr gb 5 cs∧cs.size=k∧(∀ (x:Nat) (u:Value),(aP (le n j))[x]? =some u→cs[x]? =some u)∧Below w.heap.size w wr) (fun i _=>(k - intOf i).toNat)
 case atStart=>
  obtain⟨cs,h1,h2⟩:=nY.o;exact⟨0,cs,aj,rfl,h1,h2,fun x u hu=>by simp[le,aP] at hu,eA.o⟩
 case round=>
  obtain⟨j,cs,hj,rfl,hA,hcs,Dn,hbw⟩:=hrel;have HA:=aa hA;have HIN:=aa Dn;have HBW:=aa hbw;clear hA Dn hbw;by_cases h:j<k
  ·have h':(j:Int)<(k:Int):=by omega
   have Y7:(0:Int)≤(j:Int):=aj;have x0:wr.cell? ⟨gb,j,none⟩=some cs[j]:=by rw[HA.o.cell j];exact Array.getElem?_eq_getElem aj
   have m0:=HA.o.mark j;have hby:=aaH n j;have HBY:=aa hby;clear hby;go_wp2_with fail;go_roundw
   case rel=>
    refine⟨j+1,cs.setIfInBounds j (fF (UInt8.ofNat (n / 256 ^ j))),aj,by go_num,?_,by simp[hcs],fun x u hu=>?_,?_⟩
    ·rw[HBY.o];exact HA.o.put j _
    ·rw[le,ed] at hu;rw[Array.getElem?_setIfInBounds];by_cases hxj:j=x
     ·subst hxj;rw[if_pos rfl,if_pos aj];rw[List.getElem?_append_right (by rw[bu,bF];exact aQ _)] at hu;simpa[bu,bF,aP] using hu
     rw[if_neg hxj];have hx:=(oa.1 hu).1;rw[dh,bu,bu,bF] at hx;rw[List.getElem?_append_left (by rw[bu,bF];simp at hx;omega)] at hu;exact HIN.o x u hu
    exact eF HBW.o (show w.heap.size≤gb by have:=Sv.o;omega) _
   case measure=>simp[intOf];omega
  have h': ¬(j:Int)<(k:Int):=aj;have hjk:j=k:=aj;subst hjk;go_wp2_with fail;have hB:Bs wr (some ⟨gb,0,none⟩) (le n j):=fun hne=>⟨gb,0,rfl,HA.o.lt,fun x u hu=>by rw[Nat.zero_add,HA.o.cell x];exact HIN.o x u hu⟩
  have ae6:=Xl p bs (le n j) ⟨gb,0,none⟩ j wr (HH.o.ai HBW.o) hB (by intro e;have:=congrArg List.length e;rw[bF] at this;simp at this;omega) (by rw[bF];omega);rw[bF] at ae6;refine ae6.mono ?_;rintro en w6 ⟨⟨u,rfl⟩,h1,h2⟩;have lG:(∃ u',Ending.returned (.tuple #[])= .returned u')∧eG w6 p (bs++le n j)∧aI (· =p) w w6:=⟨⟨_,rfl⟩,h1,(aI.aU HBW.o).trans h2⟩;have HF:=aa lG;clear h1 h2 lG ae6 hB;go_wp2_with fail;exact bodyPost_end (results_none Tryz.results133 _ _ _) rfl HF.o
theorem fR(p n:Nat)(bs:List UInt8)(w:World)(h:eG w p bs)(hl:bs.length≤67108900)(hn:n<256): Calls af 58 #[.pointer (some ⟨p,0,none⟩),.int .u8 n] w (il p (bs++le n 1) w):=by
 have HN:=aa (vT p 1 n bs w h aN hl aj);have V7:(0:Int)≤(n:Int):=aj;have tu:(n:Int)<256:=aj;have hw:cR.wrap (n:Int)=(n:Int):=qW;clear h;go_enter Tryz.func58,Tryz.ntmps58;go_wp2_with fail;refine HN.o.mono ?_;rintro en w1 ⟨⟨u,rfl⟩,h2,h3⟩;have HF:=aa (show il p (bs++le n 1) w (.returned (.tuple #[])) w1 from⟨⟨_,rfl⟩,h2,h3⟩);clear h2 h3;go_wp2_with fail;exact bodyPost_end (results_none Tryz.results58 _ _ _) rfl HF.o
theorem eM(p n:Nat)(bs:List UInt8)(w:World)(h:eG w p bs)(hl:bs.length≤67108900)(hn:n<65536): Calls af 139 #[.pointer (some ⟨p,0,none⟩),.int .u16 n] w (il p (bs++le n 2) w):=by
 have HN:=aa (vT p 2 n bs w h aN hl aj);have V7:(0:Int)≤(n:Int):=aj;have tu:(n:Int)<65536:=aj;have hw:cR.wrap (n:Int)=(n:Int):=qW;clear h;go_enter Tryz.func139,Tryz.ntmps139;go_wp2_with fail;refine HN.o.mono ?_;rintro en w1 ⟨⟨u,rfl⟩,h2,h3⟩;have HF:=aa (show il p (bs++le n 2) w (.returned (.tuple #[])) w1 from⟨⟨_,rfl⟩,h2,h3⟩);clear h2 h3;go_wp2_with fail;exact bodyPost_end (results_none Tryz.results139 _ _ _) rfl HF.o
theorem cY(p n:Nat)(bs:List UInt8)(w:World)(h:eG w p bs)(hl:bs.length≤67108900)(hn:n<4294967296): Calls af 59 #[.pointer (some ⟨p,0,none⟩),.int .u32 n] w (il p (bs++le n 4) w):=by
 have HN:=aa (vT p 4 n bs w h aN hl aj);have V7:(0:Int)≤(n:Int):=aj;have tu:(n:Int)<4294967296:=aj;have hw:cR.wrap (n:Int)=(n:Int):=qW;clear h;go_enter Tryz.func59,Tryz.ntmps59;go_wp2_with fail;refine HN.o.mono ?_;rintro en w1 ⟨⟨u,rfl⟩,h2,h3⟩;have HF:=aa (show il p (bs++le n 4) w (.returned (.tuple #[])) w1 from⟨⟨_,rfl⟩,h2,h3⟩);clear h2 h3;go_wp2_with fail;exact bodyPost_end (results_none Tryz.results59 _ _ _) rfl HF.o
theorem ej(p n:Nat)(bs:List UInt8)(w:World)(h:eG w p bs)(hl:bs.length≤67108900)(hn:n<18446744073709551616): Calls af 144 #[.pointer (some ⟨p,0,none⟩),.int .u64 n] w (il p (bs++le n 8) w):=by
 have HN:=aa (vT p 8 n bs w h aN hl aj);have V7:(0:Int)≤(n:Int):=aj;have tu:(n:Int)<18446744073709551616:=aj;have hw:cR.wrap (n:Int)=(n:Int):=qW;clear h;go_enter Tryz.func144,Tryz.ntmps144;go_wp2_with fail;refine HN.o.mono ?_;rintro en w1 ⟨⟨u,rfl⟩,h2,h3⟩;have HF:=aa (show il p (bs++le n 8) w (.returned (.tuple #[])) w1 from⟨⟨_,rfl⟩,h2,h3⟩);clear h2 h3;go_wp2_with fail;exact bodyPost_end (results_none Tryz.results144 _ _ _) rfl HF.o
theorem zV(p:Nat)(bs cs:List UInt8)(ad:Addr)(d:Nat)(w:World)(h:eG w p bs)(hc:Bs w (some ad) cs)(hne:cs≠ [])(hl:bs.length+cs.length≤70000000): Calls af 338 #[.pointer (some ⟨p,0,none⟩),.slice (some ad) cs.length d] w (il p (bs++cs) w):=by
 have HN:=aa (Xl p bs cs ad d w h hc hne hl);clear h hc hne;go_enter Tryz.func338,Tryz.ntmps338;go_wp2_with fail;refine HN.o.mono ?_;rintro en w1 ⟨⟨u,rfl⟩,h2,h3⟩;have HF:=aa (show il p (bs++cs) w (.returned (.tuple #[])) w1 from⟨⟨_,rfl⟩,h2,h3⟩);clear h2 h3;go_wp2_with fail;exact bodyPost_end (results_none Tryz.results338 _ _ _) rfl HF.o
theorem lQ(p:Nat)(bs:List UInt8)(w:World)(h:eG w p bs)(hl:bs.length≤70000000): Calls af 62 #[.pointer (some ⟨p,0,none⟩)] w (fZ bs w):=by
 obtain⟨A,c,h1,h2,h3,h4,h5,h6⟩:=h.ex;have x0:w.cell? ⟨p,0,none⟩=some (.slice A bs.length c):=h1.cell 0;have HC:=aa (CF bs A c w h2 h5 aj);clear h h1 h2 h3 h5 h6;go_enter Tryz.func62,Tryz.ntmps62;go_wp2_with fail;refine HC.o.mono ?_;rintro en w1 h1;obtain⟨B,d,rfl,h2⟩:=h1;have HF:=aa (show fZ bs w (.returned (.slice B bs.length d)) w1 from⟨B,d,rfl,h2⟩);clear h2;go_wp2_with fail;go_ret;exact HF.o
end Oc
end
section
namespace Oc
def mG(w:World)(g:Nat)(x:List UInt8)(c:Nat): Prop:=∃ cur,aG w g 5 cur∧cur.size=c∧∀ (j:Nat) (u:Value),(aP x)[j]? =some u→cur[j]? =some u
variable{w:World}{g c:Nat}{x:List UInt8}
theorem mG.blk(h:mG w g x c): jN w 5 g x:=by obtain⟨cur,h1,_,h3⟩:=h;exact⟨cur,h1,h3⟩
theorem mG.lt(h:mG w g x c): g<w.heap.size:=h.blk.lt
theorem mG.same{w':World} (h:mG w g x c)(hk:w'.heap[g]? =w.heap[g]?): mG w' g x c:=Tk
theorem mG.ai{w':World} (h:mG w g x c)(hb:Below w.heap.size w w'): mG w' g x c:=h.same (hb.block g h.lt)
theorem mG.len(h:mG w g x c): x.length≤c:=by
 obtain⟨cur,h1,h2,h3⟩:=h;rcases Nat.lt_or_ge c x.length with hl|hl
 ·exfalso;have h4:(aP x)[c]? =some (fF (x[c]'hl)):=by simp[aP,hl]
  have:=(Array.getElem?_eq_some_iff.1 (h3 c _ h4)).1;omega
 exact hl
theorem ZV{base cap n:Nat} {bs:List UInt8}(h:w.ownsRow base 5 1 (.slice (some ⟨g,0,none⟩) n cap) n (aP bs))(hn:bs.length=n): mG w g bs cap:=by
 rcases h.2 with⟨h0,_⟩|⟨g',cap',cur,hv,hb,hh,h1,h2,h3,h4⟩
 ·cases h0
 injection hv with e1 _ e2
 injection e1 with e1;injection e1 with e1
 subst e1 e2;refine⟨cur,hh,aj,fun j u hu=>?_⟩;have hj:=(oa.1 hu).1;rw[bu] at hj;rw[←hu,←h4,List.getElem?_take,if_pos aj,Array.getElem?_toList]
theorem SM(w:World){o:Oper}{a:Act}{K:Act→World→Prop}{Q:Exit→Act→World→Prop}(s x:Operand)
  (hop:o.op=Op.call {callee:=Callee.builtin Builtin.append,args:=#[s,x],argTypes:=#[34,34]}) (bs cs:List UInt8) (A:Option Addr) (n c:Nat) (hs:a.eval s= .slice A n c) (hn:n=bs.length) (hA:A=none→n=0∧c=0) (hB:Bs w A bs)
  (ad:Addr) (m cp:Nat) (hx:a.eval x= .slice (some ad) m cp) (hm:m=cs.length) (hC:Bs w (some ad) cs) (mP:c<n+m) (hl:n+m≤70368744177664)
  (hK: ∀ g J0 w',w.heap.size≤g→mG w' g (bs++cs) J0→Below w.heap.size w w'→n+m≤J0→K (a.put o.dst (.slice (some ⟨g,0,none⟩) (n+m) J0)) w'):Oper.wp af o a w K Q:=by
 obtain⟨i0,hi,hz0,hz1,hz2⟩:=info_parts eY;subst hn hm;have b1:bs.length+cs.length≤maxLen:=km;have b2:(bs.length+cs.length)*1≤140737488355328:=aj;have hnews:(aP cs).length=cs.length*1:=E7;have hgo: ∃ v' w',(Builtin.append_ #[34,34] o.type #[.slice A bs.length c,.slice (some ad) cs.length cp]).run af w= .ok v' w'∧w'.ownsRow w.heap.size 5 1 v' (bs.length+cs.length) (aP bs++aP cs)∧w.grownBy w' none:=by
  cases A with
  | some b=>
   obtain⟨v',w',hrun,r1,r2⟩:=run_append_arg_grows (P:=af) w 34 o.type 5 i0 (.int .u8 0) 1 1 fL hi hz0 hz1 hz2 rfl aN b bs.length c (aP bs) E7 hB.read ad cs.length cp (aP cs) hnews hC.read mP b1 b2;exact⟨v',w',hrun,r1,r2⟩
  | none=>
   obtain⟨h0,rfl⟩:=hA rfl;obtain rfl:=List.eq_nil_of_length_eq_zero h0;obtain⟨v',w',hrun,r1,r2,_⟩:=run_append_own (P:=af) w w.heap.size 34 o.type 5 i0 (.int .u8 0) 1 1 fL hi hz0 hz1 hz2 rfl aN (.slice none 0 0) 0 [] (World.ownsRow_nil w _ 5 1) ad cs.length cp (aP cs) hnews hC.read (bQ cs) (by simpa using b1) (by simpa using b2) (aQ _);exact⟨v',w',hrun,r1,r2⟩
 obtain⟨v',w',hrun,ho,hgr⟩:=hgo;have hne:v'≠ .slice none 0 0:=by
  rintro rfl;rcases ho.2 with⟨_,h0⟩|⟨_,_,_,h0,_⟩
  ·omega
  cases h0
 obtain⟨g,cap,rfl⟩:=xV ho hne;rw[←ed] at ho;obtain⟨_,h2,h3,_⟩:=mV ho (by rw[dh]);have h1:=ZV ho (by rw[dh]);exact acp
theorem NP(w:World){ops:Array Oper}{rest:List Oper}{o:Oper}{a:Act}{Q:Exit→Act→World→Prop}(hg:o.guard=none)(s x:Operand)
  (hop:o.op=Op.call {callee:=Callee.builtin Builtin.append,args:=#[s,x],argTypes:=#[34,34]}) (bs cs:List UInt8) (A:Option Addr) (n c:Nat) (hs:a.eval s= .slice A n c) (hn:n=bs.length) (hA:A=none→n=0∧c=0) (hB:Bs w A bs)
  (ad:Addr) (m cp:Nat) (hx:a.eval x= .slice (some ad) m cp) (hm:m=cs.length) (hC:Bs w (some ad) cs) (mP:c<n+m) (hl:n+m≤70368744177664)
  (hK: ∀ g J0 w',w.heap.size≤g→mG w' g (bs++cs) J0→Below w.heap.size w w'→n+m≤J0→wpList af ops Q rest (a.put o.dst (.slice (some ⟨g,0,none⟩) (n+m) J0)) w'):wpList af ops Q (o::rest) a w:=
 wpList_plain hg fun _ hKK=>SM w s x hop bs cs A n c hs hn hA hB ad m cp hx hm hC mP hl fun g J0 w' a b c d=>hKK _ _ (hK g J0 w' a b c d)
def PF(w:World)(A:Option Addr)(x:List UInt8)(c:Nat): Prop:=(x= []∧c=0)∨(x≠ []∧∃ g,A=some ⟨g,0,none⟩∧mG w g x c)
def YJ(bs:List UInt8)(w:World)(e:Ending)(w':World): Prop:=∃ A c,e= .returned (.slice A bs.length c)∧PF w' A bs c∧(bs≠ []→∀ g,A=some ⟨g,0,none⟩→w.heap.size≤g)∧Below w.heap.size w w'
theorem Kw(bs:List UInt8)(g off c:Nat)(w:World)(hB:Bs w (some ⟨g,off,none⟩) bs)(hne:bs≠ [])(hl:bs.length≤70368744177664): Calls af 148 #[.slice (some ⟨g,off,none⟩) bs.length c] w (YJ bs w):=by
 have ahf:0<bs.length:=vo.2 hne;have HB:=aa hB;have HN:=aa hne;have hq:=uJ ⟨g,off,none⟩ bs.length c;clear hB hne;go_enter Tryz.func148,Tryz.ntmps148;go_wp2_with (refine NP _ rfl _ _ rfl [] bs (some ⟨w.heap.size,0,none⟩) 0 0 rfl rfl dR (Bs.nil _ _) ⟨g,off,none⟩ bs.length c rfl rfl (HB.o.ai (ax (au _ _) _)) aj aj ?_;intro g5 c5 w5 ft dX Y0 F5;have oP:=aa ft;have eA:=aa dX;have M4:=aa Y0;have Nj:=aa F5;clear ft dX Y0 F5);go_ret;have h5:=oP.o;simp at h5;exact⟨some ⟨g5,0,none⟩,c5,dR,.inr ⟨HN.o,g5,rfl,eA.o⟩,(fun _ g' e=>by injection e with e;injection e with e;omega),av (ax (au _ _) _) M4.o⟩
theorem GC(A:Option Addr)(c:Nat)(w:World): Calls af 148 #[.slice A 0 c] w (YJ [] w):=by
 cases A with
 | none=>
  have hq:=FP 0 c;go_enter Tryz.func148,Tryz.ntmps148;go_wp2_with fail;go_ret;exact⟨none,0,rfl,.inl ⟨rfl,rfl⟩,fun h=>absurd rfl h,au _ _⟩
 | some ad=>
  have hq:=uJ ad 0 c;go_enter Tryz.func148,Tryz.ntmps148;go_wp2_with fail;go_ret;exact⟨some ⟨w.heap.size,0,none⟩,0,rfl,.inl ⟨rfl,rfl⟩,fun h=>absurd rfl h,ax (au _ _) _⟩
theorem RX(bs:List UInt8)(A:Option Addr)(c:Nat)(w:World)(hB:Bs w A bs)(hl:bs.length≤70368744177664): Calls af 148 #[.slice A bs.length c] w (YJ bs w):=by
 by_cases hne:bs= []
 ·subst hne;exact GC A c w
 obtain⟨g,off,rfl,_⟩:=hB hne;exact Kw bs g off c w hB hne hl
end Oc
end
section
namespace Oc
theorem PF.len{w:World}{A:Option Addr}{x:List UInt8}{c:Nat}(h:PF w A x c): x.length≤c:=by
 rcases h with⟨rfl,_⟩|⟨_,g,_,h⟩
 ·exact Nat.zero_le _
 exact h.len
def Nv(bs:List UInt8)(w:World)(e:Ending)(w':World): Prop:=
 ∃ A c,e= .returned (.slice A bs.length c)∧(bs≠ []→∃ g,A=some ⟨g,0,none⟩∧w.heap.size≤g∧mG w' g bs c)∧bs.length≤c∧True∧True∧Below w.heap.size w w'
theorem nV(p:Nat)(bs:List UInt8)(w:World)(h:eG w p bs)(hl:bs.length≤70000000): Calls af 62 #[.pointer (some ⟨p,0,none⟩)] w (Nv bs w):=by
 obtain⟨A,c,h1,h2,h3,h4,h5,h6⟩:=h.ex;have x0:w.cell? ⟨p,0,none⟩=some (.slice A bs.length c):=h1.cell 0;have HC:=aa (RX bs A c w h2 aj);clear h h1 h2 h3 h5 h6;go_enter Tryz.func62,Tryz.ntmps62;go_wp2_with fail;refine HC.o.mono ?_;rintro en w1 h1;obtain⟨B,d,rfl,h2,h3,h4⟩:=h1;have HF:=aa (show Nv bs w (.returned (.slice B bs.length d)) w1 from⟨B,d,rfl,fun hne=>by
  rcases h2 with⟨e,_⟩|⟨_,g,e,hc⟩
  ·exact absurd e hne
  exact⟨g,e,h3 hne g e,hc⟩,h2.len,trivial,trivial,h4⟩)
 clear h2 h3 h4;go_wp2_with fail;go_ret;exact HF.o
end Oc
end
section
namespace Oc
theorem Kz(bs:List UInt8)(g off c:Nat)(w:World)(hB:Bs w (some ⟨g,off,none⟩) bs)(hne:bs≠ [])(hl:bs.length≤70368744177664): Calls af 229 #[.slice (some ⟨g,off,none⟩) bs.length c] w (fZ bs w):=by
 have ahf:0<bs.length:=vo.2 hne;have HB:=aa hB;have HN:=aa hne;have hq:=uJ ⟨g,off,none⟩ bs.length c;clear hB hne;go_enter Tryz.func229,Tryz.ntmps229;exact acI
theorem KA(c:Nat)(w:World): Calls af 229 #[.slice none 0 c] w (fZ [] w):=by
 have hq:=FP 0 c;go_enter Tryz.func229,Tryz.ntmps229;exact Vw
theorem GG(g off c:Nat)(w:World): Calls af 229 #[.slice (some ⟨g,off,none⟩) 0 c] w (fZ [] w):=by
 have hq:=uJ ⟨g,off,none⟩ 0 c;go_enter Tryz.func229,Tryz.ntmps229;exact ach
theorem yA(bs:List UInt8)(A:Option Addr)(c:Nat)(w:World)(hB:Bs w A bs)(hA:rh A)(hl:bs.length≤70368744177664): Calls af 229 #[.slice A bs.length c] w (fZ bs w):=by
 by_cases hne:bs= []
 ·subst hne;cases A with
  | none=>exact KA c w
  | some ad=>obtain⟨g,off,rfl⟩:=hA ad rfl;exact GG g off c w
 obtain⟨g,off,rfl,_⟩:=hB hne;exact Kz bs g off c w hB hne hl
end Oc
namespace En
structure EI where
 gd:Nat
 cd:Nat
 ad:Nat→Nat
 cp:Nat→Nat
 rv:Value
 mb:Nat
 mn:Nat
 wg:Nat→Nat
 wc:Nat→Nat
def fI: List (Nat × By)→Nat→Option Nat
 | [],_=>none
 | x::r,i=>match fI r i with
  | some j=>some (j+1)
  | none=>if x.1=i then some 0 else none
def od(d:Dk)(q:EI)(i:Int): Option Value:=if i<0 then none else(fI d.row i.toNat).map fun j=>.slice (some ⟨q.wg j,0,none⟩) d.size (q.wc j)
def Dd(d:Dk)(q:EI)(i:Nat): List Value:=[.int .i64 ((d.row.getD i (0,[])).1:Nat),.slice (some ⟨q.wg i,0,none⟩) d.size (q.wc i)]
def akU(d:Dk)(q:EI)(i:Nat): List Value:=[.slice (some ⟨q.ad i,0,none⟩) d.size (q.cp i)]
structure eN(S:Nat→Prop)(w:World)(p:Nat)(d:Dk)(q:EI): Prop where
 own:aG w p 331 #[.int .i64 d.size,.slice (some ⟨q.gd,0,none⟩) d.df.length q.cd,q.rv,.map (some q.mb)]
 df:aM S w 34 1 (.slice (some ⟨q.gd,0,none⟩) d.df.length q.cd) d.df.length (akU d q)
 each: ∀ i,i<d.df.length→jN w 5 (q.ad i) (d.df.getD i [])∧d.size≤q.cp i
 row:aM S w 338 2 q.rv d.row.length (Dd d q)
 aF: ∀ i,i<d.row.length→jN w 5 (q.wg i) (d.row.getD i (0,[])).2∧d.size≤q.wc i
 newest:fB af 3 .i64 w q.mb q.mn (od d q)
 ok:d.Ok
 bA:S p∧S q.mb∧(∀ i,i<d.df.length→S (q.ad i))∧(∀ i,i<d.row.length→S (q.wg i))
 apart:(∀ i j,i<d.df.length→j<d.df.length→q.ad i=q.ad j→i=j)∧(∀ i j,i<d.df.length→j<d.row.length→q.ad i≠q.wg j)
 lt: ∀ k,S k→k<w.heap.size
 few:q.mn≤d.row.length
def vg(p:Nat)(d:Dk)(S:Nat→Prop)(w:World): Prop:=∃ q,eN S w p d q
theorem mf(p:Nat)(d:Dk): Loc (vg p d):=by
 refine⟨fun⟨q,h⟩=>h.lt,fun {S w w'} ⟨q,h⟩ hz hk=>⟨q,?_⟩,fun {S T w} ⟨q,h⟩ p9 hT=>⟨q,?_⟩⟩
 ·have p8: ∀ k,S k→w'.heap[k]? =w.heap[k]?:=hk;exact⟨(p8 p h.bA.1).trans h.own,h.df.same fun g hg _=>p8 g hg,fun i hi=>⟨(h.each i hi).1.same (p8 _ (h.bA.2.2.1 i hi)),(h.each i hi).2⟩,h.row.same fun g hg _=>p8 g hg,fun i hi=>⟨(h.aF i hi).1.same (p8 _ (h.bA.2.2.2 i hi)),(h.aF i hi).2⟩,h.newest.same (p8 _ h.bA.2.1),h.ok,h.bA,h.apart,fun k hk=>Nat.lt_of_lt_of_le (h.lt k hk) hz,h.few⟩
 exact⟨h.own,h.df.mono fun g hg _=>p9 g hg,h.each,h.row.mono fun g hg _=>p9 g hg,h.aF,h.newest,h.ok,⟨p9 _ h.bA.1,p9 _ h.bA.2.1,fun i hi=>p9 _ (h.bA.2.2.1 i hi),fun i hi=>p9 _ (h.bA.2.2.2 i hi)⟩,h.apart,hT,h.few⟩
theorem cV(p s:Nat)(hs:1≤s)(w:World)(h:w.cell? ⟨p,0,none⟩=some (.int .i64 s)): Calls af 221 #[.pointer (some ⟨p,0,none⟩)] w fun e w'=>e= .returned (.bool true)∧w'=w:=by
 have hs':(0:Int)<(s:Int):=aj;go_enter Tryz.func221,Tryz.ntmps221;go_wp2_with fail;go_ret;exact⟨kv (a:=decide (0<s)) (decide_eq_true aj),rfl⟩
variable{p:Nat}{S:Nat→Prop}{w:World}
theorem Cg{d:Dk}{q:EI}(h:eN S w p d q): Calls af 225 #[.pointer (some ⟨p,0,none⟩)] w fun e w'=>e= .returned (.int .i64 d.df.length)∧w'=w:=by
 have x0:w.cell? ⟨p,0,none⟩=some (.int .i64 d.size):=h.own.cell 0;have x1:w.cell? ⟨p,1,none⟩=some (.slice (some ⟨q.gd,0,none⟩) d.df.length q.cd):=h.own.cell 1;have HS:=aa h.ok.size.1;clear h;go_enter Tryz.func225,Tryz.ntmps225;exact OE
theorem aaW{d:Dk}{q:EI}(h:eN S w p d q): Calls af 233 #[.pointer (some ⟨p,0,none⟩)] w fun e w'=>e= .returned (.int .i64 d.size)∧w'=w:=by
 have x0:w.cell? ⟨p,0,none⟩=some (.int .i64 d.size):=h.own.cell 0;have HS:=aa h.ok.size.1;clear h;go_enter Tryz.func233,Tryz.ntmps233;exact OE
theorem I7{d:Dk}{q:EI}(h:eN S w p d q)(at_:Int)(hb:d.bad at_=true): Calls af 228 #[.pointer (some ⟨p,0,none⟩),.int .i64 at_] w fun e w'=>e= .returned (.int .i64 50)∧w'=w:=by
 have x0:w.cell? ⟨p,0,none⟩=some (.int .i64 d.size):=h.own.cell 0;have x1:w.cell? ⟨p,1,none⟩=some (.slice (some ⟨q.gd,0,none⟩) d.df.length q.cd):=h.own.cell 1;have HS:=aa h.ok.size.1;have hc:at_<0∨0≤at_∧(d.df.length:Int)≤at_:=by simp only[Dk.bad,Bool.or_eq_true,decide_eq_true_eq] at hb;omega
 clear h hb;rcases hc with c1|⟨c0,c1⟩
 all_goals
  go_enter Tryz.func228,Tryz.ntmps228;exact OE
theorem zL{d:Dk}{q:EI}(h:eN S w p d q)(at_:Int)(hb:d.bad at_=false): Calls af 228 #[.pointer (some ⟨p,0,none⟩),.int .i64 at_] w fun e w'=>e= .returned (.int .i64 0)∧w'=w:=by
 have x0:w.cell? ⟨p,0,none⟩=some (.int .i64 d.size):=h.own.cell 0;have x1:w.cell? ⟨p,1,none⟩=some (.slice (some ⟨q.gd,0,none⟩) d.df.length q.cd):=h.own.cell 1;have HS:=aa h.ok.size.1;have c0:0≤at_:=DG;have c1:at_<(d.df.length:Int):=DG;clear h hb;go_enter Tryz.func228,Tryz.ntmps228;exact OE
end En
end
section
namespace En
open Oc (eG il)
theorem CD(n:Nat)(h:n≤32)(w:World): Calls af 346 #[.int .i64 n] w fun e w'=>e= .returned (.int .i64 (22+n))∧w'=w:=by
 have h0: ¬(n:Int)<0:=aj;have h1: ¬(32:Int)<(n:Int):=aj;have h2:(n:Int)≤32:=aj;go_enter Tryz.func346,Tryz.ntmps346;go_wp2_with fail;go_ret;exact⟨rfl,rfl⟩
theorem abo(bX seq:Nat)(body:By)(g off c:Nat)(w:World)(he:bX<18446744073709551616)(hs:seq<18446744073709551616)(hB:Bs w (some ⟨g,off,none⟩) body)(hne:body≠ [])(hl:body.length≤32)(ht:cj w):
  Calls af 306 #[.agg #[.int .u64 bX,.int .u64 seq,.slice (some ⟨g,off,none⟩) body.length c]] w fun e w'=>(∃ A c',e= .returned (.tuple #[.slice A (qE bX seq body).length c',.int .i64 0])∧Bs w' A (qE bX seq body))∧Below w.heap.size w w':=by
 have hl':(body.length:Int)≤32:=aj;have hn': ¬(32:Int)<(body.length:Int):=aj;have HB:=aa hB;have HN:=aa hne;have HT:=aa ht;clear hB hne ht;go_enter Tryz.func306,Tryz.ntmps306;go_wp2_with fail;have hw0:eG ((w.alloc (.cells #[.int .u64 bX,.int .u64 seq,.slice (some ⟨g,off,none⟩) body.length c] 375)).alloc (.cells #[.slice none 0 0] 150)) (w.heap.size+1) []:=by
  have:=Oc.eG.fresh (w.alloc (.cells #[.int .u64 bX,.int .u64 seq,.slice (some ⟨g,off,none⟩) body.length c] 375))
  rwa [World.size_alloc] at this
 have hb0:Below w.heap.size w ((w.alloc (.cells #[.int .u64 bX,.int .u64 seq,.slice (some ⟨g,off,none⟩) body.length c] 375)).alloc (.cells #[.slice none 0 0] 150)):=ax (ax (au _ _) _) _;have ha0:aG ((w.alloc (.cells #[.int .u64 bX,.int .u64 seq,.slice (some ⟨g,off,none⟩) body.length c] 375)).alloc (.cells #[.slice none 0 0] 150)) w.heap.size 375 #[.int .u64 bX,.int .u64 seq,.slice (some ⟨g,off,none⟩) body.length c]:=(aG.fresh w _ _).alloc _;obtain⟨w1,aZ⟩:=ae (((w.alloc (.cells #[.int .u64 bX,.int .u64 seq,.slice (some ⟨g,off,none⟩) body.length c] 375)).alloc (.cells #[.slice none 0 0] 150)));rw[aZ] at hw0 hb0 ha0 ⊢;obtain⟨p,hp⟩:=ae (w.heap.size+1);rw[hp] at hw0 ⊢;have WE:=HB.o.ai hb0;have F4:g<w.heap.size:=by obtain⟨g',o',e,h1,_⟩:=HB.o HN.o;injection e with e;injection e with e;omega
 have HGP:=aa (show g<p from aj);obtain⟨b,hb⟩:=ae w.heap.size;rw[hb] at ha0 ⊢;have x0:=ha0.cl 0;have x1:=ha0.cl 1;have x2:=ha0.cl 2;have iY:=aa ha0.lt;have HP:=aa (show b+1=p from aj);have bz:=aa WE;have X5:=aa hw0;have Kt:=aa hb0;have KW:=aa hb;have HE:=aa he;have HS:=aa hs;clear hw0 hb0 ha0 WE aZ hp F4 hb he hs HB;refine(Oc.eM p body.length [] w1 X5.o dR aj).mono ?_;rintro en w2 ⟨⟨u,rfl⟩,Jp,rA⟩;have Ip:w2.cell? ⟨b,0,none⟩=some (.int .u64 bX):=(rA.cells rR ib 0).trans x0;have Il:w2.cell? ⟨b,1,none⟩=some (.int .u64 seq):=(rA.cells rR ib 1).trans x1;have Ij:w2.cell? ⟨b,2,none⟩=some (.slice (some ⟨g,off,none⟩) body.length c):=(rA.cells rR ib 2).trans x2;have Pt:=aa (rA);have X4:=aa Jp;clear Jp rA x0 x1 x2;go_wp2_with fail;refine(Oc.ej p bX _ w2 X4.o fH HE.o).mono ?_;rintro en w3 ⟨⟨u,rfl⟩,Jo,ry⟩;have Io:w3.cell? ⟨b,0,none⟩=some (.int .u64 bX):=(ry.cells AF ib 0).trans Ip;have Ik:w3.cell? ⟨b,1,none⟩=some (.int .u64 seq):=(ry.cells AF ib 1).trans Il;have Ii:w3.cell? ⟨b,2,none⟩=some (.slice (some ⟨g,off,none⟩) body.length c):=(ry.cells AF ib 2).trans Ij;have Ps:=aa (Pt.o.trans ry);have X3:=aa Jo;clear Jo ry Ip Il Ij;go_wp2_with fail;refine(Oc.ej p seq _ w3 X3.o fH HS.o).mono ?_;rintro en w4 ⟨⟨u,rfl⟩,Jn,ru⟩;have SF:w4.cell? ⟨b,0,none⟩=some (.int .u64 bX):=(ru.cells AE ib 0).trans Io;have SE:w4.cell? ⟨b,1,none⟩=some (.int .u64 seq):=(ru.cells AE ib 1).trans Ik;have SC:w4.cell? ⟨b,2,none⟩=some (.slice (some ⟨g,off,none⟩) body.length c):=(ru.cells AE ib 2).trans Ii;have Ko:=aa (Ps.o.trans ru);have X2:=aa Jn;clear Jn ru Io Ik Ii;go_wp2_with fail;have hb4:Bs w4 (some ⟨g,off,none⟩) body:=(bz.o).cO Ko.o fun g' o' e _ e2=>by injection e with e;injection e with e;have:=HGP.o;omega
 refine(Oc.zV p _ body ⟨g,off,none⟩ c w4 X2.o hb4 HN.o (by simp[Oc.bF];omega)).mono ?_;rintro en w5 ⟨⟨u,rfl⟩,Jm,vZ⟩;have Pr:=aa (Ko.o.trans vZ);have X1:=aa Jm;clear Jm vZ;go_wp2_with fail;have iX:eG w5 p (nB bX seq body):=X1.o;have hh:(nB bX seq body).length=18+body.length:=by simp[nB,Oc.bF];omega
 have QU:cj w5:=(HT.o.ai Kt.o).cO Pr.o (fun e=>by have:=HT.o.lt;have:=HP.o;have:=KW.o;omega);refine(Oc.lQ p _ w5 iX aj).mono ?_;rintro en w5b ⟨A5,c5,rfl,fX,_,_,_,dX⟩;have ou:=aa (Oc.fZ.bs (w:=w5) fX);have RB:=aa (iX.ai dX);have px:=aa (QU.ai dX);have eA:=aa dX;have HL5:=aa hh;clear iX QU fX dX hh;go_wp2_with fail;refine ag (Cr.qG _ A5 c5 w5b ou.o px.o (by have:=HL5.o;omega)) ?_;have X0:=RB;obtain⟨w5c,agW⟩:=ae w5b;rw[agW] at X0 eA px ou ⊢;clear RB agW;go_wp2_with fail;refine(Oc.cY p _ _ w5c X0.o (by have:=HL5.o;omega) (Cr.MM 0 _ aN)).mono ?_;rintro en w6 ⟨⟨u,rfl⟩,Jl,Jr⟩;have Kn:=aa (Jr);have XZ:=aa Jl;clear Jl Jr;go_wp2_with fail;have og:eG w6 p (qE bX seq body):=XZ.o;refine(Oc.lQ p _ w6 og (by rw[qD];omega)).mono ?_;rintro en w7 ⟨A7,c7,rfl,Ek,_,_,_,sy⟩;have yt:=aa (Oc.fZ.bs (w:=w6) Ek);obtain⟨n7,hn7⟩:=ae ((qE bX seq body).length);rw[hn7];have HN7:=aa hn7;clear og hn7;have vw:Below w.heap.size w w7:=by
  have h1:aI (· =p) w1 w7:=(((Pr.o.ak eA.o).trans Kn.o).ak sy);exact h1.fresh Kt.o (fun k e=>by have:=HP.o;have:=KW.o;omega)
 have ie:=aa vw;clear Ek sy vw;go_wp2_with fail;go_ret2;exact⟨⟨A7,c7,by rw[HN7.o];rfl,yt.o⟩,ie.o⟩
