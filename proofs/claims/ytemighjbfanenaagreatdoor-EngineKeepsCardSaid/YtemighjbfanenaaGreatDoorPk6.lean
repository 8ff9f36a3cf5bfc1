import Derived.Test.YtemighjbfanenaaGreatDoorPk3
import Derived.StillTailTactics
import Derived.Test.YtemighjbfanenaaGreatDoorPk2
set_option linter.all false
set_option maxRecDepth 100000
set_option maxHeartbeats 16000000
namespace Go.Proofs.YtemighjbfanenaaGreatDoor
open RowKit
open Oc (Bs gj fJ aN le rU eZ dm)
open Cr (cn iy)
open Bool renaming or_eq_false_iff→yn
open Go.IntKind renaming wrap_u64→mH,u64→cL
open List renaming length_append→dz,getElem?_eq_some_iff→nY,length_pos_iff→vn
open Nat renaming le_refl→aL
open RowKit.Below renaming refl→aq
open Tryz renaming prog→af,underlying34→ey
theorem Pg{p:Prop}(h:p:=by
 go_wp2_with fail;refine ah (dD p d.size HS.o w x0) ?_;go_wp2_with fail;go_ret;exact⟨rfl,rfl⟩):p:=h
theorem dC{p:Prop}(h:p:=by simp[Oc.bM]):p:=h
theorem ij{p:Prop}(h:p:=by have:=HP.o;omega):p:=h
theorem DT{p:Prop}(h:p:=by simp only[Dk.bad,yn,decide_eq_false_iff_not] at hb;omega):p:=h
theorem Ak{p:Prop}(h:p:=by have:=jd.o;have:=P5.o.size;omega):p:=h
theorem Aj{p:Prop}(h:p:=by have:=jd.o;have:=P4.o.size;omega):p:=h
theorem py{p:Prop}(h:p:=by rw[mH];omega):p:=h
theorem rN{p:Prop}(h:p:=by have:=jd.o;omega):p:=h
theorem AG{p:Prop}(h:p:=by rw[hz2];omega):p:=h
section
namespace Oc
structure eL(w:World)(p:Nat)(bs:List UInt8): Prop where
 ex: ∃ A c,aD w p 150 #[.slice A bs.length c]∧Bs w A bs∧(A=none→bs= []∧c=0)∧bs.length≤c∧rU A∧(∀ g off,A=some ⟨g,off,none⟩→g≠p)
theorem eL.keep{w w':World}{p:Nat}{bs:List UInt8}(h:eL w p bs)(hb:Below w.heap.size w w'): eL w' p bs:=by
 obtain⟨A,c,h1,h2,h3⟩:=h.ex;exact⟨A,c,h1.keep hb,h2.keep hb,h3⟩
theorem eL.fresh(w:World): eL (w.alloc (.cells #[.slice none 0 0] 150)) w.heap.size []:=⟨none,0,aD.fresh _ _ _,Bs.nil _ _,fun _=>⟨rfl,rfl⟩,aL _,eZ,fun g off e=>pZ⟩
def iq(p:Nat)(bs:List UInt8)(w:World)(e:Ending)(w':World): Prop:=(∃ u,e= .returned u)∧eL w' p bs∧aG (· =p) w w'
theorem Yn(p:Nat)(bs cs:List UInt8)(ad:Addr)(d:Nat)(w:World)(h:eL w p bs)(hc:Bs w (some ad) cs)(hne:cs≠ [])(hl:bs.length+cs.length≤70000000):
  Calls af 236 #[.pointer (some ⟨p,0,none⟩),.slice (some ad) cs.length d] w (iq p (bs++cs) w):=by
 obtain⟨A,c,h1,h2,h3,h4,h5,h6⟩:=h.ex;have x0:w.cell? ⟨p,0,none⟩=some (.slice A bs.length c):=h1.cell 0;have m0:=h1.mark 0;have hpl:=h1.lt;have zB:0<cs.length:=vn.2 hne;have sk:(bs.length:Int)≤(c:Int):=ag;have H1:=aa h1;have H2:=aa h2;have H3:=aa h3;have H5:=aa h5;have H6:=aa h6;have HC:=aa hc;clear h h1 h2 h3 h5 h6 hc;go_enter Tryz.func236,Tryz.ntmps236;go_wp2_with fail;refine dN aW ?_;refine bc.any (S:=(fun w'=>w'.cell? ⟨p,0,none⟩=some (.slice A bs.length c))) (t:=20) _ _ _ _ ?_;have hHeld:=(show(fun w'=>w'.cell? ⟨p,0,none⟩=some (.slice A bs.length c)) w.drew from x0);refine tt 0 ?_;refine tt 1 ?_;refine tt 2 ?_;refine tt 3 ?_;refine tt 4 ?_;refine tt 5 ?_;refine tt 6 ?_;refine tt 7 ?_;refine tt 8 ?_;refine tt 9 ?_;refine tt 10 ?_;refine tt 11 ?_;refine tt 12 ?_;refine tt 13 ?_;refine tt 14 ?_;refine tt 15 ?_;refine tt 16 ?_;refine bc.step (i:=17) aW aW rfl (fun K hK=>?_);rw[if_pos iN];refine Oz _ (.tmp 21) (.tmp 22) rfl bs cs A bs.length bs.length rfl rfl (by rintro rfl;exact⟨by rw[(H3.o rfl).1];rfl,by rw[(H3.o rfl).1];rfl⟩) H2.o ad cs.length d rfl rfl HC.o ag ag ?_;intro g5 c5 w5 cJ dR RE CN;have x5:w5.cell? ⟨p,0,none⟩=some (.slice A bs.length c):=(RE.cell (p:=⟨p,0,none⟩) hpl).trans x0;have m5:=(RE.frozen (p:=⟨p,0,none⟩) hpl).trans m0;have jk:=aa cJ;have eQ:=aa dR;have Sm:=aa RE;have KJ:=aa CN;clear cJ dR RE CN;refine hK.out _ _ (by exact x5) (fun Gl=>?_);clear hK K;try simp only[aQ]
 refine tp 18 ?_;refine tt 19 ?_;refine bc.last aW ?_;refine kI 20 aW aW ?_;simp only[List.drop_succ_cons,List.drop_zero];go_wp2_with fail;have hb:Below w.heap.size w w5:=ar (ay (aq _ _)) Sm.o;have CO:aD w5 p 150 #[.slice A bs.length c]:=H1.o.keep hb;have cJ:=jk.o;have CN:=KJ.o;refine bodyPost_end (results_none Tryz.results236 _ _ _) rfl ⟨⟨_,rfl⟩,⟨some ⟨g5,0,none⟩,c5,by simpa using CO.put 0 (.slice (some ⟨g5,0,none⟩) (bs.length+cs.length) c5),?_,(fun e=>pZ),by simpa using CN,dm _ _,fun g off e=>?_⟩,?_⟩
 ·refine eQ.o.bs.cG (aG.at w5 p 0 _) fun g off e _ e2=>?_
  injection e with e;injection e with e
  have:w.heap.size≤g5:=cJ;omega
 ·injection e with e;injection e with e
  have:w.heap.size≤g5:=cJ;omega
 ·exact(aG.aU (S:=(· =p)) (show Below w.heap.size w w5 from hb)).B1 0 _
theorem vN(p k n:Nat)(bs:List UInt8)(w:World)(h:eL w p bs)(hk:1≤k∧k≤8)(hl:bs.length≤67108900)(hn:n<18446744073709551616):
  Calls af 133 #[.pointer (some ⟨p,0,none⟩),.int .u64 n,.int .i64 k] w (iq p (bs++le n k) w):=by
 obtain⟨i0,hi,hz0,hz1,hz2⟩:=info_parts dX;have HH:=aa h;have vV:(1:Int)≤(k:Int):=ag;have hk8:(k:Int)≤8:=ag;have hpl:p<w.heap.size:=by obtain⟨A,c,h1,_⟩:=h.ex;exact h1.lt
 clear h;go_enter Tryz.func133,Tryz.ntmps133;go_wp2_with (refine wpList_make_full _ rfl _ _ 34 rfl w.heap.size 5 i0 (.int .u8 0) 1 ey hi hz0 hz1 .i64 .i64 _ _ k rfl rfl rfl rfl AG iM (aL _) ?_;intro w5 bT cJ;have rj:=aa bT;have jk:=aa cJ;clear bT cJ);have dR:Below w.heap.size w w5:=Below.grown (aq _ _) jk.o (aL _) dA;obtain⟨gb,hgb⟩:=ae w.heap.size;have hrow: ∃ cs:Array Value,aD w5 gb 5 cs∧cs.size=k:=by
  rcases rj.o.2 with⟨h0,_⟩|⟨g',cap,cur,hv,hb,hh,RL,hcm,hcs,ht⟩
  ·cases h0
  injection hv with e1 _ e2
  injection e1 with e1
  injection e1 with e1
  subst e1 e2;rw[←hgb];exact⟨cur,hh,ag⟩
 have eQ:=aa dR;have rB:=aa hrow;have GH:=aa hgb;rw[hgb];clear dR hrow rj jk hgb;go_loopw [12] (fun i wr=>∃ (j:Nat) (cs:Array Value),j≤k∧i= .int .i64 j∧aD wr gb 5 cs∧cs.size=k∧(∀ (x:Nat) (u:Value),(aN (le n j))[x]? =some u→cs[x]? =some u)∧Below w.heap.size w wr) (fun i _=>(k - intOf i).toNat)
 case atStart=>
  obtain⟨cs,h1,h2⟩:=rB.o;exact⟨0,cs,ag,rfl,h1,h2,fun x u hu=>by simp[le,aN] at hu,eQ.o⟩
 case round=>
  obtain⟨j,cs,hj,rfl,hA,hcs,yY,hbw⟩:=hrel;have HA:=aa hA;have HIN:=aa yY;have HBW:=aa hbw;clear hA yY hbw;by_cases h:j<k
  ·have h':(j:Int)<(k:Int):=by omega
   have Ta:(0:Int)≤(j:Int):=ag;have x0:wr.cell? ⟨gb,j,none⟩=some cs[j]:=by rw[HA.o.cell j];exact Array.getElem?_eq_getElem ag
   have m0:=HA.o.mark j;have hby:=abo n j;have HBY:=aa hby;clear hby;go_wp2_with fail;go_roundw
   case rel=>
    refine⟨j+1,cs.setIfInBounds j (fJ (UInt8.ofNat (n / 256 ^ j))),ag,by go_num,?_,by simp[hcs],fun x u hu=>?_,?_⟩
    ·rw[HBY.o];exact HA.o.put j _
    ·rw[le,eh] at hu;rw[Array.getElem?_setIfInBounds];by_cases hxj:j=x
     ·subst hxj;rw[if_pos rfl,if_pos ag];rw[List.getElem?_append_right (by rw[bn,bM];exact aL _)] at hu;simpa[bn,bM,aN] using hu
     rw[if_neg hxj];have hx:=(nY.1 hu).1;rw[dz,bn,bn,bM] at hx;rw[List.getElem?_append_left (by rw[bn,bM];simp at hx;omega)] at hu;exact HIN.o x u hu
    exact eK HBW.o (show w.heap.size≤gb by have:=GH.o;omega) _
   case measure=>simp[intOf];omega
  have h': ¬(j:Int)<(k:Int):=ag;have hjk:j=k:=ag;subst hjk;go_wp2_with fail;have hB:Bs wr (some ⟨gb,0,none⟩) (le n j):=fun hne=>⟨gb,0,rfl,HA.o.lt,fun x u hu=>by rw[Nat.zero_add,HA.o.cell x];exact HIN.o x u hu⟩
  have af3:=Yn p bs (le n j) ⟨gb,0,none⟩ j wr (HH.o.keep HBW.o) hB (by intro e;have:=congrArg List.length e;rw[bM] at this;simp at this;omega) (by rw[bM];omega);rw[bM] at af3;refine af3.mono ?_;rintro en w6 ⟨⟨u,rfl⟩,h1,h2⟩;have lF:(∃ u',Ending.returned (.tuple #[])= .returned u')∧eL w6 p (bs++le n j)∧aG (· =p) w w6:=⟨⟨_,rfl⟩,h1,(aG.aU HBW.o).trans h2⟩;have HF:=aa lF;clear h1 h2 lF af3 hB;go_wp2_with fail;exact bodyPost_end (results_none Tryz.results133 _ _ _) rfl HF.o
theorem fS(p n:Nat)(bs:List UInt8)(w:World)(h:eL w p bs)(hl:bs.length≤67108900)(hn:n<256): Calls af 58 #[.pointer (some ⟨p,0,none⟩),.int .u8 n] w (iq p (bs++le n 1) w):=by
 have HN:=aa (vN p 1 n bs w h aM hl ag);have Xi:(0:Int)≤(n:Int):=ag;have pN:(n:Int)<256:=ag;have hw:cL.wrap (n:Int)=(n:Int):=py;clear h;go_enter Tryz.func58,Tryz.ntmps58;go_wp2_with fail;refine HN.o.mono ?_;rintro en w1 ⟨⟨u,rfl⟩,h2,h3⟩;have HF:=aa (show iq p (bs++le n 1) w (.returned (.tuple #[])) w1 from⟨⟨_,rfl⟩,h2,h3⟩);clear h2 h3;go_wp2_with fail;exact bodyPost_end (results_none Tryz.results58 _ _ _) rfl HF.o
theorem eV(p n:Nat)(bs:List UInt8)(w:World)(h:eL w p bs)(hl:bs.length≤67108900)(hn:n<65536): Calls af 139 #[.pointer (some ⟨p,0,none⟩),.int .u16 n] w (iq p (bs++le n 2) w):=by
 have HN:=aa (vN p 2 n bs w h aM hl ag);have Xi:(0:Int)≤(n:Int):=ag;have pN:(n:Int)<65536:=ag;have hw:cL.wrap (n:Int)=(n:Int):=py;clear h;go_enter Tryz.func139,Tryz.ntmps139;go_wp2_with fail;refine HN.o.mono ?_;rintro en w1 ⟨⟨u,rfl⟩,h2,h3⟩;have HF:=aa (show iq p (bs++le n 2) w (.returned (.tuple #[])) w1 from⟨⟨_,rfl⟩,h2,h3⟩);clear h2 h3;go_wp2_with fail;exact bodyPost_end (results_none Tryz.results139 _ _ _) rfl HF.o
theorem cY(p n:Nat)(bs:List UInt8)(w:World)(h:eL w p bs)(hl:bs.length≤67108900)(hn:n<4294967296): Calls af 59 #[.pointer (some ⟨p,0,none⟩),.int .u32 n] w (iq p (bs++le n 4) w):=by
 have HN:=aa (vN p 4 n bs w h aM hl ag);have Xi:(0:Int)≤(n:Int):=ag;have pN:(n:Int)<4294967296:=ag;have hw:cL.wrap (n:Int)=(n:Int):=py;clear h;go_enter Tryz.func59,Tryz.ntmps59;go_wp2_with fail;refine HN.o.mono ?_;rintro en w1 ⟨⟨u,rfl⟩,h2,h3⟩;have HF:=aa (show iq p (bs++le n 4) w (.returned (.tuple #[])) w1 from⟨⟨_,rfl⟩,h2,h3⟩);clear h2 h3;go_wp2_with fail;exact bodyPost_end (results_none Tryz.results59 _ _ _) rfl HF.o
theorem ej(p n:Nat)(bs:List UInt8)(w:World)(h:eL w p bs)(hl:bs.length≤67108900)(hn:n<18446744073709551616): Calls af 144 #[.pointer (some ⟨p,0,none⟩),.int .u64 n] w (iq p (bs++le n 8) w):=by
 have HN:=aa (vN p 8 n bs w h aM hl ag);have Xi:(0:Int)≤(n:Int):=ag;have pN:(n:Int)<18446744073709551616:=ag;have hw:cL.wrap (n:Int)=(n:Int):=py;clear h;go_enter Tryz.func144,Tryz.ntmps144;go_wp2_with fail;refine HN.o.mono ?_;rintro en w1 ⟨⟨u,rfl⟩,h2,h3⟩;have HF:=aa (show iq p (bs++le n 8) w (.returned (.tuple #[])) w1 from⟨⟨_,rfl⟩,h2,h3⟩);clear h2 h3;go_wp2_with fail;exact bodyPost_end (results_none Tryz.results144 _ _ _) rfl HF.o
theorem zE(p:Nat)(bs cs:List UInt8)(ad:Addr)(d:Nat)(w:World)(h:eL w p bs)(hc:Bs w (some ad) cs)(hne:cs≠ [])(hl:bs.length+cs.length≤70000000): Calls af 338 #[.pointer (some ⟨p,0,none⟩),.slice (some ad) cs.length d] w (iq p (bs++cs) w):=by
 have HN:=aa (Yn p bs cs ad d w h hc hne hl);clear h hc hne;go_enter Tryz.func338,Tryz.ntmps338;go_wp2_with fail;refine HN.o.mono ?_;rintro en w1 ⟨⟨u,rfl⟩,h2,h3⟩;have HF:=aa (show iq p (bs++cs) w (.returned (.tuple #[])) w1 from⟨⟨_,rfl⟩,h2,h3⟩);clear h2 h3;go_wp2_with fail;exact bodyPost_end (results_none Tryz.results338 _ _ _) rfl HF.o
theorem lQ(p:Nat)(bs:List UInt8)(w:World)(h:eL w p bs)(hl:bs.length≤70000000): Calls af 62 #[.pointer (some ⟨p,0,none⟩)] w (gj bs w):=by
 obtain⟨A,c,h1,h2,h3,h4,h5,h6⟩:=h.ex;have x0:w.cell? ⟨p,0,none⟩=some (.slice A bs.length c):=h1.cell 0;have HC:=aa (Cy bs A c w h2 h5 ag);clear h h1 h2 h3 h5 h6;go_enter Tryz.func62,Tryz.ntmps62;go_wp2_with fail;refine HC.o.mono ?_;rintro en w1 h1;obtain⟨B,d,rfl,h2⟩:=h1;have HF:=aa (show gj bs w (.returned (.slice B bs.length d)) w1 from⟨B,d,rfl,h2⟩);clear h2;go_wp2_with fail;go_ret;exact HF.o
end Oc
end
section
namespace Oc
def kQ(w:World)(g:Nat)(x:List UInt8)(c:Nat): Prop:=∃ cur,aD w g 5 cur∧cur.size=c∧∀ (j:Nat) (u:Value),(aN x)[j]? =some u→cur[j]? =some u
variable{w:World}{g c:Nat}{x:List UInt8}
theorem kQ.blk(h:kQ w g x c): eC w 5 g x:=by obtain⟨cur,h1,_,h3⟩:=h;exact⟨cur,h1,h3⟩
theorem kQ.lt(h:kQ w g x c): g<w.heap.size:=h.blk.lt
theorem kQ.same{w':World} (h:kQ w g x c)(hk:w'.heap[g]? =w.heap[g]?): kQ w' g x c:=Uk
theorem kQ.keep{w':World} (h:kQ w g x c)(hb:Below w.heap.size w w'): kQ w' g x c:=h.same (hb.block g h.lt)
theorem kQ.len(h:kQ w g x c): x.length≤c:=by
 obtain⟨cur,h1,h2,h3⟩:=h;rcases Nat.lt_or_ge c x.length with hl|hl
 ·exfalso;have h4:(aN x)[c]? =some (fJ (x[c]'hl)):=by simp[aN,hl]
  have:=(Array.getElem?_eq_some_iff.1 (h3 c _ h4)).1;omega
 exact hl
theorem aaw{base cap n:Nat} {bs:List UInt8}(h:w.ownsRow base 5 1 (.slice (some ⟨g,0,none⟩) n cap) n (aN bs))(hn:bs.length=n): kQ w g bs cap:=by
 rcases h.2 with⟨h0,_⟩|⟨g',cap',cur,hv,hb,hh,h1,h2,h3,h4⟩
 ·cases h0
 injection hv with e1 _ e2
 injection e1 with e1;injection e1 with e1
 subst e1 e2;refine⟨cur,hh,ag,fun j u hu=>?_⟩;have hj:=(nY.1 hu).1;rw[bn] at hj;rw[←hu,←h4,List.getElem?_take,if_pos ag,Array.getElem?_toList]
theorem TI(w:World){o:Oper}{a:Act}{K:Act→World→Prop}{Q:Exit→Act→World→Prop}(s x:Operand)
  (hop:o.op=Op.call {callee:=Callee.builtin Builtin.append,args:=#[s,x],argTypes:=#[34,34]}) (bs cs:List UInt8) (A:Option Addr) (n c:Nat) (hs:a.eval s= .slice A n c) (hn:n=bs.length) (hA:A=none→n=0∧c=0) (hB:Bs w A bs)
  (ad:Addr) (m cp:Nat) (hx:a.eval x= .slice (some ad) m cp) (hm:m=cs.length) (hC:Bs w (some ad) cs) (pP:c<n+m) (hl:n+m≤70368744177664)
  (hK: ∀ g J9 w',w.heap.size≤g→kQ w' g (bs++cs) J9→Below w.heap.size w w'→n+m≤J9→K (a.put o.dst (.slice (some ⟨g,0,none⟩) (n+m) J9)) w'):Oper.wp af o a w K Q:=by
 obtain⟨i0,hi,hz0,hz1,hz2⟩:=info_parts dX;subst hn hm;have b1:bs.length+cs.length≤maxLen:=iM;have b2:(bs.length+cs.length)*1≤140737488355328:=ag;have hnews:(aN cs).length=cs.length*1:=Fm;have hgo: ∃ v' w',(Builtin.append_ #[34,34] o.type #[.slice A bs.length c,.slice (some ad) cs.length cp]).run af w= .ok v' w'∧w'.ownsRow w.heap.size 5 1 v' (bs.length+cs.length) (aN bs++aN cs)∧w.grownBy w' none:=by
  cases A with
  | some b=>
   obtain⟨v',w',hrun,r1,r2⟩:=run_append_arg_grows (P:=af) w 34 o.type 5 i0 (.int .u8 0) 1 1 ey hi hz0 hz1 hz2 rfl aM b bs.length c (aN bs) Fm hB.read ad cs.length cp (aN cs) hnews hC.read pP b1 b2;exact⟨v',w',hrun,r1,r2⟩
  | none=>
   obtain⟨h0,rfl⟩:=hA rfl;obtain rfl:=List.eq_nil_of_length_eq_zero h0;obtain⟨v',w',hrun,r1,r2,_⟩:=run_append_own (P:=af) w w.heap.size 34 o.type 5 i0 (.int .u8 0) 1 1 ey hi hz0 hz1 hz2 rfl aM (.slice none 0 0) 0 [] (World.ownsRow_nil w _ 5 1) ad cs.length cp (aN cs) hnews hC.read (bO cs) (by simpa using b1) (by simpa using b2) (aL _);exact⟨v',w',hrun,r1,r2⟩
 obtain⟨v',w',hrun,ho,hgr⟩:=hgo;have hne:v'≠ .slice none 0 0:=by
  rintro rfl;rcases ho.2 with⟨_,h0⟩|⟨_,_,_,h0,_⟩
  ·omega
  cases h0
 obtain⟨g,cap,rfl⟩:=xJ ho hne;rw[←eh] at ho;obtain⟨_,h2,h3,_⟩:=mV ho (by rw[dz]);have h1:=aaw ho (by rw[dz]);exact adb
theorem EX(w:World){ops:Array Oper}{rest:List Oper}{o:Oper}{a:Act}{Q:Exit→Act→World→Prop}(hg:o.guard=none)(s x:Operand)
  (hop:o.op=Op.call {callee:=Callee.builtin Builtin.append,args:=#[s,x],argTypes:=#[34,34]}) (bs cs:List UInt8) (A:Option Addr) (n c:Nat) (hs:a.eval s= .slice A n c) (hn:n=bs.length) (hA:A=none→n=0∧c=0) (hB:Bs w A bs)
  (ad:Addr) (m cp:Nat) (hx:a.eval x= .slice (some ad) m cp) (hm:m=cs.length) (hC:Bs w (some ad) cs) (pP:c<n+m) (hl:n+m≤70368744177664)
  (hK: ∀ g J9 w',w.heap.size≤g→kQ w' g (bs++cs) J9→Below w.heap.size w w'→n+m≤J9→wpList af ops Q rest (a.put o.dst (.slice (some ⟨g,0,none⟩) (n+m) J9)) w'):wpList af ops Q (o::rest) a w:=
 wpList_plain hg fun _ hKK=>TI w s x hop bs cs A n c hs hn hA hB ad m cp hx hm hC pP hl fun g J9 w' a b c d=>hKK _ _ (hK g J9 w' a b c d)
def ET(w:World)(A:Option Addr)(x:List UInt8)(c:Nat): Prop:=(x= []∧c=0)∨(x≠ []∧∃ g,A=some ⟨g,0,none⟩∧kQ w g x c)
def ZR(bs:List UInt8)(w:World)(e:Ending)(w':World): Prop:=∃ A c,e= .returned (.slice A bs.length c)∧ET w' A bs c∧(bs≠ []→∀ g,A=some ⟨g,0,none⟩→w.heap.size≤g)∧Below w.heap.size w w'
theorem KO(bs:List UInt8)(g off c:Nat)(w:World)(hB:Bs w (some ⟨g,off,none⟩) bs)(hne:bs≠ [])(hl:bs.length≤70368744177664): Calls af 148 #[.slice (some ⟨g,off,none⟩) bs.length c] w (ZR bs w):=by
 have W7:0<bs.length:=vn.2 hne;have HB:=aa hB;have HN:=aa hne;have hq:=uH ⟨g,off,none⟩ bs.length c;clear hB hne;go_enter Tryz.func148,Tryz.ntmps148;go_wp2_with (refine EX _ rfl _ _ rfl [] bs (some ⟨w.heap.size,0,none⟩) 0 0 rfl rfl dA (Bs.nil _ _) ⟨g,off,none⟩ bs.length c rfl rfl (HB.o.keep (aw (aq _ _) _)) ag ag ?_;intro g5 c5 w5 cJ dR RE CN;have jk:=aa cJ;have eQ:=aa dR;have Sm:=aa RE;have KJ:=aa CN;clear cJ dR RE CN);go_ret;have h5:=jk.o;simp at h5;exact⟨some ⟨g5,0,none⟩,c5,dA,.inr ⟨HN.o,g5,rfl,eQ.o⟩,(fun _ g' e=>by injection e with e;injection e with e;omega),ar (aw (aq _ _) _) Sm.o⟩
theorem GU(A:Option Addr)(c:Nat)(w:World): Calls af 148 #[.slice A 0 c] w (ZR [] w):=by
 cases A with
 | none=>
  have hq:=FZ 0 c;go_enter Tryz.func148,Tryz.ntmps148;go_wp2_with fail;go_ret;exact⟨none,0,rfl,.inl ⟨rfl,rfl⟩,fun h=>absurd rfl h,aq _ _⟩
 | some ad=>
  have hq:=uH ad 0 c;go_enter Tryz.func148,Tryz.ntmps148;go_wp2_with fail;go_ret;exact⟨some ⟨w.heap.size,0,none⟩,0,rfl,.inl ⟨rfl,rfl⟩,fun h=>absurd rfl h,aw (aq _ _) _⟩
theorem SV(bs:List UInt8)(A:Option Addr)(c:Nat)(w:World)(hB:Bs w A bs)(hl:bs.length≤70368744177664): Calls af 148 #[.slice A bs.length c] w (ZR bs w):=by
 by_cases hne:bs= []
 ·subst hne;exact GU A c w
 obtain⟨g,off,rfl,_⟩:=hB hne;exact KO bs g off c w hB hne hl
end Oc
end
section
namespace Oc
theorem ET.len{w:World}{A:Option Addr}{x:List UInt8}{c:Nat}(h:ET w A x c): x.length≤c:=by
 rcases h with⟨rfl,_⟩|⟨_,g,_,h⟩
 ·exact Nat.zero_le _
 exact h.len
def Oa(bs:List UInt8)(w:World)(e:Ending)(w':World): Prop:=
 ∃ A c,e= .returned (.slice A bs.length c)∧(bs≠ []→∃ g,A=some ⟨g,0,none⟩∧w.heap.size≤g∧kQ w' g bs c)∧bs.length≤c∧True∧True∧Below w.heap.size w w'
theorem nR(p:Nat)(bs:List UInt8)(w:World)(h:eL w p bs)(hl:bs.length≤70000000): Calls af 62 #[.pointer (some ⟨p,0,none⟩)] w (Oa bs w):=by
 obtain⟨A,c,h1,h2,h3,h4,h5,h6⟩:=h.ex;have x0:w.cell? ⟨p,0,none⟩=some (.slice A bs.length c):=h1.cell 0;have HC:=aa (SV bs A c w h2 ag);clear h h1 h2 h3 h5 h6;go_enter Tryz.func62,Tryz.ntmps62;go_wp2_with fail;refine HC.o.mono ?_;rintro en w1 h1;obtain⟨B,d,rfl,h2,h3,h4⟩:=h1;have HF:=aa (show Oa bs w (.returned (.slice B bs.length d)) w1 from⟨B,d,rfl,fun hne=>by
  rcases h2 with⟨e,_⟩|⟨_,g,e,hc⟩
  ·exact absurd e hne
  exact⟨g,e,h3 hne g e,hc⟩,h2.len,trivial,trivial,h4⟩)
 clear h2 h3 h4;go_wp2_with fail;go_ret;exact HF.o
end Oc
end
section
namespace Oc
theorem KS(bs:List UInt8)(g off c:Nat)(w:World)(hB:Bs w (some ⟨g,off,none⟩) bs)(hne:bs≠ [])(hl:bs.length≤70368744177664): Calls af 229 #[.slice (some ⟨g,off,none⟩) bs.length c] w (gj bs w):=by
 have W7:0<bs.length:=vn.2 hne;have HB:=aa hB;have HN:=aa hne;have hq:=uH ⟨g,off,none⟩ bs.length c;clear hB hne;go_enter Tryz.func229,Tryz.ntmps229;exact adu
theorem KT(c:Nat)(w:World): Calls af 229 #[.slice none 0 c] w (gj [] w):=by
 have hq:=FZ 0 c;go_enter Tryz.func229,Tryz.ntmps229;exact Ws
theorem GW(g off c:Nat)(w:World): Calls af 229 #[.slice (some ⟨g,off,none⟩) 0 c] w (gj [] w):=by
 have hq:=uH ⟨g,off,none⟩ 0 c;go_enter Tryz.func229,Tryz.ntmps229;exact ac3
theorem yl(bs:List UInt8)(A:Option Addr)(c:Nat)(w:World)(hB:Bs w A bs)(hA:rU A)(hl:bs.length≤70368744177664): Calls af 229 #[.slice A bs.length c] w (gj bs w):=by
 by_cases hne:bs= []
 ·subst hne;cases A with
  | none=>exact KT c w
  | some ad=>obtain⟨g,off,rfl⟩:=hA ad rfl;exact GW g off c w
 obtain⟨g,off,rfl,_⟩:=hB hne;exact KS bs g off c w hB hne hl
end Oc
namespace En
structure ES where
 gd:Nat
 cd:Nat
 ad:Nat→Nat
 cp:Nat→Nat
 rv:Value
 mb:Nat
 mn:Nat
 wg:Nat→Nat
 wc:Nat→Nat
def fL: List (Nat × By)→Nat→Option Nat
 | [],_=>none
 | x::r,i=>match fL r i with
  | some j=>some (j+1)
  | none=>if x.1=i then some 0 else none
def n9(d:Dk)(q:ES)(i:Int): Option Value:=if i<0 then none else(fL d.row i.toNat).map fun j=>.slice (some ⟨q.wg j,0,none⟩) d.size (q.wc j)
def C8(d:Dk)(q:ES)(i:Nat): List Value:=[.int .i64 ((d.row.getD i (0,[])).1:Nat),.slice (some ⟨q.wg i,0,none⟩) d.size (q.wc i)]
def amB(d:Dk)(q:ES)(i:Nat): List Value:=[.slice (some ⟨q.ad i,0,none⟩) d.size (q.cp i)]
structure eY(S:Nat→Prop)(w:World)(p:Nat)(d:Dk)(q:ES): Prop where
 own:aD w p 331 #[.int .i64 d.size,.slice (some ⟨q.gd,0,none⟩) d.dr.length q.cd,q.rv,.map (some q.mb)]
 dr:aO S w 34 1 (.slice (some ⟨q.gd,0,none⟩) d.dr.length q.cd) d.dr.length (amB d q)
 each: ∀ i,i<d.dr.length→eC w 5 (q.ad i) (d.dr.getD i [])∧d.size≤q.cp i
 row:aO S w 338 2 q.rv d.row.length (C8 d q)
 aK: ∀ i,i<d.row.length→eC w 5 (q.wg i) (d.row.getD i (0,[])).2∧d.size≤q.wc i
 newest:fG af 3 .i64 w q.mb q.mn (n9 d q)
 ok:d.Ok
 bt:S p∧S q.mb∧(∀ i,i<d.dr.length→S (q.ad i))∧(∀ i,i<d.row.length→S (q.wg i))
 apart:(∀ i j,i<d.dr.length→j<d.dr.length→q.ad i=q.ad j→i=j)∧(∀ i j,i<d.dr.length→j<d.row.length→q.ad i≠q.wg j)
 lt: ∀ k,S k→k<w.heap.size
 X1:q.mn≤d.row.length
def ve(p:Nat)(d:Dk)(S:Nat→Prop)(w:World): Prop:=∃ q,eY S w p d q
theorem ma(p:Nat)(d:Dk): Loc (ve p d):=by
 refine⟨fun⟨q,h⟩=>h.lt,fun {S w w'} ⟨q,h⟩ hz hk=>⟨q,?_⟩,fun {S T w} ⟨q,h⟩ pY hT=>⟨q,?_⟩⟩
 ·have pX: ∀ k,S k→w'.heap[k]? =w.heap[k]?:=hk;exact⟨(pX p h.bt.1).trans h.own,h.dr.same fun g hg _=>pX g hg,fun i hi=>⟨(h.each i hi).1.same (pX _ (h.bt.2.2.1 i hi)),(h.each i hi).2⟩,h.row.same fun g hg _=>pX g hg,fun i hi=>⟨(h.aK i hi).1.same (pX _ (h.bt.2.2.2 i hi)),(h.aK i hi).2⟩,h.newest.same (pX _ h.bt.2.1),h.ok,h.bt,h.apart,fun k hk=>Nat.lt_of_lt_of_le (h.lt k hk) hz,h.X1⟩
 exact⟨h.own,h.dr.mono fun g hg _=>pY g hg,h.each,h.row.mono fun g hg _=>pY g hg,h.aK,h.newest,h.ok,⟨pY _ h.bt.1,pY _ h.bt.2.1,fun i hi=>pY _ (h.bt.2.2.1 i hi),fun i hi=>pY _ (h.bt.2.2.2 i hi)⟩,h.apart,hT,h.X1⟩
theorem dD(p s:Nat)(hs:1≤s)(w:World)(h:w.cell? ⟨p,0,none⟩=some (.int .i64 s)): Calls af 221 #[.pointer (some ⟨p,0,none⟩)] w fun e w'=>e= .returned (.bool true)∧w'=w:=by
 have hs':(0:Int)<(s:Int):=ag;go_enter Tryz.func221,Tryz.ntmps221;go_wp2_with fail;go_ret;exact⟨kF (a:=decide (0<s)) (decide_eq_true ag),rfl⟩
variable{p:Nat}{S:Nat→Prop}{w:World}
theorem B4{d:Dk}{q:ES}(h:eY S w p d q): Calls af 225 #[.pointer (some ⟨p,0,none⟩)] w fun e w'=>e= .returned (.int .i64 d.dr.length)∧w'=w:=by
 have x0:=h.own.cl 0;have x1:=h.own.cl 1;have HS:=aa h.ok.size.1;clear h;go_enter Tryz.func225,Tryz.ntmps225;exact Pg
theorem abE{d:Dk}{q:ES}(h:eY S w p d q): Calls af 233 #[.pointer (some ⟨p,0,none⟩)] w fun e w'=>e= .returned (.int .i64 d.size)∧w'=w:=by
 have x0:=h.own.cl 0;have HS:=aa h.ok.size.1;clear h;go_enter Tryz.func233,Tryz.ntmps233;exact Pg
theorem Jc{d:Dk}{q:ES}(h:eY S w p d q)(at_:Int)(hb:d.bad at_=true): Calls af 228 #[.pointer (some ⟨p,0,none⟩),.int .i64 at_] w fun e w'=>e= .returned (.int .i64 50)∧w'=w:=by
 have x0:=h.own.cl 0;have x1:=h.own.cl 1;have HS:=aa h.ok.size.1;have hc:at_<0∨0≤at_∧(d.dr.length:Int)≤at_:=by simp only[Dk.bad,Bool.or_eq_true,decide_eq_true_eq] at hb;omega
 clear h hb;rcases hc with c1|⟨c0,c1⟩
 all_goals
  go_enter Tryz.func228,Tryz.ntmps228;exact Pg
theorem zt{d:Dk}{q:ES}(h:eY S w p d q)(at_:Int)(hb:d.bad at_=false): Calls af 228 #[.pointer (some ⟨p,0,none⟩),.int .i64 at_] w fun e w'=>e= .returned (.int .i64 0)∧w'=w:=by
 have x0:=h.own.cl 0;have x1:=h.own.cl 1;have HS:=aa h.ok.size.1;have c0:0≤at_:=DT;have c1:at_<(d.dr.length:Int):=DT;clear h hb;go_enter Tryz.func228,Tryz.ntmps228;exact Pg
end En
end
section
namespace En
open Oc (eL iq)
theorem Cw(n:Nat)(h:n≤32)(w:World): Calls af 346 #[.int .i64 n] w fun e w'=>e= .returned (.int .i64 (22+n))∧w'=w:=by
 have h0: ¬(n:Int)<0:=ag;have h1: ¬(32:Int)<(n:Int):=ag;have h2:(n:Int)≤32:=ag;go_enter Tryz.func346,Tryz.ntmps346;go_wp2_with fail;go_ret;exact⟨rfl,rfl⟩
theorem ab7(bY seq:Nat)(body:By)(g off c:Nat)(w:World)(he:bY<18446744073709551616)(hs:seq<18446744073709551616)(hB:Bs w (some ⟨g,off,none⟩) body)(hne:body≠ [])(hl:body.length≤32)(ht:cn w):
  Calls af 306 #[.agg #[.int .u64 bY,.int .u64 seq,.slice (some ⟨g,off,none⟩) body.length c]] w fun e w'=>(∃ A c',e= .returned (.tuple #[.slice A (qx bY seq body).length c',.int .i64 0])∧Bs w' A (qx bY seq body))∧Below w.heap.size w w':=by
 have hl':(body.length:Int)≤32:=ag;have hn': ¬(32:Int)<(body.length:Int):=ag;have HB:=aa hB;have HN:=aa hne;have HT:=aa ht;clear hB hne ht;go_enter Tryz.func306,Tryz.ntmps306;go_wp2_with fail;have hw0:eL ((w.alloc (.cells #[.int .u64 bY,.int .u64 seq,.slice (some ⟨g,off,none⟩) body.length c] 375)).alloc (.cells #[.slice none 0 0] 150)) (w.heap.size+1) []:=by
  have:=Oc.eL.fresh (w.alloc (.cells #[.int .u64 bY,.int .u64 seq,.slice (some ⟨g,off,none⟩) body.length c] 375))
  rwa [World.size_alloc] at this
 have hb0:Below w.heap.size w ((w.alloc (.cells #[.int .u64 bY,.int .u64 seq,.slice (some ⟨g,off,none⟩) body.length c] 375)).alloc (.cells #[.slice none 0 0] 150)):=aw (aw (aq _ _) _) _;have ha0:aD ((w.alloc (.cells #[.int .u64 bY,.int .u64 seq,.slice (some ⟨g,off,none⟩) body.length c] 375)).alloc (.cells #[.slice none 0 0] 150)) w.heap.size 375 #[.int .u64 bY,.int .u64 seq,.slice (some ⟨g,off,none⟩) body.length c]:=(aD.fresh w _ _).alloc _;obtain⟨w1,aX⟩:=ae (((w.alloc (.cells #[.int .u64 bY,.int .u64 seq,.slice (some ⟨g,off,none⟩) body.length c] 375)).alloc (.cells #[.slice none 0 0] 150)));rw[aX] at hw0 hb0 ha0 ⊢;obtain⟨p,hp⟩:=ae (w.heap.size+1);rw[hp] at hw0 ⊢;have XO:=HB.o.keep hb0;have xN:g<w.heap.size:=by obtain⟨g',o',e,h1,_⟩:=HB.o HN.o;injection e with e;injection e with e;omega
 have HGP:=aa (show g<p from ag);obtain⟨b,hb⟩:=ae w.heap.size;rw[hb] at ha0 ⊢;have x0:=ha0.cl 0;have x1:=ha0.cl 1;have x2:=ha0.cl 2;have jd:=aa ha0.lt;have HP:=aa (show b+1=p from ag);have bu:=aa XO;have Y7:=aa hw0;have Iv:=aa hb0;have Lj:=aa hb;have HE:=aa he;have HS:=aa hs;clear hw0 hb0 ha0 XO aX hp xN hb he hs HB;refine(Oc.eV p body.length [] w1 Y7.o dA ag).mono ?_;rintro en w2 ⟨⟨u,rfl⟩,Jv,qW⟩;have IB:w2.cell? ⟨b,0,none⟩=some (.int .u64 bY):=(qW.cells rN ij 0).trans x0;have Iz:w2.cell? ⟨b,1,none⟩=some (.int .u64 seq):=(qW.cells rN ij 1).trans x1;have Ix:w2.cell? ⟨b,2,none⟩=some (.slice (some ⟨g,off,none⟩) body.length c):=(qW.cells rN ij 2).trans x2;have P5:=aa (qW);have Y6:=aa Jv;clear Jv qW x0 x1 x2;go_wp2_with fail;refine(Oc.ej p bY _ w2 Y6.o dC HE.o).mono ?_;rintro en w3 ⟨⟨u,rfl⟩,Ju,qV⟩;have IA:w3.cell? ⟨b,0,none⟩=some (.int .u64 bY):=(qV.cells Ak ij 0).trans IB;have Iy:w3.cell? ⟨b,1,none⟩=some (.int .u64 seq):=(qV.cells Ak ij 1).trans Iz;have Iw:w3.cell? ⟨b,2,none⟩=some (.slice (some ⟨g,off,none⟩) body.length c):=(qV.cells Ak ij 2).trans Ix;have P4:=aa (P5.o.trans qV);have Y5:=aa Ju;clear Ju qV IB Iz Ix;go_wp2_with fail;refine(Oc.ej p seq _ w3 Y5.o dC HS.o).mono ?_;rintro en w4 ⟨⟨u,rfl⟩,Jt,qU⟩;have TD:w4.cell? ⟨b,0,none⟩=some (.int .u64 bY):=(qU.cells Aj ij 0).trans IA;have TC:w4.cell? ⟨b,1,none⟩=some (.int .u64 seq):=(qU.cells Aj ij 1).trans Iy;have TB:w4.cell? ⟨b,2,none⟩=some (.slice (some ⟨g,off,none⟩) body.length c):=(qU.cells Aj ij 2).trans Iw;have KF:=aa (P4.o.trans qU);have Y4:=aa Jt;clear Jt qU IA Iy Iw;go_wp2_with fail;have hb4:Bs w4 (some ⟨g,off,none⟩) body:=(bu.o).cG KF.o fun g' o' e _ e2=>by injection e with e;injection e with e;have:=HGP.o;omega
 refine(Oc.zE p _ body ⟨g,off,none⟩ c w4 Y4.o hb4 HN.o (by simp[Oc.bM];omega)).mono ?_;rintro en w5 ⟨⟨u,rfl⟩,Js,vS⟩;have P3:=aa (KF.o.trans vS);have Y3:=aa Js;clear Js vS;go_wp2_with fail;have jK:eL w5 p (nt bY seq body):=Y3.o;have hh:(nt bY seq body).length=18+body.length:=by simp[nt,Oc.bM];omega
 have Bu:cn w5:=(HT.o.keep Iv.o).cG P3.o (fun e=>by have:=HT.o.lt;have:=HP.o;have:=Lj.o;omega);refine(Oc.lQ p _ w5 jK ag).mono ?_;rintro en w5b ⟨A5,c5,rfl,fY,_,_,_,dR⟩;have o6:=aa (Oc.gj.bs (w:=w5) fY);have Sn:=aa (jK.keep dR);have pg:=aa (Bu.keep dR);have eQ:=aa dR;have HL5:=aa hh;clear jK Bu fY dR hh;go_wp2_with fail;refine ah (Cr.qy _ A5 c5 w5b o6.o pg.o (by have:=HL5.o;omega)) ?_;have Y2:=Sn;obtain⟨w5c,ah0⟩:=ae w5b;rw[ah0] at Y2 eQ pg o6 ⊢;clear Sn ah0;go_wp2_with fail;refine(Oc.cY p _ _ w5c Y2.o (by have:=HL5.o;omega) (Cr.Nq 0 _ aM)).mono ?_;rintro en w6 ⟨⟨u,rfl⟩,Jr,Jy⟩;have KE:=aa (Jy);have Y1:=aa Jr;clear Jr Jy;go_wp2_with fail;have mM:eL w6 p (qx bY seq body):=Y1.o;refine(Oc.lQ p _ w6 mM (by rw[qw];omega)).mono ?_;rintro en w7 ⟨A7,c7,rfl,Ik,_,_,_,pc⟩;have zh:=aa (Oc.gj.bs (w:=w6) Ik);obtain⟨n7,hn7⟩:=ae ((qx bY seq body).length);rw[hn7];have HN7:=aa hn7;clear mM hn7;have wH:Below w.heap.size w w7:=by
  have h1:aG (· =p) w1 w7:=(((P3.o.ai eQ.o).trans KE.o).ai pc);exact h1.fresh Iv.o (fun k e=>by have:=HP.o;have:=Lj.o;omega)
 have jl:=aa wH;clear Ik pc wH;go_wp2_with fail;go_ret2;exact⟨⟨A7,c7,by rw[HN7.o];rfl,zh.o⟩,jl.o⟩
