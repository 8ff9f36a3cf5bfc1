import Derived.Test.YtemighjbfanenaaGreatDoorQk3
import Derived.StillTailTactics
set_option linter.all false
set_option maxRecDepth 100000
set_option maxHeartbeats 16000000
namespace Go.Proofs.YtemighjbfanenaaGreatDoor
open RowKit
open Oc (Bs gl fG aO le qV eT cM)
open Cr (cj ij)
open Bool renaming or_eq_false_iff→ym
open Go.IntKind renaming wrap_u64→lN,u64→cU
open Go.Proofs.Tryz renaming prog→af,underlying34→fM
open List renaming length_pos_iff→vd,getElem?_eq_some_iff→iX,length_append→bZ
open Nat renaming le_refl→aY
open RowKit.Below renaming refl→ar
theorem II{p:Prop}(h:p:=by
 go_wp2_with fail;refine ag (cY p d.size HS.o w x0) ?_;go_wp2_with fail;go_ret;exact⟨rfl,rfl⟩):p:=h
theorem fI{p:Prop}(h:p:=by simp[Oc.bG]):p:=h
theorem hZ{p:Prop}(h:p:=by have:=HP.o;omega):p:=h
theorem Dq{p:Prop}(h:p:=by simp only[Dk.bad,ym,decide_eq_false_iff_not] at hb;omega):p:=h
theorem Af{p:Prop}(h:p:=by have:=i'.o;have:=Pd.o.size;omega):p:=h
theorem Ae{p:Prop}(h:p:=by have:=i'.o;have:=Pc.o.size;omega):p:=h
theorem ow{p:Prop}(h:p:=by rw[lN];omega):p:=h
theorem rQ{p:Prop}(h:p:=by have:=i'.o;omega):p:=h
theorem Az{p:Prop}(h:p:=by rw[hz2];omega):p:=h
section
namespace Oc
structure eF(w:World)(p:Nat)(bs:List UInt8): Prop where
 ex: ∃ A c,aG w p 150 #[.slice A bs.length c]∧Bs w A bs∧(A=none→bs= []∧c=0)∧bs.length≤c∧qV A∧(∀ g off,A=some ⟨g,off,none⟩→g≠p)
theorem eF.ah{w w':World}{p:Nat}{bs:List UInt8}(h:eF w p bs)(hb:Below w.heap.size w w'): eF w' p bs:=by
 obtain⟨A,c,h1,h2,h3⟩:=h.ex;exact⟨A,c,h1.ah hb,h2.ah hb,h3⟩
theorem eF.fresh(w:World): eF (w.alloc (.cells #[.slice none 0 0] 150)) w.heap.size []:=⟨none,0,aG.fresh _ _ _,Bs.nil _ _,fun _=>⟨rfl,rfl⟩,aY _,eT,fun g off e=>nA⟩
def ib(p:Nat)(bs:List UInt8)(w:World)(e:Ending)(w':World): Prop:=(∃ u,e= .returned u)∧eF w' p bs∧aI (· =p) w w'
theorem Xd(p:Nat)(bs cs:List UInt8)(ad:Addr)(d:Nat)(w:World)(h:eF w p bs)(hc:Bs w (some ad) cs)(hne:cs≠ [])(hl:bs.length+cs.length≤70000000):
  Calls af 236 #[.pointer (some ⟨p,0,none⟩),.slice (some ad) cs.length d] w (ib p (bs++cs) w):=by
 obtain⟨A,c,h1,h2,h3,h4,h5,h6⟩:=h.ex;have x0:w.cell? ⟨p,0,none⟩=some (.slice A bs.length c):=h1.cell 0;have m0:=h1.mark 0;have hpl:=h1.lt;have C9:0<cs.length:=vd.2 hne;have sr:(bs.length:Int)≤(c:Int):=ai;have H1:=aa h1;have H2:=aa h2;have H3:=aa h3;have H5:=aa h5;have H6:=aa h6;have HC:=aa hc;clear h h1 h2 h3 h5 h6 hc;go_enter Tryz.func236,Tryz.ntmps236;go_wp2_with fail;refine dL bh ?_;refine bm.any (S:=(fun w'=>w'.cell? ⟨p,0,none⟩=some (.slice A bs.length c))) (t:=20) _ _ _ _ ?_;have hHeld:=(show(fun w'=>w'.cell? ⟨p,0,none⟩=some (.slice A bs.length c)) w.drew from x0);refine tt 0 ?_;refine tt 1 ?_;refine tt 2 ?_;refine tt 3 ?_;refine tt 4 ?_;refine tt 5 ?_;refine tt 6 ?_;refine tt 7 ?_;refine tt 8 ?_;refine tt 9 ?_;refine tt 10 ?_;refine tt 11 ?_;refine tt 12 ?_;refine tt 13 ?_;refine tt 14 ?_;refine tt 15 ?_;refine tt 16 ?_;refine bm.step (i:=17) bh bh rfl (fun K hK=>?_);rw[if_pos iI];refine Ny _ (.tmp 21) (.tmp 22) rfl bs cs A bs.length bs.length rfl rfl (by rintro rfl;exact⟨by rw[(H3.o rfl).1];rfl,by rw[(H3.o rfl).1];rfl⟩) H2.o ad cs.length d rfl rfl HC.o ai ai ?_;intro g5 c5 w5 fF dU YW FM;have x5:w5.cell? ⟨p,0,none⟩=some (.slice A bs.length c):=(YW.cell (p:=⟨p,0,none⟩) hpl).trans x0;have m5:=(YW.frozen (p:=⟨p,0,none⟩) hpl).trans m0;have p3:=aa fF;have eu:=aa dU;have XR:=aa YW;have M3:=aa FM;clear fF dU YW FM;refine hK.out _ _ (by exact x5) (fun FR=>?_);clear hK K;try simp only[aZ]
 refine tp 18 ?_;refine tt 19 ?_;refine bm.last bh ?_;refine kD 20 bh bh ?_;simp only[List.drop_succ_cons,List.drop_zero];go_wp2_with fail;have hb:Below w.heap.size w w5:=av (az (ar _ _)) XR.o;have CD:aG w5 p 150 #[.slice A bs.length c]:=H1.o.ah hb;have fF:=p3.o;have FM:=M3.o;refine bodyPost_end (results_none Tryz.results236 _ _ _) rfl ⟨⟨_,rfl⟩,⟨some ⟨g5,0,none⟩,c5,by simpa using CD.put 0 (.slice (some ⟨g5,0,none⟩) (bs.length+cs.length) c5),?_,(fun e=>nA),by simpa using FM,cM _ _,fun g off e=>?_⟩,?_⟩
 ·refine eu.o.bs.cR (aI.at w5 p 0 _) fun g off e _ e2=>?_
  injection e with e;injection e with e
  have:w.heap.size≤g5:=fF;omega
 ·injection e with e;injection e with e
  have:w.heap.size≤g5:=fF;omega
 ·exact(aI.aW (S:=(· =p)) (show Below w.heap.size w w5 from hb)).BQ 0 _
theorem vJ(p k n:Nat)(bs:List UInt8)(w:World)(h:eF w p bs)(hk:1≤k∧k≤8)(hl:bs.length≤67108900)(hn:n<18446744073709551616):
  Calls af 133 #[.pointer (some ⟨p,0,none⟩),.int .u64 n,.int .i64 k] w (ib p (bs++le n k) w):=by
 obtain⟨i0,hi,hz0,hz1,hz2⟩:=info_parts e8;have HH:=aa h;have yF:(1:Int)≤(k:Int):=ai;have hk8:(k:Int)≤8:=ai;have hpl:p<w.heap.size:=by obtain⟨A,c,h1,_⟩:=h.ex;exact h1.lt
 clear h;go_enter Tryz.func133,Tryz.ntmps133;go_wp2_with (refine wpList_make_full _ rfl _ _ 34 rfl w.heap.size 5 i0 (.int .u8 0) 1 fM hi hz0 hz1 .i64 .i64 _ _ k rfl rfl rfl rfl Az jR (aY _) ?_;intro w5 kA fF;have um:=aa kA;have p3:=aa fF;clear kA fF);have dU:Below w.heap.size w w5:=Below.grown (ar _ _) p3.o (aY _) dM;obtain⟨gb,hgb⟩:=ae w.heap.size;have hrow: ∃ cs:Array Value,aG w5 gb 5 cs∧cs.size=k:=by
  rcases um.o.2 with⟨h0,_⟩|⟨g',cap,cur,hv,hb,hh,hnc,hcm,hcs,ht⟩
  ·cases h0
  injection hv with e1 _ e2
  injection e1 with e1
  injection e1 with e1
  subst e1 e2;rw[←hgb];exact⟨cur,hh,ai⟩
 have eu:=aa dU;have rG:=aa hrow;have Sd:=aa hgb;rw[hgb];clear dU hrow um p3 hgb;go_loopw [12] (fun i wr=>∃ (j:Nat) (cs:Array Value),j≤k∧i= .int .i64 j∧aG wr gb 5 cs∧cs.size=k∧(∀ (x:Nat) (u:Value),(aO (le n j))[x]? =some u→cs[x]? =some u)∧Below w.heap.size w wr) (fun i _=>(k - intOf i).toNat)
 case atStart=>
  obtain⟨cs,h1,h2⟩:=rG.o;exact⟨0,cs,ai,rfl,h1,h2,fun x u hu=>by simp[le,aO] at hu,eu.o⟩
 case round=>
  obtain⟨j,cs,hj,rfl,hA,hcs,zy,hbw⟩:=hrel;have HA:=aa hA;have HIN:=aa zy;have iK:=aa hbw;clear hA zy hbw;by_cases h:j<k
  ·have h':(j:Int)<(k:Int):=by omega
   have OI:(0:Int)≤(j:Int):=ai;have x0:wr.cell? ⟨gb,j,none⟩=some cs[j]:=by rw[HA.o.cell j];exact Array.getElem?_eq_getElem ai
   have m0:=HA.o.mark j;have hby:=aaA n j;have HBY:=aa hby;clear hby;go_wp2_with fail;go_roundw
   case rel=>
    refine⟨j+1,cs.setIfInBounds j (fG (UInt8.ofNat (n / 256 ^ j))),ai,by go_num,?_,by simp[hcs],fun x u hu=>?_,?_⟩
    ·rw[HBY.o];exact HA.o.put j _
    ·rw[le,dX] at hu;rw[Array.getElem?_setIfInBounds];by_cases hxj:j=x
     ·subst hxj;rw[if_pos rfl,if_pos ai];rw[List.getElem?_append_right (by rw[bu,bG];exact aY _)] at hu;simpa[bu,bG,aO] using hu
     rw[if_neg hxj];have hx:=(iX.1 hu).1;rw[bZ,bu,bu,bG] at hx;rw[List.getElem?_append_left (by rw[bu,bG];simp at hx;omega)] at hu;exact HIN.o x u hu
    exact eD iK.o (show w.heap.size≤gb by have:=Sd.o;omega) _
   case measure=>simp[intOf];omega
  have h': ¬(j:Int)<(k:Int):=ai;have hjk:j=k:=ai;subst hjk;go_wp2_with fail;have hB:Bs wr (some ⟨gb,0,none⟩) (le n j):=fun hne=>⟨gb,0,rfl,HA.o.lt,fun x u hu=>by rw[Nat.zero_add,HA.o.cell x];exact HIN.o x u hu⟩
  have aeX:=Xd p bs (le n j) ⟨gb,0,none⟩ j wr (HH.o.ah iK.o) hB (by intro e;have:=congrArg List.length e;rw[bG] at this;simp at this;omega) (by rw[bG];omega);rw[bG] at aeX;refine aeX.mono ?_;rintro en w6 ⟨⟨u,rfl⟩,h1,h2⟩;have lH:(∃ u',Ending.returned (.tuple #[])= .returned u')∧eF w6 p (bs++le n j)∧aI (· =p) w w6:=⟨⟨_,rfl⟩,h1,(aI.aW iK.o).trans h2⟩;have HF:=aa lH;clear h1 h2 lH aeX hB;go_wp2_with fail;exact bodyPost_end (results_none Tryz.results133 _ _ _) rfl HF.o
theorem fS(p n:Nat)(bs:List UInt8)(w:World)(h:eF w p bs)(hl:bs.length≤67108900)(hn:n<256): Calls af 58 #[.pointer (some ⟨p,0,none⟩),.int .u8 n] w (ib p (bs++le n 1) w):=by
 have HN:=aa (vJ p 1 n bs w h aM hl ai);have VY:(0:Int)≤(n:Int):=ai;have sZ:(n:Int)<256:=ai;have hw:cU.wrap (n:Int)=(n:Int):=ow;clear h;go_enter Tryz.func58,Tryz.ntmps58;go_wp2_with fail;refine HN.o.mono ?_;rintro en w1 ⟨⟨u,rfl⟩,h2,h3⟩;have HF:=aa (show ib p (bs++le n 1) w (.returned (.tuple #[])) w1 from⟨⟨_,rfl⟩,h2,h3⟩);clear h2 h3;go_wp2_with fail;exact bodyPost_end (results_none Tryz.results58 _ _ _) rfl HF.o
theorem eO(p n:Nat)(bs:List UInt8)(w:World)(h:eF w p bs)(hl:bs.length≤67108900)(hn:n<65536): Calls af 139 #[.pointer (some ⟨p,0,none⟩),.int .u16 n] w (ib p (bs++le n 2) w):=by
 have HN:=aa (vJ p 2 n bs w h aM hl ai);have VY:(0:Int)≤(n:Int):=ai;have sZ:(n:Int)<65536:=ai;have hw:cU.wrap (n:Int)=(n:Int):=ow;clear h;go_enter Tryz.func139,Tryz.ntmps139;go_wp2_with fail;refine HN.o.mono ?_;rintro en w1 ⟨⟨u,rfl⟩,h2,h3⟩;have HF:=aa (show ib p (bs++le n 2) w (.returned (.tuple #[])) w1 from⟨⟨_,rfl⟩,h2,h3⟩);clear h2 h3;go_wp2_with fail;exact bodyPost_end (results_none Tryz.results139 _ _ _) rfl HF.o
theorem df(p n:Nat)(bs:List UInt8)(w:World)(h:eF w p bs)(hl:bs.length≤67108900)(hn:n<4294967296): Calls af 59 #[.pointer (some ⟨p,0,none⟩),.int .u32 n] w (ib p (bs++le n 4) w):=by
 have HN:=aa (vJ p 4 n bs w h aM hl ai);have VY:(0:Int)≤(n:Int):=ai;have sZ:(n:Int)<4294967296:=ai;have hw:cU.wrap (n:Int)=(n:Int):=ow;clear h;go_enter Tryz.func59,Tryz.ntmps59;go_wp2_with fail;refine HN.o.mono ?_;rintro en w1 ⟨⟨u,rfl⟩,h2,h3⟩;have HF:=aa (show ib p (bs++le n 4) w (.returned (.tuple #[])) w1 from⟨⟨_,rfl⟩,h2,h3⟩);clear h2 h3;go_wp2_with fail;exact bodyPost_end (results_none Tryz.results59 _ _ _) rfl HF.o
theorem ed(p n:Nat)(bs:List UInt8)(w:World)(h:eF w p bs)(hl:bs.length≤67108900)(hn:n<18446744073709551616): Calls af 144 #[.pointer (some ⟨p,0,none⟩),.int .u64 n] w (ib p (bs++le n 8) w):=by
 have HN:=aa (vJ p 8 n bs w h aM hl ai);have VY:(0:Int)≤(n:Int):=ai;have sZ:(n:Int)<18446744073709551616:=ai;have hw:cU.wrap (n:Int)=(n:Int):=ow;clear h;go_enter Tryz.func144,Tryz.ntmps144;go_wp2_with fail;refine HN.o.mono ?_;rintro en w1 ⟨⟨u,rfl⟩,h2,h3⟩;have HF:=aa (show ib p (bs++le n 8) w (.returned (.tuple #[])) w1 from⟨⟨_,rfl⟩,h2,h3⟩);clear h2 h3;go_wp2_with fail;exact bodyPost_end (results_none Tryz.results144 _ _ _) rfl HF.o
theorem zB(p:Nat)(bs cs:List UInt8)(ad:Addr)(d:Nat)(w:World)(h:eF w p bs)(hc:Bs w (some ad) cs)(hne:cs≠ [])(hl:bs.length+cs.length≤70000000): Calls af 338 #[.pointer (some ⟨p,0,none⟩),.slice (some ad) cs.length d] w (ib p (bs++cs) w):=by
 have HN:=aa (Xd p bs cs ad d w h hc hne hl);clear h hc hne;go_enter Tryz.func338,Tryz.ntmps338;go_wp2_with fail;refine HN.o.mono ?_;rintro en w1 ⟨⟨u,rfl⟩,h2,h3⟩;have HF:=aa (show ib p (bs++cs) w (.returned (.tuple #[])) w1 from⟨⟨_,rfl⟩,h2,h3⟩);clear h2 h3;go_wp2_with fail;exact bodyPost_end (results_none Tryz.results338 _ _ _) rfl HF.o
theorem lV(p:Nat)(bs:List UInt8)(w:World)(h:eF w p bs)(hl:bs.length≤70000000): Calls af 62 #[.pointer (some ⟨p,0,none⟩)] w (gl bs w):=by
 obtain⟨A,c,h1,h2,h3,h4,h5,h6⟩:=h.ex;have x0:w.cell? ⟨p,0,none⟩=some (.slice A bs.length c):=h1.cell 0;have HC:=aa (Cl bs A c w h2 h5 ai);clear h h1 h2 h3 h5 h6;go_enter Tryz.func62,Tryz.ntmps62;go_wp2_with fail;refine HC.o.mono ?_;rintro en w1 h1;obtain⟨B,d,rfl,h2⟩:=h1;have HF:=aa (show gl bs w (.returned (.slice B bs.length d)) w1 from⟨B,d,rfl,h2⟩);clear h2;go_wp2_with fail;go_ret;exact HF.o
end Oc
end
section
namespace Oc
def mL(w:World)(g:Nat)(x:List UInt8)(c:Nat): Prop:=∃ cur,aG w g 5 cur∧cur.size=c∧∀ (j:Nat) (u:Value),(aO x)[j]? =some u→cur[j]? =some u
variable{w w':World}{g c:Nat}{x:List UInt8}
theorem mL.blk(h:mL w g x c): jO w 5 g x:=by obtain⟨cur,h1,_,h3⟩:=h;exact⟨cur,h1,h3⟩
theorem mL.lt(h:mL w g x c): g<w.heap.size:=h.blk.lt
theorem mL.same(h:mL w g x c)(hk:w'.heap[g]? =w.heap[g]?): mL w' g x c:=Ta
theorem mL.ah(h:mL w g x c)(hb:Below w.heap.size w w'): mL w' g x c:=h.same (hb.block g h.lt)
theorem mL.len(h:mL w g x c): x.length≤c:=by
 obtain⟨cur,h1,h2,h3⟩:=h;rcases Nat.lt_or_ge c x.length with hl|hl
 ·exfalso;have h4:(aO x)[c]? =some (fG (x[c]'hl)):=by simp[aO,hl]
  have:=(Array.getElem?_eq_some_iff.1 (h3 c _ h4)).1;omega
 exact hl
theorem ZL{base cap n:Nat} {bs:List UInt8}(h:w.ownsRow base 5 1 (.slice (some ⟨g,0,none⟩) n cap) n (aO bs))(hn:bs.length=n): mL w g bs cap:=by
 rcases h.2 with⟨h0,_⟩|⟨g',cap',cur,hv,hb,hh,h1,h2,h3,h4⟩
 ·cases h0
 injection hv with e1 _ e2
 injection e1 with e1;injection e1 with e1
 subst e1 e2;refine⟨cur,hh,ai,fun j u hu=>?_⟩;have hj:=(iX.1 hu).1;rw[bu] at hj;rw[←hu,←h4,List.getElem?_take,if_pos ai,Array.getElem?_toList]
theorem Sx(w:World){o:Oper}{a:Act}{K:Act→World→Prop}{Q:Exit→Act→World→Prop}(s x:Operand)
  (hop:o.op=Op.call {callee:=Callee.builtin Builtin.append,args:=#[s,x],argTypes:=#[34,34]}) (bs cs:List UInt8) (A:Option Addr) (n c:Nat) (hs:a.eval s= .slice A n c) (hn:n=bs.length) (hA:A=none→n=0∧c=0) (hB:Bs w A bs)
  (ad:Addr) (m cp:Nat) (hx:a.eval x= .slice (some ad) m cp) (hm:m=cs.length) (hC:Bs w (some ad) cs) (kf:c<n+m) (hl:n+m≤70368744177664)
  (hK: ∀ g JE w',w.heap.size≤g→mL w' g (bs++cs) JE→Below w.heap.size w w'→n+m≤JE→K (a.put o.dst (.slice (some ⟨g,0,none⟩) (n+m) JE)) w'):Oper.wp af o a w K Q:=by
 obtain⟨i0,hi,hz0,hz1,hz2⟩:=info_parts e8;subst hn hm;have b1:bs.length+cs.length≤maxLen:=jR;have b2:(bs.length+cs.length)*1≤140737488355328:=ai;have hnews:(aO cs).length=cs.length*1:=EO;have hgo: ∃ v' w',(Builtin.append_ #[34,34] o.type #[.slice A bs.length c,.slice (some ad) cs.length cp]).run af w= .ok v' w'∧w'.ownsRow w.heap.size 5 1 v' (bs.length+cs.length) (aO bs++aO cs)∧w.grownBy w' none:=by
  cases A with
  | some b=>
   obtain⟨v',w',hrun,r1,r2⟩:=run_append_arg_grows (P:=af) w 34 o.type 5 i0 (.int .u8 0) 1 1 fM hi hz0 hz1 hz2 rfl aM b bs.length c (aO bs) EO hB.read ad cs.length cp (aO cs) hnews hC.read kf b1 b2;exact⟨v',w',hrun,r1,r2⟩
  | none=>
   obtain⟨h0,rfl⟩:=hA rfl;obtain rfl:=List.eq_nil_of_length_eq_zero h0;obtain⟨v',w',hrun,r1,r2,_⟩:=run_append_own (P:=af) w w.heap.size 34 o.type 5 i0 (.int .u8 0) 1 1 fM hi hz0 hz1 hz2 rfl aM (.slice none 0 0) 0 [] (World.ownsRow_nil w _ 5 1) ad cs.length cp (aO cs) hnews hC.read (bO cs) (by simpa using b1) (by simpa using b2) (aY _);exact⟨v',w',hrun,r1,r2⟩
 obtain⟨v',w',hrun,ho,hgr⟩:=hgo;have hne:v'≠ .slice none 0 0:=by
  rintro rfl;rcases ho.2 with⟨_,h0⟩|⟨_,_,_,h0,_⟩
  ·omega
  cases h0
 obtain⟨g,cap,rfl⟩:=xL ho hne;rw[←dX] at ho;obtain⟨_,h2,h3,_⟩:=mW ho (by rw[bZ]);have h1:=ZL ho (by rw[bZ]);exact acf
theorem Nx(w:World){ops:Array Oper}{rest:List Oper}{o:Oper}{a:Act}{Q:Exit→Act→World→Prop}(hg:o.guard=none)(s x:Operand)
  (hop:o.op=Op.call {callee:=Callee.builtin Builtin.append,args:=#[s,x],argTypes:=#[34,34]}) (bs cs:List UInt8) (A:Option Addr) (n c:Nat) (hs:a.eval s= .slice A n c) (hn:n=bs.length) (hA:A=none→n=0∧c=0) (hB:Bs w A bs)
  (ad:Addr) (m cp:Nat) (hx:a.eval x= .slice (some ad) m cp) (hm:m=cs.length) (hC:Bs w (some ad) cs) (kf:c<n+m) (hl:n+m≤70368744177664)
  (hK: ∀ g JE w',w.heap.size≤g→mL w' g (bs++cs) JE→Below w.heap.size w w'→n+m≤JE→wpList af ops Q rest (a.put o.dst (.slice (some ⟨g,0,none⟩) (n+m) JE)) w'):wpList af ops Q (o::rest) a w:=
 wpList_plain hg fun _ hKK=>Sx w s x hop bs cs A n c hs hn hA hB ad m cp hx hm hC kf hl fun g JE w' a b c d=>hKK _ _ (hK g JE w' a b c d)
def Cn(w:World)(A:Option Addr)(x:List UInt8)(c:Nat): Prop:=(x= []∧c=0)∨(x≠ []∧∃ g,A=some ⟨g,0,none⟩∧mL w g x c)
theorem Cn.same{A:Option Addr}(h:Cn w A x c)(hk: ∀ g,A=some ⟨g,0,none⟩→g<w.heap.size→x≠ []→w'.heap[g]? =w.heap[g]?): Cn w' A x c:=by
 rcases h with h|⟨hn,g,e,h⟩
 ·exact .inl h
 exact .inr ⟨hn,g,e,h.same (hk g e h.lt hn)⟩
def YB(bs:List UInt8)(w:World)(e:Ending)(w':World): Prop:=∃ A c,e= .returned (.slice A bs.length c)∧Cn w' A bs c∧(bs≠ []→∀ g,A=some ⟨g,0,none⟩→w.heap.size≤g)∧Below w.heap.size w w'
theorem Kc(bs:List UInt8)(g off c:Nat)(w:World)(hB:Bs w (some ⟨g,off,none⟩) bs)(hne:bs≠ [])(hl:bs.length≤70368744177664): Calls af 148 #[.slice (some ⟨g,off,none⟩) bs.length c] w (YB bs w):=by
 have ag8:0<bs.length:=vd.2 hne;have HB:=aa hB;have HN:=aa hne;have hq:=uF ⟨g,off,none⟩ bs.length c;clear hB hne;go_enter Tryz.func148,Tryz.ntmps148;go_wp2_with (refine Nx _ rfl _ _ rfl [] bs (some ⟨w.heap.size,0,none⟩) 0 0 rfl rfl dM (Bs.nil _ _) ⟨g,off,none⟩ bs.length c rfl rfl (HB.o.ah (ay (ar _ _) _)) ai ai ?_;intro g5 c5 w5 fF dU YW FM;have p3:=aa fF;have eu:=aa dU;have XR:=aa YW;have M3:=aa FM;clear fF dU YW FM);go_ret;have h5:=p3.o;simp at h5;exact⟨some ⟨g5,0,none⟩,c5,dM,.inr ⟨HN.o,g5,rfl,eu.o⟩,(fun _ g' e=>by injection e with e;injection e with e;omega),av (ay (ar _ _) _) XR.o⟩
theorem Gl(A:Option Addr)(c:Nat)(w:World): Calls af 148 #[.slice A 0 c] w (YB [] w):=by
 cases A with
 | none=>
  have hq:=Fw 0 c;go_enter Tryz.func148,Tryz.ntmps148;go_wp2_with fail;go_ret;exact⟨none,0,rfl,.inl ⟨rfl,rfl⟩,fun h=>absurd rfl h,ar _ _⟩
 | some ad=>
  have hq:=uF ad 0 c;go_enter Tryz.func148,Tryz.ntmps148;go_wp2_with fail;go_ret;exact⟨some ⟨w.heap.size,0,none⟩,0,rfl,.inl ⟨rfl,rfl⟩,fun h=>absurd rfl h,ay (ar _ _) _⟩
theorem RJ(bs:List UInt8)(A:Option Addr)(c:Nat)(w:World)(hB:Bs w A bs)(hl:bs.length≤70368744177664): Calls af 148 #[.slice A bs.length c] w (YB bs w):=by
 by_cases hne:bs= []
 ·subst hne;exact Gl A c w
 obtain⟨g,off,rfl,_⟩:=hB hne;exact Kc bs g off c w hB hne hl
end Oc
end
section
namespace Oc
theorem Cn.len{w:World}{A:Option Addr}{x:List UInt8}{c:Nat}(h:Cn w A x c): x.length≤c:=by
 rcases h with⟨rfl,_⟩|⟨_,g,_,h⟩
 ·exact Nat.zero_le _
 exact h.len
def Nc(bs:List UInt8)(w:World)(e:Ending)(w':World): Prop:=
 ∃ A c,e= .returned (.slice A bs.length c)∧(bs≠ []→∃ g,A=some ⟨g,0,none⟩∧w.heap.size≤g∧mL w' g bs c)∧bs.length≤c∧True∧True∧Below w.heap.size w w'
theorem nR(p:Nat)(bs:List UInt8)(w:World)(h:eF w p bs)(hl:bs.length≤70000000): Calls af 62 #[.pointer (some ⟨p,0,none⟩)] w (Nc bs w):=by
 obtain⟨A,c,h1,h2,h3,h4,h5,h6⟩:=h.ex;have x0:w.cell? ⟨p,0,none⟩=some (.slice A bs.length c):=h1.cell 0;have HC:=aa (RJ bs A c w h2 ai);clear h h1 h2 h3 h5 h6;go_enter Tryz.func62,Tryz.ntmps62;go_wp2_with fail;refine HC.o.mono ?_;rintro en w1 h1;obtain⟨B,d,rfl,h2,h3,h4⟩:=h1;have HF:=aa (show Nc bs w (.returned (.slice B bs.length d)) w1 from⟨B,d,rfl,fun hne=>by
  rcases h2 with⟨e,_⟩|⟨_,g,e,hc⟩
  ·exact absurd e hne
  exact⟨g,e,h3 hne g e,hc⟩,h2.len,trivial,trivial,h4⟩)
 clear h2 h3 h4;go_wp2_with fail;go_ret;exact HF.o
end Oc
end
section
namespace Oc
theorem Ke(bs:List UInt8)(g off c:Nat)(w:World)(hB:Bs w (some ⟨g,off,none⟩) bs)(hne:bs≠ [])(hl:bs.length≤70368744177664): Calls af 229 #[.slice (some ⟨g,off,none⟩) bs.length c] w (gl bs w):=by
 have ag8:0<bs.length:=vd.2 hne;have HB:=aa hB;have HN:=aa hne;have hq:=uF ⟨g,off,none⟩ bs.length c;clear hB hne;go_enter Tryz.func229,Tryz.ntmps229;exact acy
theorem Kf(c:Nat)(w:World): Calls af 229 #[.slice none 0 c] w (gl [] w):=by
 have hq:=Fw 0 c;go_enter Tryz.func229,Tryz.ntmps229;exact Vl
theorem Gp(g off c:Nat)(w:World): Calls af 229 #[.slice (some ⟨g,off,none⟩) 0 c] w (gl [] w):=by
 have hq:=uF ⟨g,off,none⟩ 0 c;go_enter Tryz.func229,Tryz.ntmps229;exact ab7
theorem yl(bs:List UInt8)(A:Option Addr)(c:Nat)(w:World)(hB:Bs w A bs)(hA:qV A)(hl:bs.length≤70368744177664): Calls af 229 #[.slice A bs.length c] w (gl bs w):=by
 by_cases hne:bs= []
 ·subst hne;cases A with
  | none=>exact Kf c w
  | some ad=>obtain⟨g,off,rfl⟩:=hA ad rfl;exact Gp g off c w
 obtain⟨g,off,rfl,_⟩:=hB hne;exact Ke bs g off c w hB hne hl
end Oc
namespace En
structure Dg where
 gd:Nat
 cd:Nat
 ad:Nat→Nat
 cp:Nat→Nat
 rv:Value
 mb:Nat
 mn:Nat
 wg:Nat→Nat
 wc:Nat→Nat
def fJ: List (Nat × By)→Nat→Option Nat
 | [],_=>none
 | x::r,i=>match fJ r i with
  | some j=>some (j+1)
  | none=>if x.1=i then some 0 else none
def od(d:Dk)(q:Dg)(i:Int): Option Value:=if i<0 then none else(fJ d.row i.toNat).map fun j=>.slice (some ⟨q.wg j,0,none⟩) d.size (q.wc j)
def CQ(d:Dk)(q:Dg)(i:Nat): List Value:=[.int .i64 ((d.row.getD i (0,[])).1:Nat),.slice (some ⟨q.wg i,0,none⟩) d.size (q.wc i)]
def akQ(d:Dk)(q:Dg)(i:Nat): List Value:=[.slice (some ⟨q.ad i,0,none⟩) d.size (q.cp i)]
structure eJ(S:Nat→Prop)(w:World)(p:Nat)(d:Dk)(q:Dg): Prop where
 own:aG w p 331 #[.int .i64 d.size,.slice (some ⟨q.gd,0,none⟩) d.dh.length q.cd,q.rv,.map (some q.mb)]
 dh:aP S w 34 1 (.slice (some ⟨q.gd,0,none⟩) d.dh.length q.cd) d.dh.length (akQ d q)
 each: ∀ i,i<d.dh.length→jO w 5 (q.ad i) (d.dh.getD i [])∧d.size≤q.cp i
 row:aP S w 338 2 q.rv d.row.length (CQ d q)
 aD: ∀ i,i<d.row.length→jO w 5 (q.wg i) (d.row.getD i (0,[])).2∧d.size≤q.wc i
 newest:fB af 3 .i64 w q.mb q.mn (od d q)
 ok:d.Ok
 bB:S p∧S q.mb∧(∀ i,i<d.dh.length→S (q.ad i))∧(∀ i,i<d.row.length→S (q.wg i))
 apart:(∀ i j,i<d.dh.length→j<d.dh.length→q.ad i=q.ad j→i=j)∧(∀ i j,i<d.dh.length→j<d.row.length→q.ad i≠q.wg j)
 lt: ∀ k,S k→k<w.heap.size
 few:q.mn≤d.row.length
def uW(p:Nat)(d:Dk)(S:Nat→Prop)(w:World): Prop:=∃ q,eJ S w p d q
theorem mo(p:Nat)(d:Dk): Loc (uW p d):=by
 refine⟨fun⟨q,h⟩=>h.lt,fun {S w w'} ⟨q,h⟩ hz hk=>⟨q,?_⟩,fun {S T w} ⟨q,h⟩ p7 hT=>⟨q,?_⟩⟩
 ·have p5: ∀ k,S k→w'.heap[k]? =w.heap[k]?:=hk;exact⟨(p5 p h.bB.1).trans h.own,h.dh.same fun g hg _=>p5 g hg,fun i hi=>⟨(h.each i hi).1.same (p5 _ (h.bB.2.2.1 i hi)),(h.each i hi).2⟩,h.row.same fun g hg _=>p5 g hg,fun i hi=>⟨(h.aD i hi).1.same (p5 _ (h.bB.2.2.2 i hi)),(h.aD i hi).2⟩,h.newest.same (p5 _ h.bB.2.1),h.ok,h.bB,h.apart,fun k hk=>Nat.lt_of_lt_of_le (h.lt k hk) hz,h.few⟩
 exact⟨h.own,h.dh.mono fun g hg _=>p7 g hg,h.each,h.row.mono fun g hg _=>p7 g hg,h.aD,h.newest,h.ok,⟨p7 _ h.bB.1,p7 _ h.bB.2.1,fun i hi=>p7 _ (h.bB.2.2.1 i hi),fun i hi=>p7 _ (h.bB.2.2.2 i hi)⟩,h.apart,hT,h.few⟩
theorem cY(p s:Nat)(hs:1≤s)(w:World)(h:w.cell? ⟨p,0,none⟩=some (.int .i64 s)): Calls af 221 #[.pointer (some ⟨p,0,none⟩)] w fun e w'=>e= .returned (.bool true)∧w'=w:=by
 have hs':(0:Int)<(s:Int):=ai;go_enter Tryz.func221,Tryz.ntmps221;go_wp2_with fail;go_ret;exact⟨ky (a:=decide (0<s)) (decide_eq_true ai),rfl⟩
variable{p:Nat}{S:Nat→Prop}{w:World}
theorem BU{d:Dk}{q:Dg}(h:eJ S w p d q): Calls af 225 #[.pointer (some ⟨p,0,none⟩)] w fun e w'=>e= .returned (.int .i64 d.dh.length)∧w'=w:=by
 have x0:w.cell? ⟨p,0,none⟩=some (.int .i64 d.size):=h.own.cell 0;have x1:w.cell? ⟨p,1,none⟩=some (.slice (some ⟨q.gd,0,none⟩) d.dh.length q.cd):=h.own.cell 1;have HS:=aa h.ok.size.1;clear h;go_enter Tryz.func225,Tryz.ntmps225;exact II
theorem aaP{d:Dk}{q:Dg}(h:eJ S w p d q): Calls af 233 #[.pointer (some ⟨p,0,none⟩)] w fun e w'=>e= .returned (.int .i64 d.size)∧w'=w:=by
 have x0:w.cell? ⟨p,0,none⟩=some (.int .i64 d.size):=h.own.cell 0;have HS:=aa h.ok.size.1;clear h;go_enter Tryz.func233,Tryz.ntmps233;exact II
theorem ME{d:Dk}{q:Dg}(h:eJ S w p d q): Calls af 107 #[.pointer (some ⟨p,0,none⟩)] w fun e w'=>e= .returned (.int .i64 d.row.length)∧w'=w:=by
 obtain⟨A,c,hv⟩:=h.row.any;have x0:w.cell? ⟨p,0,none⟩=some (.int .i64 d.size):=h.own.cell 0;have x2:w.cell? ⟨p,2,none⟩=some (.slice A d.row.length c):=by rw[←hv];exact h.own.cell 2
 have HS:=aa h.ok.size.1;clear h hv;go_enter Tryz.func107,Tryz.ntmps107;exact II
theorem IF{d:Dk}{q:Dg}(h:eJ S w p d q)(at_:Int)(hb:d.bad at_=true): Calls af 228 #[.pointer (some ⟨p,0,none⟩),.int .i64 at_] w fun e w'=>e= .returned (.int .i64 50)∧w'=w:=by
 have x0:w.cell? ⟨p,0,none⟩=some (.int .i64 d.size):=h.own.cell 0;have x1:w.cell? ⟨p,1,none⟩=some (.slice (some ⟨q.gd,0,none⟩) d.dh.length q.cd):=h.own.cell 1;have HS:=aa h.ok.size.1;have hc:at_<0∨0≤at_∧(d.dh.length:Int)≤at_:=by simp only[Dk.bad,Bool.or_eq_true,decide_eq_true_eq] at hb;omega
 clear h hb;rcases hc with c1|⟨c0,c1⟩
 all_goals
  go_enter Tryz.func228,Tryz.ntmps228;exact II
theorem zn{d:Dk}{q:Dg}(h:eJ S w p d q)(at_:Int)(hb:d.bad at_=false): Calls af 228 #[.pointer (some ⟨p,0,none⟩),.int .i64 at_] w fun e w'=>e= .returned (.int .i64 0)∧w'=w:=by
 have x0:w.cell? ⟨p,0,none⟩=some (.int .i64 d.size):=h.own.cell 0;have x1:w.cell? ⟨p,1,none⟩=some (.slice (some ⟨q.gd,0,none⟩) d.dh.length q.cd):=h.own.cell 1;have HS:=aa h.ok.size.1;have c0:0≤at_:=Dq;have c1:at_<(d.dh.length:Int):=Dq;clear h hb;go_enter Tryz.func228,Tryz.ntmps228;exact II
end En
end
section
namespace En
open Oc (eF ib)
theorem Ck(n:Nat)(h:n≤32)(w:World): Calls af 346 #[.int .i64 n] w fun e w'=>e= .returned (.int .i64 (22+n))∧w'=w:=by
 have h0: ¬(n:Int)<0:=ai;have h1: ¬(32:Int)<(n:Int):=ai;have h2:(n:Int)≤32:=ai;go_enter Tryz.func346,Tryz.ntmps346;go_wp2_with fail;go_ret;exact⟨rfl,rfl⟩
theorem abh(bX seq:Nat)(body:By)(g off c:Nat)(w:World)(he:bX<18446744073709551616)(hs:seq<18446744073709551616)(hB:Bs w (some ⟨g,off,none⟩) body)(hne:body≠ [])(hl:body.length≤32)(ht:cj w):
  Calls af 306 #[.agg #[.int .u64 bX,.int .u64 seq,.slice (some ⟨g,off,none⟩) body.length c]] w fun e w'=>(∃ A c',e= .returned (.tuple #[.slice A (qz bX seq body).length c',.int .i64 0])∧Bs w' A (qz bX seq body))∧Below w.heap.size w w':=by
 have hl':(body.length:Int)≤32:=ai;have hn': ¬(32:Int)<(body.length:Int):=ai;have HB:=aa hB;have HN:=aa hne;have HT:=aa ht;clear hB hne ht;go_enter Tryz.func306,Tryz.ntmps306;go_wp2_with fail;have hw0:eF ((w.alloc (.cells #[.int .u64 bX,.int .u64 seq,.slice (some ⟨g,off,none⟩) body.length c] 375)).alloc (.cells #[.slice none 0 0] 150)) (w.heap.size+1) []:=by
  have:=Oc.eF.fresh (w.alloc (.cells #[.int .u64 bX,.int .u64 seq,.slice (some ⟨g,off,none⟩) body.length c] 375))
  rwa [World.size_alloc] at this
 have hb0:Below w.heap.size w ((w.alloc (.cells #[.int .u64 bX,.int .u64 seq,.slice (some ⟨g,off,none⟩) body.length c] 375)).alloc (.cells #[.slice none 0 0] 150)):=ay (ay (ar _ _) _) _;have ha0:aG ((w.alloc (.cells #[.int .u64 bX,.int .u64 seq,.slice (some ⟨g,off,none⟩) body.length c] 375)).alloc (.cells #[.slice none 0 0] 150)) w.heap.size 375 #[.int .u64 bX,.int .u64 seq,.slice (some ⟨g,off,none⟩) body.length c]:=(aG.fresh w _ _).alloc _;obtain⟨w1,a8⟩:=ae (((w.alloc (.cells #[.int .u64 bX,.int .u64 seq,.slice (some ⟨g,off,none⟩) body.length c] 375)).alloc (.cells #[.slice none 0 0] 150)));rw[a8] at hw0 hb0 ha0 ⊢;obtain⟨p,hp⟩:=ae (w.heap.size+1);rw[hp] at hw0 ⊢;have Wv:=HB.o.ah hb0;have FL:g<w.heap.size:=by obtain⟨g',o',e,h1,_⟩:=HB.o HN.o;injection e with e;injection e with e;omega
 have HGP:=aa (show g<p from ai);obtain⟨b,hb⟩:=ae w.heap.size;rw[hb] at ha0 ⊢;have x0:=ha0.cl 0;have x1:=ha0.cl 1;have x2:=ha0.cl 2;have i':=aa ha0.lt;have HP:=aa (show b+1=p from ai);have bA:=aa Wv;have XY:=aa hw0;have Pq:=aa hb0;have KE:=aa hb;have HE:=aa he;have HS:=aa hs;clear hw0 hb0 ha0 Wv a8 hp FL hb he hs HB;refine(Oc.eO p body.length [] w1 XY.o dM ai).mono ?_;rintro en w2 ⟨⟨u,rfl⟩,I3,rf⟩;have Hs:w2.cell? ⟨b,0,none⟩=some (.int .u64 bX):=(rf.cells rQ hZ 0).trans x0;have Hq:w2.cell? ⟨b,1,none⟩=some (.int .u64 seq):=(rf.cells rQ hZ 1).trans x1;have Hn:w2.cell? ⟨b,2,none⟩=some (.slice (some ⟨g,off,none⟩) body.length c):=(rf.cells rQ hZ 2).trans x2;have Pd:=aa (rf);have XX:=aa I3;clear I3 rf x0 x1 x2;go_wp2_with fail;refine(Oc.ed p bX _ w2 XX.o fI HE.o).mono ?_;rintro en w3 ⟨⟨u,rfl⟩,I2,qZ⟩;have Hr:w3.cell? ⟨b,0,none⟩=some (.int .u64 bX):=(qZ.cells Af hZ 0).trans Hs;have Ho:w3.cell? ⟨b,1,none⟩=some (.int .u64 seq):=(qZ.cells Af hZ 1).trans Hq;have Hm:w3.cell? ⟨b,2,none⟩=some (.slice (some ⟨g,off,none⟩) body.length c):=(qZ.cells Af hZ 2).trans Hn;have Pc:=aa (Pd.o.trans qZ);have XW:=aa I2;clear I2 qZ Hs Hq Hn;go_wp2_with fail;refine(Oc.ed p seq _ w3 XW.o fI HS.o).mono ?_;rintro en w4 ⟨⟨u,rfl⟩,I1,qY⟩;have Sp:w4.cell? ⟨b,0,none⟩=some (.int .u64 bX):=(qY.cells Ae hZ 0).trans Hr;have Sn:w4.cell? ⟨b,1,none⟩=some (.int .u64 seq):=(qY.cells Ae hZ 1).trans Ho;have Sm:w4.cell? ⟨b,2,none⟩=some (.slice (some ⟨g,off,none⟩) body.length c):=(qY.cells Ae hZ 2).trans Hm;have J6:=aa (Pc.o.trans qY);have XV:=aa I1;clear I1 qY Hr Ho Hm;go_wp2_with fail;have hb4:Bs w4 (some ⟨g,off,none⟩) body:=(bA.o).cR J6.o fun g' o' e _ e2=>by injection e with e;injection e with e;have:=HGP.o;omega
 refine(Oc.zB p _ body ⟨g,off,none⟩ c w4 XV.o hb4 HN.o (by simp[Oc.bG];omega)).mono ?_;rintro en w5 ⟨⟨u,rfl⟩,I0,vP⟩;have Pb:=aa (J6.o.trans vP);have XU:=aa I0;clear I0 vP;go_wp2_with fail;have jD:eF w5 p (nu bX seq body):=XU.o;have hh:(nu bX seq body).length=18+body.length:=by simp[nu,Oc.bG];omega
 have QI:cj w5:=(HT.o.ah Pq.o).cR Pb.o (fun e=>by have:=HT.o.lt;have:=HP.o;have:=KE.o;omega);refine(Oc.lV p _ w5 jD ai).mono ?_;rintro en w5b ⟨A5,c5,rfl,gB,_,_,_,dU⟩;have pj:=aa (Oc.gl.bs (w:=w5) gB);have Rj:=aa (jD.ah dU);have pz:=aa (QI.ah dU);have eu:=aa dU;have HL5:=aa hh;clear jD QI gB dU hh;go_wp2_with fail;refine ag (Cr.qB _ A5 c5 w5b pj.o pz.o (by have:=HL5.o;omega)) ?_;have XT:=Rj;obtain⟨w5c,agO⟩:=ae w5b;rw[agO] at XT eu pz pj ⊢;clear Rj agO;go_wp2_with fail;refine(Oc.df p _ _ w5c XT.o (by have:=HL5.o;omega) (Cr.Mu 0 _ aM)).mono ?_;rintro en w6 ⟨⟨u,rfl⟩,IZ,I5⟩;have J5:=aa (I5);have XS:=aa IZ;clear IZ I5;go_wp2_with fail;have og:eF w6 p (qz bX seq body):=XS.o;refine(Oc.lV p _ w6 og (by rw[qy];omega)).mono ?_;rintro en w7 ⟨A7,c7,rfl,D4,_,_,_,su⟩;have vq:=aa (Oc.gl.bs (w:=w6) D4);obtain⟨n7,hn7⟩:=ae ((qz bX seq body).length);rw[hn7];have HN7:=aa hn7;clear og hn7;have wG:Below w.heap.size w w7:=by
  have h1:aI (· =p) w1 w7:=(((Pb.o.ak eu.o).trans J5.o).ak su);exact h1.fresh Pq.o (fun k e=>by have:=HP.o;have:=KE.o;omega)
 have kS:=aa wG;clear D4 su wG;go_wp2_with fail;go_ret2;exact⟨⟨A7,c7,by rw[HN7.o];rfl,vq.o⟩,kS.o⟩
