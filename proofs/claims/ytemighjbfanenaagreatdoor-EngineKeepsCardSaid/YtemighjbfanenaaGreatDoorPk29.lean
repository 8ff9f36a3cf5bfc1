import Derived.Test.YtemighjbfanenaaGreatDoorPk19
import Derived.BigQuiet
import Derived.Test.YtemighjbfanenaaGreatDoorPk1
set_option linter.all false
set_option maxRecDepth 100000
set_option maxHeartbeats 16000000
namespace Go.Proofs.YtemighjbfanenaaGreatDoor
open RowKit
open Oc (Bs gj fJ aN rU eZ dm)
open En (By xW BN gz)
open Go.Calls renaming quiet_of_same→nd
open Go.Ending renaming returned→js
open Go.IntKind renaming wrap_i64→nX,i64→aT
open Go.World renaming block_lt_of_cell?→bz
open RowKit.Below renaming refl→aq
open Tryz renaming prog→af
theorem Ap{p:Prop}(h:p:=by exact⟨x0,x1⟩):p:=h
section
namespace Rf
structure ZO(w:World)(k n s:Nat): Prop where
 ex: ∃ g c A c0,aD w k 335 #[.slice (some ⟨g,0,none⟩) n c,.slice none 0 0]∧w.cell? ⟨g,0,none⟩=some (.slice A s c0)∧g<w.heap.size
 pos:1≤n
variable{w w':World}{k n s m:Nat}
theorem ZO.keep(h:ZO w k n s)(hb:Below w.heap.size w w'): ZO w' k n s:=by
 obtain⟨⟨g,c,A,c0,h1,h2,h3⟩,h4⟩:=h;exact⟨⟨g,c,A,c0,h1.keep hb,(hb.cell (p:=⟨g,0,none⟩) h3).trans h2,Nat.lt_of_lt_of_le h3 hb.size⟩,h4⟩
theorem SS.dkn{wr:World} {p:Nat} {v:Value}{ad cp:Nat→Nat}(h:SS w wr p s n v ad cp)(hn:1≤n): ZO wr p n s:=by
 obtain⟨g,c,rfl,_,_,_,hg⟩:=h.row.form ag;refine⟨⟨g,c,some ⟨ad 0,0,none⟩,cp 0,h.own,?_,hg⟩,hn⟩;have:=h.row.range (i:=0) (fun i=>rfl) ag 0 (.slice (some ⟨ad 0,0,none⟩) s (cp 0)) dA;simpa using this
theorem abH(h:ZO w k n s): Calls af 234 #[.pointer (some ⟨k,0,none⟩)] w fun e w'=>e= .returned (.int .i64 n)∧w'=w:=by
 obtain⟨⟨g,c,A,c0,h1,_⟩,_⟩:=h;have x0:w.cell? ⟨k,0,none⟩=some (.slice (some ⟨g,0,none⟩) n c):=h1.cell 0;clear h1;go_enter Tryz.func234,Tryz.ntmps234;go_wp2_with fail;go_ret;exact⟨rfl,rfl⟩
theorem abF(h:ZO w k n s): Calls af 231 #[.pointer (some ⟨k,0,none⟩)] w fun e w'=>e= .returned (.int .i64 s)∧w'=w:=by
 obtain⟨⟨g,c,A,c0,h1,x1,_⟩,hp⟩:=h;have x0:w.cell? ⟨k,0,none⟩=some (.slice (some ⟨g,0,none⟩) n c):=h1.cell 0;have hz:((n:Int)==0)=false:=cf;have hz2: ¬(n:Int)=0:=ag;have hz3:(0:Int)<(n:Int):=ag;clear h1;go_enter Tryz.func231,Tryz.ntmps231;go_wp2_with fail;go_ret;exact⟨rfl,rfl⟩
def dv0(k:Nat): Array Value:=#[.pointer (some ⟨k,0,none⟩),.bool false,.int .i64 (-1),.int .i64 0]
structure Qc(w:World)(m k n s:Nat): Prop where
 own: ∃ a b c,aD w m 235 #[.pointer (some ⟨k,0,none⟩),a,b,c]
 dk:ZO w k n s
theorem Qc.keep(h:Qc w m k n s)(hb:Below w.heap.size w w'): Qc w' m k n s:=by
 obtain⟨⟨a,b,c,h1⟩,h2⟩:=h;exact⟨⟨a,b,c,h1.keep hb⟩,h2.keep hb⟩
theorem abG(h:Qc w m k n s): Calls af 127 #[.pointer (some ⟨m,0,none⟩)] w fun e w'=>e= .returned (.int .i64 n)∧w'=w:=by
 obtain⟨⟨a,b,c,h1⟩,h2⟩:=h;have x0:w.cell? ⟨m,0,none⟩=some (.pointer (some ⟨k,0,none⟩)):=h1.cell 0;have H2:=aa h2;clear h1 h2;go_enter Tryz.func127,Tryz.ntmps127;go_wp2_with fail;refine ah (abH H2.o) ?_;go_wp2_with fail;go_ret;exact⟨rfl,rfl⟩
theorem PQ(h:Qc w m k n s): Calls af 130 #[.pointer (some ⟨m,0,none⟩)] w fun e w'=>e= .returned (.int .i64 s)∧w'=w:=by
 obtain⟨⟨a,b,c,h1⟩,h2⟩:=h;have x0:w.cell? ⟨m,0,none⟩=some (.pointer (some ⟨k,0,none⟩)):=h1.cell 0;have H2:=aa h2;clear h1 h2;go_enter Tryz.func130,Tryz.ntmps130;go_wp2_with fail;refine ah (abF H2.o) ?_;go_wp2_with fail;go_ret;exact⟨rfl,rfl⟩
theorem abN(h:ZO w k n s): Calls af 117 #[.pointer (some ⟨k,0,none⟩)] w fun e w'=>∃ m,e= .returned (.pointer (some ⟨m,0,none⟩))∧aD w' m 235 (dv0 k)∧w.heap.size≤m∧Below w.heap.size w w':=by
 have HF:=aa (show ∃ m,js (.pointer (some ⟨w.heap.size,0,none⟩))= .returned (.pointer (some ⟨m,0,none⟩))∧aD (w.alloc (.cells (dv0 k) 235)) m 235 (dv0 k)∧w.heap.size≤m∧Below w.heap.size w (w.alloc (.cells (dv0 k) 235))from⟨_,rfl,aD.fresh w _ _,Nat.le_refl _,aw (aq _ _) _⟩);clear h;go_enter Tryz.func117,Tryz.ntmps117;go_wp2_with fail;go_ret;exact HF.o
structure B6(w:World)(r m k n s f c:Nat): Prop where
 own:aD w r 241 #[.pointer (some ⟨m,0,none⟩),.int .i64 f,.int .i64 c]
 dv:Qc w m k n s
theorem B6.keep{r f c:Nat} (h:B6 w r m k n s f c)(hb:Below w.heap.size w w'): B6 w' r m k n s f c:=⟨h.own.keep hb,h.dv.keep hb⟩
theorem Gy{f c:Nat} (h:Qc w m k n s)(h1:1≤c)(h2:f+c≤n)(hn:n≤65536): Calls af 50 #[.pointer (some ⟨m,0,none⟩),.agg #[.int .i64 f,.int .i64 c]] w fun e w'=>∃ r,e= .returned (.tuple #[.pointer (some ⟨r,0,none⟩),.int .i64 0])∧B6 w' r m k n s f c∧w.heap.size≤r∧Below w.heap.size w w':=by
 have hs:(af.info? 120).map (·.size)=some 2:=aW;obtain⟨xs,Df⟩:=ae w.heap.size;obtain⟨w1,aX⟩:=ae (w.alloc (.cells #[.int .i64 f,.int .i64 c] 120));have bh:=aH aX Df;have bu:=aa (aJ aX);have NX:=aa (h.keep bu.o);have dH:=aa bh;have GA:=aa (show ∀ W,Below w1.heap.size w1 W→Calls af 127 #[.pointer (some ⟨m,0,none⟩)] W (fun e w'=>e= .returned (.int .i64 n)∧w'=W)from fun W hW=>abG (NX.o.keep hW));have y0:=bh.cl 0;have y1:=bh.cl 1;have qC:=aa (show ∀ w',Below w1.heap.size w1 w'→((fun w'=>w'.cell? ⟨xs,0,none⟩=some (.int .i64 f)∧w'.cell? ⟨xs,1,none⟩=some (.int .i64 c)∧Below w1.heap.size w1 w') w')from fun w' hb=>⟨(hb.cell (p:=⟨xs,0,none⟩) bh.lt).trans y0,(hb.cell (p:=⟨xs,1,none⟩) bh.lt).trans y1,hb⟩);have q0:decide ((f:Int)<0)=false:=gT;have q1:decide ((c:Int)<1)=false:=gT;have q2:decide ((n:Int)<(f:Int))=false:=gT;have q3:aT.wrap ((n:Int) - (f:Int))=(n:Int) - (f:Int):=by rw[nX];omega
 have q4:decide ((n:Int) - (f:Int)<(c:Int))=false:=gT;have q2n:decide (n<f)=false:=gT;clear h bh h1 h2 hn;go_enter Tryz.func50,Tryz.ntmps50;go_wp2_with fail;refine sY (S:=(fun w'=>w'.cell? ⟨xs,0,none⟩=some (.int .i64 f)∧w'.cell? ⟨xs,1,none⟩=some (.int .i64 c)∧Below w1.heap.size w1 w')) (by exact qC.o _ (ay (aq _ _))) fun hHeld=>?_
 refine nZ 0 1 2 3 4 5 6 7 ?_;refine kW 8 9 10 11 ?_;refine cD 12 fun K hK=>?_
 go_simp
 (go_at_call 127;refine(GA.o _ hHeld.2.2).mono ?_;rintro e wq ⟨rfl,yG⟩;rw[yG];clear yG wq)
 go_wp2_with fail;refine bW hK (by first|exact qu|exact hHeld) fun qu=>?_
 clear hK K;refine nZ 13 14 15 16 17 18 20 21 ?_;refine cD 19 fun K hK=>?_
 go_simp
 (go_at_call 127;refine(GA.o _ qu.2.2).mono ?_;rintro e wq ⟨rfl,yG⟩;rw[yG];clear yG wq)
 go_wp2_with fail;refine bW hK (by first|exact qu|exact hHeld) fun eB=>?_
 clear hK K;refine QN 22 23 24 ?_;refine bF ?_;have nL:=ay (aq w1.heap.size w1);obtain⟨w2,hw2⟩:=ae w1.drew;rw[hw2] at nL ⊢;have jI:=dH.jS nL;have cx:=bu.eo nL;have om:=aa (NX.o.keep nL);clear hHeld qu eB hw2 nL;have HF:=aa (show ∃ r,js (.tuple #[.pointer (some ⟨w2.heap.size,0,none⟩),.int .i64 0])= .returned (.tuple #[.pointer (some ⟨r,0,none⟩),.int .i64 0])∧B6 (w2.alloc (.cells #[.pointer (some ⟨m,0,none⟩),.int .i64 f,.int .i64 c] 241)) r m k n s f c∧w.heap.size≤r∧Below w.heap.size w (w2.alloc (.cells #[.pointer (some ⟨m,0,none⟩),.int .i64 f,.int .i64 c] 241))from⟨_,rfl,⟨aD.fresh w2 _ _,om.o.keep (aw (aq _ _) _)⟩,cx.o.size,aw cx.o _⟩);go_wp2_with (refine aB rfl 120 _ rfl xs 120 _ jI.o rfl _ Tryz.underlying120 rfl hs ?_);go_ret2;exact HF.o
end Rf
end
section
namespace Rf
theorem kx(w:World)(n:Nat): Below w.heap.size w (w.drewN n):=⟨rfl,rfl,rfl,Nat.le_refl _,fun _ _=>rfl⟩
theorem EA(w:World)(n k:Nat): (w.drewN n).drewN k=w.drewN (n+k):=by simp[World.drewN,Nat.add_assoc]
theorem Qe{w:World}{r m k n s f c:Nat}(h:B6 w r m k n s f c)(hn:c≤65536)(hs:s≤4096): Calls af 129 #[.pointer (some ⟨r,0,none⟩)] w fun e w'=>e= .returned (.int .i64 (c*s:Nat))∧∃ n,w'=w.drewN n:=by
 have x0:=h.own.cl 0;have x2:=h.own.cl 2;have HS:=aa (fun n=>PQ (h.dv.keep (kx w n)));have hcs:c*s≤65536*4096:=Nat.mul_le_mul hn hs;have q:aT.wrap ((c:Int)*(s:Int))=((c*s:Nat):Int):=by rw[nX];push_cast;omega
 clear h;go_enter Tryz.func129,Tryz.ntmps129;go_wp2_with fail;refine wp_region_quiet_lit aW aW ?_;repeat(first|go_big_quiet_step ((go_at_call 130;exact nd (HS.o _)))|quiet_step ((go_at_call 130;exact nd (HS.o _))))
 refine wpQuiet_nil ?_;intro _ hw';obtain⟨nq,hw''⟩:=hw';subst hw'';go_wp2_with fail;go_ret;exact⟨rfl,_,rfl⟩
theorem YR{w:World}{ra rb m k n s fa fb c:Nat}(ha:B6 w ra m k n s fa c)(hb:B6 w rb m k n s fb c)(h2:2≤c)(hn:c≤65536)(hs:s≤4096): Calls af 52 #[.pointer (some ⟨ra,0,none⟩),.pointer (some ⟨rb,0,none⟩)] w fun e w'=>∃ x,e= .returned (.tuple #[.pointer (some ⟨x,0,none⟩),.int .i64 0])∧aD w' x 243 #[.pointer (some ⟨ra,0,none⟩),.pointer (some ⟨rb,0,none⟩)]∧w.heap.size≤x∧Below w.heap.size w w':=by
 obtain⟨xs,Df⟩:=ae w.heap.size;obtain⟨w1,aX⟩:=ae (w.alloc (.cells #[.pointer (some ⟨ra,0,none⟩),.pointer (some ⟨rb,0,none⟩)] 243));have dH:=aa (aH aX Df);have bu:=aa (aJ aX);have Tj:=ha.keep bu.o;have h1b:=hb.keep bu.o;have x0:=Tj.own.cl 0;have x2:=Tj.own.cl 2;have y0:=h1b.own.cl 0;have Tx:=aa (show ∀ q r,(r=ra∨r=rb)→Calls af 129 #[.pointer (some ⟨r,0,none⟩)] (w1.drewN q) (fun e w'=>e= .returned (.int .i64 (c*s:Nat))∧∃ n,w'=(w1.drewN q).drewN n)from fun q r hr=>by
  rcases hr with rfl|rfl
  ·exact Qe (Tj.keep (kx w1 q)) hn hs
  exact Qe (h1b.keep (kx w1 q)) hn hs)
 have mi:=aa (fun q=>PQ (Tj.dv.keep (kx w1 q)));have hc2:decide ((c:Int)<2)=false:=gT;have hc3:decide (c<2)=false:=gT;obtain⟨B,hB⟩:=ae (c*s);rw[hB] at Tx;have e1:((B:Int) != (B:Int))=false:=dA;have e2:((s:Int) != (s:Int))=false:=dA;have HX:=aa (show w.heap.size≤xs from ag);clear ha hb Tj h1b h2 hn hs hB;go_enter Tryz.func52,Tryz.ntmps52;go_wp2_with fail;refine wp_region_quiet_lit aW aW ?_;repeat(first|go_big_quiet_step ((first|(go_at_call 130;exact nd (mi.o _))|(go_at_call 129;refine(Tx.o _ _ (by first|exact .inl rfl|exact .inr rfl)).mono ?_;rintro e w3 ⟨rfl,q,rfl⟩;exact⟨rfl,_,EA _ _ _⟩)))|quiet_step ((first|(go_at_call 130;exact nd (mi.o _))|(go_at_call 129;refine(Tx.o _ _ (by first|exact .inl rfl|exact .inr rfl)).mono ?_;rintro e w3 ⟨rfl,q,rfl⟩;exact⟨rfl,_,EA _ _ _⟩))))
 refine wpQuiet_nil ?_;intro _ hw';obtain⟨nq,hw''⟩:=hw';subst hw'';have HF:=aa (show ∃ x,js (.tuple #[.pointer (some ⟨xs,0,none⟩),.int .i64 0])= .returned (.tuple #[.pointer (some ⟨x,0,none⟩),.int .i64 0])∧aD (w1.drewN nq) x 243 #[.pointer (some ⟨ra,0,none⟩),.pointer (some ⟨rb,0,none⟩)]∧w.heap.size≤x∧Below w.heap.size w (w1.drewN nq)from⟨xs,rfl,dH.o.keep (kx w1 nq),HX.o,ar bu.o (kx w1 nq)⟩);go_wp2_with fail;go_ret2;exact HF.o
end Rf
end
section
namespace En
def Kl(p:Nat)(g:Rg)(size:Nat)(w:World)(e:Ending)(w':World): Prop:=∃ r,e= .returned (.tuple #[.pointer (some ⟨r,0,none⟩),.int .i64 0])∧w.heap.size≤r∧fV w' r p g size∧Below w.heap.size w w'
theorem zF{S:Nat→Prop}{w:World}{p:Nat}{g:Rg}{d:bG}(hD:dI p d S w)(h1:1≤g.count)(h2:g.from_+g.count≤d.dk.dr.length):
  Calls af 49 #[.pointer (some ⟨p,0,none⟩),.agg #[.int .i64 g.from_,.int .i64 g.count]] w (Kl p g d.dk.size w):=by
 have fz:d.dk.Ok:=Ux;have hsz:=fz.size;have hsm:=fz.some;have HSC:=aa fun(W:World) (hW:Below w.heap.size w W)=>Kt ((aC p d).ai hD hW)
 have HSI:=aa fun(W:World) (hW:Below w.heap.size w W)=>YN ((aC p d).ai hD hW)
 obtain⟨fr,K4⟩:=ae g.from_;obtain⟨ct,JN⟩:=ae g.count;obtain⟨n,hn⟩:=ae d.dk.dr.length;obtain⟨size,hsize⟩:=ae d.dk.size;rw[K4,JN,hn] at h2;rw[JN] at h1;rw[hn] at HSC hsm;rw[hsize] at HSI hsz ⊢;rw[K4,JN];obtain⟨bx,mg⟩:=ae w.heap.size;obtain⟨w1,aX⟩:=ae (w.alloc (.cells #[.int .i64 fr,.int .i64 ct] 120));have hb1:=aJ aX;have ha1:=aH aX mg;have x0:=ha1.cl 0;have x1:=ha1.cl 1;have hq:((n:Int)==0)=false:=mK;have CL:(n==0)=false:=mK;have e1: ¬(fr:Int)<0:=ag;have e2: ¬(ct:Int)<1:=ag;have e2a:decide ((ct:Int)<1)=false:=fH;have e2b: ¬ct=0:=ag;have e2c:decide (ct=0)=false:=fH;have e3: ¬(n:Int)<(fr:Int):=ag;have hnf:(n:Int) - (fr:Int)=((n - fr:Nat):Int):=ag;have e4: ¬((n - fr:Nat):Int)<(ct:Int):=ag;have e3a:decide ((n:Int)<(fr:Int))=false:=fH;have e3c:decide (n<fr)=false:=fH;have e4a:decide (((n - fr:Nat):Int)<(ct:Int))=false:=by rw[decide_eq_false_iff_not];exact e4
 have e4c:decide (n - fr<ct)=false:=by rw[decide_eq_false_iff_not];omega
 have e5:(n:Int)≤65536:=ag;have hwr:aT.wrap ((n - fr:Nat):Int)=((n - fr:Nat):Int):=IntWalk.i64_in _ ag;have bu:=aa hb1;have sK:=aa aX;have yb:=aa mg;have HFR:=aa K4;have Dy:=aa JN;have mi:=aa hsz;have HSM:=aa hsm;have H1:=aa h1;have H2:=aa h2;clear hD fz hsz hsm h1 h2 K4 JN hn hsize mg aX hb1 ha1;go_enter Tryz.func49,Tryz.ntmps49;go_wp2_with fail;rw[sK.o,yb.o];refine ah (HSC.o w1 bu.o) ?_;go_wp2_with fail;refine wp_region_held_drew (S:=(fun w'=>w'.cell? ⟨bx,0,none⟩=some (.int .i64 fr)∧w'.cell? ⟨bx,1,none⟩=some (.int .i64 ct))) aW Ap (fun hHeld=>?_);refine nZ 0 1 2 3 4 5 6 7 ?_;refine kW 8 9 10 11 ?_;refine cD 12 fun K hK=>?_
 go_simp;refine ah (HSC.o w1.drew (ay bu.o)) ?_;go_wp2_with fail;refine bW hK Ap fun qu=>?_
 clear hK K;refine nZ 13 14 15 16 17 18 20 21 ?_;refine cD 19 fun K hK=>?_
 go_simp;refine ah (HSC.o w1.drew (ay bu.o)) ?_;go_wp2_with fail;refine bW hK Ap fun eB=>?_
 clear hK K;refine kW 22 23 24 25 ?_;refine bF ?_;go_wp2_with fail;refine wp_region_held_drew (S:=(fun w'=>w'.cell? ⟨bx,0,none⟩=some (.int .i64 fr)∧w'.cell? ⟨bx,1,none⟩=some (.int .i64 ct))) aW Ap (fun hHeld=>?_);refine QN 0 1 2 ?_;refine cD 3 fun K hK=>?_
 go_simp;refine ah (HSI.o w1.drew.drew (ay (ay bu.o))) ?_;go_wp2_with fail;refine bW hK Ap fun Nf=>?_
 clear hK K;refine uw 4 5 ?_;refine cD 6 fun K hK=>?_
 go_simp;obtain⟨w9,jT⟩:=ae ((w1.alloc (.cells #[.pointer (some ⟨p,0,none⟩),.int .i64 fr,.int .i64 ct,.int .i64 size] 239)).drew.drew);have BJ:Below w1.heap.size w1 w9:=by rw[←jT];exact ay (ay (aw (aq _ _) _))
 obtain⟨rb,jc⟩:=ae w1.heap.size;have Na:aD w9 rb 239 #[.pointer (some ⟨p,0,none⟩),.int .i64 fr,.int .i64 ct,.int .i64 size]:=by rw[←jT,←jc];exact aD.fresh w1 _ _
 rw[jT,jc];have y0:w9.cell? ⟨bx,0,none⟩=some (.int .i64 fr):=(BJ.cell (p:=⟨bx,0,none⟩) (bz _ _ x0)).trans x0;have y1:w9.cell? ⟨bx,1,none⟩=some (.int .i64 ct):=(BJ.cell (p:=⟨bx,1,none⟩) (bz _ _ x1)).trans x1;have CT:=aa BJ;have pn:=aa Na;have tP:=aa jc;clear jT BJ Na jc;refine bW hK (by exact⟨y0,y1⟩) fun qp=>?_
 clear hK K;refine uw 7 8 ?_;refine bF ?_;go_wp2_with fail;go_ret2;refine⟨rb,rfl,by rw[←tP.o];exact bu.o.size,⟨by rw[HFR.o,Dy.o];exact pn.o,mi.o,by rw[Dy.o];exact H1.o,by rw[HFR.o,Dy.o];have h1:=H2.o;have h2:=HSM.o;omega⟩,ar bu.o CT.o⟩
