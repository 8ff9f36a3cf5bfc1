import Derived.Test.YtemighjbfanenaaGreatDoorQk19
set_option linter.all false
set_option maxRecDepth 100000
set_option maxHeartbeats 16000000
namespace Go.Proofs.YtemighjbfanenaaGreatDoor
open RowKit
open Oc (Bs gl fG aO qV eT cM)
open En (By xX BG pL)
open Go.Calls renaming quiet_of_same→dm
open Go.Ending renaming returned→jm
open Go.IntKind renaming i64→aN,wrap_i64→mM
open Go.Proofs.Tryz renaming prog→af
open Go.World renaming block_lt_of_cell?→bE
open RowKit.Below renaming refl→ar
theorem Ai{p:Prop}(h:p:=by exact⟨x0,x1⟩):p:=h
section
namespace Rf
structure Yz(w:World)(k n s:Nat): Prop where
 ex: ∃ g c A c0,aG w k 335 #[.slice (some ⟨g,0,none⟩) n c,.slice none 0 0]∧w.cell? ⟨g,0,none⟩=some (.slice A s c0)∧g<w.heap.size
 pos:1≤n
variable{w w':World}{k n s m:Nat}
theorem Yz.ah(h:Yz w k n s)(hb:Below w.heap.size w w'): Yz w' k n s:=by
 obtain⟨⟨g,c,A,c0,h1,h2,h3⟩,h4⟩:=h;exact⟨⟨g,c,A,c0,h1.ah hb,(hb.cell (p:=⟨g,0,none⟩) h3).trans h2,Nat.lt_of_lt_of_le h3 hb.size⟩,h4⟩
theorem RH.dkn{wr:World} {p:Nat} {v:Value}{ad cp:Nat→Nat}(h:RH w wr p s n v ad cp)(hn:1≤n): Yz wr p n s:=by
 obtain⟨g,c,rfl,_,_,_,hg⟩:=h.row.form ai;refine⟨⟨g,c,some ⟨ad 0,0,none⟩,cp 0,h.own,?_,hg⟩,hn⟩;have:=h.row.range (i:=0) (fun i=>rfl) ai 0 (.slice (some ⟨ad 0,0,none⟩) s (cp 0)) dM;simpa using this
theorem aaS(h:Yz w k n s): Calls af 234 #[.pointer (some ⟨k,0,none⟩)] w fun e w'=>e= .returned (.int .i64 n)∧w'=w:=by
 obtain⟨⟨g,c,A,c0,h1,_⟩,_⟩:=h;have x0:w.cell? ⟨k,0,none⟩=some (.slice (some ⟨g,0,none⟩) n c):=h1.cell 0;clear h1;go_enter Tryz.func234,Tryz.ntmps234;go_wp2_with fail;go_ret;exact⟨rfl,rfl⟩
theorem aaQ(h:Yz w k n s): Calls af 231 #[.pointer (some ⟨k,0,none⟩)] w fun e w'=>e= .returned (.int .i64 s)∧w'=w:=by
 obtain⟨⟨g,c,A,c0,h1,x1,_⟩,hp⟩:=h;have x0:w.cell? ⟨k,0,none⟩=some (.slice (some ⟨g,0,none⟩) n c):=h1.cell 0;have hz:((n:Int)==0)=false:=bQ;have hz2: ¬(n:Int)=0:=ai;have hz3:(0:Int)<(n:Int):=ai;clear h1;go_enter Tryz.func231,Tryz.ntmps231;go_wp2_with fail;go_ret;exact⟨rfl,rfl⟩
def dv0(k:Nat): Array Value:=#[.pointer (some ⟨k,0,none⟩),.bool false,.int .i64 (-1),.int .i64 0]
structure Pr(w:World)(m k n s:Nat): Prop where
 own: ∃ a b c,aG w m 235 #[.pointer (some ⟨k,0,none⟩),a,b,c]
 dk:Yz w k n s
theorem Pr.ah(h:Pr w m k n s)(hb:Below w.heap.size w w'): Pr w' m k n s:=by
 obtain⟨⟨a,b,c,h1⟩,h2⟩:=h;exact⟨⟨a,b,c,h1.ah hb⟩,h2.ah hb⟩
theorem aaR(h:Pr w m k n s): Calls af 127 #[.pointer (some ⟨m,0,none⟩)] w fun e w'=>e= .returned (.int .i64 n)∧w'=w:=by
 obtain⟨⟨a,b,c,h1⟩,h2⟩:=h;have x0:w.cell? ⟨m,0,none⟩=some (.pointer (some ⟨k,0,none⟩)):=h1.cell 0;have H2:=aa h2;clear h1 h2;go_enter Tryz.func127,Tryz.ntmps127;go_wp2_with fail;refine ag (aaS H2.o) ?_;go_wp2_with fail;go_ret;exact⟨rfl,rfl⟩
theorem O0(h:Pr w m k n s): Calls af 130 #[.pointer (some ⟨m,0,none⟩)] w fun e w'=>e= .returned (.int .i64 s)∧w'=w:=by
 obtain⟨⟨a,b,c,h1⟩,h2⟩:=h;have x0:w.cell? ⟨m,0,none⟩=some (.pointer (some ⟨k,0,none⟩)):=h1.cell 0;have H2:=aa h2;clear h1 h2;go_enter Tryz.func130,Tryz.ntmps130;go_wp2_with fail;refine ag (aaQ H2.o) ?_;go_wp2_with fail;go_ret;exact⟨rfl,rfl⟩
theorem aaZ(h:Yz w k n s): Calls af 117 #[.pointer (some ⟨k,0,none⟩)] w fun e w'=>∃ m,e= .returned (.pointer (some ⟨m,0,none⟩))∧aG w' m 235 (dv0 k)∧w.heap.size≤m∧Below w.heap.size w w':=by
 have HF:=aa (show ∃ m,jm (.pointer (some ⟨w.heap.size,0,none⟩))= .returned (.pointer (some ⟨m,0,none⟩))∧aG (w.alloc (.cells (dv0 k) 235)) m 235 (dv0 k)∧w.heap.size≤m∧Below w.heap.size w (w.alloc (.cells (dv0 k) 235))from⟨_,rfl,aG.fresh w _ _,Nat.le_refl _,ay (ar _ _) _⟩);clear h;go_enter Tryz.func117,Tryz.ntmps117;go_wp2_with fail;go_ret;exact HF.o
structure BZ(w:World)(r m k n s f c:Nat): Prop where
 own:aG w r 241 #[.pointer (some ⟨m,0,none⟩),.int .i64 f,.int .i64 c]
 dv:Pr w m k n s
theorem BZ.ah{r f c:Nat} (h:BZ w r m k n s f c)(hb:Below w.heap.size w w'): BZ w' r m k n s f c:=⟨h.own.ah hb,h.dv.ah hb⟩
theorem F3{f c:Nat} (h:Pr w m k n s)(h1:1≤c)(h2:f+c≤n)(hn:n≤65536): Calls af 50 #[.pointer (some ⟨m,0,none⟩),.agg #[.int .i64 f,.int .i64 c]] w fun e w'=>∃ r,e= .returned (.tuple #[.pointer (some ⟨r,0,none⟩),.int .i64 0])∧BZ w' r m k n s f c∧w.heap.size≤r∧Below w.heap.size w w':=by
 have hs:(af.info? 120).map (·.size)=some 2:=bh;obtain⟨xs,CV⟩:=ae w.heap.size;obtain⟨w1,a8⟩:=ae (w.alloc (.cells #[.int .i64 f,.int .i64 c] 120));have bp:=aJ a8 CV;have bA:=aa (aK a8);have M0:=aa (h.ah bA.o);have dF:=aa bp;have F4:=aa (show ∀ W,Below w1.heap.size w1 W→Calls af 127 #[.pointer (some ⟨m,0,none⟩)] W (fun e w'=>e= .returned (.int .i64 n)∧w'=W)from fun W hW=>aaR (M0.o.ah hW));have y0:=bp.cl 0;have y1:=bp.cl 1;have tu:=aa (show ∀ w',Below w1.heap.size w1 w'→((fun w'=>w'.cell? ⟨xs,0,none⟩=some (.int .i64 f)∧w'.cell? ⟨xs,1,none⟩=some (.int .i64 c)∧Below w1.heap.size w1 w') w')from fun w' hb=>⟨(hb.cell (p:=⟨xs,0,none⟩) bp.lt).trans y0,(hb.cell (p:=⟨xs,1,none⟩) bp.lt).trans y1,hb⟩);have q0:decide ((f:Int)<0)=false:=gR;have q1:decide ((c:Int)<1)=false:=gR;have q2:decide ((n:Int)<(f:Int))=false:=gR;have q3:aN.wrap ((n:Int) - (f:Int))=(n:Int) - (f:Int):=by rw[mM];omega
 have q4:decide ((n:Int) - (f:Int)<(c:Int))=false:=gR;have q2n:decide (n<f)=false:=gR;clear h bp h1 h2 hn;go_enter Tryz.func50,Tryz.ntmps50;go_wp2_with fail;refine tW (S:=(fun w'=>w'.cell? ⟨xs,0,none⟩=some (.int .i64 f)∧w'.cell? ⟨xs,1,none⟩=some (.int .i64 c)∧Below w1.heap.size w1 w')) (by exact tu.o _ (az (ar _ _))) fun hHeld=>?_
 refine ov 0 1 2 3 4 5 6 7 ?_;refine lA 8 9 10 11 ?_;refine cJ 12 fun K hK=>?_
 go_simp
 (go_at_call 127;refine(F4.o _ hHeld.2.2).mono ?_;rintro e wq ⟨rfl,vO⟩;rw[vO];clear vO wq)
 go_wp2_with fail;refine bW hK (by first|exact qx|exact hHeld) fun qx=>?_
 clear hK K;refine ov 13 14 15 16 17 18 20 21 ?_;refine cJ 19 fun K hK=>?_
 go_simp
 (go_at_call 127;refine(F4.o _ qx.2.2).mono ?_;rintro e wq ⟨rfl,vO⟩;rw[vO];clear vO wq)
 go_wp2_with fail;refine bW hK (by first|exact qx|exact hHeld) fun ej=>?_
 clear hK K;refine SH 22 23 24 ?_;refine bM ?_;have o9:=az (ar w1.heap.size w1);obtain⟨w2,hw2⟩:=ae w1.drew;rw[hw2] at o9 ⊢;have jB:=dF.jC o9;have cu:=bA.dQ o9;have oo:=aa (M0.o.ah o9);clear hHeld qx ej hw2 o9;have HF:=aa (show ∃ r,jm (.tuple #[.pointer (some ⟨w2.heap.size,0,none⟩),.int .i64 0])= .returned (.tuple #[.pointer (some ⟨r,0,none⟩),.int .i64 0])∧BZ (w2.alloc (.cells #[.pointer (some ⟨m,0,none⟩),.int .i64 f,.int .i64 c] 241)) r m k n s f c∧w.heap.size≤r∧Below w.heap.size w (w2.alloc (.cells #[.pointer (some ⟨m,0,none⟩),.int .i64 f,.int .i64 c] 241))from⟨_,rfl,⟨aG.fresh w2 _ _,oo.o.ah (ay (ar _ _) _)⟩,cu.o.size,ay cu.o _⟩);go_wp2_with (refine aC rfl 120 _ rfl xs 120 _ jB.o rfl _ Tryz.underlying120 rfl hs ?_);go_ret2;exact HF.o
end Rf
end
section
namespace Rf
theorem kj(w:World)(n:Nat): Below w.heap.size w (w.drewN n):=⟨rfl,rfl,rfl,Nat.le_refl _,fun _ _=>rfl⟩
theorem D7(w:World)(n k:Nat): (w.drewN n).drewN k=w.drewN (n+k):=by simp[World.drewN,Nat.add_assoc]
theorem Pt{w:World}{r m k n s f c:Nat}(h:BZ w r m k n s f c)(hn:c≤65536)(hs:s≤4096): Calls af 129 #[.pointer (some ⟨r,0,none⟩)] w fun e w'=>e= .returned (.int .i64 (c*s:Nat))∧∃ n,w'=w.drewN n:=by
 have x0:w.cell? ⟨r,0,none⟩=some (.pointer (some ⟨m,0,none⟩)):=h.own.cell 0;have x2:w.cell? ⟨r,2,none⟩=some (.int .i64 c):=h.own.cell 2;have HS:=aa (fun n=>O0 (h.dv.ah (kj w n)));have hcs:c*s≤65536*4096:=Nat.mul_le_mul hn hs;have q:aN.wrap ((c:Int)*(s:Int))=((c*s:Nat):Int):=by rw[mM];push_cast;omega
 clear h;go_enter Tryz.func129,Tryz.ntmps129;go_wp2_with fail;refine wp_region_quiet_lit bh bh ?_;repeat(first|go_big_quiet_step ((go_at_call 130;exact dm (HS.o _)))|quiet_step ((go_at_call 130;exact dm (HS.o _))))
 refine wpQuiet_nil ?_;intro _ hw';obtain⟨nq,hw''⟩:=hw';subst hw'';go_wp2_with fail;go_ret;exact⟨rfl,_,rfl⟩
theorem XH{w:World}{ra rb m k n s fa fb c:Nat}(ha:BZ w ra m k n s fa c)(hb:BZ w rb m k n s fb c)(h2:2≤c)(hn:c≤65536)(hs:s≤4096): Calls af 52 #[.pointer (some ⟨ra,0,none⟩),.pointer (some ⟨rb,0,none⟩)] w fun e w'=>∃ x,e= .returned (.tuple #[.pointer (some ⟨x,0,none⟩),.int .i64 0])∧aG w' x 243 #[.pointer (some ⟨ra,0,none⟩),.pointer (some ⟨rb,0,none⟩)]∧w.heap.size≤x∧Below w.heap.size w w':=by
 obtain⟨xs,CV⟩:=ae w.heap.size;obtain⟨w1,a8⟩:=ae (w.alloc (.cells #[.pointer (some ⟨ra,0,none⟩),.pointer (some ⟨rb,0,none⟩)] 243));have dF:=aa (aJ a8 CV);have bA:=aa (aK a8);have R1:=ha.ah bA.o;have Y':=hb.ah bA.o;have x0:w1.cell? ⟨ra,0,none⟩=some (.pointer (some ⟨m,0,none⟩)):=R1.own.cell 0;have x2:w1.cell? ⟨ra,2,none⟩=some (.int .i64 c):=R1.own.cell 2;have y0:w1.cell? ⟨rb,0,none⟩=some (.pointer (some ⟨m,0,none⟩)):=Y'.own.cell 0;have RE:=aa (show ∀ q r,(r=ra∨r=rb)→Calls af 129 #[.pointer (some ⟨r,0,none⟩)] (w1.drewN q) (fun e w'=>e= .returned (.int .i64 (c*s:Nat))∧∃ n,w'=(w1.drewN q).drewN n)from fun q r hr=>by
  rcases hr with rfl|rfl
  ·exact Pt (R1.ah (kj w1 q)) hn hs
  exact Pt (Y'.ah (kj w1 q)) hn hs)
 have mz:=aa (fun q=>O0 (R1.dv.ah (kj w1 q)));have hc2:decide ((c:Int)<2)=false:=gR;have hc3:decide (c<2)=false:=gR;obtain⟨B,hB⟩:=ae (c*s);rw[hB] at RE;have e1:((B:Int) != (B:Int))=false:=dM;have e2:((s:Int) != (s:Int))=false:=dM;have HX:=aa (show w.heap.size≤xs from ai);clear ha hb R1 Y' h2 hn hs hB;go_enter Tryz.func52,Tryz.ntmps52;go_wp2_with fail;refine wp_region_quiet_lit bh bh ?_;repeat(first|go_big_quiet_step ((first|(go_at_call 130;exact dm (mz.o _))|(go_at_call 129;refine(RE.o _ _ (by first|exact .inl rfl|exact .inr rfl)).mono ?_;rintro e w3 ⟨rfl,q,rfl⟩;exact⟨rfl,_,D7 _ _ _⟩)))|quiet_step ((first|(go_at_call 130;exact dm (mz.o _))|(go_at_call 129;refine(RE.o _ _ (by first|exact .inl rfl|exact .inr rfl)).mono ?_;rintro e w3 ⟨rfl,q,rfl⟩;exact⟨rfl,_,D7 _ _ _⟩))))
 refine wpQuiet_nil ?_;intro _ hw';obtain⟨nq,hw''⟩:=hw';subst hw'';have HF:=aa (show ∃ x,jm (.tuple #[.pointer (some ⟨xs,0,none⟩),.int .i64 0])= .returned (.tuple #[.pointer (some ⟨x,0,none⟩),.int .i64 0])∧aG (w1.drewN nq) x 243 #[.pointer (some ⟨ra,0,none⟩),.pointer (some ⟨rb,0,none⟩)]∧w.heap.size≤x∧Below w.heap.size w (w1.drewN nq)from⟨xs,rfl,dF.o.ah (kj w1 nq),HX.o,av bA.o (kj w1 nq)⟩);go_wp2_with fail;go_ret2;exact HF.o
end Rf
end
section
namespace En
def JQ(p:Nat)(g:Rg)(size:Nat)(w:World)(e:Ending)(w':World): Prop:=∃ r,e= .returned (.tuple #[.pointer (some ⟨r,0,none⟩),.int .i64 0])∧w.heap.size≤r∧fV w' r p g size∧Below w.heap.size w w'
theorem zC{S:Nat→Prop}{w:World}{p:Nat}{g:Rg}{d:bJ}(hD:dB p d S w)(h1:1≤g.count)(h2:g.from_+g.count≤d.dk.dh.length):
  Calls af 49 #[.pointer (some ⟨p,0,none⟩),.agg #[.int .i64 g.from_,.int .i64 g.count]] w (JQ p g d.dk.size w):=by
 have fw:d.dk.Ok:=Tp;have hsz:=fw.size;have hsm:=fw.some;have HSC:=aa fun(W:World) (hW:Below w.heap.size w W)=>JV ((aF p d).ak hD hW)
 have HSI:=aa fun(W:World) (hW:Below w.heap.size w W)=>XD ((aF p d).ak hD hW)
 obtain⟨fr,Kr⟩:=ae g.from_;obtain⟨ct,CC⟩:=ae g.count;obtain⟨n,hn⟩:=ae d.dk.dh.length;obtain⟨size,hsize⟩:=ae d.dk.size;rw[Kr,CC,hn] at h2;rw[CC] at h1;rw[hn] at HSC hsm;rw[hsize] at HSI hsz ⊢;rw[Kr,CC];obtain⟨bx,mr⟩:=ae w.heap.size;obtain⟨w1,a8⟩:=ae (w.alloc (.cells #[.int .i64 fr,.int .i64 ct] 120));have hb1:=aK a8;have ha1:=aJ a8 mr;have x0:=ha1.cl 0;have x1:=ha1.cl 1;have hq:((n:Int)==0)=false:=mQ;have Cz:(n==0)=false:=mQ;have e1: ¬(fr:Int)<0:=ai;have e2: ¬(ct:Int)<1:=ai;have e2a:decide ((ct:Int)<1)=false:=fZ;have e2b: ¬ct=0:=ai;have e2c:decide (ct=0)=false:=fZ;have e3: ¬(n:Int)<(fr:Int):=ai;have hnf:(n:Int) - (fr:Int)=((n - fr:Nat):Int):=ai;have e4: ¬((n - fr:Nat):Int)<(ct:Int):=ai;have e3a:decide ((n:Int)<(fr:Int))=false:=fZ;have e3c:decide (n<fr)=false:=fZ;have e4a:decide (((n - fr:Nat):Int)<(ct:Int))=false:=by rw[decide_eq_false_iff_not];exact e4
 have e4c:decide (n - fr<ct)=false:=by rw[decide_eq_false_iff_not];omega
 have e5:(n:Int)≤65536:=ai;have hwr:aN.wrap ((n - fr:Nat):Int)=((n - fr:Nat):Int):=IntWalk.i64_in _ ai;have bA:=aa hb1;have sK:=aa a8;have yf:=aa mr;have HFR:=aa Kr;have Df:=aa CC;have mz:=aa hsz;have HSM:=aa hsm;have H1:=aa h1;have H2:=aa h2;clear hD fw hsz hsm h1 h2 Kr CC hn hsize mr a8 hb1 ha1;go_enter Tryz.func49,Tryz.ntmps49;go_wp2_with fail;rw[sK.o,yf.o];refine ag (HSC.o w1 bA.o) ?_;go_wp2_with fail;refine wp_region_held_drew (S:=(fun w'=>w'.cell? ⟨bx,0,none⟩=some (.int .i64 fr)∧w'.cell? ⟨bx,1,none⟩=some (.int .i64 ct))) bh Ai (fun hHeld=>?_);refine ov 0 1 2 3 4 5 6 7 ?_;refine lA 8 9 10 11 ?_;refine cJ 12 fun K hK=>?_
 go_simp;refine ag (HSC.o w1.drew (az bA.o)) ?_;go_wp2_with fail;refine bW hK Ai fun qx=>?_
 clear hK K;refine ov 13 14 15 16 17 18 20 21 ?_;refine cJ 19 fun K hK=>?_
 go_simp;refine ag (HSC.o w1.drew (az bA.o)) ?_;go_wp2_with fail;refine bW hK Ai fun ej=>?_
 clear hK K;refine lA 22 23 24 25 ?_;refine bM ?_;go_wp2_with fail;refine wp_region_held_drew (S:=(fun w'=>w'.cell? ⟨bx,0,none⟩=some (.int .i64 fr)∧w'.cell? ⟨bx,1,none⟩=some (.int .i64 ct))) bh Ai (fun hHeld=>?_);refine SH 0 1 2 ?_;refine cJ 3 fun K hK=>?_
 go_simp;refine ag (HSI.o w1.drew.drew (az (az bA.o))) ?_;go_wp2_with fail;refine bW hK Ai fun Mn=>?_
 clear hK K;refine tJ 4 5 ?_;refine cJ 6 fun K hK=>?_
 go_simp;obtain⟨w9,jI⟩:=ae ((w1.alloc (.cells #[.pointer (some ⟨p,0,none⟩),.int .i64 fr,.int .i64 ct,.int .i64 size] 239)).drew.drew);have RZ:Below w1.heap.size w1 w9:=by rw[←jI];exact az (az (ay (ar _ _) _))
 obtain⟨rb,jJ⟩:=ae w1.heap.size;have Mj:aG w9 rb 239 #[.pointer (some ⟨p,0,none⟩),.int .i64 fr,.int .i64 ct,.int .i64 size]:=by rw[←jI,←jJ];exact aG.fresh w1 _ _
 rw[jI,jJ];have y0:w9.cell? ⟨bx,0,none⟩=some (.int .i64 fr):=(RZ.cell (p:=⟨bx,0,none⟩) (bE _ _ x0)).trans x0;have y1:w9.cell? ⟨bx,1,none⟩=some (.int .i64 ct):=(RZ.cell (p:=⟨bx,1,none⟩) (bE _ _ x1)).trans x1;have CF:=aa RZ;have pA:=aa Mj;have uT:=aa jJ;clear jI RZ Mj jJ;refine bW hK (by exact⟨y0,y1⟩) fun qw=>?_
 clear hK K;refine tJ 7 8 ?_;refine bM ?_;go_wp2_with fail;go_ret2;refine⟨rb,rfl,by rw[←uT.o];exact bA.o.size,⟨by rw[HFR.o,Df.o];exact pA.o,mz.o,by rw[Df.o];exact H1.o,by rw[HFR.o,Df.o];have h1:=H2.o;have h2:=HSM.o;omega⟩,av bA.o CF.o⟩
