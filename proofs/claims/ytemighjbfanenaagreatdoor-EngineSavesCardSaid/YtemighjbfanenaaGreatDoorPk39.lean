import Derived.Test.YtemighjbfanenaaGreatDoorPk19
set_option linter.all false
set_option maxRecDepth 100000
set_option maxHeartbeats 16000000
namespace Go.Proofs.YtemighjbfanenaaGreatDoor
open RowKit
open Oc (Bs fZ fF aP rh eP cI)
open En (By yj B3 pL)
open Go.Calls renaming quiet_of_same→nj
open Go.Ending renaming returned→jk
open Go.IntKind renaming wrap_i64→mH,i64→aO
open Go.Proofs.Tryz renaming prog→af
open Go.World renaming block_lt_of_cell?→bD
open RowKit.Below renaming refl→au
theorem AI{p:Prop}(h:p:=by exact⟨x0,x1⟩):p:=h
section
namespace Rf
structure YH(w:World)(k n s:Nat): Prop where
 ex: ∃ g c A c0,aG w k 335 #[.slice (some ⟨g,0,none⟩) n c,.slice none 0 0]∧w.cell? ⟨g,0,none⟩=some (.slice A s c0)∧g<w.heap.size
 pos:1≤n
variable{w w':World}{k n s m:Nat}
theorem YH.ai(h:YH w k n s)(hb:Below w.heap.size w w'): YH w' k n s:=by
 obtain⟨⟨g,c,A,c0,h1,h2,h3⟩,h4⟩:=h;exact⟨⟨g,c,A,c0,h1.ai hb,(hb.cell (p:=⟨g,0,none⟩) h3).trans h2,Nat.lt_of_lt_of_le h3 hb.size⟩,h4⟩
theorem RU.dkn{wr:World} {p:Nat} {v:Value}{ad cp:Nat→Nat}(h:RU w wr p s n v ad cp)(hn:1≤n): YH wr p n s:=by
 obtain⟨g,c,rfl,_,_,_,hg⟩:=h.row.form aj;refine⟨⟨g,c,some ⟨ad 0,0,none⟩,cp 0,h.own,?_,hg⟩,hn⟩;have:=h.row.range (i:=0) (fun i=>rfl) aj 0 (.slice (some ⟨ad 0,0,none⟩) s (cp 0)) dR;simpa using this
theorem aaZ(h:YH w k n s): Calls af 234 #[.pointer (some ⟨k,0,none⟩)] w fun e w'=>e= .returned (.int .i64 n)∧w'=w:=by
 obtain⟨⟨g,c,A,c0,h1,_⟩,_⟩:=h;have x0:w.cell? ⟨k,0,none⟩=some (.slice (some ⟨g,0,none⟩) n c):=h1.cell 0;clear h1;go_enter Tryz.func234,Tryz.ntmps234;go_wp2_with fail;go_ret;exact⟨rfl,rfl⟩
theorem aaX(h:YH w k n s): Calls af 231 #[.pointer (some ⟨k,0,none⟩)] w fun e w'=>e= .returned (.int .i64 s)∧w'=w:=by
 obtain⟨⟨g,c,A,c0,h1,x1,_⟩,hp⟩:=h;have x0:w.cell? ⟨k,0,none⟩=some (.slice (some ⟨g,0,none⟩) n c):=h1.cell 0;have hz:((n:Int)==0)=false:=cg;have hz2: ¬(n:Int)=0:=aj;have hz3:(0:Int)<(n:Int):=aj;clear h1;go_enter Tryz.func231,Tryz.ntmps231;go_wp2_with fail;go_ret;exact⟨rfl,rfl⟩
def dv0(k:Nat): Array Value:=#[.pointer (some ⟨k,0,none⟩),.bool false,.int .i64 (-1),.int .i64 0]
structure PD(w:World)(m k n s:Nat): Prop where
 own: ∃ a b c,aG w m 235 #[.pointer (some ⟨k,0,none⟩),a,b,c]
 dk:YH w k n s
theorem PD.ai(h:PD w m k n s)(hb:Below w.heap.size w w'): PD w' m k n s:=by
 obtain⟨⟨a,b,c,h1⟩,h2⟩:=h;exact⟨⟨a,b,c,h1.ai hb⟩,h2.ai hb⟩
theorem aaY(h:PD w m k n s): Calls af 127 #[.pointer (some ⟨m,0,none⟩)] w fun e w'=>e= .returned (.int .i64 n)∧w'=w:=by
 obtain⟨⟨a,b,c,h1⟩,h2⟩:=h;have x0:w.cell? ⟨m,0,none⟩=some (.pointer (some ⟨k,0,none⟩)):=h1.cell 0;have H2:=aa h2;clear h1 h2;go_enter Tryz.func127,Tryz.ntmps127;go_wp2_with fail;refine ag (aaZ H2.o) ?_;go_wp2_with fail;go_ret;exact⟨rfl,rfl⟩
theorem Pd(h:PD w m k n s): Calls af 130 #[.pointer (some ⟨m,0,none⟩)] w fun e w'=>e= .returned (.int .i64 s)∧w'=w:=by
 obtain⟨⟨a,b,c,h1⟩,h2⟩:=h;have x0:w.cell? ⟨m,0,none⟩=some (.pointer (some ⟨k,0,none⟩)):=h1.cell 0;have H2:=aa h2;clear h1 h2;go_enter Tryz.func130,Tryz.ntmps130;go_wp2_with fail;refine ag (aaX H2.o) ?_;go_wp2_with fail;go_ret;exact⟨rfl,rfl⟩
theorem aa6(h:YH w k n s): Calls af 117 #[.pointer (some ⟨k,0,none⟩)] w fun e w'=>∃ m,e= .returned (.pointer (some ⟨m,0,none⟩))∧aG w' m 235 (dv0 k)∧w.heap.size≤m∧Below w.heap.size w w':=by
 have HF:=aa (show ∃ m,jk (.pointer (some ⟨w.heap.size,0,none⟩))= .returned (.pointer (some ⟨m,0,none⟩))∧aG (w.alloc (.cells (dv0 k) 235)) m 235 (dv0 k)∧w.heap.size≤m∧Below w.heap.size w (w.alloc (.cells (dv0 k) 235))from⟨_,rfl,aG.fresh w _ _,Nat.le_refl _,ax (au _ _) _⟩);clear h;go_enter Tryz.func117,Tryz.ntmps117;go_wp2_with fail;go_ret;exact HF.o
structure Ci(w:World)(r m k n s f c:Nat): Prop where
 own:aG w r 241 #[.pointer (some ⟨m,0,none⟩),.int .i64 f,.int .i64 c]
 dv:PD w m k n s
theorem Ci.ai{r f c:Nat} (h:Ci w r m k n s f c)(hb:Below w.heap.size w w'): Ci w' r m k n s f c:=⟨h.own.ai hb,h.dv.ai hb⟩
theorem Gl{f c:Nat} (h:PD w m k n s)(h1:1≤c)(h2:f+c≤n)(hn:n≤65536): Calls af 50 #[.pointer (some ⟨m,0,none⟩),.agg #[.int .i64 f,.int .i64 c]] w fun e w'=>∃ r,e= .returned (.tuple #[.pointer (some ⟨r,0,none⟩),.int .i64 0])∧Ci w' r m k n s f c∧w.heap.size≤r∧Below w.heap.size w w':=by
 have hs:(af.info? 120).map (·.size)=some 2:=br;obtain⟨xs,yT⟩:=ae w.heap.size;obtain⟨w1,aZ⟩:=ae (w.alloc (.cells #[.int .i64 f,.int .i64 c] 120));have bt:=aK aZ yT;have bz:=aa (aL aZ);have Ni:=aa (h.ai bz.o);have dz:=aa bt;have Gm:=aa (show ∀ W,Below w1.heap.size w1 W→Calls af 127 #[.pointer (some ⟨m,0,none⟩)] W (fun e w'=>e= .returned (.int .i64 n)∧w'=W)from fun W hW=>aaY (Ni.o.ai hW));have y0:=bt.cl 0;have y1:=bt.cl 1;have tB:=aa (show ∀ w',Below w1.heap.size w1 w'→((fun w'=>w'.cell? ⟨xs,0,none⟩=some (.int .i64 f)∧w'.cell? ⟨xs,1,none⟩=some (.int .i64 c)∧Below w1.heap.size w1 w') w')from fun w' hb=>⟨(hb.cell (p:=⟨xs,0,none⟩) bt.lt).trans y0,(hb.cell (p:=⟨xs,1,none⟩) bt.lt).trans y1,hb⟩);have q0:decide ((f:Int)<0)=false:=gT;have q1:decide ((c:Int)<1)=false:=gT;have q2:decide ((n:Int)<(f:Int))=false:=gT;have q3:aO.wrap ((n:Int) - (f:Int))=(n:Int) - (f:Int):=by rw[mH];omega
 have q4:decide ((n:Int) - (f:Int)<(c:Int))=false:=gT;have q2n:decide (n<f)=false:=gT;clear h bt h1 h2 hn;go_enter Tryz.func50,Tryz.ntmps50;go_wp2_with fail;refine ud (S:=(fun w'=>w'.cell? ⟨xs,0,none⟩=some (.int .i64 f)∧w'.cell? ⟨xs,1,none⟩=some (.int .i64 c)∧Below w1.heap.size w1 w')) (by exact tB.o _ (az (au _ _))) fun hHeld=>?_
 refine ov 0 1 2 3 4 5 6 7 ?_;refine lu 8 9 10 11 ?_;refine cG 12 fun K hK=>?_
 go_simp
 (go_at_call 127;refine(Gm.o _ hHeld.2.2).mono ?_;rintro e wq ⟨rfl,vY⟩;rw[vY];clear vY wq)
 go_wp2_with fail;refine bW hK (by first|exact qC|exact hHeld) fun qC=>?_
 clear hK K;refine ov 13 14 15 16 17 18 20 21 ?_;refine cG 19 fun K hK=>?_
 go_simp
 (go_at_call 127;refine(Gm.o _ qC.2.2).mono ?_;rintro e wq ⟨rfl,vY⟩;rw[vY];clear vY wq)
 go_wp2_with fail;refine bW hK (by first|exact qC|exact hHeld) fun et=>?_
 clear hK K;refine SX 22 23 24 ?_;refine bO ?_;have pc:=az (au w1.heap.size w1);obtain⟨w2,hw2⟩:=ae w1.drew;rw[hw2] at pc ⊢;have iZ:=dz.js pc;have cu:=bz.dP pc;have jG:=aa (Ni.o.ai pc);clear hHeld qC et hw2 pc;have HF:=aa (show ∃ r,jk (.tuple #[.pointer (some ⟨w2.heap.size,0,none⟩),.int .i64 0])= .returned (.tuple #[.pointer (some ⟨r,0,none⟩),.int .i64 0])∧Ci (w2.alloc (.cells #[.pointer (some ⟨m,0,none⟩),.int .i64 f,.int .i64 c] 241)) r m k n s f c∧w.heap.size≤r∧Below w.heap.size w (w2.alloc (.cells #[.pointer (some ⟨m,0,none⟩),.int .i64 f,.int .i64 c] 241))from⟨_,rfl,⟨aG.fresh w2 _ _,jG.o.ai (ax (au _ _) _)⟩,cu.o.size,ax cu.o _⟩);go_wp2_with (refine aC rfl 120 _ rfl xs 120 _ iZ.o rfl _ Tryz.underlying120 rfl hs ?_);go_ret2;exact HF.o
end Rf
end
section
namespace Rf
theorem kh(w:World)(n:Nat): Below w.heap.size w (w.drewN n):=⟨rfl,rfl,rfl,Nat.le_refl _,fun _ _=>rfl⟩
theorem Eo(w:World)(n k:Nat): (w.drewN n).drewN k=w.drewN (n+k):=by simp[World.drewN,Nat.add_assoc]
theorem PG{w:World}{r m k n s f c:Nat}(h:Ci w r m k n s f c)(hn:c≤65536)(hs:s≤4096): Calls af 129 #[.pointer (some ⟨r,0,none⟩)] w fun e w'=>e= .returned (.int .i64 (c*s:Nat))∧∃ n,w'=w.drewN n:=by
 have x0:w.cell? ⟨r,0,none⟩=some (.pointer (some ⟨m,0,none⟩)):=h.own.cell 0;have x2:w.cell? ⟨r,2,none⟩=some (.int .i64 c):=h.own.cell 2;have HS:=aa (fun n=>Pd (h.dv.ai (kh w n)));have hcs:c*s≤65536*4096:=Nat.mul_le_mul hn hs;have q:aO.wrap ((c:Int)*(s:Int))=((c*s:Nat):Int):=by rw[mH];push_cast;omega
 clear h;go_enter Tryz.func129,Tryz.ntmps129;go_wp2_with fail;refine wp_region_quiet_lit br br ?_;repeat(first|go_big_quiet_step ((go_at_call 130;exact nj (HS.o _)))|quiet_step ((go_at_call 130;exact nj (HS.o _))))
 refine wpQuiet_nil ?_;intro _ hw';obtain⟨nq,hw''⟩:=hw';subst hw'';go_wp2_with fail;go_ret;exact⟨rfl,_,rfl⟩
theorem XP{w:World}{ra rb m k n s fa fb c:Nat}(ha:Ci w ra m k n s fa c)(hb:Ci w rb m k n s fb c)(h2:2≤c)(hn:c≤65536)(hs:s≤4096): Calls af 52 #[.pointer (some ⟨ra,0,none⟩),.pointer (some ⟨rb,0,none⟩)] w fun e w'=>∃ x,e= .returned (.tuple #[.pointer (some ⟨x,0,none⟩),.int .i64 0])∧aG w' x 243 #[.pointer (some ⟨ra,0,none⟩),.pointer (some ⟨rb,0,none⟩)]∧w.heap.size≤x∧Below w.heap.size w w':=by
 obtain⟨xs,yT⟩:=ae w.heap.size;obtain⟨w1,aZ⟩:=ae (w.alloc (.cells #[.pointer (some ⟨ra,0,none⟩),.pointer (some ⟨rb,0,none⟩)] 243));have dz:=aa (aK aZ yT);have bz:=aa (aL aZ);have Sf:=ha.ai bz.o;have Zd:=hb.ai bz.o;have x0:w1.cell? ⟨ra,0,none⟩=some (.pointer (some ⟨m,0,none⟩)):=Sf.own.cell 0;have x2:w1.cell? ⟨ra,2,none⟩=some (.int .i64 c):=Sf.own.cell 2;have y0:w1.cell? ⟨rb,0,none⟩=some (.pointer (some ⟨m,0,none⟩)):=Zd.own.cell 0;have Zw:=aa (show ∀ q r,(r=ra∨r=rb)→Calls af 129 #[.pointer (some ⟨r,0,none⟩)] (w1.drewN q) (fun e w'=>e= .returned (.int .i64 (c*s:Nat))∧∃ n,w'=(w1.drewN q).drewN n)from fun q r hr=>by
  rcases hr with rfl|rfl
  ·exact PG (Sf.ai (kh w1 q)) hn hs
  exact PG (Zd.ai (kh w1 q)) hn hs)
 have mi:=aa (fun q=>Pd (Sf.dv.ai (kh w1 q)));have hc2:decide ((c:Int)<2)=false:=gT;have hc3:decide (c<2)=false:=gT;obtain⟨B,hB⟩:=ae (c*s);rw[hB] at Zw;have e1:((B:Int) != (B:Int))=false:=dR;have e2:((s:Int) != (s:Int))=false:=dR;have HX:=aa (show w.heap.size≤xs from aj);clear ha hb Sf Zd h2 hn hs hB;go_enter Tryz.func52,Tryz.ntmps52;go_wp2_with fail;refine wp_region_quiet_lit br br ?_;repeat(first|go_big_quiet_step ((first|(go_at_call 130;exact nj (mi.o _))|(go_at_call 129;refine(Zw.o _ _ (by first|exact .inl rfl|exact .inr rfl)).mono ?_;rintro e w3 ⟨rfl,q,rfl⟩;exact⟨rfl,_,Eo _ _ _⟩)))|quiet_step ((first|(go_at_call 130;exact nj (mi.o _))|(go_at_call 129;refine(Zw.o _ _ (by first|exact .inl rfl|exact .inr rfl)).mono ?_;rintro e w3 ⟨rfl,q,rfl⟩;exact⟨rfl,_,Eo _ _ _⟩))))
 refine wpQuiet_nil ?_;intro _ hw';obtain⟨nq,hw''⟩:=hw';subst hw'';have HF:=aa (show ∃ x,jk (.tuple #[.pointer (some ⟨xs,0,none⟩),.int .i64 0])= .returned (.tuple #[.pointer (some ⟨x,0,none⟩),.int .i64 0])∧aG (w1.drewN nq) x 243 #[.pointer (some ⟨ra,0,none⟩),.pointer (some ⟨rb,0,none⟩)]∧w.heap.size≤x∧Below w.heap.size w (w1.drewN nq)from⟨xs,rfl,dz.o.ai (kh w1 nq),HX.o,av bz.o (kh w1 nq)⟩);go_wp2_with fail;go_ret2;exact HF.o
end Rf
end
section
namespace En
def J'(p:Nat)(g:Rg)(size:Nat)(w:World)(e:Ending)(w':World): Prop:=∃ r,e= .returned (.tuple #[.pointer (some ⟨r,0,none⟩),.int .i64 0])∧w.heap.size≤r∧fT w' r p g size∧Below w.heap.size w w'
theorem zW{S:Nat→Prop}{w:World}{p:Nat}{g:Rg}{d:bK}(hD:dF p d S w)(h1:1≤g.count)(h2:g.from_+g.count≤d.dk.df.length):
  Calls af 49 #[.pointer (some ⟨p,0,none⟩),.agg #[.int .i64 g.from_,.int .i64 g.count]] w (J' p g d.dk.size w):=by
 have fq:d.dk.Ok:=Tz;have hsz:=fq.size;have hsm:=fq.some;have HSC:=aa fun(W:World) (hW:Below w.heap.size w W)=>Ke ((aD p d).ak hD hW)
 have HSI:=aa fun(W:World) (hW:Below w.heap.size w W)=>XL ((aD p d).ak hD hW)
 obtain⟨fr,KN⟩:=ae g.from_;obtain⟨ct,Eh⟩:=ae g.count;obtain⟨n,hn⟩:=ae d.dk.df.length;obtain⟨size,hsize⟩:=ae d.dk.size;rw[KN,Eh,hn] at h2;rw[Eh] at h1;rw[hn] at HSC hsm;rw[hsize] at HSI hsz ⊢;rw[KN,Eh];obtain⟨bx,mh⟩:=ae w.heap.size;obtain⟨w1,aZ⟩:=ae (w.alloc (.cells #[.int .i64 fr,.int .i64 ct] 120));have hb1:=aL aZ;have ha1:=aK aZ mh;have x0:=ha1.cl 0;have x1:=ha1.cl 1;have hq:((n:Int)==0)=false:=mM;have CQ:(n==0)=false:=mM;have e1: ¬(fr:Int)<0:=aj;have e2: ¬(ct:Int)<1:=aj;have e2a:decide ((ct:Int)<1)=false:=fV;have e2b: ¬ct=0:=aj;have e2c:decide (ct=0)=false:=fV;have e3: ¬(n:Int)<(fr:Int):=aj;have hnf:(n:Int) - (fr:Int)=((n - fr:Nat):Int):=aj;have e4: ¬((n - fr:Nat):Int)<(ct:Int):=aj;have e3a:decide ((n:Int)<(fr:Int))=false:=fV;have e3c:decide (n<fr)=false:=fV;have e4a:decide (((n - fr:Nat):Int)<(ct:Int))=false:=by rw[decide_eq_false_iff_not];exact e4
 have e4c:decide (n - fr<ct)=false:=by rw[decide_eq_false_iff_not];omega
 have e5:(n:Int)≤65536:=aj;have hwr:aO.wrap ((n - fr:Nat):Int)=((n - fr:Nat):Int):=IntWalk.i64_in _ aj;have bz:=aa hb1;have sN:=aa aZ;have yr:=aa mh;have HFR:=aa KN;have CY:=aa Eh;have mi:=aa hsz;have HSM:=aa hsm;have H1:=aa h1;have H2:=aa h2;clear hD fq hsz hsm h1 h2 KN Eh hn hsize mh aZ hb1 ha1;go_enter Tryz.func49,Tryz.ntmps49;go_wp2_with fail;rw[sN.o,yr.o];refine ag (HSC.o w1 bz.o) ?_;go_wp2_with fail;refine wp_region_held_drew (S:=(fun w'=>w'.cell? ⟨bx,0,none⟩=some (.int .i64 fr)∧w'.cell? ⟨bx,1,none⟩=some (.int .i64 ct))) br AI (fun hHeld=>?_);refine ov 0 1 2 3 4 5 6 7 ?_;refine lu 8 9 10 11 ?_;refine cG 12 fun K hK=>?_
 go_simp;refine ag (HSC.o w1.drew (az bz.o)) ?_;go_wp2_with fail;refine bW hK AI fun qC=>?_
 clear hK K;refine ov 13 14 15 16 17 18 20 21 ?_;refine cG 19 fun K hK=>?_
 go_simp;refine ag (HSC.o w1.drew (az bz.o)) ?_;go_wp2_with fail;refine bW hK AI fun et=>?_
 clear hK K;refine lu 22 23 24 25 ?_;refine bO ?_;go_wp2_with fail;refine wp_region_held_drew (S:=(fun w'=>w'.cell? ⟨bx,0,none⟩=some (.int .i64 fr)∧w'.cell? ⟨bx,1,none⟩=some (.int .i64 ct))) br AI (fun hHeld=>?_);refine SX 0 1 2 ?_;refine cG 3 fun K hK=>?_
 go_simp;refine ag (HSI.o w1.drew.drew (az (az bz.o))) ?_;go_wp2_with fail;refine bW hK AI fun MF=>?_
 clear hK K;refine tX 4 5 ?_;refine cG 6 fun K hK=>?_
 go_simp;obtain⟨w9,jH⟩:=ae ((w1.alloc (.cells #[.pointer (some ⟨p,0,none⟩),.int .i64 fr,.int .i64 ct,.int .i64 size] 239)).drew.drew);have Se:Below w1.heap.size w1 w9:=by rw[←jH];exact az (az (ax (au _ _) _))
 obtain⟨rb,jI⟩:=ae w1.heap.size;have MB:aG w9 rb 239 #[.pointer (some ⟨p,0,none⟩),.int .i64 fr,.int .i64 ct,.int .i64 size]:=by rw[←jH,←jI];exact aG.fresh w1 _ _
 rw[jH,jI];have y0:w9.cell? ⟨bx,0,none⟩=some (.int .i64 fr):=(Se.cell (p:=⟨bx,0,none⟩) (bD _ _ x0)).trans x0;have y1:w9.cell? ⟨bx,1,none⟩=some (.int .i64 ct):=(Se.cell (p:=⟨bx,1,none⟩) (bD _ _ x1)).trans x1;have zD:=aa Se;have pz:=aa MB;have uZ:=aa jI;clear jH Se MB jI;refine bW hK (by exact⟨y0,y1⟩) fun qB=>?_
 clear hK K;refine tX 7 8 ?_;refine bO ?_;go_wp2_with fail;go_ret2;refine⟨rb,rfl,by rw[←uZ.o];exact bz.o.size,⟨by rw[HFR.o,CY.o];exact pz.o,mi.o,by rw[CY.o];exact H1.o,by rw[HFR.o,CY.o];have h1:=H2.o;have h2:=HSM.o;omega⟩,av bz.o zD.o⟩
