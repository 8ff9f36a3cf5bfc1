import Derived.Test.YtemighjbfanenaaGreatDoorQk15
set_option linter.all false
set_option maxRecDepth 100000
set_option maxHeartbeats 16000000
namespace Go.Proofs.YtemighjbfanenaaGreatDoor
open RowKit
open Go.Proofs.Tryz renaming prog→af
open RowKit.Below renaming refl→ar
theorem aer{p:Prop}(h:p:=by
 have hn4:n≤1024:=h.small.2.2.2.2;have c2:decide ((i:Int)<0)=false:=gR;have c3:decide ((n:Int)≤(i:Int))=false:=gR;have c3n:decide (n≤i)=false:=gR;have HHV:=aa hv;clear hv;have HH:=aa h;clear h;go_enter Tryz.func240,Tryz.ntmps240;go_wp2_with fail;have hb1:Below w.heap.size w (w.alloc (.cells #[.int .u32 id,.int .i64 (i:Int),.int .i64 aR] 171)):=ay (ar _ _) _;have bp:aG (w.alloc (.cells #[.int .u32 id,.int .i64 (i:Int),.int .i64 aR] 171)) w.heap.size 171 #[.int .u32 id,.int .i64 (i:Int),.int .i64 aR]:=aG.fresh w _ _;obtain⟨w1,a8⟩:=ae (w.alloc (.cells #[.int .u32 id,.int .i64 (i:Int),.int .i64 aR] 171));obtain⟨vb,oh⟩:=ae w.heap.size;rw[a8] at hb1 bp ⊢;have ku:=aa (HH.o.bg.ak hb1);have bA:=aa hb1;clear hb1;rw[oh] at bp ⊢;clear a8 oh;have tu: ∀ w',Below w1.heap.size w1 w'→(w'.cell? ⟨vb,0,none⟩=some (.int .u32 id)∧w'.cell? ⟨vb,1,none⟩=some (.int .i64 (i:Int))∧w'.cell? ⟨vb,2,none⟩=some (.int .i64 aR)∧w'.cell? ⟨b,0,none⟩=some (.int .i64 n)∧w'.cell? ⟨b,4,none⟩=some (.int .i64 aq)∧w'.cell? ⟨b,5,none⟩=some (.int .u32 next)∧w'.cell? ⟨b,6,none⟩=some (.pointer (some ⟨q.tp,0,none⟩))∧Below w1.heap.size w1 w'):=fun w' hb=>⟨(bp.ah hb).cell 0,(bp.ah hb).cell 1,(bp.ah hb).cell 2,(ku.o.own.ah hb).cell 0,(ku.o.own.ah hb).cell 4,(ku.o.own.ah hb).cell 5,(ku.o.own.ah hb).cell 6,hb⟩
 have tu:=aa tu;clear bp;refine tW (S:=(fun w'=>w'.cell? ⟨vb,0,none⟩=some (.int .u32 id)∧w'.cell? ⟨vb,1,none⟩=some (.int .i64 (i:Int))∧w'.cell? ⟨vb,2,none⟩=some (.int .i64 aR)∧w'.cell? ⟨b,0,none⟩=some (.int .i64 n)∧w'.cell? ⟨b,4,none⟩=some (.int .i64 aq)∧w'.cell? ⟨b,5,none⟩=some (.int .u32 next)∧w'.cell? ⟨b,6,none⟩=some (.pointer (some ⟨q.tp,0,none⟩))∧Below w1.heap.size w1 w')) NL fun hHeld=>?_
 refine ov 0 1 2 3 4 5 6 7 ?_;refine ov 8 9 10 11 12 13 14 15 ?_;refine ov 16 17 18 19 20 21 22 23 ?_;refine ov 24 25 26 27 28 29 30 31 ?_;refine lA 32 33 34 35 ?_;refine cJ 36 fun K hK=>?_
 go_simp;go_at_call 157;refine(yj.pc q.tp q.tg q.tc n i q.ws _ (ku.o.ak (az (ar _ _))).taken hi ai).mono ?_;rintro e w3 ⟨rfl,hw3⟩;rw[hw3,HHV.o];clear hw3 w3;go_wp2_with fail;refine bW hK S6 fun aao=>?_
 clear hK K;refine tJ 37 38 ?_;refine bM ?_;go_wp2_with fail;refine tW (S:=(fun w'=>w'.cell? ⟨vb,0,none⟩=some (.int .u32 id)∧w'.cell? ⟨vb,1,none⟩=some (.int .i64 (i:Int))∧w'.cell? ⟨vb,2,none⟩=some (.int .i64 aR)∧w'.cell? ⟨b,0,none⟩=some (.int .i64 n)∧w'.cell? ⟨b,4,none⟩=some (.int .i64 aq)∧w'.cell? ⟨b,5,none⟩=some (.int .u32 next)∧w'.cell? ⟨b,6,none⟩=some (.pointer (some ⟨q.tp,0,none⟩))∧Below w1.heap.size w1 w')) aea fun hHeld=>?_
 refine ov 0 1 2 3 4 5 6 7 ?_;refine lA 8 9 10 11 ?_;refine ty 12 ?_;refine bM ?_;go_wp2_with fail;go_ret;exact⟨rfl,av bA.o abK⟩):p:=h
theorem ZV{p:Prop}(h:p:=by
 have HH:=aa h;clear h;go_enter Tryz.func240,Tryz.ntmps240;go_wp2_with fail;have hb1:Below w.heap.size w (w.alloc (.cells #[.int .u32 id,.int .i64 aw,.int .i64 aR] 171)):=ay (ar _ _) _;have bp:aG (w.alloc (.cells #[.int .u32 id,.int .i64 aw,.int .i64 aR] 171)) w.heap.size 171 #[.int .u32 id,.int .i64 aw,.int .i64 aR]:=aG.fresh w _ _;obtain⟨w1,a8⟩:=ae (w.alloc (.cells #[.int .u32 id,.int .i64 aw,.int .i64 aR] 171));obtain⟨vb,oh⟩:=ae w.heap.size;rw[a8] at hb1 bp ⊢;have ku:=aa (HH.o.bg.ak hb1);have bA:=aa hb1;clear hb1;rw[oh] at bp ⊢;clear a8 oh;have tu: ∀ w',Below w1.heap.size w1 w'→(w'.cell? ⟨vb,0,none⟩=some (.int .u32 id)∧w'.cell? ⟨vb,1,none⟩=some (.int .i64 aw)∧w'.cell? ⟨vb,2,none⟩=some (.int .i64 aR)∧w'.cell? ⟨b,0,none⟩=some (.int .i64 n)∧w'.cell? ⟨b,4,none⟩=some (.int .i64 aq)∧w'.cell? ⟨b,5,none⟩=some (.int .u32 next)∧w'.cell? ⟨b,6,none⟩=some (.pointer (some ⟨q.tp,0,none⟩))∧Below w1.heap.size w1 w'):=fun w' hb=>⟨(bp.ah hb).cell 0,(bp.ah hb).cell 1,(bp.ah hb).cell 2,(ku.o.own.ah hb).cell 0,(ku.o.own.ah hb).cell 4,(ku.o.own.ah hb).cell 5,(ku.o.own.ah hb).cell 6,hb⟩
 have tu:=aa tu;clear bp;refine tW (S:=(fun w'=>w'.cell? ⟨vb,0,none⟩=some (.int .u32 id)∧w'.cell? ⟨vb,1,none⟩=some (.int .i64 aw)∧w'.cell? ⟨vb,2,none⟩=some (.int .i64 aR)∧w'.cell? ⟨b,0,none⟩=some (.int .i64 n)∧w'.cell? ⟨b,4,none⟩=some (.int .i64 aq)∧w'.cell? ⟨b,5,none⟩=some (.int .u32 next)∧w'.cell? ⟨b,6,none⟩=some (.pointer (some ⟨q.tp,0,none⟩))∧Below w1.heap.size w1 w')) NL fun hHeld=>?_
 refine ov 0 1 2 3 4 5 6 7 ?_;refine ov 8 9 10 11 12 13 14 15 ?_;refine ov 16 17 18 19 20 21 22 23 ?_;refine ov 24 25 26 27 28 29 30 31 ?_;refine P2 32 33 34 35 36 37 ?_;refine ty 38 ?_;refine bM ?_;go_wp2_with fail;go_ret;exact⟨rfl,av bA.o (az (ar _ _))⟩):p:=h
theorem acL{p:Prop}(h:p:=by
 have hn4:n≤1024:=h.small.2.2.2.2;have c2:decide ((i:Int)<0)=false:=gR;have c3:decide ((n:Int)≤(i:Int))=false:=gR;have c3n:decide (n≤i)=false:=gR;have HHV:=aa hv;clear hv;have HH:=aa h;clear h;go_enter Tryz.func240,Tryz.ntmps240;go_wp2_with fail;have hb1:Below w.heap.size w (w.alloc (.cells #[.int .u32 id,.int .i64 (i:Int),.int .i64 aR] 171)):=ay (ar _ _) _;have bp:aG (w.alloc (.cells #[.int .u32 id,.int .i64 (i:Int),.int .i64 aR] 171)) w.heap.size 171 #[.int .u32 id,.int .i64 (i:Int),.int .i64 aR]:=aG.fresh w _ _;obtain⟨w1,a8⟩:=ae (w.alloc (.cells #[.int .u32 id,.int .i64 (i:Int),.int .i64 aR] 171));obtain⟨vb,oh⟩:=ae w.heap.size;rw[a8] at hb1 bp ⊢;have ku:=aa (HH.o.bg.ak hb1);have bA:=aa hb1;clear hb1;rw[oh] at bp ⊢;clear a8 oh;have tu: ∀ w',Below w1.heap.size w1 w'→(w'.cell? ⟨vb,0,none⟩=some (.int .u32 id)∧w'.cell? ⟨vb,1,none⟩=some (.int .i64 (i:Int))∧w'.cell? ⟨vb,2,none⟩=some (.int .i64 aR)∧w'.cell? ⟨b,0,none⟩=some (.int .i64 n)∧w'.cell? ⟨b,4,none⟩=some (.int .i64 aq)∧w'.cell? ⟨b,5,none⟩=some (.int .u32 next)∧w'.cell? ⟨b,6,none⟩=some (.pointer (some ⟨q.tp,0,none⟩))∧Below w1.heap.size w1 w'):=fun w' hb=>⟨(bp.ah hb).cell 0,(bp.ah hb).cell 1,(bp.ah hb).cell 2,(ku.o.own.ah hb).cell 0,(ku.o.own.ah hb).cell 4,(ku.o.own.ah hb).cell 5,(ku.o.own.ah hb).cell 6,hb⟩
 have tu:=aa tu;clear bp;refine tW (S:=(fun w'=>w'.cell? ⟨vb,0,none⟩=some (.int .u32 id)∧w'.cell? ⟨vb,1,none⟩=some (.int .i64 (i:Int))∧w'.cell? ⟨vb,2,none⟩=some (.int .i64 aR)∧w'.cell? ⟨b,0,none⟩=some (.int .i64 n)∧w'.cell? ⟨b,4,none⟩=some (.int .i64 aq)∧w'.cell? ⟨b,5,none⟩=some (.int .u32 next)∧w'.cell? ⟨b,6,none⟩=some (.pointer (some ⟨q.tp,0,none⟩))∧Below w1.heap.size w1 w')) NL fun hHeld=>?_
 refine ov 0 1 2 3 4 5 6 7 ?_;refine ov 8 9 10 11 12 13 14 15 ?_;refine ov 16 17 18 19 20 21 22 23 ?_;refine ov 24 25 26 27 28 29 30 31 ?_;refine lA 32 33 34 35 ?_;refine cJ 36 fun K hK=>?_
 go_simp;go_at_call 157;refine(yj.pc q.tp q.tg q.tc n i q.ws _ (ku.o.ak (az (ar _ _))).taken hi ai).mono ?_;rintro e w3 ⟨rfl,hw3⟩;rw[hw3,HHV.o];clear hw3 w3;go_wp2_with fail;refine bW hK S6 fun aao=>?_
 clear hK K;refine tJ 37 38 ?_;refine bM ?_;go_wp2_with fail;go_ret;exact⟨rfl,av bA.o abK⟩):p:=h
theorem abK{p:Prop}(h:p:=by first|exact az (ar _ _)|exact az (az (ar _ _))):p:=h
theorem aea{p:Prop}(h:p:=by exact tu.o _ (az (az (ar _ _)))):p:=h
theorem S6{p:Prop}(h:p:=by first|assumption):p:=h
section
namespace Bk
open yj (fU hasB)
theorem ZT(S:Nat→Prop)(b n au:Nat)(aA next aq:Int)(L:List bS)(q:bI)(id aw aR last:Int)(w:World)(h:bo S w b n au aA next aq L q)(c0:decide (id≤last)=true):
  Calls af 240 #[.pointer (some ⟨b,0,none⟩),.agg #[.int .u32 id,.int .i64 aw,.int .i64 aR],.int .u32 last] w fun e w'=>e= .returned (.bool false)∧Below w.heap.size w w':=by
 exact ZV
theorem ZS(S:Nat→Prop)(b n au:Nat)(aA next aq:Int)(L:List bS)(q:bI)(id aw aR last:Int)(w:World)(h:bo S w b n au aA next aq L q)(c0:decide (id≤last)=false)(c1:decide (next≤id)=true):
  Calls af 240 #[.pointer (some ⟨b,0,none⟩),.agg #[.int .u32 id,.int .i64 aw,.int .i64 aR],.int .u32 last] w fun e w'=>e= .returned (.bool false)∧Below w.heap.size w w':=by
 exact ZV
theorem ZR(S:Nat→Prop)(b n au:Nat)(aA next aq:Int)(L:List bS)(q:bI)(id aw aR last:Int)(w:World)(h:bo S w b n au aA next aq L q)(c0:decide (id≤last)=false)(c1:decide (next≤id)=false)(c2:decide (aw<0)=true):
  Calls af 240 #[.pointer (some ⟨b,0,none⟩),.agg #[.int .u32 id,.int .i64 aw,.int .i64 aR],.int .u32 last] w fun e w'=>e= .returned (.bool false)∧Below w.heap.size w w':=by
 exact ZV
theorem ZQ(S:Nat→Prop)(b n au:Nat)(aA next aq:Int)(L:List bS)(q:bI)(id aw aR last:Int)(w:World)(h:bo S w b n au aA next aq L q)(c0:decide (id≤last)=false)(c1:decide (next≤id)=false)(c2:decide (aw<0)=false)(c3:decide ((n:Int)≤aw)=true):
  Calls af 240 #[.pointer (some ⟨b,0,none⟩),.agg #[.int .u32 id,.int .i64 aw,.int .i64 aR],.int .u32 last] w fun e w'=>e= .returned (.bool false)∧Below w.heap.size w w':=by
 exact ZV
theorem Qu(S:Nat→Prop)(b n au:Nat)(aA next aq:Int)(L:List bS)(q:bI)(id aR last:Int)(i:Nat)(w:World)(h:bo S w b n au aA next aq L q)(c0:decide (id≤last)=false)(c1:decide (next≤id)=false)(hi:i<n)(hv:hasB q.ws i=true):
  Calls af 240 #[.pointer (some ⟨b,0,none⟩),.agg #[.int .u32 id,.int .i64 (i:Int),.int .i64 aR],.int .u32 last] w fun e w'=>e= .returned (.bool false)∧Below w.heap.size w w':=by
 exact acL
theorem UG(S:Nat→Prop)(b n au:Nat)(aA next aq:Int)(L:List bS)(q:bI)(id aR last:Int)(i:Nat)(w:World)(h:bo S w b n au aA next aq L q)(c0:decide (id≤last)=false)(c1:decide (next≤id)=false)(hi:i<n)(hv:hasB q.ws i=false)(c6:(aR==0)=true):
  Calls af 240 #[.pointer (some ⟨b,0,none⟩),.agg #[.int .u32 id,.int .i64 (i:Int),.int .i64 aR],.int .u32 last] w fun e w'=>e= .returned (.bool true)∧Below w.heap.size w w':=by
 exact acL
theorem UH(S:Nat→Prop)(b n au:Nat)(aA next aq:Int)(L:List bS)(q:bI)(id aR last:Int)(i:Nat)(w:World)(h:bo S w b n au aA next aq L q)(c0:decide (id≤last)=false)(c1:decide (next≤id)=false)(hi:i<n)(hv:hasB q.ws i=false)(c6:(aR==0)=false)(c7:decide (aq<aR)=false):
  Calls af 240 #[.pointer (some ⟨b,0,none⟩),.agg #[.int .u32 id,.int .i64 (i:Int),.int .i64 aR],.int .u32 last] w fun e w'=>e= .returned (.bool false)∧Below w.heap.size w w':=by
 exact aer
theorem UI(S:Nat→Prop)(b n au:Nat)(aA next aq:Int)(L:List bS)(q:bI)(id aR last:Int)(i:Nat)(w:World)(h:bo S w b n au aA next aq L q)(c0:decide (id≤last)=false)(c1:decide (next≤id)=false)(hi:i<n)(hv:hasB q.ws i=false)(c6:(aR==0)=false)(c7:decide (aq<aR)=true)(c8:decide (aR≤1099511627776)=false):
  Calls af 240 #[.pointer (some ⟨b,0,none⟩),.agg #[.int .u32 id,.int .i64 (i:Int),.int .i64 aR],.int .u32 last] w fun e w'=>e= .returned (.bool false)∧Below w.heap.size w w':=by
 exact aer
theorem Fz(S:Nat→Prop)(b n au:Nat)(aA next aq:Int)(L:List bS)(q:bI)(id aR last:Int)(i:Nat)(w:World)(h:bo S w b n au aA next aq L q)(c0:decide (id≤last)=false)(c1:decide (next≤id)=false)(hi:i<n)(hv:hasB q.ws i=false)(c6:(aR==0)=false)(c7:decide (aq<aR)=true)(c8:decide (aR≤1099511627776)=true):
  Calls af 240 #[.pointer (some ⟨b,0,none⟩),.agg #[.int .u32 id,.int .i64 (i:Int),.int .i64 aR],.int .u32 last] w fun e w'=>e= .returned (.bool true)∧Below w.heap.size w w':=by
 exact aer
