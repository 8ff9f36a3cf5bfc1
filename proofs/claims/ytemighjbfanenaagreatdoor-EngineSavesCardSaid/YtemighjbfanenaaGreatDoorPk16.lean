import Derived.Test.YtemighjbfanenaaGreatDoorPk15
set_option linter.all false
set_option maxRecDepth 100000
set_option maxHeartbeats 16000000
namespace Go.Proofs.YtemighjbfanenaaGreatDoor
open RowKit
open Go.Proofs.Tryz renaming prog→af
open RowKit.Below renaming refl→au
theorem aeC{p:Prop}(h:p:=by
 have hn4:n≤1024:=h.small.2.2.2.2;have c2:decide ((i:Int)<0)=false:=gT;have c3:decide ((n:Int)≤(i:Int))=false:=gT;have c3n:decide (n≤i)=false:=gT;have HHV:=aa hv;clear hv;have HH:=aa h;clear h;go_enter Tryz.func240,Tryz.ntmps240;go_wp2_with fail;have hb1:Below w.heap.size w (w.alloc (.cells #[.int .u32 id,.int .i64 (i:Int),.int .i64 aS] 171)):=ax (au _ _) _;have bt:aG (w.alloc (.cells #[.int .u32 id,.int .i64 (i:Int),.int .i64 aS] 171)) w.heap.size 171 #[.int .u32 id,.int .i64 (i:Int),.int .i64 aS]:=aG.fresh w _ _;obtain⟨w1,aZ⟩:=ae (w.alloc (.cells #[.int .u32 id,.int .i64 (i:Int),.int .i64 aS] 171));obtain⟨vb,oh⟩:=ae w.heap.size;rw[aZ] at hb1 bt ⊢;have kR:=aa (HH.o.bf.ak hb1);have bz:=aa hb1;clear hb1;rw[oh] at bt ⊢;clear aZ oh;have tB: ∀ w',Below w1.heap.size w1 w'→(w'.cell? ⟨vb,0,none⟩=some (.int .u32 id)∧w'.cell? ⟨vb,1,none⟩=some (.int .i64 (i:Int))∧w'.cell? ⟨vb,2,none⟩=some (.int .i64 aS)∧w'.cell? ⟨b,0,none⟩=some (.int .i64 n)∧w'.cell? ⟨b,4,none⟩=some (.int .i64 aq)∧w'.cell? ⟨b,5,none⟩=some (.int .u32 next)∧w'.cell? ⟨b,6,none⟩=some (.pointer (some ⟨q.tp,0,none⟩))∧Below w1.heap.size w1 w'):=fun w' hb=>⟨(bt.ai hb).cell 0,(bt.ai hb).cell 1,(bt.ai hb).cell 2,(kR.o.own.ai hb).cell 0,(kR.o.own.ai hb).cell 4,(kR.o.own.ai hb).cell 5,(kR.o.own.ai hb).cell 6,hb⟩
 have tB:=aa tB;clear bt;refine ud (S:=(fun w'=>w'.cell? ⟨vb,0,none⟩=some (.int .u32 id)∧w'.cell? ⟨vb,1,none⟩=some (.int .i64 (i:Int))∧w'.cell? ⟨vb,2,none⟩=some (.int .i64 aS)∧w'.cell? ⟨b,0,none⟩=some (.int .i64 n)∧w'.cell? ⟨b,4,none⟩=some (.int .i64 aq)∧w'.cell? ⟨b,5,none⟩=some (.int .u32 next)∧w'.cell? ⟨b,6,none⟩=some (.pointer (some ⟨q.tp,0,none⟩))∧Below w1.heap.size w1 w')) N5 fun hHeld=>?_
 refine ov 0 1 2 3 4 5 6 7 ?_;refine ov 8 9 10 11 12 13 14 15 ?_;refine ov 16 17 18 19 20 21 22 23 ?_;refine ov 24 25 26 27 28 29 30 31 ?_;refine lu 32 33 34 35 ?_;refine cG 36 fun K hK=>?_
 go_simp;go_at_call 157;refine(yy.pd q.tp q.tg q.tc n i q.ws _ (kR.o.ak (az (au _ _))).taken hi aj).mono ?_;rintro e w3 ⟨rfl,hw3⟩;rw[hw3,HHV.o];clear hw3 w3;go_wp2_with fail;refine bW hK Tg fun aav=>?_
 clear hK K;refine tX 37 38 ?_;refine bO ?_;go_wp2_with fail;refine ud (S:=(fun w'=>w'.cell? ⟨vb,0,none⟩=some (.int .u32 id)∧w'.cell? ⟨vb,1,none⟩=some (.int .i64 (i:Int))∧w'.cell? ⟨vb,2,none⟩=some (.int .i64 aS)∧w'.cell? ⟨b,0,none⟩=some (.int .i64 n)∧w'.cell? ⟨b,4,none⟩=some (.int .i64 aq)∧w'.cell? ⟨b,5,none⟩=some (.int .u32 next)∧w'.cell? ⟨b,6,none⟩=some (.pointer (some ⟨q.tp,0,none⟩))∧Below w1.heap.size w1 w')) ael fun hHeld=>?_
 refine ov 0 1 2 3 4 5 6 7 ?_;refine lu 8 9 10 11 ?_;refine ty 12 ?_;refine bO ?_;go_wp2_with fail;go_ret;exact⟨rfl,av bz.o abQ⟩):p:=h
theorem Z5{p:Prop}(h:p:=by
 have HH:=aa h;clear h;go_enter Tryz.func240,Tryz.ntmps240;go_wp2_with fail;have hb1:Below w.heap.size w (w.alloc (.cells #[.int .u32 id,.int .i64 aw,.int .i64 aS] 171)):=ax (au _ _) _;have bt:aG (w.alloc (.cells #[.int .u32 id,.int .i64 aw,.int .i64 aS] 171)) w.heap.size 171 #[.int .u32 id,.int .i64 aw,.int .i64 aS]:=aG.fresh w _ _;obtain⟨w1,aZ⟩:=ae (w.alloc (.cells #[.int .u32 id,.int .i64 aw,.int .i64 aS] 171));obtain⟨vb,oh⟩:=ae w.heap.size;rw[aZ] at hb1 bt ⊢;have kR:=aa (HH.o.bf.ak hb1);have bz:=aa hb1;clear hb1;rw[oh] at bt ⊢;clear aZ oh;have tB: ∀ w',Below w1.heap.size w1 w'→(w'.cell? ⟨vb,0,none⟩=some (.int .u32 id)∧w'.cell? ⟨vb,1,none⟩=some (.int .i64 aw)∧w'.cell? ⟨vb,2,none⟩=some (.int .i64 aS)∧w'.cell? ⟨b,0,none⟩=some (.int .i64 n)∧w'.cell? ⟨b,4,none⟩=some (.int .i64 aq)∧w'.cell? ⟨b,5,none⟩=some (.int .u32 next)∧w'.cell? ⟨b,6,none⟩=some (.pointer (some ⟨q.tp,0,none⟩))∧Below w1.heap.size w1 w'):=fun w' hb=>⟨(bt.ai hb).cell 0,(bt.ai hb).cell 1,(bt.ai hb).cell 2,(kR.o.own.ai hb).cell 0,(kR.o.own.ai hb).cell 4,(kR.o.own.ai hb).cell 5,(kR.o.own.ai hb).cell 6,hb⟩
 have tB:=aa tB;clear bt;refine ud (S:=(fun w'=>w'.cell? ⟨vb,0,none⟩=some (.int .u32 id)∧w'.cell? ⟨vb,1,none⟩=some (.int .i64 aw)∧w'.cell? ⟨vb,2,none⟩=some (.int .i64 aS)∧w'.cell? ⟨b,0,none⟩=some (.int .i64 n)∧w'.cell? ⟨b,4,none⟩=some (.int .i64 aq)∧w'.cell? ⟨b,5,none⟩=some (.int .u32 next)∧w'.cell? ⟨b,6,none⟩=some (.pointer (some ⟨q.tp,0,none⟩))∧Below w1.heap.size w1 w')) N5 fun hHeld=>?_
 refine ov 0 1 2 3 4 5 6 7 ?_;refine ov 8 9 10 11 12 13 14 15 ?_;refine ov 16 17 18 19 20 21 22 23 ?_;refine ov 24 25 26 27 28 29 30 31 ?_;refine Qd 32 33 34 35 36 37 ?_;refine ty 38 ?_;refine bO ?_;go_wp2_with fail;go_ret;exact⟨rfl,av bz.o (az (au _ _))⟩):p:=h
theorem acV{p:Prop}(h:p:=by
 have hn4:n≤1024:=h.small.2.2.2.2;have c2:decide ((i:Int)<0)=false:=gT;have c3:decide ((n:Int)≤(i:Int))=false:=gT;have c3n:decide (n≤i)=false:=gT;have HHV:=aa hv;clear hv;have HH:=aa h;clear h;go_enter Tryz.func240,Tryz.ntmps240;go_wp2_with fail;have hb1:Below w.heap.size w (w.alloc (.cells #[.int .u32 id,.int .i64 (i:Int),.int .i64 aS] 171)):=ax (au _ _) _;have bt:aG (w.alloc (.cells #[.int .u32 id,.int .i64 (i:Int),.int .i64 aS] 171)) w.heap.size 171 #[.int .u32 id,.int .i64 (i:Int),.int .i64 aS]:=aG.fresh w _ _;obtain⟨w1,aZ⟩:=ae (w.alloc (.cells #[.int .u32 id,.int .i64 (i:Int),.int .i64 aS] 171));obtain⟨vb,oh⟩:=ae w.heap.size;rw[aZ] at hb1 bt ⊢;have kR:=aa (HH.o.bf.ak hb1);have bz:=aa hb1;clear hb1;rw[oh] at bt ⊢;clear aZ oh;have tB: ∀ w',Below w1.heap.size w1 w'→(w'.cell? ⟨vb,0,none⟩=some (.int .u32 id)∧w'.cell? ⟨vb,1,none⟩=some (.int .i64 (i:Int))∧w'.cell? ⟨vb,2,none⟩=some (.int .i64 aS)∧w'.cell? ⟨b,0,none⟩=some (.int .i64 n)∧w'.cell? ⟨b,4,none⟩=some (.int .i64 aq)∧w'.cell? ⟨b,5,none⟩=some (.int .u32 next)∧w'.cell? ⟨b,6,none⟩=some (.pointer (some ⟨q.tp,0,none⟩))∧Below w1.heap.size w1 w'):=fun w' hb=>⟨(bt.ai hb).cell 0,(bt.ai hb).cell 1,(bt.ai hb).cell 2,(kR.o.own.ai hb).cell 0,(kR.o.own.ai hb).cell 4,(kR.o.own.ai hb).cell 5,(kR.o.own.ai hb).cell 6,hb⟩
 have tB:=aa tB;clear bt;refine ud (S:=(fun w'=>w'.cell? ⟨vb,0,none⟩=some (.int .u32 id)∧w'.cell? ⟨vb,1,none⟩=some (.int .i64 (i:Int))∧w'.cell? ⟨vb,2,none⟩=some (.int .i64 aS)∧w'.cell? ⟨b,0,none⟩=some (.int .i64 n)∧w'.cell? ⟨b,4,none⟩=some (.int .i64 aq)∧w'.cell? ⟨b,5,none⟩=some (.int .u32 next)∧w'.cell? ⟨b,6,none⟩=some (.pointer (some ⟨q.tp,0,none⟩))∧Below w1.heap.size w1 w')) N5 fun hHeld=>?_
 refine ov 0 1 2 3 4 5 6 7 ?_;refine ov 8 9 10 11 12 13 14 15 ?_;refine ov 16 17 18 19 20 21 22 23 ?_;refine ov 24 25 26 27 28 29 30 31 ?_;refine lu 32 33 34 35 ?_;refine cG 36 fun K hK=>?_
 go_simp;go_at_call 157;refine(yy.pd q.tp q.tg q.tc n i q.ws _ (kR.o.ak (az (au _ _))).taken hi aj).mono ?_;rintro e w3 ⟨rfl,hw3⟩;rw[hw3,HHV.o];clear hw3 w3;go_wp2_with fail;refine bW hK Tg fun aav=>?_
 clear hK K;refine tX 37 38 ?_;refine bO ?_;go_wp2_with fail;go_ret;exact⟨rfl,av bz.o abQ⟩):p:=h
theorem abQ{p:Prop}(h:p:=by first|exact az (au _ _)|exact az (az (au _ _))):p:=h
theorem ael{p:Prop}(h:p:=by exact tB.o _ (az (az (au _ _)))):p:=h
theorem Tg{p:Prop}(h:p:=by first|assumption):p:=h
section
namespace Bk
open yy (fS hasB)
theorem Z3(S:Nat→Prop)(b n ar:Nat)(aA next aq:Int)(L:List bS)(q:bH)(id aw aS last:Int)(w:World)(h:bm S w b n ar aA next aq L q)(c0:decide (id≤last)=true):
  Calls af 240 #[.pointer (some ⟨b,0,none⟩),.agg #[.int .u32 id,.int .i64 aw,.int .i64 aS],.int .u32 last] w fun e w'=>e= .returned (.bool false)∧Below w.heap.size w w':=by
 exact Z5
theorem Z2(S:Nat→Prop)(b n ar:Nat)(aA next aq:Int)(L:List bS)(q:bH)(id aw aS last:Int)(w:World)(h:bm S w b n ar aA next aq L q)(c0:decide (id≤last)=false)(c1:decide (next≤id)=true):
  Calls af 240 #[.pointer (some ⟨b,0,none⟩),.agg #[.int .u32 id,.int .i64 aw,.int .i64 aS],.int .u32 last] w fun e w'=>e= .returned (.bool false)∧Below w.heap.size w w':=by
 exact Z5
theorem Z1(S:Nat→Prop)(b n ar:Nat)(aA next aq:Int)(L:List bS)(q:bH)(id aw aS last:Int)(w:World)(h:bm S w b n ar aA next aq L q)(c0:decide (id≤last)=false)(c1:decide (next≤id)=false)(c2:decide (aw<0)=true):
  Calls af 240 #[.pointer (some ⟨b,0,none⟩),.agg #[.int .u32 id,.int .i64 aw,.int .i64 aS],.int .u32 last] w fun e w'=>e= .returned (.bool false)∧Below w.heap.size w w':=by
 exact Z5
theorem Z0(S:Nat→Prop)(b n ar:Nat)(aA next aq:Int)(L:List bS)(q:bH)(id aw aS last:Int)(w:World)(h:bm S w b n ar aA next aq L q)(c0:decide (id≤last)=false)(c1:decide (next≤id)=false)(c2:decide (aw<0)=false)(c3:decide ((n:Int)≤aw)=true):
  Calls af 240 #[.pointer (some ⟨b,0,none⟩),.agg #[.int .u32 id,.int .i64 aw,.int .i64 aS],.int .u32 last] w fun e w'=>e= .returned (.bool false)∧Below w.heap.size w w':=by
 exact Z5
theorem QG(S:Nat→Prop)(b n ar:Nat)(aA next aq:Int)(L:List bS)(q:bH)(id aS last:Int)(i:Nat)(w:World)(h:bm S w b n ar aA next aq L q)(c0:decide (id≤last)=false)(c1:decide (next≤id)=false)(hi:i<n)(hv:hasB q.ws i=true):
  Calls af 240 #[.pointer (some ⟨b,0,none⟩),.agg #[.int .u32 id,.int .i64 (i:Int),.int .i64 aS],.int .u32 last] w fun e w'=>e= .returned (.bool false)∧Below w.heap.size w w':=by
 exact acV
theorem US(S:Nat→Prop)(b n ar:Nat)(aA next aq:Int)(L:List bS)(q:bH)(id aS last:Int)(i:Nat)(w:World)(h:bm S w b n ar aA next aq L q)(c0:decide (id≤last)=false)(c1:decide (next≤id)=false)(hi:i<n)(hv:hasB q.ws i=false)(c6:(aS==0)=true):
  Calls af 240 #[.pointer (some ⟨b,0,none⟩),.agg #[.int .u32 id,.int .i64 (i:Int),.int .i64 aS],.int .u32 last] w fun e w'=>e= .returned (.bool true)∧Below w.heap.size w w':=by
 exact acV
theorem UT(S:Nat→Prop)(b n ar:Nat)(aA next aq:Int)(L:List bS)(q:bH)(id aS last:Int)(i:Nat)(w:World)(h:bm S w b n ar aA next aq L q)(c0:decide (id≤last)=false)(c1:decide (next≤id)=false)(hi:i<n)(hv:hasB q.ws i=false)(c6:(aS==0)=false)(c7:decide (aq<aS)=false):
  Calls af 240 #[.pointer (some ⟨b,0,none⟩),.agg #[.int .u32 id,.int .i64 (i:Int),.int .i64 aS],.int .u32 last] w fun e w'=>e= .returned (.bool false)∧Below w.heap.size w w':=by
 exact aeC
theorem UU(S:Nat→Prop)(b n ar:Nat)(aA next aq:Int)(L:List bS)(q:bH)(id aS last:Int)(i:Nat)(w:World)(h:bm S w b n ar aA next aq L q)(c0:decide (id≤last)=false)(c1:decide (next≤id)=false)(hi:i<n)(hv:hasB q.ws i=false)(c6:(aS==0)=false)(c7:decide (aq<aS)=true)(c8:decide (aS≤1099511627776)=false):
  Calls af 240 #[.pointer (some ⟨b,0,none⟩),.agg #[.int .u32 id,.int .i64 (i:Int),.int .i64 aS],.int .u32 last] w fun e w'=>e= .returned (.bool false)∧Below w.heap.size w w':=by
 exact aeC
theorem FR(S:Nat→Prop)(b n ar:Nat)(aA next aq:Int)(L:List bS)(q:bH)(id aS last:Int)(i:Nat)(w:World)(h:bm S w b n ar aA next aq L q)(c0:decide (id≤last)=false)(c1:decide (next≤id)=false)(hi:i<n)(hv:hasB q.ws i=false)(c6:(aS==0)=false)(c7:decide (aq<aS)=true)(c8:decide (aS≤1099511627776)=true):
  Calls af 240 #[.pointer (some ⟨b,0,none⟩),.agg #[.int .u32 id,.int .i64 (i:Int),.int .i64 aS],.int .u32 last] w fun e w'=>e= .returned (.bool true)∧Below w.heap.size w w':=by
 exact aeC
