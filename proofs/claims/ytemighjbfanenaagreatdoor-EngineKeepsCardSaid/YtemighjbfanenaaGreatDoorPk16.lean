import Derived.Test.YtemighjbfanenaaGreatDoorPk1
import Derived.Test.YtemighjbfanenaaGreatDoorPk15
set_option linter.all false
set_option maxRecDepth 100000
set_option maxHeartbeats 16000000
namespace Go.Proofs.YtemighjbfanenaaGreatDoor
open RowKit
open RowKit.Below renaming refl→aq
open Tryz renaming prog→af
theorem afo{p:Prop}(h:p:=by
 have hn4:n≤1024:=h.small.2.2.2.2;have c2:decide ((i:Int)<0)=false:=gT;have c3:decide ((n:Int)≤(i:Int))=false:=gT;have c3n:decide (n≤i)=false:=gT;have HHV:=aa hv;clear hv;have HH:=aa h;clear h;go_enter Tryz.func240,Tryz.ntmps240;go_wp2_with fail;have hb1:Below w.heap.size w (w.alloc (.cells #[.int .u32 id,.int .i64 (i:Int),.int .i64 aR] 171)):=aw (aq _ _) _;have bh:aD (w.alloc (.cells #[.int .u32 id,.int .i64 (i:Int),.int .i64 aR] 171)) w.heap.size 171 #[.int .u32 id,.int .i64 (i:Int),.int .i64 aR]:=aD.fresh w _ _;obtain⟨w1,aX⟩:=ae (w.alloc (.cells #[.int .u32 id,.int .i64 (i:Int),.int .i64 aR] 171));obtain⟨vb,mN⟩:=ae w.heap.size;rw[aX] at hb1 bh ⊢;have kZ:=aa (HH.o.bg.ai hb1);have bu:=aa hb1;clear hb1;rw[mN] at bh ⊢;clear aX mN;have qC: ∀ w',Below w1.heap.size w1 w'→(w'.cell? ⟨vb,0,none⟩=some (.int .u32 id)∧w'.cell? ⟨vb,1,none⟩=some (.int .i64 (i:Int))∧w'.cell? ⟨vb,2,none⟩=some (.int .i64 aR)∧w'.cell? ⟨b,0,none⟩=some (.int .i64 n)∧w'.cell? ⟨b,4,none⟩=some (.int .i64 ak)∧w'.cell? ⟨b,5,none⟩=some (.int .u32 next)∧w'.cell? ⟨b,6,none⟩=some (.pointer (some ⟨q.tp,0,none⟩))∧Below w1.heap.size w1 w'):=fun w' hb=>⟨(bh.keep hb).cell 0,(bh.keep hb).cell 1,(bh.keep hb).cell 2,(kZ.o.own.keep hb).cell 0,(kZ.o.own.keep hb).cell 4,(kZ.o.own.keep hb).cell 5,(kZ.o.own.keep hb).cell 6,hb⟩
 have qC:=aa qC;clear bh;refine sY (S:=(fun w'=>w'.cell? ⟨vb,0,none⟩=some (.int .u32 id)∧w'.cell? ⟨vb,1,none⟩=some (.int .i64 (i:Int))∧w'.cell? ⟨vb,2,none⟩=some (.int .i64 aR)∧w'.cell? ⟨b,0,none⟩=some (.int .i64 n)∧w'.cell? ⟨b,4,none⟩=some (.int .i64 ak)∧w'.cell? ⟨b,5,none⟩=some (.int .u32 next)∧w'.cell? ⟨b,6,none⟩=some (.pointer (some ⟨q.tp,0,none⟩))∧Below w1.heap.size w1 w')) OM fun hHeld=>?_
 refine nZ 0 1 2 3 4 5 6 7 ?_;refine nZ 8 9 10 11 12 13 14 15 ?_;refine nZ 16 17 18 19 20 21 22 23 ?_;refine nZ 24 25 26 27 28 29 30 31 ?_;refine kW 32 33 34 35 ?_;refine cD 36 fun K hK=>?_
 go_simp;go_at_call 157;refine(yj.oY q.tp q.tg q.tc n i q.ws _ (kZ.o.ai (ay (aq _ _))).taken hi ag).mono ?_;rintro e w3 ⟨rfl,hw3⟩;rw[hw3,HHV.o];clear hw3 w3;go_wp2_with fail;refine bW hK Ug fun aa9=>?_
 clear hK K;refine uw 37 38 ?_;refine bF ?_;go_wp2_with fail;refine sY (S:=(fun w'=>w'.cell? ⟨vb,0,none⟩=some (.int .u32 id)∧w'.cell? ⟨vb,1,none⟩=some (.int .i64 (i:Int))∧w'.cell? ⟨vb,2,none⟩=some (.int .i64 aR)∧w'.cell? ⟨b,0,none⟩=some (.int .i64 n)∧w'.cell? ⟨b,4,none⟩=some (.int .i64 ak)∧w'.cell? ⟨b,5,none⟩=some (.int .u32 next)∧w'.cell? ⟨b,6,none⟩=some (.pointer (some ⟨q.tp,0,none⟩))∧Below w1.heap.size w1 w')) ae6 fun hHeld=>?_
 refine nZ 0 1 2 3 4 5 6 7 ?_;refine kW 8 9 10 11 ?_;refine ty 12 ?_;refine bF ?_;go_wp2_with fail;go_ret;exact⟨rfl,ar bu.o acF⟩):p:=h
theorem aaJ{p:Prop}(h:p:=by
 have HH:=aa h;clear h;go_enter Tryz.func240,Tryz.ntmps240;go_wp2_with fail;have hb1:Below w.heap.size w (w.alloc (.cells #[.int .u32 id,.int .i64 av,.int .i64 aR] 171)):=aw (aq _ _) _;have bh:aD (w.alloc (.cells #[.int .u32 id,.int .i64 av,.int .i64 aR] 171)) w.heap.size 171 #[.int .u32 id,.int .i64 av,.int .i64 aR]:=aD.fresh w _ _;obtain⟨w1,aX⟩:=ae (w.alloc (.cells #[.int .u32 id,.int .i64 av,.int .i64 aR] 171));obtain⟨vb,mN⟩:=ae w.heap.size;rw[aX] at hb1 bh ⊢;have kZ:=aa (HH.o.bg.ai hb1);have bu:=aa hb1;clear hb1;rw[mN] at bh ⊢;clear aX mN;have qC: ∀ w',Below w1.heap.size w1 w'→(w'.cell? ⟨vb,0,none⟩=some (.int .u32 id)∧w'.cell? ⟨vb,1,none⟩=some (.int .i64 av)∧w'.cell? ⟨vb,2,none⟩=some (.int .i64 aR)∧w'.cell? ⟨b,0,none⟩=some (.int .i64 n)∧w'.cell? ⟨b,4,none⟩=some (.int .i64 ak)∧w'.cell? ⟨b,5,none⟩=some (.int .u32 next)∧w'.cell? ⟨b,6,none⟩=some (.pointer (some ⟨q.tp,0,none⟩))∧Below w1.heap.size w1 w'):=fun w' hb=>⟨(bh.keep hb).cell 0,(bh.keep hb).cell 1,(bh.keep hb).cell 2,(kZ.o.own.keep hb).cell 0,(kZ.o.own.keep hb).cell 4,(kZ.o.own.keep hb).cell 5,(kZ.o.own.keep hb).cell 6,hb⟩
 have qC:=aa qC;clear bh;refine sY (S:=(fun w'=>w'.cell? ⟨vb,0,none⟩=some (.int .u32 id)∧w'.cell? ⟨vb,1,none⟩=some (.int .i64 av)∧w'.cell? ⟨vb,2,none⟩=some (.int .i64 aR)∧w'.cell? ⟨b,0,none⟩=some (.int .i64 n)∧w'.cell? ⟨b,4,none⟩=some (.int .i64 ak)∧w'.cell? ⟨b,5,none⟩=some (.int .u32 next)∧w'.cell? ⟨b,6,none⟩=some (.pointer (some ⟨q.tp,0,none⟩))∧Below w1.heap.size w1 w')) OM fun hHeld=>?_
 refine nZ 0 1 2 3 4 5 6 7 ?_;refine nZ 8 9 10 11 12 13 14 15 ?_;refine nZ 16 17 18 19 20 21 22 23 ?_;refine nZ 24 25 26 27 28 29 30 31 ?_;refine OC 32 33 34 35 36 37 ?_;refine ty 38 ?_;refine bF ?_;go_wp2_with fail;go_ret;exact⟨rfl,ar bu.o (ay (aq _ _))⟩):p:=h
theorem adH{p:Prop}(h:p:=by
 have hn4:n≤1024:=h.small.2.2.2.2;have c2:decide ((i:Int)<0)=false:=gT;have c3:decide ((n:Int)≤(i:Int))=false:=gT;have c3n:decide (n≤i)=false:=gT;have HHV:=aa hv;clear hv;have HH:=aa h;clear h;go_enter Tryz.func240,Tryz.ntmps240;go_wp2_with fail;have hb1:Below w.heap.size w (w.alloc (.cells #[.int .u32 id,.int .i64 (i:Int),.int .i64 aR] 171)):=aw (aq _ _) _;have bh:aD (w.alloc (.cells #[.int .u32 id,.int .i64 (i:Int),.int .i64 aR] 171)) w.heap.size 171 #[.int .u32 id,.int .i64 (i:Int),.int .i64 aR]:=aD.fresh w _ _;obtain⟨w1,aX⟩:=ae (w.alloc (.cells #[.int .u32 id,.int .i64 (i:Int),.int .i64 aR] 171));obtain⟨vb,mN⟩:=ae w.heap.size;rw[aX] at hb1 bh ⊢;have kZ:=aa (HH.o.bg.ai hb1);have bu:=aa hb1;clear hb1;rw[mN] at bh ⊢;clear aX mN;have qC: ∀ w',Below w1.heap.size w1 w'→(w'.cell? ⟨vb,0,none⟩=some (.int .u32 id)∧w'.cell? ⟨vb,1,none⟩=some (.int .i64 (i:Int))∧w'.cell? ⟨vb,2,none⟩=some (.int .i64 aR)∧w'.cell? ⟨b,0,none⟩=some (.int .i64 n)∧w'.cell? ⟨b,4,none⟩=some (.int .i64 ak)∧w'.cell? ⟨b,5,none⟩=some (.int .u32 next)∧w'.cell? ⟨b,6,none⟩=some (.pointer (some ⟨q.tp,0,none⟩))∧Below w1.heap.size w1 w'):=fun w' hb=>⟨(bh.keep hb).cell 0,(bh.keep hb).cell 1,(bh.keep hb).cell 2,(kZ.o.own.keep hb).cell 0,(kZ.o.own.keep hb).cell 4,(kZ.o.own.keep hb).cell 5,(kZ.o.own.keep hb).cell 6,hb⟩
 have qC:=aa qC;clear bh;refine sY (S:=(fun w'=>w'.cell? ⟨vb,0,none⟩=some (.int .u32 id)∧w'.cell? ⟨vb,1,none⟩=some (.int .i64 (i:Int))∧w'.cell? ⟨vb,2,none⟩=some (.int .i64 aR)∧w'.cell? ⟨b,0,none⟩=some (.int .i64 n)∧w'.cell? ⟨b,4,none⟩=some (.int .i64 ak)∧w'.cell? ⟨b,5,none⟩=some (.int .u32 next)∧w'.cell? ⟨b,6,none⟩=some (.pointer (some ⟨q.tp,0,none⟩))∧Below w1.heap.size w1 w')) OM fun hHeld=>?_
 refine nZ 0 1 2 3 4 5 6 7 ?_;refine nZ 8 9 10 11 12 13 14 15 ?_;refine nZ 16 17 18 19 20 21 22 23 ?_;refine nZ 24 25 26 27 28 29 30 31 ?_;refine kW 32 33 34 35 ?_;refine cD 36 fun K hK=>?_
 go_simp;go_at_call 157;refine(yj.oY q.tp q.tg q.tc n i q.ws _ (kZ.o.ai (ay (aq _ _))).taken hi ag).mono ?_;rintro e w3 ⟨rfl,hw3⟩;rw[hw3,HHV.o];clear hw3 w3;go_wp2_with fail;refine bW hK Ug fun aa9=>?_
 clear hK K;refine uw 37 38 ?_;refine bF ?_;go_wp2_with fail;go_ret;exact⟨rfl,ar bu.o acF⟩):p:=h
theorem acF{p:Prop}(h:p:=by first|exact ay (aq _ _)|exact ay (ay (aq _ _))):p:=h
theorem ae6{p:Prop}(h:p:=by exact qC.o _ (ay (ay (aq _ _)))):p:=h
theorem Ug{p:Prop}(h:p:=by first|assumption):p:=h
section
namespace Bk
open yj (fU hasB)
theorem aaF(S:Nat→Prop)(b n au:Nat)(az next ak:Int)(L:List bU)(q:bD)(id av aR last:Int)(w:World)(h:bl S w b n au az next ak L q)(c0:decide (id≤last)=true):
  Calls af 240 #[.pointer (some ⟨b,0,none⟩),.agg #[.int .u32 id,.int .i64 av,.int .i64 aR],.int .u32 last] w fun e w'=>e= .returned (.bool false)∧Below w.heap.size w w':=by
 exact aaJ
theorem aaE(S:Nat→Prop)(b n au:Nat)(az next ak:Int)(L:List bU)(q:bD)(id av aR last:Int)(w:World)(h:bl S w b n au az next ak L q)(c0:decide (id≤last)=false)(c1:decide (next≤id)=true):
  Calls af 240 #[.pointer (some ⟨b,0,none⟩),.agg #[.int .u32 id,.int .i64 av,.int .i64 aR],.int .u32 last] w fun e w'=>e= .returned (.bool false)∧Below w.heap.size w w':=by
 exact aaJ
theorem aaD(S:Nat→Prop)(b n au:Nat)(az next ak:Int)(L:List bU)(q:bD)(id av aR last:Int)(w:World)(h:bl S w b n au az next ak L q)(c0:decide (id≤last)=false)(c1:decide (next≤id)=false)(c2:decide (av<0)=true):
  Calls af 240 #[.pointer (some ⟨b,0,none⟩),.agg #[.int .u32 id,.int .i64 av,.int .i64 aR],.int .u32 last] w fun e w'=>e= .returned (.bool false)∧Below w.heap.size w w':=by
 exact aaJ
theorem aaC(S:Nat→Prop)(b n au:Nat)(az next ak:Int)(L:List bU)(q:bD)(id av aR last:Int)(w:World)(h:bl S w b n au az next ak L q)(c0:decide (id≤last)=false)(c1:decide (next≤id)=false)(c2:decide (av<0)=false)(c3:decide ((n:Int)≤av)=true):
  Calls af 240 #[.pointer (some ⟨b,0,none⟩),.agg #[.int .u32 id,.int .i64 av,.int .i64 aR],.int .u32 last] w fun e w'=>e= .returned (.bool false)∧Below w.heap.size w w':=by
 exact aaJ
theorem Ro(S:Nat→Prop)(b n au:Nat)(az next ak:Int)(L:List bU)(q:bD)(id aR last:Int)(i:Nat)(w:World)(h:bl S w b n au az next ak L q)(c0:decide (id≤last)=false)(c1:decide (next≤id)=false)(hi:i<n)(hv:hasB q.ws i=true):
  Calls af 240 #[.pointer (some ⟨b,0,none⟩),.agg #[.int .u32 id,.int .i64 (i:Int),.int .i64 aR],.int .u32 last] w fun e w'=>e= .returned (.bool false)∧Below w.heap.size w w':=by
 exact adH
theorem VL(S:Nat→Prop)(b n au:Nat)(az next ak:Int)(L:List bU)(q:bD)(id aR last:Int)(i:Nat)(w:World)(h:bl S w b n au az next ak L q)(c0:decide (id≤last)=false)(c1:decide (next≤id)=false)(hi:i<n)(hv:hasB q.ws i=false)(c6:(aR==0)=true):
  Calls af 240 #[.pointer (some ⟨b,0,none⟩),.agg #[.int .u32 id,.int .i64 (i:Int),.int .i64 aR],.int .u32 last] w fun e w'=>e= .returned (.bool true)∧Below w.heap.size w w':=by
 exact adH
theorem VM(S:Nat→Prop)(b n au:Nat)(az next ak:Int)(L:List bU)(q:bD)(id aR last:Int)(i:Nat)(w:World)(h:bl S w b n au az next ak L q)(c0:decide (id≤last)=false)(c1:decide (next≤id)=false)(hi:i<n)(hv:hasB q.ws i=false)(c6:(aR==0)=false)(c7:decide (ak<aR)=false):
  Calls af 240 #[.pointer (some ⟨b,0,none⟩),.agg #[.int .u32 id,.int .i64 (i:Int),.int .i64 aR],.int .u32 last] w fun e w'=>e= .returned (.bool false)∧Below w.heap.size w w':=by
 exact afo
theorem VN(S:Nat→Prop)(b n au:Nat)(az next ak:Int)(L:List bU)(q:bD)(id aR last:Int)(i:Nat)(w:World)(h:bl S w b n au az next ak L q)(c0:decide (id≤last)=false)(c1:decide (next≤id)=false)(hi:i<n)(hv:hasB q.ws i=false)(c6:(aR==0)=false)(c7:decide (ak<aR)=true)(c8:decide (aR≤1099511627776)=false):
  Calls af 240 #[.pointer (some ⟨b,0,none⟩),.agg #[.int .u32 id,.int .i64 (i:Int),.int .i64 aR],.int .u32 last] w fun e w'=>e= .returned (.bool false)∧Below w.heap.size w w':=by
 exact afo
theorem F3(S:Nat→Prop)(b n au:Nat)(az next ak:Int)(L:List bU)(q:bD)(id aR last:Int)(i:Nat)(w:World)(h:bl S w b n au az next ak L q)(c0:decide (id≤last)=false)(c1:decide (next≤id)=false)(hi:i<n)(hv:hasB q.ws i=false)(c6:(aR==0)=false)(c7:decide (ak<aR)=true)(c8:decide (aR≤1099511627776)=true):
  Calls af 240 #[.pointer (some ⟨b,0,none⟩),.agg #[.int .u32 id,.int .i64 (i:Int),.int .i64 aR],.int .u32 last] w fun e w'=>e= .returned (.bool true)∧Below w.heap.size w w':=by
 exact afo
