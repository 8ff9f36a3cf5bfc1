import Derived.Test.YtemighjbfanenaaGreatDoorPk33
import Derived.Test.YtemighjbfanenaaGreatDoorPk29
set_option linter.all false
set_option maxRecDepth 100000
set_option maxHeartbeats 16000000
namespace Go.Proofs.YtemighjbfanenaaGreatDoor
open RowKit
open RowKit.Below renaming refl→au
theorem IH{p:Prop}(h:p:=by exact gi.o _ jz.o):p:=h
section
namespace Bk
open En (dK)
theorem YE{S T:Nat→Prop}{w:World}{v v':Value}{n:Nat}(L:Nat→bS)(h:aM S w 171 3 v n (fun i=>je (L i)))(h':aM T w 171 3 v' n (fun i=>je (L i)))(hn:n≤70368744177664):
  Calls Tryz.prog 103 #[v,v'] w fun e w'=>e= .returned (.bool true)∧Below w.heap.size w w':=by
 obtain⟨A,c,rfl⟩:=h.any;obtain⟨A',c',rfl⟩:=h'.any;have H1:=aa h;have H2:=aa h';have hnn:(n:Int)=(n:Int):=rfl;clear h h';go_enter Tryz.func103,Tryz.ntmps103;go_wp2_with fail;go_loopw [13] (fun i wr=>∃ j:Nat,j≤n∧i= .int .i64 j∧Below w.heap.size w wr) (fun i _=>(n - intOf i).toNat)
 case atStart=>exact⟨0,Nat.zero_le _,rfl,au _ _⟩
 case round=>
  obtain⟨j,hj,rfl,hw⟩:=hrel;have HW:=aa hw;clear hw;by_cases h2:j<n
  ·have Q8:(j:Int)<(n:Int):=by omega
   obtain⟨g,cap,hv,_⟩:=H1.o.form aj;injection hv with e1 _ e2
   subst e1 e2;obtain⟨g',cap',hv,_⟩:=H2.o.form aj;injection hv with e1 _ e2
   subst e1 e2;have r1:=(H1.o.ai HW.o).range (fun _=>rfl) h2;have r2:=(H2.o.ai HW.o).range (fun _=>rfl) h2;obtain⟨b,hb⟩:=ae (L j);rw[hb] at r1 r2;have a0:wr.cell? ⟨g,j*3,none⟩=some (.int .u32 b.id):=r1 0 _ rfl;have a1:wr.cell? ⟨g,j*3+1,none⟩=some (.int .i64 b.aw):=r1 1 _ rfl;have a2:wr.cell? ⟨g,j*3+2,none⟩=some (.int .i64 b.aS):=r1 2 _ rfl;have b0:wr.cell? ⟨g',j*3,none⟩=some (.int .u32 b.id):=r2 0 _ rfl;have b1:wr.cell? ⟨g',j*3+1,none⟩=some (.int .i64 b.aw):=r2 1 _ rfl;have b2:wr.cell? ⟨g',j*3+2,none⟩=some (.int .i64 b.aS):=r2 2 _ rfl;clear r1 r2 hb hnn;go_wp2_with fail;refine wp_region_quiet_lit br br ?_;repeat(first|go_big_quiet_step (fail)|quiet_step (fail))
   refine wpQuiet_nil ?_;intro _ hw';obtain⟨nq,hw''⟩:=hw';subst hw'';go_wp2_with fail;go_roundw
   case rel=>exact⟨j+1,aj,by go_num,bJ HW.o _⟩
   case measure=>simp[intOf];omega
  obtain rfl:j=n:=aj;clear hnn;go_wp2_with fail;go_ret;exact⟨rfl,HW.o⟩
theorem aa0{S T:Nat→Prop}{w:World}{a b:Nat}{x:dK}(ha:fK S w a x)(hb:fK T w b x)(hk:GD x.n x.ar x.aA x.next x.aq x.L): Calls Tryz.prog 37 #[.pointer (some ⟨a,0,none⟩),.pointer (some ⟨b,0,none⟩)] w fun e w'=>e= .returned (.bool true)∧Below w.heap.size w w':=by
 obtain⟨q,ha⟩:=ha;obtain⟨q',hb⟩:=hb;have HA:=aa ha;have HB:=aa hb;have X8:=aa (fun W (hW:Below w.heap.size w W)=>cV a true W ((ha.bf.ak hW).own.cell 3));have HTB:=aa (fun W (hW:Below w.heap.size w W)=>cV b true W ((hb.bf.ak hW).own.cell 3));have HLA:=aa (fun W (hW:Below w.heap.size w W)=>zP (ha.ak hW) hk.Jc);have HLB:=aa (fun W (hW:Below w.heap.size w W)=>zP (hb.ak hW) hk.Jc);have HLN:=aa (show x.L.length≤70368744177664 by have:=hk.Z6;have:=hk.ar;omega);have gi:=aa (show ∀ W,Below w.heap.size w W→(W.cell? ⟨a,0,none⟩=some (.int .i64 x.n)∧W.cell? ⟨a,1,none⟩=some (.int .i64 x.ar)∧W.cell? ⟨a,4,none⟩=some (.int .i64 x.aq)∧W.cell? ⟨a,5,none⟩=some (.int .u32 x.next)∧W.cell? ⟨b,0,none⟩=some (.int .i64 x.n)∧W.cell? ⟨b,1,none⟩=some (.int .i64 x.ar)∧W.cell? ⟨b,4,none⟩=some (.int .i64 x.aq)∧W.cell? ⟨b,5,none⟩=some (.int .u32 x.next))from fun W hW=>⟨(HA.o.ak hW).bf.own.cell 0,(HA.o.ak hW).bf.own.cell 1,(HA.o.ak hW).bf.own.cell 4,(HA.o.ak hW).bf.own.cell 5,(HB.o.ak hW).bf.own.cell 0,(HB.o.ak hW).bf.own.cell 1,(HB.o.ak hW).bf.own.cell 4,(HB.o.ak hW).bf.own.cell 5⟩);clear ha hb hk;go_enter Tryz.func37,Tryz.ntmps37;go_wp2_with fail;refine ud (S:=(fun W=>W.cell? ⟨a,0,none⟩=some (.int .i64 x.n)∧W.cell? ⟨a,1,none⟩=some (.int .i64 x.ar)∧W.cell? ⟨a,4,none⟩=some (.int .i64 x.aq)∧W.cell? ⟨a,5,none⟩=some (.int .u32 x.next)∧W.cell? ⟨b,0,none⟩=some (.int .i64 x.n)∧W.cell? ⟨b,1,none⟩=some (.int .i64 x.ar)∧W.cell? ⟨b,4,none⟩=some (.int .i64 x.aq)∧W.cell? ⟨b,5,none⟩=some (.int .u32 x.next))) (by exact gi.o _ (az (au _ _))) fun hHeld=>?_
 have jz:=aa (show Below w.heap.size w w.drew from az (au _ _));refine ty 0 ?_;refine cG 1 fun K hK=>?_
 go_simp;refine ag (X8.o _ jz.o) ?_;go_wp2_with fail;refine bW hK IH fun sD=>?_
 clear hK K;refine tX 2 3 ?_;refine cG 4 fun K hK=>?_
 go_simp;refine ag (HTB.o _ jz.o) ?_;go_wp2_with fail;refine bW hK IH fun mC=>?_
 clear hK K;refine ov 5 6 7 8 9 10 11 12 ?_;refine ov 13 14 15 16 17 18 19 20 ?_;refine ov 21 22 23 24 25 26 27 28 ?_;refine ov 29 30 31 32 33 34 35 36 ?_;refine ov 37 38 39 40 41 42 43 44 ?_;refine ov 45 46 47 48 49 50 51 52 ?_;refine ov 53 54 55 56 57 58 59 61 ?_;refine cG 60 fun K hK=>?_
 go_simp;refine(HLA.o _ jz.o).mono ?_;rintro e w1 ⟨v1,rfl,hR,hB⟩;have wT:=aa hR;have jz:=jz.dP hB;clear hR hB;go_wp2_with fail;refine bW hK IH fun ajN=>?_
 clear hK K;refine cG 62 fun K hK=>?_
 go_simp;refine(HLB.o _ jz.o).mono ?_;rintro e w2 ⟨v2,rfl,hR,hB⟩;have wT:=aa (wT.o.ai hB);have kU:=aa hR;have jz:=jz.dP hB;clear hR hB;go_wp2_with fail;refine bW hK IH fun ajM=>?_
 clear hK K;refine cG 63 fun K hK=>?_
 go_simp;refine(YE _ wT.o kU.o HLN.o).mono ?_;rintro e w3 ⟨rfl,hB⟩;have jz:=jz.dP hB;clear hB;go_wp2_with fail;refine bW hK IH fun ajL=>?_
 clear hK K;refine tX 64 65 ?_;refine bO ?_;go_wp2_with fail;go_ret;exact⟨rfl,jz.o⟩
