import Derived.Test.YtemighjbfanenaaGreatDoorQk33
import Derived.Test.YtemighjbfanenaaGreatDoorQk29
set_option linter.all false
set_option maxRecDepth 100000
set_option maxHeartbeats 16000000
namespace Go.Proofs.YtemighjbfanenaaGreatDoor
open RowKit
open RowKit.Below renaming refl→ar
theorem Ih{p:Prop}(h:p:=by exact fX.o _ js.o):p:=h
section
namespace Bk
open En (dI)
theorem Yw{S T:Nat→Prop}{w:World}{v v':Value}{n:Nat}(L:Nat→bS)(h:aP S w 171 3 v n (fun i=>jf (L i)))(h':aP T w 171 3 v' n (fun i=>jf (L i)))(hn:n≤70368744177664):
  Calls Tryz.prog 103 #[v,v'] w fun e w'=>e= .returned (.bool true)∧Below w.heap.size w w':=by
 obtain⟨A,c,rfl⟩:=h.any;obtain⟨A',c',rfl⟩:=h'.any;have H1:=aa h;have H2:=aa h';have hnn:(n:Int)=(n:Int):=rfl;clear h h';go_enter Tryz.func103,Tryz.ntmps103;go_wp2_with fail;go_loopw [13] (fun i wr=>∃ j:Nat,j≤n∧i= .int .i64 j∧Below w.heap.size w wr) (fun i _=>(n - intOf i).toNat)
 case atStart=>exact⟨0,Nat.zero_le _,rfl,ar _ _⟩
 case round=>
  obtain⟨j,hj,rfl,hw⟩:=hrel;have HW:=aa hw;clear hw;by_cases h2:j<n
  ·have Y9:(j:Int)<(n:Int):=by omega
   obtain⟨g,cap,hv,_⟩:=H1.o.form ai;injection hv with e1 _ e2
   subst e1 e2;obtain⟨g',cap',hv,_⟩:=H2.o.form ai;injection hv with e1 _ e2
   subst e1 e2;have r1:=(H1.o.ah HW.o).range (fun _=>rfl) h2;have r2:=(H2.o.ah HW.o).range (fun _=>rfl) h2;obtain⟨b,hb⟩:=ae (L j);rw[hb] at r1 r2;have a0:wr.cell? ⟨g,j*3,none⟩=some (.int .u32 b.id):=r1 0 _ rfl;have a1:wr.cell? ⟨g,j*3+1,none⟩=some (.int .i64 b.aw):=r1 1 _ rfl;have a2:wr.cell? ⟨g,j*3+2,none⟩=some (.int .i64 b.aR):=r1 2 _ rfl;have b0:wr.cell? ⟨g',j*3,none⟩=some (.int .u32 b.id):=r2 0 _ rfl;have b1:wr.cell? ⟨g',j*3+1,none⟩=some (.int .i64 b.aw):=r2 1 _ rfl;have b2:wr.cell? ⟨g',j*3+2,none⟩=some (.int .i64 b.aR):=r2 2 _ rfl;clear r1 r2 hb hnn;go_wp2_with fail;refine wp_region_quiet_lit bh bh ?_;repeat(first|go_big_quiet_step (fail)|quiet_step (fail))
   refine wpQuiet_nil ?_;intro _ hw';obtain⟨nq,hw''⟩:=hw';subst hw'';go_wp2_with fail;go_roundw
   case rel=>exact⟨j+1,ai,by go_num,aQ HW.o _⟩
   case measure=>simp[intOf];omega
  obtain rfl:j=n:=ai;clear hnn;go_wp2_with fail;go_ret;exact⟨rfl,HW.o⟩
theorem aaT{S T:Nat→Prop}{w:World}{a b:Nat}{x:dI}(ha:fL S w a x)(hb:fL T w b x)(hk:Gm x.n x.au x.aA x.next x.aq x.L): Calls Tryz.prog 37 #[.pointer (some ⟨a,0,none⟩),.pointer (some ⟨b,0,none⟩)] w fun e w'=>e= .returned (.bool true)∧Below w.heap.size w w':=by
 obtain⟨q,ha⟩:=ha;obtain⟨q',hb⟩:=hb;have HA:=aa ha;have HB:=aa hb;have Pe:=aa (fun W (hW:Below w.heap.size w W)=>cY a true W ((ha.bg.ak hW).own.cell 3));have HTB:=aa (fun W (hW:Below w.heap.size w W)=>cY b true W ((hb.bg.ak hW).own.cell 3));have zf:=aa (fun W (hW:Below w.heap.size w W)=>zt (ha.ak hW) hk.IM);have HLB:=aa (fun W (hW:Below w.heap.size w W)=>zt (hb.ak hW) hk.IM);have HLN:=aa (show x.L.length≤70368744177664 by have:=hk.ZW;have:=hk.au;omega);have fX:=aa (show ∀ W,Below w.heap.size w W→(W.cell? ⟨a,0,none⟩=some (.int .i64 x.n)∧W.cell? ⟨a,1,none⟩=some (.int .i64 x.au)∧W.cell? ⟨a,4,none⟩=some (.int .i64 x.aq)∧W.cell? ⟨a,5,none⟩=some (.int .u32 x.next)∧W.cell? ⟨b,0,none⟩=some (.int .i64 x.n)∧W.cell? ⟨b,1,none⟩=some (.int .i64 x.au)∧W.cell? ⟨b,4,none⟩=some (.int .i64 x.aq)∧W.cell? ⟨b,5,none⟩=some (.int .u32 x.next))from fun W hW=>⟨(HA.o.ak hW).bg.own.cell 0,(HA.o.ak hW).bg.own.cell 1,(HA.o.ak hW).bg.own.cell 4,(HA.o.ak hW).bg.own.cell 5,(HB.o.ak hW).bg.own.cell 0,(HB.o.ak hW).bg.own.cell 1,(HB.o.ak hW).bg.own.cell 4,(HB.o.ak hW).bg.own.cell 5⟩);clear ha hb hk;go_enter Tryz.func37,Tryz.ntmps37;go_wp2_with fail;refine tW (S:=(fun W=>W.cell? ⟨a,0,none⟩=some (.int .i64 x.n)∧W.cell? ⟨a,1,none⟩=some (.int .i64 x.au)∧W.cell? ⟨a,4,none⟩=some (.int .i64 x.aq)∧W.cell? ⟨a,5,none⟩=some (.int .u32 x.next)∧W.cell? ⟨b,0,none⟩=some (.int .i64 x.n)∧W.cell? ⟨b,1,none⟩=some (.int .i64 x.au)∧W.cell? ⟨b,4,none⟩=some (.int .i64 x.aq)∧W.cell? ⟨b,5,none⟩=some (.int .u32 x.next))) (by exact fX.o _ (az (ar _ _))) fun hHeld=>?_
 have js:=aa (show Below w.heap.size w w.drew from az (ar _ _));refine ty 0 ?_;refine cJ 1 fun K hK=>?_
 go_simp;refine ag (Pe.o _ js.o) ?_;go_wp2_with fail;refine bW hK Ih fun sy=>?_
 clear hK K;refine tJ 2 3 ?_;refine cJ 4 fun K hK=>?_
 go_simp;refine ag (HTB.o _ js.o) ?_;go_wp2_with fail;refine bW hK Ih fun lI=>?_
 clear hK K;refine ov 5 6 7 8 9 10 11 12 ?_;refine ov 13 14 15 16 17 18 19 20 ?_;refine ov 21 22 23 24 25 26 27 28 ?_;refine ov 29 30 31 32 33 34 35 36 ?_;refine ov 37 38 39 40 41 42 43 44 ?_;refine ov 45 46 47 48 49 50 51 52 ?_;refine ov 53 54 55 56 57 58 59 61 ?_;refine cJ 60 fun K hK=>?_
 go_simp;refine(zf.o _ js.o).mono ?_;rintro e w1 ⟨v1,rfl,hR,hB⟩;have wI:=aa hR;have js:=js.dQ hB;clear hR hB;go_wp2_with fail;refine bW hK Ih fun ajL=>?_
 clear hK K;refine cJ 62 fun K hK=>?_
 go_simp;refine(HLB.o _ js.o).mono ?_;rintro e w2 ⟨v2,rfl,hR,hB⟩;have wI:=aa (wI.o.ah hB);have oc:=aa hR;have js:=js.dQ hB;clear hR hB;go_wp2_with fail;refine bW hK Ih fun ajK=>?_
 clear hK K;refine cJ 63 fun K hK=>?_
 go_simp;refine(Yw _ wI.o oc.o HLN.o).mono ?_;rintro e w3 ⟨rfl,hB⟩;have js:=js.dQ hB;clear hB;go_wp2_with fail;refine bW hK Ih fun ajJ=>?_
 clear hK K;refine tJ 64 65 ?_;refine bM ?_;go_wp2_with fail;go_ret;exact⟨rfl,js.o⟩
