import Derived.Test.YtemighjbfanenaaGreatDoorQk10
import Derived.Sort.Grow
import Derived.Lib.Small
set_option linter.all false
set_option maxRecDepth 100000
set_option maxHeartbeats 16000000
namespace Go.Proofs.YtemighjbfanenaaGreatDoor
open RowKit
open Go.Lib renaming compareInt→zU
open Go.Proofs.Tryz renaming prog→af
theorem UX{p:Prop}(h:p:=by
 go_enter Tryz.func352,Tryz.ntmps352;go_wp2_with (first|(go_at_call 371;refine(Vz _ _).mono ?_;rintro e w' ⟨rfl,rfl⟩));go_ret;exact⟨rfl,rfl⟩):p:=h
section
namespace km
open Go.RowKit Go.Sort
theorem Vz(x:Int)(W:World): Calls af 371 #[.int .u32 x] W fun e w'=>e= .returned (.bool false)∧w'=W:=by
 go_enter Tryz.func371,Tryz.ntmps371;go_wp2_with fail;go_ret;exact⟨dM,rfl⟩
theorem M9(x y:Int)(W:World): Calls af 352 #[.int .u32 x,.int .u32 y] W fun e w'=>e= .returned (.int .i64 (zU x y))∧w'=W:=by
 unfold zU;by_cases h1:x<y
 ·rw[if_pos h1];exact UX
 rw[if_neg h1];by_cases h2:x>y
 ·rw[if_pos h2];have h3:y<x:=h2;exact UX
 rw[if_neg h2];have h3: ¬y<x:=h2;exact UX
def cfS(x y:Slot): Int:=zU x.id y.id
theorem afd(x y:Slot)(W:World): Calls af 351 #[.agg (fD x).toArray,.agg (fD y).toArray] W fun e w'=>e= .returned (.int .i64 (cfS x y))∧∃ q os',w'=grow (W.drewN q) os':=by
 obtain⟨r,hr⟩:=ae (zU x.id y.id);have HC:=aa (fun W'=>M9 x.id y.id W');unfold cfS;rw[hr] at HC ⊢;clear hr;unfold fD;go_enter Tryz.func351,Tryz.ntmps351;go_wp2_with fail;refine ag (HC.o _) ?_;go_wp2_with fail;go_ret;exact⟨rfl,0,_,by rw[alloc_eq_grow,alloc_eq_grow,grow_grow];rfl⟩
