import Derived.Test.YtemighjbfanenaaGreatDoorProg
import Derived.Test.YtemighjbfanenaaGreatDoorQk1
set_option linter.all false
set_option maxRecDepth 100000
set_option maxHeartbeats 16000000
namespace Go.Proofs.YtemighjbfanenaaGreatDoor
open RowKit
open Go.Proofs.Tryz renaming prog→af
open Int renaming mul_nonneg→zH
open Nat renaming le_refl→aY
open RowKit.Below renaming refl→ar
theorem ace{p:Prop}(h:p:=by
 go_wp2;refine bodyPost_ret (v:=.tuple #[.int .i64 (image a b),.int .i64 0]) ?_ rfl ⟨rfl,((ar _ _).alloc (aY _) _).trans (hb.mono dM)⟩;have e:image a b=20+14*k:=KW;rw[e];simp[results,Tryz.results223,go_sem]):p:=h
section
namespace tP
theorem afs(n:Int)(w:World):
  Calls af 110 #[.int .i64 n] w fun e w'=>e= .returned (.bool (Of n))∧w=w':=by
 go_enter Tryz.func110,Tryz.ntmps110;go_wp2;go_loop [3] (fun v=>∃ k:Int,v= .int .i64 k∧(k=64∨k=128∨k=256∨k=512∨k=1024∨k=2048∨k=4096∨k=8192)∧(Of n=true→k≤n)) (fun v=>(8192 - intOf v).toNat)
 case atStart=>exact⟨64,rfl,ai,fun h=>by have:=vI.1 h;omega⟩
 case round=>
  obtain⟨k,rfl,hk,hz⟩:=hrel;have hzz:Of n=true→n=64∨n=128∨n=256∨n=512∨n=1024∨n=2048∨n=4096:=vI.1;have hzk:n=k→k≤4096→Of n=true:=fun h h'=>vI.2 ai
  have HZ:=aa hz;have HZZ:=aa hzz;have HZK:=aa hzk;clear hz hzz hzk;by_cases h1:k≤4096
  ·by_cases h2:n=k
   ·have h3:=aa (HZK.o h2 h1);have h4:(n==k)=true:=by simpa using h2
    have h5:=aa h2;clear h2;go_wp2;go_ret;exact⟨ky h3.o.symm,rfl⟩
   have h4:(n==k)=false:=by simpa using h2
   go_wp2;go_round
   case rel=>
    refine⟨2*k,rfl,ai,fun h=>?_⟩;have:=HZ.o h;have:=HZZ.o h;omega
   case measure=>simp[intOf];omega
  have hf:Of n=false:=by
   rw[Bool.eq_false_iff];intro h;have:=HZ.o h;have:=HZZ.o h;omega
  have HF:=aa hf;clear hf;go_wp2;go_ret;exact⟨ky HF.o.symm,rfl⟩
theorem hold(n m:Int)(w:World)(h1:0≤n)(h2:n≤20000)(h3:1≤m)(h4:m≤4096):
  Calls af 112 #[.int .i64 n,.int .i64 m] w fun e w'=>e= .returned (.int .i64 (up n m))∧w=w':=by
 have hu:=SE h1 h3;have hp:0≤up n m:=by unfold up;exact Int.ediv_nonneg ai ai
 have HL:=aa (fun k:Int=>@Vr k n m h3);go_enter Tryz.func112,Tryz.ntmps112;go_wp2;go_loop [5] (fun v=>∃ k:Int,v= .int .i64 k∧0≤k∧k≤up n m) (fun v=>(up n m - intOf v).toNat)
 case atStart=>exact⟨0,rfl,ai,hp⟩
 case round=>
  obtain⟨k,rfl,hk,hz⟩:=hrel;have Mb:0≤k*m:=zH ai ai;have hkM:k*m≤20000*4096:=Int.mul_le_mul ai h4 ai ai;by_cases h:k<up n m
  ·have hl:k*m<n:=(HL.o k).1 h;go_wp2;go_round
   case rel=>exact⟨k+1,rfl,ai,ai⟩
   case measure=>simp[intOf];omega
  have hl: ¬k*m<n:=fun hh=>h ((HL.o k).2 hh)
  go_wp2;go_ret;exact⟨ZF ai,rfl⟩
theorem D9(a b c:Int)(w:World)(h:Ct a b c=true):
  Calls af 90 #[.agg #[.int .i64 a,.int .i64 b,.int .i64 c]] w fun e w'=>e= .returned (.int .i64 0)∧Below w.heap.size w w':=by
 obtain⟨h1,h2,h3,h4,h5,h6⟩:=lR h;clear h;go_enter Tryz.func90,Tryz.ntmps90;go_wp2;go_ret;exact⟨rfl,(ar _ _).alloc (aY _) _⟩
theorem WU(a b c:Int)(w:World)(h:Ct a b c=false):
  Calls af 90 #[.agg #[.int .i64 a,.int .i64 b,.int .i64 c]] w fun e w'=>e= .returned (.int .i64 90)∧Below w.heap.size w w':=by
 have HH:=aa (UB h);clear h;go_enter Tryz.func90,Tryz.ntmps90;go_wp2;all_goals first
  | (go_ret;exact⟨rfl,(ar _ _).alloc (aY _) _⟩)
  | (exfalso;have:=HH.o;(try simp at *);omega)
theorem nD(a b c:Int)(w:World)(h:Ct a b c=true):
  Calls af 109 #[.agg #[.int .i64 a,.int .i64 b,.int .i64 c]] w fun e w'=>e= .returned (.int .i64 0)∧Below w.heap.size w w':=by
 obtain⟨h1,h2,h3,h4,h5,h6⟩:=lR h;clear h;go_enter Tryz.func109,Tryz.ntmps109;go_wp2;go_ret;exact⟨rfl,(ar _ _).alloc (aY _) _⟩
theorem LM(a b c:Int)(w:World)(h:Ct a b c=true):
  Calls af 223 #[.agg #[.int .i64 a,.int .i64 b,.int .i64 c]] w fun e w'=>e= .returned (.tuple #[.int .i64 (image a b),.int .i64 0])∧Below w.heap.size w w':=by
 have H:=aa h;clear h;obtain⟨h1,h2,h3,h4,h5,h6⟩:=lR H.o;go_enter Tryz.func223,Tryz.ntmps223;go_wp2_with fail;refine(nD a b c _ H.o).mono ?_;rintro e w1 ⟨rfl,hb⟩;obtain⟨hc,hf⟩:=BP hb;go_wp2_with fail;go_loop [4] (fun v=>∃ k:Int,v= .int .i64 k∧0≤k∧k≤a∧k≤b) (fun v=>(1024 - intOf v).toNat)
 case atStart=>exact⟨0,rfl,ai,ai,ai⟩
 case round=>
  obtain⟨k,rfl,hk,hka,hkb⟩:=hrel;by_cases g1:k<a
  ·by_cases g2:k<b
   ·go_wp2;go_round
    case rel=>exact⟨k+1,rfl,ai,ai,ai⟩
    case measure=>simp[intOf];omega
   exact ace
  exact ace
end tP
end
section
namespace tP
theorem yy(a b c m:Int)(w:World)(h:Ct a b c=true)(h':Of m=true):
  Calls af 111 #[.agg #[.int .i64 a,.int .i64 b,.int .i64 c],.int .i64 m] w fun e w'=>e= .returned (.int .i64 (slot a b m))∧Below w.heap.size w w':=by
 have H:=aa h;obtain⟨h1,h2,h3,h4,h5,h6,h7,h8,h9,h10,h11,h12,h13,h14⟩:=ZO h h';clear h h';have h15:0≤up (image a b) m:=by unfold slot at h11;omega
 have h16:up (image a b) m≤20000:=by unfold slot at h12;omega
 go_enter Tryz.func111,Tryz.ntmps111;go_wp2_with fail;refine(LM a b c _ H.o).mono ?_;rintro e w1 ⟨rfl,hb⟩;go_wp2_with fail;refine(hold (image a b) m _ ai ai ai h8).mono ?_;rintro e w2 ⟨rfl,rfl⟩;go_wp2_with fail;go_ret;exact⟨rfl,((ar _ _).alloc (aY _) _).trans (hb.mono dM)⟩
theorem xH(a b c m:Int)(w:World)(h:Ct a b c=true)(h':Of m=true):
  Calls af 43 #[.agg #[.int .i64 a,.int .i64 b,.int .i64 c],.int .i64 m] w fun e w'=>e= .returned (.tuple #[.int .i64 (Qq a b m),.int .i64 0])∧Below w.heap.size w w':=by
 have H:=aa h;have H':=aa h';obtain⟨h1,h2,h3,h4,h5,h6,h7,h8,h9,h10,h11,h12,h13,h14⟩:=ZO h h';clear h h';go_enter Tryz.func43,Tryz.ntmps43;go_wp2_with fail;refine(nD a b c _ H.o).mono ?_;rintro e w1 ⟨rfl,hb⟩;obtain⟨hc,hf⟩:=BP hb;go_wp2_with fail;refine(afs m _).mono ?_;rintro e w2 ⟨rfl,rfl⟩;rw[H'.o];go_wp2_with fail;refine(yy a b c m _ H.o H'.o).mono ?_;rintro e w2 ⟨rfl,hb2⟩;go_wp2_with fail;refine(hold 54 m _ ai ai ai h8).mono ?_;rintro e w3 ⟨rfl,rfl⟩;go_wp2_with fail;go_ret2;exact⟨rfl,(((ar _ _).alloc (aY _) _).trans (hb.mono dM)).trans (hb2.mono (by have:=hb.size;simp at this;omega))⟩
theorem ajD(n m:Int)(w:World):
  Calls af 113 #[.int .i64 n,.int .i64 m] w fun e w'=>e= .returned (.bool (okD n m))∧w=w':=by
 by_cases h1:1≤n
 ·by_cases h2:n≤65536
  ·cases h3:Of m with
   | true=>
    have h4:=vI.1 h3;have h5:m≤4096:=ai;have h6:64≤m:=ai;clear h4;have H3:=aa h3;clear h3;have h7:n*m≤65536*4096:=Int.mul_le_mul h2 h5 ai ai;have h8:0≤n*m:=zH ai ai;go_enter Tryz.func113,Tryz.ntmps113;go_wp2_with fail;refine(afs m _).mono ?_;rintro e w2 ⟨rfl,rfl⟩;rw[H3.o];go_wp2_with fail;go_ret;exact⟨ky (by simp[okD,H3.o,h1,h2]),rfl⟩
   | false=>
    have H3:=aa h3;clear h3;go_enter Tryz.func113,Tryz.ntmps113;go_wp2_with fail;refine(afs m _).mono ?_;rintro e w2 ⟨rfl,rfl⟩;rw[H3.o];go_wp2_with fail;go_ret;exact⟨ky (by simp[okD,H3.o]),rfl⟩
  go_enter Tryz.func113,Tryz.ntmps113;go_wp2_with fail;go_ret;exact⟨ky (by simp[okD];omega),rfl⟩
 ·go_enter Tryz.func113,Tryz.ntmps113;go_wp2_with fail;go_ret;exact⟨ky (by simp[okD];omega),rfl⟩
theorem Og{n m:Int}(h:okD n m=true): 1≤n∧n≤65536∧Of m=true∧n*m≤67108864:=by simpa[okD] using h
theorem abO(n m a b c:Int)(w:World)(h:Ct a b c=true)(h':okD n m=true)(h'':n<Qq a b m):
  Calls af 44 #[.int .i64 n,.int .i64 m,.agg #[.int .i64 a,.int .i64 b,.int .i64 c]] w fun e w'=>e= .returned (.tuple #[.agg #[.int .i64 0,.int .i64 0,.int .i64 0,.int .i64 0,.int .i64 0,.int .i64 0,.int .i64 0],.int .i64 91])∧Below w.heap.size w w':=by
 have hd:=Og h';obtain⟨d1,d2,d3,d4⟩:=hd;have H3:=aa d3;obtain⟨h1,h2,h3,h4,h5,h6,h7,h8,h9,h10,h11,h12,h13,h14⟩:=ZO h d3;have hm0:0≤n*m:=zH ai ai;have H:=aa h;clear h;have H':=aa h';clear h' d3;go_enter Tryz.func44,Tryz.ntmps44;go_wp2_with fail;refine(nD a b c _ H.o).mono ?_;rintro e w1 ⟨rfl,hb⟩;obtain⟨hc,hf⟩:=BP hb;have hz:=hb.size;simp at hz;have hl0:w.heap.size<w1.heap.size:=ai;have rD:w.heap.size+1<w1.heap.size:=ai;go_wp2_with fail;refine(ajD n m _).mono ?_;rintro e w2 ⟨rfl,rfl⟩;rw[H'.o];go_wp2_with fail;refine(xH a b c m _ H.o H3.o).mono ?_;rintro e w2 ⟨rfl,hb2⟩;obtain⟨hc2,hf2⟩:=BP hb2;have hz2:=hb2.size;have aad:w.heap.size<w2.heap.size:=ai;have aeI:w.heap.size+1<w2.heap.size:=ai;go_wp2_with fail;refine bodyPost_ret (v:=.tuple #[.agg #[.int .i64 0,.int .i64 0,.int .i64 0,.int .i64 0,.int .i64 0,.int .i64 0,.int .i64 0],.int .i64 91]) (by simp[results,Tryz.results44,go_sem,hc,hl0,rD,hc2,aad,aeI]) rfl ⟨rfl,?_⟩;iterate 7 refine Below.setCell ?_ dM _
 exact((((ar _ _).alloc (aY _) _).alloc dM _).trans (hb.mono fZ)).trans (hb2.mono ai)
theorem Um(n m a b c:Int)(w:World)(h:Ct a b c=true)(h':okD n m=true)(h'':Qq a b m≤n):
  Calls af 44 #[.int .i64 n,.int .i64 m,.agg #[.int .i64 a,.int .i64 b,.int .i64 c]] w fun e w'=>e= .returned (.tuple #[.agg #[.int .i64 m,.int .i64 0,.int .i64 (slot a b m),.int .i64 (slot a b m),.int .i64 (slot a b m),.int .i64 (2*slot a b m),.int .i64 (n - 2*slot a b m)],.int .i64 0])∧Below w.heap.size w w':=by
 have hd:=Og h';obtain⟨d1,d2,d3,d4⟩:=hd;have H3:=aa d3;obtain⟨h1,h2,h3,h4,h5,h6,h7,h8,h9,h10,h11,h12,h13,h14⟩:=ZO h d3;have hm0:0≤n*m:=zH ai ai;have H:=aa h;clear h;have H':=aa h';clear h' d3;go_enter Tryz.func44,Tryz.ntmps44;go_wp2_with fail;refine(nD a b c _ H.o).mono ?_;rintro e w1 ⟨rfl,hb⟩;obtain⟨hc,hf⟩:=BP hb;have hz:=hb.size;simp at hz;have hl0:w.heap.size<w1.heap.size:=ai;have rD:w.heap.size+1<w1.heap.size:=ai;go_wp2_with fail;refine(ajD n m _).mono ?_;rintro e w2 ⟨rfl,rfl⟩;rw[H'.o];go_wp2_with fail;refine(xH a b c m _ H.o H3.o).mono ?_;rintro e w2 ⟨rfl,hb2⟩;obtain⟨hc2,hf2⟩:=BP hb2;have hz2:=hb2.size;have aad:w.heap.size<w2.heap.size:=ai;have aeI:w.heap.size+1<w2.heap.size:=ai;go_wp2_with fail;refine(yy a b c m _ H.o H3.o).mono ?_;rintro e w3 ⟨rfl,hb3⟩;obtain⟨hc3,hf3⟩:=BP hb3;have hz3:=hb3.size;have akq:w.heap.size<w3.heap.size:=ai;have akp:w.heap.size+1<w3.heap.size:=ai;go_wp2_with fail;refine bodyPost_ret (v:=.tuple #[.agg #[.int .i64 m,.int .i64 0,.int .i64 (slot a b m),.int .i64 (slot a b m),.int .i64 (slot a b m),.int .i64 (2*slot a b m),.int .i64 (n - 2*slot a b m)],.int .i64 0]) (by simp[results,Tryz.results44,go_sem,hc,hl0,rD,hc2,aad,aeI,hc3,akq,akp]) rfl ⟨rfl,?_⟩;iterate 7 refine Below.setCell ?_ dM _
 exact(((((ar _ _).alloc (aY _) _).alloc dM _).trans (hb.mono fZ)).trans (hb2.mono ai)).trans (hb3.mono ai)
