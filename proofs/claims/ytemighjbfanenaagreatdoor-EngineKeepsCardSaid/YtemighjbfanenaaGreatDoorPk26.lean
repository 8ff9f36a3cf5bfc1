import Derived.Test.YtemighjbfanenaaGreatDoorPk1
import Derived.OwnWalk
import Derived.Test.YtemighjbfanenaaGreatDoorProg
set_option linter.all false
set_option maxRecDepth 100000
set_option maxHeartbeats 16000000
namespace Go.Proofs.YtemighjbfanenaaGreatDoor
open RowKit
open Int renaming mul_nonneg→zP
open Nat renaming le_refl→aL
open RowKit.Below renaming grown→ack,refl→aq
open Tryz renaming prog→af
theorem qf{p:Prop}(h:p:=by
 have hbm:Below w.heap.size w w5:=ack hb0 jk.o hb0.size dA;go_loopw [6] (fun k wr=>k= .int .i64 0∧Below w.heap.size w wr) (fun _ _=>0)
 case atStart=>exact⟨rfl,hbm⟩
 case round=>
  obtain⟨rfl,hb1⟩:=hrel;go_wp2_with fail;go_loopw [9] (fun k wr=>k= .int .i64 0∧Below w.heap.size w wr) (fun _ _=>0)
  case atStart=>exact⟨rfl,hb1⟩
  case round=>
   obtain⟨rfl,hb2⟩:=hrel;go_wp2_with fail;go_loopw [11] (fun k wr=>k= .int .i64 0∧Below w.heap.size w wr) (fun _ _=>0)
   case atStart=>exact⟨rfl,hb2⟩
   case round=>
    obtain⟨rfl,hb3⟩:=hrel;go_wp2_with fail;go_loopw [14] (fun k wr=>k= .int .i64 0∧Below w.heap.size w wr) (fun _ _=>0)
    case atStart=>exact⟨rfl,hb3⟩
    case round=>
     obtain⟨rfl,hb4⟩:=hrel;go_wp2_with fail;go_ret;exact⟨rfl,hb4⟩):p:=h
theorem ada{p:Prop}(h:p:=by
 go_wp2;refine bodyPost_ret (v:=.tuple #[.int .i64 (image a b),.int .i64 0]) ?_ rfl ⟨rfl,((aq _ _).alloc (aL _) _).trans (hb.mono dA)⟩;have e:image a b=20+14*k:=LB;rw[e];simp[results,Tryz.results223,go_sem]):p:=h
section
namespace Fl
theorem MM: (af.info? 310).map (fun i=>(i.zero,i.size,i.bytes))=some (some (.slice none 0 0),1,24):=aW
theorem DI(w:World): Calls af 166 #[.slice none 0 0] w fun e w'=>e= .returned (.bool true)∧Below w.heap.size w w':=by
 obtain⟨i1,kC,gC,gB,oa⟩:=info_parts MM;go_enter Tryz.func166,Tryz.ntmps166;go_wp2_with fail;go_loopw [3] (fun k wr=>k= .int .i64 0∧Below w.heap.size w wr) (fun _ _=>0)
 case atStart=>exact⟨rfl,aq _ _⟩
 case round=>
  obtain⟨rfl,hb0⟩:=hrel;go_wp2_with (refine wpList_make_full _ rfl _ _ 178 rfl wr.heap.size 310 i1 (.slice none 0 0) 1 Tryz.underlying178 kC gC gB .i64 .i64 _ _ 0 rfl rfl rfl rfl ag aM (aL _) ?_;intro w5 bT cJ;have jk:=aa cJ;clear bT cJ);exact qf
theorem Rz: (af.info? 153).map (fun i=>(i.zero,i.size,i.bytes))=some (some (.slice none 0 0),1,24):=aW
theorem GP(w:World): Calls af 167 #[.slice none 0 0] w fun e w'=>e= .returned (.bool true)∧Below w.heap.size w w':=by
 obtain⟨i1,kC,gC,gB,oa⟩:=info_parts Rz;go_enter Tryz.func167,Tryz.ntmps167;go_wp2_with fail;go_loopw [3] (fun k wr=>k= .int .i64 0∧Below w.heap.size w wr) (fun _ _=>0)
 case atStart=>exact⟨rfl,aq _ _⟩
 case round=>
  obtain⟨rfl,hb0⟩:=hrel;go_wp2_with (refine wpList_make_full _ rfl _ _ 179 rfl wr.heap.size 153 i1 (.slice none 0 0) 1 Tryz.underlying179 kC gC gB .i64 .i64 _ _ 0 rfl rfl rfl rfl ag aM (aL _) ?_;intro w5 bT cJ;have jk:=aa cJ;clear bT cJ);exact qf
theorem MK: (af.info? 361).map (fun i=>(i.zero,i.size,i.bytes))=some (some (.slice none 0 0),1,24):=aW
theorem DF(w:World): Calls af 168 #[.slice none 0 0] w fun e w'=>e= .returned (.bool true)∧Below w.heap.size w w':=by
 obtain⟨i1,kC,gC,gB,oa⟩:=info_parts MK;go_enter Tryz.func168,Tryz.ntmps168;go_wp2_with fail;go_loopw [3] (fun k wr=>k= .int .i64 0∧Below w.heap.size w wr) (fun _ _=>0)
 case atStart=>exact⟨rfl,aq _ _⟩
 case round=>
  obtain⟨rfl,hb0⟩:=hrel;go_wp2_with (refine wpList_make_full _ rfl _ _ 180 rfl wr.heap.size 361 i1 (.slice none 0 0) 1 Tryz.underlying180 kC gC gB .i64 .i64 _ _ 0 rfl rfl rfl rfl ag aM (aL _) ?_;intro w5 bT cJ;have jk:=aa cJ;clear bT cJ);exact qf
theorem MH: (af.info? 362).map (fun i=>(i.zero,i.size,i.bytes))=some (some (.slice none 0 0),1,24):=aW
theorem DB(w:World): Calls af 169 #[.slice none 0 0] w fun e w'=>e= .returned (.bool true)∧Below w.heap.size w w':=by
 obtain⟨i1,kC,gC,gB,oa⟩:=info_parts MH;go_enter Tryz.func169,Tryz.ntmps169;go_wp2_with fail;go_loopw [3] (fun k wr=>k= .int .i64 0∧Below w.heap.size w wr) (fun _ _=>0)
 case atStart=>exact⟨rfl,aq _ _⟩
 case round=>
  obtain⟨rfl,hb0⟩:=hrel;go_wp2_with (refine wpList_make_full _ rfl _ _ 181 rfl wr.heap.size 362 i1 (.slice none 0 0) 1 Tryz.underlying181 kC gC gB .i64 .i64 _ _ 0 rfl rfl rfl rfl ag aM (aL _) ?_;intro w5 bT cJ;have jk:=aa cJ;clear bT cJ);exact qf
theorem MP: (af.info? 34).map (fun i=>(i.zero,i.size,i.bytes))=some (some (.slice none 0 0),1,24):=aW
theorem DL(w:World): Calls af 170 #[.slice none 0 0] w fun e w'=>e= .returned (.bool true)∧Below w.heap.size w w':=by
 obtain⟨i1,kC,gC,gB,oa⟩:=info_parts MP;go_enter Tryz.func170,Tryz.ntmps170;go_wp2_with fail;go_loopw [3] (fun k wr=>k= .int .i64 0∧Below w.heap.size w wr) (fun _ _=>0)
 case atStart=>exact⟨rfl,aq _ _⟩
 case round=>
  obtain⟨rfl,hb0⟩:=hrel;go_wp2_with (refine wpList_make_full _ rfl _ _ 33 rfl wr.heap.size 34 i1 (.slice none 0 0) 1 Tryz.underlying33 kC gC gB .i64 .i64 _ _ 0 rfl rfl rfl rfl ag aM (aL _) ?_;intro w5 bT cJ;have jk:=aa cJ;clear bT cJ);exact qf
theorem MJ: (af.info? 365).map (fun i=>(i.zero,i.size,i.bytes))=some (some (.slice none 0 0),1,24):=aW
theorem DD(w:World): Calls af 171 #[.slice none 0 0] w fun e w'=>e= .returned (.bool true)∧Below w.heap.size w w':=by
 obtain⟨i1,kC,gC,gB,oa⟩:=info_parts MJ;go_enter Tryz.func171,Tryz.ntmps171;go_wp2_with fail;go_loopw [3] (fun k wr=>k= .int .i64 0∧Below w.heap.size w wr) (fun _ _=>0)
 case atStart=>exact⟨rfl,aq _ _⟩
 case round=>
  obtain⟨rfl,hb0⟩:=hrel;go_wp2_with (refine wpList_make_full _ rfl _ _ 182 rfl wr.heap.size 365 i1 (.slice none 0 0) 1 Tryz.underlying182 kC gC gB .i64 .i64 _ _ 0 rfl rfl rfl rfl ag aM (aL _) ?_;intro w5 bT cJ;have jk:=aa cJ;clear bT cJ);exact qf
theorem MN: (af.info? 367).map (fun i=>(i.zero,i.size,i.bytes))=some (some (.slice none 0 0),1,24):=aW
theorem DJ(w:World): Calls af 172 #[.slice none 0 0] w fun e w'=>e= .returned (.bool true)∧Below w.heap.size w w':=by
 obtain⟨i1,kC,gC,gB,oa⟩:=info_parts MN;go_enter Tryz.func172,Tryz.ntmps172;go_wp2_with fail;go_loopw [3] (fun k wr=>k= .int .i64 0∧Below w.heap.size w wr) (fun _ _=>0)
 case atStart=>exact⟨rfl,aq _ _⟩
 case round=>
  obtain⟨rfl,hb0⟩:=hrel;go_wp2_with (refine wpList_make_full _ rfl _ _ 183 rfl wr.heap.size 367 i1 (.slice none 0 0) 1 Tryz.underlying183 kC gC gB .i64 .i64 _ _ 0 rfl rfl rfl rfl ag aM (aL _) ?_;intro w5 bT cJ;have jk:=aa cJ;clear bT cJ);exact qf
theorem MI: (af.info? 372).map (fun i=>(i.zero,i.size,i.bytes))=some (some (.slice none 0 0),1,24):=aW
theorem DC(w:World): Calls af 173 #[.slice none 0 0] w fun e w'=>e= .returned (.bool true)∧Below w.heap.size w w':=by
 obtain⟨i1,kC,gC,gB,oa⟩:=info_parts MI;go_enter Tryz.func173,Tryz.ntmps173;go_wp2_with fail;go_loopw [3] (fun k wr=>k= .int .i64 0∧Below w.heap.size w wr) (fun _ _=>0)
 case atStart=>exact⟨rfl,aq _ _⟩
 case round=>
  obtain⟨rfl,hb0⟩:=hrel;go_wp2_with (refine wpList_make_full _ rfl _ _ 184 rfl wr.heap.size 372 i1 (.slice none 0 0) 1 Tryz.underlying184 kC gC gB .i64 .i64 _ _ 0 rfl rfl rfl rfl ag aM (aL _) ?_;intro w5 bT cJ;have jk:=aa cJ;clear bT cJ);exact qf
theorem Jm: (af.info? 246).map (fun i=>(i.zero,i.size,i.bytes))=some (some (.slice none 0 0),1,24):=aW
theorem Cu(w:World): Calls af 174 #[.slice none 0 0] w fun e w'=>e= .returned (.bool true)∧Below w.heap.size w w':=by
 obtain⟨i1,kC,gC,gB,oa⟩:=info_parts Jm;go_enter Tryz.func174,Tryz.ntmps174;go_wp2_with fail;go_loopw [3] (fun k wr=>k= .int .i64 0∧Below w.heap.size w wr) (fun _ _=>0)
 case atStart=>exact⟨rfl,aq _ _⟩
 case round=>
  obtain⟨rfl,hb0⟩:=hrel;go_wp2_with (refine wpList_make_full _ rfl _ _ 185 rfl wr.heap.size 246 i1 (.slice none 0 0) 1 Tryz.underlying185 kC gC gB .i64 .i64 _ _ 0 rfl rfl rfl rfl ag aM (aL _) ?_;intro w5 bT cJ;have jk:=aa cJ;clear bT cJ);exact qf
theorem Jn: (af.info? 378).map (fun i=>(i.zero,i.size,i.bytes))=some (some (.slice none 0 0),1,24):=aW
theorem Cv(w:World): Calls af 175 #[.slice none 0 0] w fun e w'=>e= .returned (.bool true)∧Below w.heap.size w w':=by
 obtain⟨i1,kC,gC,gB,oa⟩:=info_parts Jn;go_enter Tryz.func175,Tryz.ntmps175;go_wp2_with fail;go_loopw [3] (fun k wr=>k= .int .i64 0∧Below w.heap.size w wr) (fun _ _=>0)
 case atStart=>exact⟨rfl,aq _ _⟩
 case round=>
  obtain⟨rfl,hb0⟩:=hrel;go_wp2_with (refine wpList_make_full _ rfl _ _ 186 rfl wr.heap.size 378 i1 (.slice none 0 0) 1 Tryz.underlying186 kC gC gB .i64 .i64 _ _ 0 rfl rfl rfl rfl ag aM (aL _) ?_;intro w5 bT cJ;have jk:=aa cJ;clear bT cJ);exact qf
theorem F9: (af.info? 383).map (fun i=>(i.zero,i.size,i.bytes))=some (some (.slice none 0 0),1,24):=aW
theorem zj(w:World): Calls af 176 #[.slice none 0 0] w fun e w'=>e= .returned (.bool true)∧Below w.heap.size w w':=by
 obtain⟨i1,kC,gC,gB,oa⟩:=info_parts F9;go_enter Tryz.func176,Tryz.ntmps176;go_wp2_with fail;go_loopw [3] (fun k wr=>k= .int .i64 0∧Below w.heap.size w wr) (fun _ _=>0)
 case atStart=>exact⟨rfl,aq _ _⟩
 case round=>
  obtain⟨rfl,hb0⟩:=hrel;go_wp2_with (refine wpList_make_full _ rfl _ _ 187 rfl wr.heap.size 383 i1 (.slice none 0 0) 1 Tryz.underlying187 kC gC gB .i64 .i64 _ _ 0 rfl rfl rfl rfl ag aM (aL _) ?_;intro w5 bT cJ;have jk:=aa cJ;clear bT cJ);exact qf
theorem De: (af.info? 98).map (fun i=>(i.zero,i.size,i.bytes))=some (some (.slice none 0 0),1,24):=aW
theorem yf(w:World): Calls af 177 #[.slice none 0 0] w fun e w'=>e= .returned (.bool true)∧Below w.heap.size w w':=by
 obtain⟨i1,kC,gC,gB,oa⟩:=info_parts De;go_enter Tryz.func177,Tryz.ntmps177;go_wp2_with fail;go_loopw [3] (fun k wr=>k= .int .i64 0∧Below w.heap.size w wr) (fun _ _=>0)
 case atStart=>exact⟨rfl,aq _ _⟩
 case round=>
  obtain⟨rfl,hb0⟩:=hrel;go_wp2_with (refine wpList_make_full _ rfl _ _ 188 rfl wr.heap.size 98 i1 (.slice none 0 0) 1 Tryz.underlying188 kC gC gB .i64 .i64 _ _ 0 rfl rfl rfl rfl ag aM (aL _) ?_;intro w5 bT cJ;have jk:=aa cJ;clear bT cJ);exact qf
theorem Dc: (af.info? 31).map (fun i=>(i.zero,i.size,i.bytes))=some (some (.slice none 0 0),1,24):=aW
theorem yc(w:World): Calls af 178 #[.slice none 0 0] w fun e w'=>e= .returned (.bool true)∧Below w.heap.size w w':=by
 obtain⟨i1,kC,gC,gB,oa⟩:=info_parts Dc;go_enter Tryz.func178,Tryz.ntmps178;go_wp2_with fail;go_loopw [3] (fun k wr=>k= .int .i64 0∧Below w.heap.size w wr) (fun _ _=>0)
 case atStart=>exact⟨rfl,aq _ _⟩
 case round=>
  obtain⟨rfl,hb0⟩:=hrel;go_wp2_with (refine wpList_make_full _ rfl _ _ 189 rfl wr.heap.size 31 i1 (.slice none 0 0) 1 Tryz.underlying189 kC gC gB .i64 .i64 _ _ 0 rfl rfl rfl rfl ag aM (aL _) ?_;intro w5 bT cJ;have jk:=aa cJ;clear bT cJ);exact qf
theorem F8: (af.info? 65).map (fun i=>(i.zero,i.size,i.bytes))=some (some (.slice none 0 0),1,24):=aW
theorem zi(w:World): Calls af 179 #[.slice none 0 0] w fun e w'=>e= .returned (.bool true)∧Below w.heap.size w w':=by
 obtain⟨i1,kC,gC,gB,oa⟩:=info_parts F8;go_enter Tryz.func179,Tryz.ntmps179;go_wp2_with fail;go_loopw [3] (fun k wr=>k= .int .i64 0∧Below w.heap.size w wr) (fun _ _=>0)
 case atStart=>exact⟨rfl,aq _ _⟩
 case round=>
  obtain⟨rfl,hb0⟩:=hrel;go_wp2_with (refine wpList_make_full _ rfl _ _ 190 rfl wr.heap.size 65 i1 (.slice none 0 0) 1 Tryz.underlying190 kC gC gB .i64 .i64 _ _ 0 rfl rfl rfl rfl ag aM (aL _) ?_;intro w5 bT cJ;have jk:=aa cJ;clear bT cJ);exact qf
theorem MO: (af.info? 388).map (fun i=>(i.zero,i.size,i.bytes))=some (some (.slice none 0 0),1,24):=aW
theorem DK(w:World): Calls af 180 #[.slice none 0 0] w fun e w'=>e= .returned (.bool true)∧Below w.heap.size w w':=by
 obtain⟨i1,kC,gC,gB,oa⟩:=info_parts MO;go_enter Tryz.func180,Tryz.ntmps180;go_wp2_with fail;go_loopw [3] (fun k wr=>k= .int .i64 0∧Below w.heap.size w wr) (fun _ _=>0)
 case atStart=>exact⟨rfl,aq _ _⟩
 case round=>
  obtain⟨rfl,hb0⟩:=hrel;go_wp2_with (refine wpList_make_full _ rfl _ _ 191 rfl wr.heap.size 388 i1 (.slice none 0 0) 1 Tryz.underlying191 kC gC gB .i64 .i64 _ _ 0 rfl rfl rfl rfl ag aM (aL _) ?_;intro w5 bT cJ;have jk:=aa cJ;clear bT cJ);exact qf
theorem MF: (af.info? 393).map (fun i=>(i.zero,i.size,i.bytes))=some (some (.slice none 0 0),1,24):=aW
theorem Dz(w:World): Calls af 181 #[.slice none 0 0] w fun e w'=>e= .returned (.bool true)∧Below w.heap.size w w':=by
 obtain⟨i1,kC,gC,gB,oa⟩:=info_parts MF;go_enter Tryz.func181,Tryz.ntmps181;go_wp2_with fail;go_loopw [3] (fun k wr=>k= .int .i64 0∧Below w.heap.size w wr) (fun _ _=>0)
 case atStart=>exact⟨rfl,aq _ _⟩
 case round=>
  obtain⟨rfl,hb0⟩:=hrel;go_wp2_with (refine wpList_make_full _ rfl _ _ 192 rfl wr.heap.size 393 i1 (.slice none 0 0) 1 Tryz.underlying192 kC gC gB .i64 .i64 _ _ 0 rfl rfl rfl rfl ag aM (aL _) ?_;intro w5 bT cJ;have jk:=aa cJ;clear bT cJ);exact qf
theorem ML: (af.info? 397).map (fun i=>(i.zero,i.size,i.bytes))=some (some (.slice none 0 0),1,24):=aW
theorem DG(w:World): Calls af 182 #[.slice none 0 0] w fun e w'=>e= .returned (.bool true)∧Below w.heap.size w w':=by
 obtain⟨i1,kC,gC,gB,oa⟩:=info_parts ML;go_enter Tryz.func182,Tryz.ntmps182;go_wp2_with fail;go_loopw [3] (fun k wr=>k= .int .i64 0∧Below w.heap.size w wr) (fun _ _=>0)
 case atStart=>exact⟨rfl,aq _ _⟩
 case round=>
  obtain⟨rfl,hb0⟩:=hrel;go_wp2_with (refine wpList_make_full _ rfl _ _ 193 rfl wr.heap.size 397 i1 (.slice none 0 0) 1 Tryz.underlying193 kC gC gB .i64 .i64 _ _ 0 rfl rfl rfl rfl ag aM (aL _) ?_;intro w5 bT cJ;have jk:=aa cJ;clear bT cJ);exact qf
theorem MG: (af.info? 401).map (fun i=>(i.zero,i.size,i.bytes))=some (some (.slice none 0 0),1,24):=aW
theorem DA(w:World): Calls af 183 #[.slice none 0 0] w fun e w'=>e= .returned (.bool true)∧Below w.heap.size w w':=by
 obtain⟨i1,kC,gC,gB,oa⟩:=info_parts MG;go_enter Tryz.func183,Tryz.ntmps183;go_wp2_with fail;go_loopw [3] (fun k wr=>k= .int .i64 0∧Below w.heap.size w wr) (fun _ _=>0)
 case atStart=>exact⟨rfl,aq _ _⟩
 case round=>
  obtain⟨rfl,hb0⟩:=hrel;go_wp2_with (refine wpList_make_full _ rfl _ _ 194 rfl wr.heap.size 401 i1 (.slice none 0 0) 1 Tryz.underlying194 kC gC gB .i64 .i64 _ _ 0 rfl rfl rfl rfl ag aM (aL _) ?_;intro w5 bT cJ;have jk:=aa cJ;clear bT cJ);exact qf
theorem Dd: (af.info? 405).map (fun i=>(i.zero,i.size,i.bytes))=some (some (.slice none 0 0),1,24):=aW
theorem ye(w:World): Calls af 184 #[.slice none 0 0] w fun e w'=>e= .returned (.bool true)∧Below w.heap.size w w':=by
 obtain⟨i1,kC,gC,gB,oa⟩:=info_parts Dd;go_enter Tryz.func184,Tryz.ntmps184;go_wp2_with fail;go_loopw [3] (fun k wr=>k= .int .i64 0∧Below w.heap.size w wr) (fun _ _=>0)
 case atStart=>exact⟨rfl,aq _ _⟩
 case round=>
  obtain⟨rfl,hb0⟩:=hrel;go_wp2_with (refine wpList_make_full _ rfl _ _ 195 rfl wr.heap.size 405 i1 (.slice none 0 0) 1 Tryz.underlying195 kC gC gB .i64 .i64 _ _ 0 rfl rfl rfl rfl ag aM (aL _) ?_;intro w5 bT cJ;have jk:=aa cJ;clear bT cJ);exact qf
end Fl
end
section
namespace tS
theorem agH(n:Int)(w:World):
  Calls af 110 #[.int .i64 n] w fun e w'=>e= .returned (.bool (Pb n))∧w=w':=by
 go_enter Tryz.func110,Tryz.ntmps110;go_wp2;go_loop [3] (fun v=>∃ k:Int,v= .int .i64 k∧(k=64∨k=128∨k=256∨k=512∨k=1024∨k=2048∨k=4096∨k=8192)∧(Pb n=true→k≤n)) (fun v=>(8192 - intOf v).toNat)
 case atStart=>exact⟨64,rfl,ag,fun h=>by have:=vM.1 h;omega⟩
 case round=>
  obtain⟨k,rfl,hk,hz⟩:=hrel;have hzz:Pb n=true→n=64∨n=128∨n=256∨n=512∨n=1024∨n=2048∨n=4096:=vM.1;have hzk:n=k→k≤4096→Pb n=true:=fun h h'=>vM.2 ag
  have HZ:=aa hz;have HZZ:=aa hzz;have HZK:=aa hzk;clear hz hzz hzk;by_cases h1:k≤4096
  ·by_cases h2:n=k
   ·have h3:=aa (HZK.o h2 h1);have h4:(n==k)=true:=by simpa using h2
    have h5:=aa h2;clear h2;go_wp2;go_ret;exact⟨kF h3.o.symm,rfl⟩
   have h4:(n==k)=false:=by simpa using h2
   go_wp2;go_round
   case rel=>
    refine⟨2*k,rfl,ag,fun h=>?_⟩;have:=HZ.o h;have:=HZZ.o h;omega
   case measure=>simp[intOf];omega
  have hf:Pb n=false:=by
   rw[Bool.eq_false_iff];intro h;have:=HZ.o h;have:=HZZ.o h;omega
  have HF:=aa hf;clear hf;go_wp2;go_ret;exact⟨kF HF.o.symm,rfl⟩
theorem hold(n m:Int)(w:World)(h1:0≤n)(h2:n≤20000)(h3:1≤m)(h4:m≤4096):
  Calls af 112 #[.int .i64 n,.int .i64 m] w fun e w'=>e= .returned (.int .i64 (up n m))∧w=w':=by
 have hu:=TS h1 h3;have hp:0≤up n m:=by unfold up;exact Int.ediv_nonneg ag ag
 have HL:=aa (fun k:Int=>@WA k n m h3);go_enter Tryz.func112,Tryz.ntmps112;go_wp2;go_loop [5] (fun v=>∃ k:Int,v= .int .i64 k∧0≤k∧k≤up n m) (fun v=>(up n m - intOf v).toNat)
 case atStart=>exact⟨0,rfl,ag,hp⟩
 case round=>
  obtain⟨k,rfl,hk,hz⟩:=hrel;have M1:0≤k*m:=zP ag ag;have hkM:k*m≤20000*4096:=Int.mul_le_mul ag h4 ag ag;by_cases h:k<up n m
  ·have hl:k*m<n:=(HL.o k).1 h;go_wp2;go_round
   case rel=>exact⟨k+1,rfl,ag,ag⟩
   case measure=>simp[intOf];omega
  have hl: ¬k*m<n:=fun hh=>h ((HL.o k).2 hh)
  go_wp2;go_ret;exact⟨aaq ag,rfl⟩
theorem EC(a b c:Int)(w:World)(h:CF a b c=true):
  Calls af 90 #[.agg #[.int .i64 a,.int .i64 b,.int .i64 c]] w fun e w'=>e= .returned (.int .i64 0)∧Below w.heap.size w w':=by
 obtain⟨h1,h2,h3,h4,h5,h6⟩:=lL h;clear h;go_enter Tryz.func90,Tryz.ntmps90;go_wp2;go_ret;exact⟨rfl,(aq _ _).alloc (aL _) _⟩
theorem Yb(a b c:Int)(w:World)(h:CF a b c=false):
  Calls af 90 #[.agg #[.int .i64 a,.int .i64 b,.int .i64 c]] w fun e w'=>e= .returned (.int .i64 90)∧Below w.heap.size w w':=by
 have HH:=aa (VG h);clear h;go_enter Tryz.func90,Tryz.ntmps90;go_wp2;all_goals first
  | (go_ret;exact⟨rfl,(aq _ _).alloc (aL _) _⟩)
  | (exfalso;have:=HH.o;(try simp at *);omega)
theorem nB(a b c:Int)(w:World)(h:CF a b c=true):
  Calls af 109 #[.agg #[.int .i64 a,.int .i64 b,.int .i64 c]] w fun e w'=>e= .returned (.int .i64 0)∧Below w.heap.size w w':=by
 obtain⟨h1,h2,h3,h4,h5,h6⟩:=lL h;clear h;go_enter Tryz.func109,Tryz.ntmps109;go_wp2;go_ret;exact⟨rfl,(aq _ _).alloc (aL _) _⟩
theorem Mw(a b c:Int)(w:World)(h:CF a b c=true):
  Calls af 223 #[.agg #[.int .i64 a,.int .i64 b,.int .i64 c]] w fun e w'=>e= .returned (.tuple #[.int .i64 (image a b),.int .i64 0])∧Below w.heap.size w w':=by
 have H:=aa h;clear h;obtain⟨h1,h2,h3,h4,h5,h6⟩:=lL H.o;go_enter Tryz.func223,Tryz.ntmps223;go_wp2_with fail;refine(nB a b c _ H.o).mono ?_;rintro e w1 ⟨rfl,hb⟩;obtain⟨hc,hf⟩:=B0 hb;go_wp2_with fail;go_loop [4] (fun v=>∃ k:Int,v= .int .i64 k∧0≤k∧k≤a∧k≤b) (fun v=>(1024 - intOf v).toNat)
 case atStart=>exact⟨0,rfl,ag,ag,ag⟩
 case round=>
  obtain⟨k,rfl,hk,hka,hkb⟩:=hrel;by_cases g1:k<a
  ·by_cases g2:k<b
   ·go_wp2;go_round
    case rel=>exact⟨k+1,rfl,ag,ag,ag⟩
    case measure=>simp[intOf];omega
   exact ada
  exact ada
end tS
end
section
namespace tS
theorem yz(a b c m:Int)(w:World)(h:CF a b c=true)(h':Pb m=true):
  Calls af 111 #[.agg #[.int .i64 a,.int .i64 b,.int .i64 c],.int .i64 m] w fun e w'=>e= .returned (.int .i64 (slot a b m))∧Below w.heap.size w w':=by
 have H:=aa h;obtain⟨h1,h2,h3,h4,h5,h6,h7,h8,h9,h10,h11,h12,h13,h14⟩:=aaA h h';clear h h';have h15:0≤up (image a b) m:=by unfold slot at h11;omega
 have h16:up (image a b) m≤20000:=by unfold slot at h12;omega
 go_enter Tryz.func111,Tryz.ntmps111;go_wp2_with fail;refine(Mw a b c _ H.o).mono ?_;rintro e w1 ⟨rfl,hb⟩;go_wp2_with fail;refine(hold (image a b) m _ ag ag ag h8).mono ?_;rintro e w2 ⟨rfl,rfl⟩;go_wp2_with fail;go_ret;exact⟨rfl,((aq _ _).alloc (aL _) _).trans (hb.mono dA)⟩
theorem xF(a b c m:Int)(w:World)(h:CF a b c=true)(h':Pb m=true):
  Calls af 43 #[.agg #[.int .i64 a,.int .i64 b,.int .i64 c],.int .i64 m] w fun e w'=>e= .returned (.tuple #[.int .i64 (Rk a b m),.int .i64 0])∧Below w.heap.size w w':=by
 have H:=aa h;have H':=aa h';obtain⟨h1,h2,h3,h4,h5,h6,h7,h8,h9,h10,h11,h12,h13,h14⟩:=aaA h h';clear h h';go_enter Tryz.func43,Tryz.ntmps43;go_wp2_with fail;refine(nB a b c _ H.o).mono ?_;rintro e w1 ⟨rfl,hb⟩;obtain⟨hc,hf⟩:=B0 hb;go_wp2_with fail;refine(agH m _).mono ?_;rintro e w2 ⟨rfl,rfl⟩;rw[H'.o];go_wp2_with fail;refine(yz a b c m _ H.o H'.o).mono ?_;rintro e w2 ⟨rfl,hb2⟩;go_wp2_with fail;refine(hold 54 m _ ag ag ag h8).mono ?_;rintro e w3 ⟨rfl,rfl⟩;go_wp2_with fail;go_ret2;exact⟨rfl,(((aq _ _).alloc (aL _) _).trans (hb.mono dA)).trans (hb2.mono (by have:=hb.size;simp at this;omega))⟩
theorem akW(n m:Int)(w:World):
  Calls af 113 #[.int .i64 n,.int .i64 m] w fun e w'=>e= .returned (.bool (okD n m))∧w=w':=by
 by_cases h1:1≤n
 ·by_cases h2:n≤65536
  ·cases h3:Pb m with
   | true=>
    have h4:=vM.1 h3;have h5:m≤4096:=ag;have h6:64≤m:=ag;clear h4;have H3:=aa h3;clear h3;have h7:n*m≤65536*4096:=Int.mul_le_mul h2 h5 ag ag;have h8:0≤n*m:=zP ag ag;go_enter Tryz.func113,Tryz.ntmps113;go_wp2_with fail;refine(agH m _).mono ?_;rintro e w2 ⟨rfl,rfl⟩;rw[H3.o];go_wp2_with fail;go_ret;exact⟨kF (by simp[okD,H3.o,h1,h2]),rfl⟩
   | false=>
    have H3:=aa h3;clear h3;go_enter Tryz.func113,Tryz.ntmps113;go_wp2_with fail;refine(agH m _).mono ?_;rintro e w2 ⟨rfl,rfl⟩;rw[H3.o];go_wp2_with fail;go_ret;exact⟨kF (by simp[okD,H3.o]),rfl⟩
  go_enter Tryz.func113,Tryz.ntmps113;go_wp2_with fail;go_ret;exact⟨kF (by simp[okD];omega),rfl⟩
 ·go_enter Tryz.func113,Tryz.ntmps113;go_wp2_with fail;go_ret;exact⟨kF (by simp[okD];omega),rfl⟩
theorem Pc{n m:Int}(h:okD n m=true): 1≤n∧n≤65536∧Pb m=true∧n*m≤67108864:=by simpa[okD] using h
theorem acJ(n m a b c:Int)(w:World)(h:CF a b c=true)(h':okD n m=true)(h'':n<Rk a b m):
  Calls af 44 #[.int .i64 n,.int .i64 m,.agg #[.int .i64 a,.int .i64 b,.int .i64 c]] w fun e w'=>e= .returned (.tuple #[.agg #[.int .i64 0,.int .i64 0,.int .i64 0,.int .i64 0,.int .i64 0,.int .i64 0,.int .i64 0],.int .i64 91])∧Below w.heap.size w w':=by
 have hd:=Pc h';obtain⟨d1,d2,d3,d4⟩:=hd;have H3:=aa d3;obtain⟨h1,h2,h3,h4,h5,h6,h7,h8,h9,h10,h11,h12,h13,h14⟩:=aaA h d3;have hm0:0≤n*m:=zP ag ag;have H:=aa h;clear h;have H':=aa h';clear h' d3;go_enter Tryz.func44,Tryz.ntmps44;go_wp2_with fail;refine(nB a b c _ H.o).mono ?_;rintro e w1 ⟨rfl,hb⟩;obtain⟨hc,hf⟩:=B0 hb;have hz:=hb.size;simp at hz;have hl0:w.heap.size<w1.heap.size:=ag;have tr:w.heap.size+1<w1.heap.size:=ag;go_wp2_with fail;refine(akW n m _).mono ?_;rintro e w2 ⟨rfl,rfl⟩;rw[H'.o];go_wp2_with fail;refine(xF a b c m _ H.o H3.o).mono ?_;rintro e w2 ⟨rfl,hb2⟩;obtain⟨hc2,hf2⟩:=B0 hb2;have hz2:=hb2.size;have aaU:w.heap.size<w2.heap.size:=ag;have afJ:w.heap.size+1<w2.heap.size:=ag;go_wp2_with fail;refine bodyPost_ret (v:=.tuple #[.agg #[.int .i64 0,.int .i64 0,.int .i64 0,.int .i64 0,.int .i64 0,.int .i64 0,.int .i64 0],.int .i64 91]) (by simp[results,Tryz.results44,go_sem,hc,hl0,tr,hc2,aaU,afJ]) rfl ⟨rfl,?_⟩;iterate 7 refine Below.setCell ?_ dA _
 exact((((aq _ _).alloc (aL _) _).alloc dA _).trans (hb.mono fH)).trans (hb2.mono ag)
theorem Vq(n m a b c:Int)(w:World)(h:CF a b c=true)(h':okD n m=true)(h'':Rk a b m≤n):
  Calls af 44 #[.int .i64 n,.int .i64 m,.agg #[.int .i64 a,.int .i64 b,.int .i64 c]] w fun e w'=>e= .returned (.tuple #[.agg #[.int .i64 m,.int .i64 0,.int .i64 (slot a b m),.int .i64 (slot a b m),.int .i64 (slot a b m),.int .i64 (2*slot a b m),.int .i64 (n - 2*slot a b m)],.int .i64 0])∧Below w.heap.size w w':=by
 have hd:=Pc h';obtain⟨d1,d2,d3,d4⟩:=hd;have H3:=aa d3;obtain⟨h1,h2,h3,h4,h5,h6,h7,h8,h9,h10,h11,h12,h13,h14⟩:=aaA h d3;have hm0:0≤n*m:=zP ag ag;have H:=aa h;clear h;have H':=aa h';clear h' d3;go_enter Tryz.func44,Tryz.ntmps44;go_wp2_with fail;refine(nB a b c _ H.o).mono ?_;rintro e w1 ⟨rfl,hb⟩;obtain⟨hc,hf⟩:=B0 hb;have hz:=hb.size;simp at hz;have hl0:w.heap.size<w1.heap.size:=ag;have tr:w.heap.size+1<w1.heap.size:=ag;go_wp2_with fail;refine(akW n m _).mono ?_;rintro e w2 ⟨rfl,rfl⟩;rw[H'.o];go_wp2_with fail;refine(xF a b c m _ H.o H3.o).mono ?_;rintro e w2 ⟨rfl,hb2⟩;obtain⟨hc2,hf2⟩:=B0 hb2;have hz2:=hb2.size;have aaU:w.heap.size<w2.heap.size:=ag;have afJ:w.heap.size+1<w2.heap.size:=ag;go_wp2_with fail;refine(yz a b c m _ H.o H3.o).mono ?_;rintro e w3 ⟨rfl,hb3⟩;obtain⟨hc3,hf3⟩:=B0 hb3;have hz3:=hb3.size;have alW:w.heap.size<w3.heap.size:=ag;have alV:w.heap.size+1<w3.heap.size:=ag;go_wp2_with fail;refine bodyPost_ret (v:=.tuple #[.agg #[.int .i64 m,.int .i64 0,.int .i64 (slot a b m),.int .i64 (slot a b m),.int .i64 (slot a b m),.int .i64 (2*slot a b m),.int .i64 (n - 2*slot a b m)],.int .i64 0]) (by simp[results,Tryz.results44,go_sem,hc,hl0,tr,hc2,aaU,afJ,hc3,alW,alV]) rfl ⟨rfl,?_⟩;iterate 7 refine Below.setCell ?_ dA _
 exact(((((aq _ _).alloc (aL _) _).alloc dA _).trans (hb.mono fH)).trans (hb2.mono ag)).trans (hb3.mono ag)
