import Derived.Test.YtemighjbfanenaaGreatDoorQk6
import Derived.WalkArith
import Derived.WideKeyEntry
set_option linter.all false
set_option maxRecDepth 100000
set_option maxHeartbeats 16000000
namespace Go.Proofs.YtemighjbfanenaaGreatDoor
open RowKit
open Oc (Bs gl fG aO qV eT cM)
open Go.MapKept (Stamped)
open Bool renaming or_eq_false_iff→ym
open Go.ChangeMaps renaming setBlock→gy
open Go.Instr renaming mapEntry→zQ,entryStore→tG,mapUpdate→G0
open Go.MapKept renaming run_setObj_map→tE,run_getObj_map→tF
open Go.Oper renaming wp→iG
open Go.Proofs.Tryz renaming prog→af,underlying3→fx,underlying329→GW
open Go.Result renaming andThen_ok→GU,andThen→iY
open Go.Sem renaming run_pure→GY,run_bind→GV
open Go.Value renaming ownBlock→gU
open Go.WalkArith renaming wf_i64→GR
open Go.WideElems renaming findIdx_arr→PR,findIdx_born→PS
open Go.World renaming block_lt_of_cell?→bE,setRow→GS,cell?_of_block→eQ,size_setCell→G2
open List renaming getD_eq_getElem?_getD→bR,length_take→gT,getElem?_eq_getElem→bY,getElem?_append_left→qN,getElem_mem→wB,getElem?_eq_some_iff→iX,getElem?_append_right→qO
open Nat renaming not_lt_zero→gw,lt_of_lt_of_le→aU,le_refl→aY,min_eq_left→qL
open RowKit.Below renaming heap_setCell→dJ,refl→ar
open _root_.Array renaming ext'→GX,toList_push→G1,toList_modify→PT,getElem?_toList→dK
theorem agB{p:Prop}(h:p:=by
 go_simp;go_wp2_with fail;refine bW hK (by exact HS3.o) fun hHb=>?_
 clear hK K;refine cJ 12 fun K hK=>?_
 refine fu _ (.tmp 35) (.tmp 37) 328 rfl 338 i0 (.agg #[.int .i64 0,.slice none 0 0]) 2 32 Tryz.underlying328 CB hz0 hz1 hz2 rfl aM q.rv d.row.length (CQ d q) rfl iu.o ⟨w2.heap.size,0,none⟩ 1 [.int .i64 i,.slice (some ⟨gb,0,none⟩) b.length cb] rfl rfl (iQ w2.drew _ _) adS jR ai ?_;intro ga ca w4 hr4 hg4;have hk4: ∀ k,k<w2.heap.size→q.rv.ownBlock≠some k→w4.heap[k]? =w2.heap[k]?:=fun k hk hne=>(hg4.block k (aU hk yf.o.size) (fun e=>hne e.symm)).trans (yf.o.block k hk)
 have ue:aG w4 p 331 #[.int .i64 d.size,.slice (some ⟨q.gd,0,none⟩) d.dh.length q.cd,q.rv,.map (some q.mb)]:=(hk4 p oo.o.own.lt (fun e=>oo.o.row.rY e oo.o.own (fun c e=>yr) rfl)).trans oo.o.own;have hv4:aG w4 vb 338 #[.int .i64 i,.slice (some ⟨gb,0,none⟩) b.length cb]:=(hk4 vb S8 (fun e=>adX)).trans jB.o;have xO:fB af 3 .i64 w4 q.mb q.mn (od d q):=oo.o.newest.same (hk4 q.mb oo.o.newest.lt (fun e=>aef));have Jq:w4.cell? ⟨p,3,none⟩=some (.map (some q.mb))∧w4.cell? ⟨vb,0,none⟩=some (.int .i64 i)∧w4.cell? ⟨vb,1,none⟩=some (.slice (some ⟨gb,0,none⟩) b.length cb):=⟨ue.cell 3,hv4.cell 0,hv4.cell 1⟩;have z5:w4.cell? ⟨p,2,none⟩=some q.rv:=ue.cell 2;have m5:=ue.mark 2;have hpv:p≠vb:=fun e=>by have:=i'.o p oo.o.bB.1;have:=HGW.o;omega
 have G':aG (w4.setCell ⟨p,2,none⟩ (.slice (some ⟨ga,0,none⟩) (d.row.length+1) ca)) p 331 #[.int .i64 d.size,.slice (some ⟨q.gd,0,none⟩) d.dh.length q.cd,.slice (some ⟨ga,0,none⟩) (d.row.length+1) ca,.map (some q.mb)]:=ad8;have OB:=hv4.other (p:=⟨p,2,none⟩) (fun e=>hpv e.symm) (.slice (some ⟨ga,0,none⟩) (d.row.length+1) ca);have hS5:(w4.setCell ⟨p,2,none⟩ (.slice (some ⟨ga,0,none⟩) (d.row.length+1) ca)).cell? ⟨p,3,none⟩=some (.map (some q.mb))∧(w4.setCell ⟨p,2,none⟩ (.slice (some ⟨ga,0,none⟩) (d.row.length+1) ca)).cell? ⟨vb,0,none⟩=some (.int .i64 i)∧(w4.setCell ⟨p,2,none⟩ (.slice (some ⟨ga,0,none⟩) (d.row.length+1) ca)).cell? ⟨vb,1,none⟩=some (.slice (some ⟨gb,0,none⟩) b.length cb):=⟨G'.cell 3,OB.cell 0,OB.cell 1⟩;have hmp:q.mb≠p:=fun e=>xO.mE ue e.symm
 have rJ:=xO.same (w':=w4.setCell ⟨p,2,none⟩ (.slice (some ⟨ga,0,none⟩) (d.row.length+1) ca)) (dJ w4 ⟨p,2,none⟩ _ q.mb hmp);have Z':p≠ga:=hr4.rY rfl ue (fun c e=>yr);have sk:=hr4.put (q:=⟨p,2,none⟩) (fun g e=>(show ga=g from K5)▸Z') (.slice (some ⟨ga,0,none⟩) (d.row.length+1) ca);have agP:=hg4.size;have qG:=aa sk;have uV:=aa hg4;have HK4:=aa hk4;have De:=aa G';have HV5:=aa OB;have F9:=aa rJ;have X4:=aa hS5;have F8:=aa hmp;have HZ4:=aa agP;clear hr4 hg4 hk4 ue hv4 xO G' OB hS5 hmp rJ sk Z' hpv agP;refine bW hK (by exact Jq) fun amI=>?_
 clear hK K;refine tJ 15 16 ?_;refine cJ 17 fun K hK=>?_
 go_simp;go_wp2_with fail;refine bW hK (by exact X4.o) fun amG=>?_
 clear hK K;refine cJ 18 fun K hK=>?_
 obtain⟨v0,st,w6,acQ,kr,hz6,hst⟩:=F9.o.entry fx GW (fun u=>AR u) (show q.mn<maxLen by have:=oo.o.few;unfold maxLen;omega) (i:=(i:Int)) HWF.o;have hS6:w6.cell? ⟨p,3,none⟩=some (.map (some q.mb))∧w6.cell? ⟨vb,0,none⟩=some (.int .i64 i)∧w6.cell? ⟨vb,1,none⟩=some (.slice (some ⟨gb,0,none⟩) b.length cb):=by
  have zw:=De.o.bz kr (fun e=>Dp);have hv6:=HV5.o.bz kr (fun e=>SV);exact⟨zw.cell 3,hv6.cell 0,hv6.cell 1⟩
 have J9:=aa kr;have HZ6:=aa hz6;have HST:=aa hst;clear kr hz6 hst;refine Hw (.tmp 30) (.tmp 31) 329 rfl rfl rfl acQ ?_;clear acQ;refine bW hK (by exact hS6) fun amF=>?_
 clear hK K;refine ty 19 ?_;refine cJ 20 fun K hK=>?_
 obtain⟨w7,acP,hm7,Je,hz7⟩:=HST.o w6 (.slice (some ⟨gb,0,none⟩) b.length cb) rfl;have hS7:w7.cell? ⟨p,3,none⟩=some (.map (some q.mb))∧w7.cell? ⟨vb,0,none⟩=some (.int .i64 i)∧w7.cell? ⟨vb,1,none⟩=some (.slice (some ⟨gb,0,none⟩) b.length cb):=by
  have hp7:=(De.o.bz J9.o (fun e=>Dp)).bz Je (fun e=>Dp);have hv7:=(HV5.o.bz J9.o (fun e=>SV)).bz Je (fun e=>SV);exact⟨hp7.cell 3,hv7.cell 0,hv7.cell 1⟩
 have HM7:=aa hm7;have HG7:=aa Je;have HZ7:=aa hz7;clear hm7 Je hz7;refine CJ (.tmp 30) (.tmp 44) (.tmp 40) 329 rfl rfl rfl rfl acP ?_;clear acP;refine bW hK (by exact hS7) fun amE=>?_
 clear hK K;refine bM ?_;go_wp2_with fail;go_ret;have hT:aI S w w7:=((((((aI.aW afQ.o).ak yf.o).grown uV.o (fun k e=>.inl (oo.o.row.block k e))).put (p:=⟨p,2,none⟩) (.inl oo.o.bB.1) _).grown J9.o (fun k e=>.inl TW)).grown HG7.o (fun k e=>.inl TW));have hz7:vb+2≤w7.heap.size:=by
  have a1:=HZ7.o;have a2:=HZ6.o;have a3:=uV.o.size;have a4:=yN.o;simp at a2 a3;omega
 have hgv:=HGV.o;have hgw:=HGW.o;have akz:=Sd.o;have Wp: ∀ k,S k→k<w.heap.size:=i'.o;have hk7: ∀ k,k<w2.heap.size→k≠p→k≠q.mb→q.rv.ownBlock≠some k→w7.heap[k]? =w2.heap[k]?:=fun k hk h1 h2 h3=>by
  have z4:=uV.o.size;have z6:=HZ6.o;have hv:=yN.o;simp at z4 z6;have k4:=HK4.o k hk h3;have k5:=dJ w4 ⟨p,2,none⟩ (.slice (some ⟨ga,0,none⟩) (d.row.length+1) ca) k h1;have k6:=J9.o.block k (by rw[G2];omega) (fun e=>Tv);have k7:=HG7.o.block k ai (fun e=>Tv);exact k7.trans (k6.trans (k5.trans k4))
 have Kq:q.mb≠ga:=aed;have hz6:=HZ6.o;have akA:=(eP qG.o.own (g:=ga) rfl).1;have hr7:=qG.o.Ou (w':=w7) ((HG7.o.block ga ai (fun e=>TH)).trans (J9.o.block ga akA (fun e=>TH)));have hp7:=(De.o.bz J9.o (fun e=>Dp)).bz HG7.o (fun e=>Dp);have hm7:=HM7.o;have hcb:=HCB.o;have OE:=HLB.o;rw[OE] at hm7 hcb hr7;refine⟨rfl,oo.o.write hi OE hcb ?_ (fun hs=>by have:=Wp gb hs;omega) (.inr ⟨akz,ai⟩) (fun k hs=>hk7 k (oo.o.lt k hs)) hp7 (hr7.mono fun k hk hk3=>?_) hm7 (fun k hk=>.inl hk) (fun k hk=>?_),hT⟩
 ·refine alA.o.same (hk7 gb S8 (fun e=>?_) (fun e=>?_) (fun e=>?_))
  ·have:=Wp p oo.o.bB.1;omega
  ·have:=Wp q.mb oo.o.bB.2.1;omega
  have:=Wp gb (oo.o.row.block gb e);omega
 ·rcases hk with hk|hk
  ·exact .inl hk
  refine .inr ⟨?_,hk3⟩;rw[hk];have:=yN.o;simp;omega
 rcases hk with hk|hk
 ·have:=Wp k hk;omega
 exact hk.2):p:=h
theorem acz{p:Prop}(h:p:=by
 go_enter Tryz.func360,Tryz.ntmps360;go_wp2_with fail;refine ag HN.o ?_;go_wp2_with (refine yR rfl (.tmp 19) (.tmp 20) 329 rfl 3 34 .i64 fx GW (.slice none 0 0) (AR w) q.mb q.mn (od d q) rfl HM.o (i:Int) rfl HW.o ?_;rw[HV.o]);refine HC.o.mono ?_;rintro e w1 ⟨A,c,he,h1,h2,_,_,h3⟩;rw[HL.o] at he;subst he;have hf:RdD (d.look i) 0 w (.returned (.tuple #[.slice A d.size c,.int .i64 0])) w1:=⟨A,c,by rw[HL.o],h1,h2,h3⟩;have HF:=aa hf;clear h1 h2 h3 hf HC;go_wp2_with fail;go_ret2;exact HF.o):p:=h
theorem abX{p:Prop}(h:p:=by
 clear h hb;go_enter Tryz.func122,Tryz.ntmps122;go_wp2_with fail;refine ag HN.o ?_;go_wp2_with fail;go_ret;exact⟨rfl,rfl⟩):p:=h
theorem yr{p:Prop}(h:p:=by injection e with _ e2;revert e2;decide):p:=h
theorem Dp{p:Prop}(h:p:=by injection e with e;exact F8.o e):p:=h
theorem SV{p:Prop}(h:p:=by injection e with e;exact F9.o.mE HV5.o e.symm):p:=h
theorem aef{p:Prop}(h:p:=by obtain⟨es,c,hb⟩:=oo.o.newest.obj;exact oo.o.row.rY e hb (fun c e=>by injection e) rfl):p:=h
theorem rR{p:Prop}(h:p:=by rw[Po.o];exact ajy.o):p:=h
theorem TW{p:Prop}(h:p:=by injection e with e;exact e▸oo.o.bB.2.1):p:=h
theorem aed{p:Prop}(h:p:=by obtain⟨es,cc,hb⟩:=F9.o.obj;exact qG.o.rY rfl hb (fun c e=>by injection e)):p:=h
theorem TH{p:Prop}(h:p:=by injection e with e;exact Kq e.symm):p:=h
theorem ad8{p:Prop}(h:p:=by simpa using ue.put 2 (.slice (some ⟨ga,0,none⟩) (d.row.length+1) ca)):p:=h
theorem Tv{p:Prop}(h:p:=by injection e with e;exact h2 e):p:=h
theorem adX{p:Prop}(h:p:=by have:=i'.o vb (oo.o.row.block vb e);have:=HGW.o;omega):p:=h
theorem adS{p:Prop}(h:p:=by intro u hu;simp at hu;rcases hu with rfl|rfl <;>rfl):p:=h
theorem S8{p:Prop}(h:p:=by have:=yN.o;omega):p:=h
theorem K5{p:Prop}(h:p:=by simpa[gU] using e):p:=h
section
namespace En
def RdD(bs:By)(er:Int)(w:World)(e:Ending)(w':World): Prop:=
 ∃ A c,e= .returned (.tuple #[.slice A bs.length c,.int .i64 er])∧(bs≠ []→∃ g,A=some ⟨g,0,none⟩∧w.heap.size≤g∧jO w' 5 g bs)∧bs.length≤c∧Below w.heap.size w w'
theorem ma: ∀ {l:List (Nat × By)} {i j:Nat},fJ l i=some j→j<l.length∧gN l i=some (l.getD j (0,[])).2
 | [],_,_,h=>by simp[fJ] at h
 | x::r,i,j,h=>by
  rw[fJ] at h;rw[gN];cases hr:fJ r i with
  | some k=>
   rw[hr] at h;injection h with h
   subst h;obtain⟨h1,h2⟩:=ma hr;rw[h2];exact⟨fZ,dM⟩
  | none=>
   rw[hr] at h;have h2:gN r i=none:=r9 hr;rw[h2];simp only at h;split at h
   ·injection h with h;subst h
    rename_i hx;exact⟨dM,by simp[hx]⟩
   cases h
where
 r9: ∀ {l:List (Nat × By)} {i:Nat},fJ l i=none→gN l i=none
 | [],_,_=>rfl
 | x::r,i,h=>by
  rw[fJ] at h;rw[gN];cases hr:fJ r i with
  | some k=>rw[hr] at h;cases h
  | none=>
   rw[hr] at h;rw[r9 hr];simp only at h ⊢;split at h
   ·cases h
   rename_i hx;simp[hx]
variable{i p:Nat}{S:Nat→Prop}{w:World}
theorem DF{l:List (Nat × By)}(h:fJ l i=none): gN l i=none:=ma.r9 h
theorem vL{d:Dk}(h:d.Ok)(hi:i<d.dh.length): (d.look i).length=d.size:=by
 unfold Dk.look;cases hr:fJ d.row i with
 | some j=>
  obtain⟨h1,h2⟩:=ma hr;rw[h2];exact(h.aD (d.row.getD j (0,[])) (by rw[bR,bY h1];exact wB h1)).2
 | none=>
  rw[DF hr];exact h.each (d.dh.getD i []) (by rw[bR,bY hi];exact wB hi)
theorem AR(w:World): (zeroValue 34).run af w= .ok (.slice none 0 0) w:=bh
theorem Xx{d:Dk}{q:Dg}(h:eJ S w p d q)(at_:Int)(hb:d.bad at_=true): Calls af 360 #[.pointer (some ⟨p,0,none⟩),.int .i64 at_] w (RdD [] 50 w):=by
 have HN:=aa (IF h at_ hb);clear h hb;go_enter Tryz.func360,Tryz.ntmps360;go_wp2_with fail;refine ag HN.o ?_;go_wp2_with fail;go_ret2;exact⟨none,0,rfl,fun h=>absurd rfl h,aY _,ar _ _⟩
theorem Xw{d:Dk}{q:Dg}(h:eJ S w p d q)(i j:Nat)(hi:i<d.dh.length)(hj:fJ d.row i=some j): Calls af 360 #[.pointer (some ⟨p,0,none⟩),.int .i64 i] w (RdD (d.look i) 0 w):=by
 have hb:d.bad i=false:=by simp[Dk.bad];omega
 have HN:=aa (zn h i hb);have x3:w.cell? ⟨p,3,none⟩=some (.map (some q.mb)):=h.own.cell 3;have hv:od d q i=some (.slice (some ⟨q.wg j,0,none⟩) d.size (q.wc j)):=by simp[od,hj]
 obtain⟨V3,hlk⟩:=ma hj;have Jc:d.look i=(d.row.getD j (0,[])).2:=by unfold Dk.look;rw[hlk];rfl
 have C7:=vL h.ok hi;have hC:=Oc.yl (d.look i) (some ⟨q.wg j,0,none⟩) (q.wc j) w (by rw[Jc];exact(h.aD j V3).1.bs) (cM _ _) (by rw[C7];have:=h.ok.size;omega);rw[C7] at hC;have HC:=aa hC;have HM:=aa h.newest;have HV:=aa hv;have HL:=aa C7;have CB:(i:Int)<9223372036854775808:=by have:=h.ok.some;omega
 have yY:(Lit.int .i64 (i:Int)).wf=true:=GR ⟨ai,ai⟩;have HW:=aa yY;clear h hb hv hC C7 Jc hlk V3 yY;exact acz
theorem Dy{e:TypeId}{n g cap:Nat}{c:Nat→List Value}(h:aP S w e 1 (.slice (some ⟨g,0,none⟩) n cap) n c)(hc: ∀ i,(c i).length=1)(hi:i<n){v:Value}(hv:c i= [v]): w.cell? ⟨g,i,none⟩=some v:=by
 have:=h.range hc hi 0 v (by rw[hv];rfl);simpa using this
theorem Xv{d:Dk}{q:Dg}(h:eJ S w p d q)(i:Nat)(hi:i<d.dh.length)(hj:fJ d.row i=none): Calls af 360 #[.pointer (some ⟨p,0,none⟩),.int .i64 i] w (RdD (d.look i) 0 w):=by
 have hb:d.bad i=false:=by simp[Dk.bad];omega
 have HN:=aa (zn h i hb);have x3:w.cell? ⟨p,3,none⟩=some (.map (some q.mb)):=h.own.cell 3;have x1:w.cell? ⟨p,1,none⟩=some (.slice (some ⟨q.gd,0,none⟩) d.dh.length q.cd):=h.own.cell 1;have y0:w.cell? ⟨q.gd,i,none⟩=some (.slice (some ⟨q.ad i,0,none⟩) d.size (q.cp i)):=Dy h.dh (fun _=>rfl) hi rfl;have hv:od d q i=none:=by simp[od,hj]
 have Jc:d.look i=d.dh.getD i []:=by unfold Dk.look;rw[DF hj];rfl
 have C7:=vL h.ok hi;have hC:=Oc.yl (d.look i) (some ⟨q.ad i,0,none⟩) (q.cp i) w (by rw[Jc];exact(h.each i hi).1.bs) (cM _ _) (by rw[C7];have:=h.ok.size;omega);rw[C7] at hC;have HC:=aa hC;have HM:=aa h.newest;have HV:=aa hv;have HL:=aa C7;have CB:(i:Int)<(d.dh.length:Int):=ai;have Md:(0:Int)≤(i:Int):=ai;have yY:(Lit.int .i64 (i:Int)).wf=true:=GR ⟨ai,by have:=h.ok.some;omega⟩;have HW:=aa yY;clear h hb hv hC C7 Jc yY;exact acz
theorem aaU{d:Dk}(h:uW p d S w)(at_:Int): Calls af 360 #[.pointer (some ⟨p,0,none⟩),.int .i64 at_] w (RdD (d.read at_).2 (d.read at_).1 w):=by
 obtain⟨q,h⟩:=h;cases hb:d.bad at_ with
 | true=>rw[Dk.read,if_pos hb];exact Xx h at_ hb
 | false=>
  rw[Dk.read,if_neg (by rw[hb];simp)];obtain⟨i,rfl⟩: ∃ i:Nat,at_=i:=⟨at_.toNat,Dq⟩;have hi:i<d.dh.length:=Dq;cases hj:fJ d.row i with
  | some j=>exact Xw h i j hi hj
  | none=>exact Xv h i hi hj
end En
end
section
open Go.RowKit Go.Maps
variable{P:Program}{w:World}
theorem o7(w:World){b:Nat}{es:Array MapEntry}{c:Nat}{o':Obj}(h:w.heap[b]? =some (.map es c)): (gy w b o').heap[b]? =some o':=ChangeMaps.heap_setBlock_same h o'
theorem fB.entry{k e t:TypeId}{q:IntKind}{b n:Nat}{φ:Int→Option Value}(h:fB P k q w b n φ)(hk:P.underlying k=some (.int q))(ht:P.underlying t=some (.map k e)){z:Value}(hz: ∀ u:World,(zeroValue e).run P u= .ok z u)(hn:n<maxLen){i:Int}(hi:(Lit.int q i).wf=true):
  ∃ (v0:Value) (st:Int) (w1:World),(zQ t (.map (some b)) (.int q i)).run P w= .ok (.tuple #[v0,.int .i64 st]) w1∧w.grownBy w1 (some b)∧w1.heap.size=w.heap.size∧
   ∀ (w2:World) (v:Value),w2.heap[b]? =w1.heap[b]?→∃ w3,(tG t (.map (some b)) (.int .i64 st) v).run P w2= .ok () w3∧fB P k q w3 b (if(φ i).isSome then n else n+1) (CN φ i (some v))∧w2.grownBy w3 (some b)∧w3.heap.size=w2.heap.size:=by
 have hput:=fun v=>h.put hk ht hn hi (v:=v)
 obtain⟨D,⟨es,aq,hb,F,hs,_⟩,_⟩:=h;have K:=int_keyed hk;have hkey:=keyOf_int_mk hk hi;obtain⟨s1,s2,_⟩:=F.stamped;have hgr: ∀ (W:World) (es0:Array MapEntry) (c0:Nat) (o':Obj),W.heap[b]? =some (.map es0 c0)→W.grownBy (gy W b o') (some b)∧(gy W b o').heap.size=W.heap.size:=fun W es0 c0 o' hW=>
  ⟨⟨rfl,rfl,rfl,by simp[gy],fun j _ hj=>ChangeMaps.heap_setBlock_other hW _ (fun e=>hj mA)⟩,by simp[gy]⟩
 have lH: ∀ (st:Nat) (Mr:Array MapEntry) (c1:Nat),(∀ (W:World) (v:Value),W.heap[b]? =some (.map Mr c1)→∃ es' c',(tG t (.map (some b)) (.int .i64 (st:Int)) v).run P W= .ok () (gy W b (.map es' c'))∧(G0 t (.map (some b)) (.int q i) v).run P w= .ok () (gy w b (.map es' c')))→
   ∀ (w2:World) (v:Value),w2.heap[b]? =(gy w b (.map Mr c1)).heap[b]?→∃ w3,(tG t (.map (some b)) (.int .i64 (st:Int)) v).run P w2= .ok () w3∧fB P k q w3 b (if(φ i).isSome then n else n+1) (CN φ i (some v))∧w2.grownBy w3 (some b)∧w3.heap.size=w2.heap.size:=by
  intro st Mr c1 hst w2 v hw2;have Bi:w2.heap[b]? =some (.map Mr c1):=hw2.trans (o7 w hb);obtain⟨es',c',r1,r2⟩:=hst w2 v Bi;obtain⟨w',u1,u2,_⟩:=hput v;rw[r2] at u1;injection u1 with _ u1
  subst u1;obtain⟨g1,g2⟩:=hgr w2 _ _ (.map es' c') Bi;exact⟨_,r1,u2.same ((o7 w2 Bi).trans (o7 w hb).symm),g1,g2⟩
 rcases K.find w hkey es.toList F.keys with⟨h1,h2⟩|⟨j,e0,h1,h2,h3⟩
 ·refine⟨z,(aq:Int),gy w b (.map (es.push ⟨.int q i,z,aq⟩) (aq+1)),?_,(hgr w _ _ _ hb).1,(hgr w _ _ _ hb).2,lH aq _ _ fun W v hW=>⟨es.push ⟨.int q i,v,aq⟩,aq+1,?_,?_⟩⟩
  ·simp[zQ,run_underlying ht,tF hb,K.check w false hkey,h1,hz,tE _ hb,iY,gy,goInt]
  ·have Mc:(es.push ⟨.int q i,z,aq⟩).findIdx? (fun e=>((e.born:Nat):Int)==((aq:Nat):Int))=some es.size:=by
    rw[PR];refine PS (j:=es.size) (e0:=⟨.int q i,z,aq⟩) ?_ dM;rw[G1,List.map_append];refine List.nodup_append.2 ⟨s2,dM,fun a ha c hc e1=>?_⟩;obtain⟨x,hx,rfl⟩:=List.mem_map.1 ha;have:=s1 x hx;simp at hc;omega
   have aeH:(es.push ⟨.int q i,z,aq⟩).modify es.size (fun e=>{e with val:=v})=es.push ⟨.int q i,v,aq⟩:=by
    apply GX;rw[PT,G1,G1,←Array.length_toList,WideElems.modify_last]
   simp[tG,tF hW,asInt,asIntOf,Mc,aeH,tE _ hW,iY,gy]
  simp[G0,run_underlying ht,tF hb,K.check w false hkey,h1,tE _ hb,iY,gy]
 ·have hj:es[j]? =some e0:=by simpa using h2
  have FJ: ∀ f:MapEntry→MapEntry,(es.modify j f).toList=es.toList.set j (f e0):=fun f=>by
   rw[PT];exact Go.ChangeMaps.modify_eq_set _ _ _ _ h2
  have ag0:es.modify j (fun e=>{e with key:=.int q i})=es:=by
   apply GX;rw[FJ];have:({e0 with key:=.int q i}:MapEntry)=e0:=by rw[←h3]
   rw[this];exact WideElems.set_self _ _ _ h2
  refine⟨e0.val,(e0.born:Int),gy w b (.map es aq),?_,(hgr w _ _ _ hb).1,(hgr w _ _ _ hb).2,lH e0.born _ _ fun W v hW=>⟨es.modify j (fun e'=>{e' with key:=.int q i,val:=v}),aq,?_,?_⟩⟩
  ·simp[zQ,run_underlying ht,tF hb,K.check w false hkey,h1,hj,h3,K.stays w hkey,ag0,tE _ hb,iY,gy,goInt]
  ·have Mc:es.findIdx? (fun e=>((e.born:Nat):Int)==((e0.born:Nat):Int))=some j:=by
    rw[PR];exact PS s2 h2
   have aeH:es.modify j (fun e=>{e with val:=v})=es.modify j (fun e'=>{e' with key:=.int q i,val:=v}):=by
    apply GX;rw[FJ,FJ,←h3]
   simp[tG,tF hW,asInt,asIntOf,Mc,aeH,tE _ hW,iY,gy]
  simp[G0,run_underlying ht,tF hb,K.check w false hkey,h1,hj,h3,K.stays w hkey,tE _ hb,iY,gy]
theorem Hw{w1:World} {o:Oper}{a:Act}{K:Act→World→Prop}{Q:Exit→Act→World→Prop}(m x:Operand)(t:TypeId)(hop:o.op=Op.mapEntry t m x){mv xv v:Value}(hm:a.eval m=mv)(hx:a.eval x=xv)
  (hrun:(zQ t mv xv).run P w= .ok v w1) (hK:K (a.put o.dst v) w1):iG P o a w K Q:=by
 unfold iG execOp;simp only[hop,GV,GY,GU,hm,hx,hrun];exact hK
theorem CJ{w1:World} {o:Oper}{a:Act}{K:Act→World→Prop}{Q:Exit→Act→World→Prop}(m x y:Operand)(t:TypeId)(hop:o.op=Op.entryStore t m x y){mv xv yv:Value}(hm:a.eval m=mv)(hx:a.eval x=xv)(hy:a.eval y=yv)
  (hrun:(tG t mv xv yv).run P w= .ok () w1) (hK:K (a.put o.dst undef) w1):iG P o a w K Q:=by
 unfold iG execOp;simp only[hop,GV,GY,GU,hm,hx,hy,hrun];exact hK
end
section
namespace En
variable{p n g:Nat}{S:Nat→Prop}{w:World}
theorem Q0{d:Dk}{q:Dg}(h:eJ S w p d q)(at_:Int)(hb:d.bad at_=true)(v:Value): Calls af 122 #[.pointer (some ⟨p,0,none⟩),.int .i64 at_,v] w fun e w'=>e= .returned (.int .i64 50)∧w'=w:=by
 have HN:=aa (IF h at_ hb);exact abX
theorem MD{d:Dk}{q:Dg}(h:eJ S w p d q)(at_:Int)(hb:d.bad at_=false)(A:Option Addr)(n c:Nat)(hn:n≠d.size): Calls af 122 #[.pointer (some ⟨p,0,none⟩),.int .i64 at_,.slice A n c] w fun e w'=>e= .returned (.int .i64 3)∧w'=w:=by
 have HN:=aa (zn h at_ hb);have x0:w.cell? ⟨p,0,none⟩=some (.int .i64 d.size):=h.own.cell 0;have hq:((n:Int)==(d.size:Int))=false:=fZ;have Cz:(n==d.size)=false:=fZ;exact abX
theorem KI: (af.info? 338).map (fun i=>(i.zero,i.size,i.bytes))=some (some (.agg #[.int .i64 0,.slice none 0 0]),2,32):=bh
theorem _root_.Go.Proofs.YtemighjbfanenaaGreatDoor.aP.rY{e:TypeId}{sz k:Nat} {v:Value}{c:Nat→List Value}(h:aP S w e sz v n c)(hg:v.ownBlock=some g){o:Obj}(ho:w.heap[k]? =some o)(hne: ∀ cur,o≠ .cells cur e (0,0)): k≠g:=by
 rintro rfl;rcases h.own.2 with⟨hv,_⟩|⟨g',cap',cur,hv,_,hh,_⟩
 ·subst hv;simp[gU] at hg
 subst hv;have e1:g'=k:=uy;subst e1;rw[hh] at ho;injection ho with ho
 exact hne cur ho.symm
theorem _root_.Go.Proofs.YtemighjbfanenaaGreatDoor.fB.obj{P:Program}{k:TypeId}{q:IntKind}{b:Nat} {φ:Int→Option Value}(h:fB P k q w b n φ): ∃ es c,w.heap[b]? =some (.map es c):=by obtain⟨D,⟨es,aq,hb,_⟩,_⟩:=h;exact⟨es,aq,hb⟩
theorem _root_.Go.Proofs.YtemighjbfanenaaGreatDoor.fB.mE{P:Program}{k t:TypeId}{q:IntKind}{b:Nat} {φ:Int→Option Value}{cs:Array Value}(h:fB P k q w b n φ)(ha:aG w g t cs): g≠b:=by
 rintro rfl;obtain⟨es,c,hb⟩:=h.obj;rw[aG,hb] at ha;injection ha with ha
 cases ha
theorem _root_.Go.Proofs.YtemighjbfanenaaGreatDoor.aP.Ou{w':World} {e:TypeId}{sz cap:Nat} {c:Nat→List Value}(h:aP S w e sz (.slice (some ⟨g,0,none⟩) n cap) n c)(hk:w'.heap[g]? =w.heap[g]?): aP S w' e sz (.slice (some ⟨g,0,none⟩) n cap) n c:=
 ⟨eB h.own fun g' hg=>by
  have:g=g':=uy;subst this;exact hk,h.block⟩
theorem r8(i j:Nat)(b:By): ∀ l,fJ (l++ [(j,b)]) i=if j=i then some l.length else fJ l i
 | []=>by by_cases h:j=i <;>simp[fJ,h]
 | x::r=>by
  rw[List.cons_append,fJ,r8 i j b r];by_cases h:j=i
  ·rw[if_pos h,if_pos h];simp
  rw[if_neg h,if_neg h,fJ]
theorem eJ.write{T:Nat→Prop} {w':World} {i gb cb ga ca:Nat} {d:Dk}{q:Dg}{b:By}(h:eJ S w p d q)(hi:i<d.dh.length)(hl:b.length=d.size)(hcb:d.size≤cb)(hgb:jO w' 5 gb b)(akh: ¬S gb)(hgT:T gb)
  (hk: ∀ k,S k→k≠p→k≠q.mb→q.rv.ownBlock≠some k→w'.heap[k]? =w.heap[k]?)
  (hown:aG w' p 331 #[.int .i64 d.size,.slice (some ⟨q.gd,0,none⟩) d.dh.length q.cd,.slice (some ⟨ga,0,none⟩) (d.row.length+1) ca,.map (some q.mb)])
  (hrow:aP T w' 338 2 (.slice (some ⟨ga,0,none⟩) (d.row.length+1) ca) (d.row.length+1) (cK (CQ d q) d.row.length [.int .i64 i,.slice (some ⟨gb,0,none⟩) d.size cb]))
  (hm:fB af 3 .i64 w' q.mb (if(od d q i).isSome then q.mn else q.mn+1) (CN (od d q) i (some (.slice (some ⟨gb,0,none⟩) d.size cb)))) (p7: ∀ k,S k→T k) (hT: ∀ k,T k→k<w'.heap.size) :
  uW p {d with row:=d.row++ [(i,b)]} T w':=by
 have hlen:(d.row++ [(i,b)]).length=d.row.length+1:=dM;have acU: ∀ j,j<d.row.length→(d.row++ [(i,b)]).getD j (0,[])=d.row.getD j (0,[]):=fun j hj=>by rw[bR,bR,qN hj]
 have acT:(d.row++ [(i,b)]).getD d.row.length (0,[])=(i,b):=by rw[bR,qO (aY _)];simp
 have YZ:cK (CQ d q) d.row.length [.int .i64 i,.slice (some ⟨gb,0,none⟩) d.size cb]=fun j=>if j=d.row.length then [.int .i64 i,.slice (some ⟨gb,0,none⟩) d.size cb] else CQ d q j:=rfl
 have obj: ∀ {k:Nat} {o:Obj},w.heap[k]? =some o→(∀ cur,o≠ .cells cur 338 (0,0))→q.rv.ownBlock≠some k:=fun ho hne e=>h.row.rY e ho hne rfl
 have hap:=h.apart;have agh: ∀ {k:Nat} {l:By},jO w 5 k l→k≠p∧k≠q.mb∧q.rv.ownBlock≠some k:=fun {k l} hb=>by
  obtain⟨cur,h1,_⟩:=hb;refine⟨?_,?_,obj h1 (fun c e=>yr)⟩
  ·rintro rfl;have:=h.own;rw[aG] at this;rw[this] at h1;injection h1 with h1
   injection h1 with _ h2
   revert h2;decide
  rintro rfl;obtain⟨D,⟨es,aq,hb,_⟩,_⟩:=h.newest;rw[hb] at h1;injection h1 with h1
  cases h1
 have aky:w'.heap[q.gd]? =w.heap[q.gd]?:=by
  have hS:S q.gd:=h.dh.block q.gd rfl;rcases h.dh.own.2 with⟨hv,_⟩|⟨g',cap',cur,hv,_,hh,_⟩
  ·cases hv
  injection hv with e1 _ _
  injection e1 with e1
  injection e1 with e1
  subst e1;refine hk _ hS ?_ ?_ (obj hh (fun c e=>yr))
  ·intro e;have:=h.own;rw[aG,←e] at this;rw[this] at hh;injection hh with hh
   injection hh with _ h2
   revert h2;decide
  intro e;obtain⟨D,⟨es,aq,hb,_⟩,_⟩:=h.newest;rw[←e] at hb;rw[hb] at hh;injection hh with hh
  cases hh
 refine⟨{q with rv:=.slice (some ⟨ga,0,none⟩) (d.row.length+1) ca,mn:=if(od d q i).isSome then q.mn else q.mn+1,wg:=cK q.wg d.row.length gb,wc:=cK q.wc d.row.length cb},hown,(h.dh.Ou aky).mono fun g hg _=>p7 g hg,fun j hj=>?_,?_,fun j hj=>?_,?_,⟨h.ok.size,h.ok.some,h.ok.each,fun x hx=>?_⟩,⟨p7 _ h.bB.1,p7 _ h.bB.2.1,fun j hj=>p7 _ (h.bB.2.2.1 j hj),fun j hj=>?_⟩,⟨hap.1,fun a j ha hj=>?_⟩,hT,?_⟩
 ·obtain⟨n1,n2,n3⟩:=agh (h.each j hj).1;exact⟨(h.each j hj).1.same (hk _ (h.bB.2.2.1 j hj) n1 n2 n3),(h.each j hj).2⟩
 ·show aP T w' _ 2 _ (d.row++ [(i,b)]).length _
  rw[hlen];refine⟨?_,hrow.block⟩;have:=hrow.own;rw[lJ (d:=CQ {d with row:=d.row++ [(i,b)]} {q with rv:=.slice (some ⟨ga,0,none⟩) (d.row.length+1) ca,mn:=if(od d q i).isSome then q.mn else q.mn+1,wg:=cK q.wg d.row.length gb,wc:=cK q.wc d.row.length cb}) (fun j hj=>?_)] at this
  ·exact this
  unfold CQ;by_cases e:j=d.row.length
  ·subst e;rw[bL,acT];show _= [Value.int .i64 (i:Nat),Value.slice (some ⟨cK q.wg d.row.length gb d.row.length,0,none⟩) d.size (cK q.wc d.row.length cb d.row.length)]
   rw[bL,bL]
  rw[bn _ _ e,acU j ai];show _= [Value.int .i64 ((d.row.getD j (0,[])).1:Nat),Value.slice (some ⟨cK q.wg d.row.length gb j,0,none⟩) d.size (cK q.wc d.row.length cb j)]
  rw[bn _ _ e,bn _ _ e]
 ·have DO:j<d.row.length+1:=by simpa using hj
  show jO w' _ (cK q.wg d.row.length gb j) ((d.row++ [(i,b)]).getD j (0,[])).2∧d.size≤cK q.wc d.row.length cb j
  by_cases e:j=d.row.length
  ·subst e;rw[bL,bL,acT];exact⟨hgb,hcb⟩
  rw[bn _ _ e,bn _ _ e,acU j ai];obtain⟨n1,n2,n3⟩:=agh (h.aD j ai).1;exact⟨(h.aD j ai).1.same (hk _ (h.bB.2.2.2 j ai) n1 n2 n3),(h.aD j ai).2⟩
 ·have hφ:CN (od d q) i (some (.slice (some ⟨gb,0,none⟩) d.size cb))=od {d with row:=d.row++ [(i,b)]} {q with rv:=.slice (some ⟨ga,0,none⟩) (d.row.length+1) ca,mn:=if(od d q i).isSome then q.mn else q.mn+1,wg:=cK q.wg d.row.length gb,wc:=cK q.wc d.row.length cb}:=by
   funext z;unfold CN od;by_cases ez:z=(i:Int)
   ·subst ez;rw[if_pos rfl,if_neg ai];show _=Option.map _ (fJ (d.row++ [(i,b)]) _)
    rw[r8,if_pos (show i=(i:Int).toNat from dM)];simp[bL]
   rw[if_neg ez];by_cases z0:z<0
   ·rw[if_pos z0,if_pos z0]
   rw[if_neg z0,if_neg z0];show _=Option.map _ (fJ (d.row++ [(i,b)]) _)
   rw[r8,if_neg (show ¬i=z.toNat from ai)];cases hx:fJ d.row z.toNat with
   | none=>rfl
   | some j=>
    obtain⟨h1,_⟩:=ma hx;simp[bn _ _ (show j≠d.row.length from ai)]
  rw[←hφ];exact hm
 ·rcases List.mem_append.1 hx with hx|hx
  ·exact h.ok.aD x hx
  obtain rfl:=List.mem_singleton.1 hx;exact⟨hi,hl⟩
 ·have DO:j<d.row.length+1:=by simpa using hj
  show T (cK q.wg d.row.length gb j)
  by_cases e:j=d.row.length
  ·subst e;rw[bL];exact hgT
  rw[bn _ _ e];exact p7 _ (h.bB.2.2.2 j ai)
 ·have DO:j<d.row.length+1:=by simpa using hj
  show q.ad a≠cK q.wg d.row.length gb j
  by_cases e:j=d.row.length
  ·subst e;rw[bL];intro e2;exact akh (e2▸h.bB.2.2.1 a ha)
  rw[bn _ _ e];exact hap.2 a j ha ai
 ·show(if(od d q i).isSome then q.mn else q.mn+1)≤(d.row++ [(i,b)]).length
  have:=h.few;rw[hlen];split <;>omega
def aid(S:Nat→Prop)(p:Nat)(d:Dk)(w:World)(e:Ending)(w':World): Prop:=e= .returned (.int .i64 0)∧uW p d (Gr S w w') w'∧aI S w w'
theorem Xe{d:Dk}{q:Dg}(h:eJ S w p d q)(i:Nat)(hi:i<d.dh.length)(b:By)(hl:b.length=d.size)(A:Option Addr)(c:Nat)(hB:Bs w A b)(hA:qV A)(hrow:d.row.length<1000000):
  Calls af 122 #[.pointer (some ⟨p,0,none⟩),.int .i64 i,.slice A b.length c] w (aid S p {d with row:=d.row++ [(i,b)]} w):=by
 obtain⟨i0,CB,hz0,hz1,hz2⟩:=info_parts KI;have hb:d.bad i=false:=by simp[Dk.bad];omega
 have HN:=aa (zn h i hb);have x0:w.cell? ⟨p,0,none⟩=some (.int .i64 b.length):=by rw[hl];exact h.own.cell 0
 have hne:b≠ []:=by rintro rfl;have:=h.ok.size;simp at hl;omega
 have HC:=aa (Oc.yl b A c w hB hA (by rw[hl];have:=h.ok.size;omega));have HH:=aa h;have kX:=aa hne;have HLB:=aa hl;have i':=aa h.lt;have HWF:=aa (GR (n:=(i:Int)) ⟨ai,by have:=h.ok.some;omega⟩);clear h hb hB hA hne hl;go_enter Tryz.func122,Tryz.ntmps122;go_wp2_with fail;refine ag HN.o ?_;go_wp2_with fail;refine HC.o.mono ?_;rintro e w1 ⟨B,cb,rfl,h1,h2,_,_,h3⟩;obtain⟨gb,rfl,hgb,hblk⟩:=h1 kX.o;have bA:=aa h3;have Sd:=aa hgb;have Ci:=aa hblk;have HCB:=aa h2;clear h1 h2 h3 hgb hblk HC HN;go_wp2_with fail;obtain⟨vb,oh⟩:=ae w1.heap.size;obtain⟨w2,hw2⟩:=ae (w1.alloc (.cells #[.int .i64 i,.slice (some ⟨gb,0,none⟩) b.length cb] 338));have aeV:=aK hw2;have ha2:=aJ hw2 oh;have agF:w2.heap.size=vb+1:=by rw[←hw2,←oh];simp
 have xP:Below w.heap.size w w2:=av bA.o aeV;have Mo:eJ S w2 p d q:=by
  have:=HH.o;have hz:=xP.size;have p5: ∀ k,S k→w2.heap[k]? =w.heap[k]?:=fun k hk=>xP.block k (this.lt k hk)
  exact⟨(p5 p this.bB.1).trans this.own,this.dh.same fun g hg _=>p5 g hg,fun i hi=>⟨(this.each i hi).1.same (p5 _ (this.bB.2.2.1 i hi)),(this.each i hi).2⟩,this.row.same fun g hg _=>p5 g hg,fun i hi=>⟨(this.aD i hi).1.same (p5 _ (this.bB.2.2.2 i hi)),(this.aD i hi).2⟩,this.newest.same (p5 _ this.bB.2.1),this.ok,this.bB,this.apart,fun k hk=>aU (this.lt k hk) hz,this.few⟩
 have acV:jO w2 5 gb b:=Ci.o.same (aeV.block gb Ci.o.lt);rw[hw2,oh];have Wq:w2.drew.cell? ⟨p,3,none⟩=some (.map (some q.mb))∧w2.drew.cell? ⟨vb,0,none⟩=some (.int .i64 i)∧w2.drew.cell? ⟨vb,1,none⟩=some (.slice (some ⟨gb,0,none⟩) b.length cb):=⟨Mo.own.cell 3,ha2.cell 0,ha2.cell 1⟩;have z2:w2.drew.cell? ⟨p,2,none⟩=some q.rv:=Mo.own.cell 2;have mr:Below w2.heap.size w2 (w2.drew.alloc (.cells #[.int .i64 i,.slice (some ⟨gb,0,none⟩) b.length cb] 338)):=ay (az (ar _ _)) _;have Z9:p<w2.heap.size:=Mo.own.lt;have Y7:(w2.drew.alloc (.cells #[.int .i64 i,.slice (some ⟨gb,0,none⟩) b.length cb] 338)).cell? ⟨p,3,none⟩=some (.map (some q.mb))∧(w2.drew.alloc (.cells #[.int .i64 i,.slice (some ⟨gb,0,none⟩) b.length cb] 338)).cell? ⟨vb,0,none⟩=some (.int .i64 i)∧(w2.drew.alloc (.cells #[.int .i64 i,.slice (some ⟨gb,0,none⟩) b.length cb] 338)).cell? ⟨vb,1,none⟩=some (.slice (some ⟨gb,0,none⟩) b.length cb):=⟨(mr.cell (p:=⟨p,3,none⟩) Z9).trans Wq.1,(mr.cell (p:=⟨vb,0,none⟩) (show vb<w2.heap.size from ai)).trans Wq.2.1,(mr.cell (p:=⟨vb,1,none⟩) (show vb<w2.heap.size from ai)).trans Wq.2.2⟩;have z3:(w2.drew.alloc (.cells #[.int .i64 i,.slice (some ⟨gb,0,none⟩) b.length cb] 338)).cell? ⟨p,2,none⟩=some q.rv:=(mr.cell (p:=⟨p,2,none⟩) Z9).trans z2;have z4:(w2.alloc (.cells #[.int .i64 i,.slice (some ⟨gb,0,none⟩) b.length cb] 338)).cell? ⟨p,2,none⟩=some q.rv:=z3;have hr3:aP S (w2.drew.alloc (.cells #[.int .i64 i,.slice (some ⟨gb,0,none⟩) b.length cb] 338)) 338 2 q.rv d.row.length (CQ d q):=Mo.row.ah mr;have HS2:=aa Wq;have HS3:=aa Y7;have oo:=aa Mo;have afQ:=aa xP;have alA:=aa acV;have yN:=aa agF;have iu:=aa hr3;have yf:=aa mr;have jB:=aa ha2;have HGV:=aa (show gb<vb by rw[←oh];exact Ci.o.lt);have HGW:=aa (show w.heap.size≤vb by rw[←oh];exact bA.o.size);clear Wq Y7 Mo xP acV agF ha2 aeV hr3 mr Z9 hw2 oh bA Ci HH;refine tW (S:=(fun w'=>w'.cell? ⟨p,3,none⟩=some (.map (some q.mb))∧w'.cell? ⟨vb,0,none⟩=some (.int .i64 i)∧w'.cell? ⟨vb,1,none⟩=some (.slice (some ⟨gb,0,none⟩) b.length cb))) (by exact HS2.o) fun hHeld=>?_
 refine ov 0 1 2 3 4 5 6 7 ?_;refine lA 8 10 13 14 ?_;refine qh 9 11 (fun K hK=>?_) fun K hK=>?_
 ·go_simp;go_wp2_with fail;refine bW hK (by exact HS2.o) fun hHa=>?_
  clear hK K;refine cJ 11 fun K hK=>?_
  exact agB
 ·go_simp;go_wp2_with fail;refine bW hK (by exact HS3.o) fun hHa=>?_
  clear hK K;refine cJ 9 fun K hK=>?_
  exact agB
theorem Xf{d:Dk}(h:uW p d S w)(at_:Int)(b:By)(A:Option Addr)(c:Nat)(hB:Bs w A b)(hA:qV A)(hrow:d.row.length<1000000):
  Calls af 122 #[.pointer (some ⟨p,0,none⟩),.int .i64 at_,.slice A b.length c] w fun e w'=>e= .returned (.int .i64 (d.write at_ b).1)∧uW p (d.write at_ b).2 (Gr S w w') w'∧aI S w w':=by
 have L:=mo p d;have hS:=fun k hk=>L.lt h k hk
 have h0:=h;obtain⟨q,h⟩:=h;have same: ∀ e w',e=Ending.returned (.int .i64 50)∧w'=w→e= .returned (.int .i64 50)∧uW p d (Gr S w w') w'∧aI S w w':=by rintro e w' ⟨rfl,rfl⟩;exact⟨rfl,L.Ac h0 hS (aY _),aI.refl _ _⟩
 cases hb:d.bad at_ with
 | true=>rw[Dk.write,if_pos hb];exact(Q0 h at_ hb _).mono same
 | false=>
  rw[Dk.write,if_neg (by rw[hb];simp)];obtain⟨i,rfl⟩: ∃ i:Nat,at_=i:=⟨at_.toNat,Dq⟩;have hi:i<d.dh.length:=Dq;by_cases hl:b.length=d.size
  ·rw[if_pos hl];exact(Xe h i hi b hl A c hB hA hrow).mono fun e w' hh=>hh
  rw[if_neg hl];refine(MD h i hb A b.length c hl).mono ?_;rintro e w' ⟨rfl,rfl⟩;exact⟨rfl,L.Ac h0 hS (aY _),aI.refl _ _⟩
end En
end
section
namespace En
theorem vA(of:Nat→Nat)(x:Nat × By): ∀ (l:List (Nat × By)) (dh:List By) (i:Nat),fe of dh i (l++ [x])=(fe of dh i l).set x.1 (over ((fe of dh i l).getD x.1 []) x.2 (of (i+l.length)))
 | [],dh,i=>by simp[fe]
 | y::r,dh,i=>by rw[List.cons_append,fe,vA of x r,fe,List.length_cons,Nat.add_assoc,Nat.add_comm 1]
theorem Wz(l:List By)(a i:Nat)(x:By)(ha:a<l.length): (l.set a x).getD i []=if i=a then x else l.getD i []:=by
 rw[bR,List.getElem?_set];by_cases h:a=i
 ·subst h;rw[if_pos rfl,if_pos rfl,if_pos ha];rfl
 rw[if_neg h,if_neg (fun e=>h e.symm),bR]
theorem eJ.kT{S:Nat→Prop}{w w':World}{p a:Nat}{d:Dk}{q:Dg}{b:By}(h:eJ S w p d q)(ha:a<d.dh.length)(hb:b.length=d.size)(hblk:jO w' 5 (q.ad a) b)(hz:w.heap.size≤w'.heap.size)(hk: ∀ k,k<w.heap.size→k≠q.ad a→w'.heap[k]? =w.heap[k]?):
  eJ S w' p {d with dh:=d.dh.set a b} q:=by
 obtain⟨cur,pV,_⟩:=(h.each a ha).1;have ne: ∀ {k:Nat} {o:Obj},w.heap[k]? =some o→(∀ c,o≠ .cells c 5 (0,0))→k≠q.ad a:=fun {k o} ho hne e=>by subst e;rw[pV] at ho;injection ho with ho;exact hne _ ho.symm
 have nb: ∀ {k:Nat} {t:TypeId} {cs:Array Value},aG w k t cs→t≠5→k≠q.ad a:=fun {k t cs} hA ht=>ne hA (fun c e=>by injection e with _ e2;exact ht e2)
 have hlen:(d.dh.set a b).length=d.dh.length:=List.length_set;have hrow: ∀ {e:TypeId} {sz n:Nat} {v:Value} {c:Nat→List Value},aP S w e sz v n c→e≠5→aP S w' e sz v n c:=fun {e sz n v c} hr he=>
  ⟨eB hr.own fun g hg=>hk g (eP hr.own hg).1 (by
   rcases hr.own.2 with⟨hv,_⟩|⟨g',cap',cc,hv,_,hh,_⟩
   ·subst hv;simp[gU] at hg
   subst hv;have e1:g'=g:=uy;subst e1;exact ne hh (fun c e2=>by injection e2 with _ e3;exact he e3)),hr.block⟩
 refine⟨?_,?_,fun i hi=>?_,hrow h.row aM,fun i hi=>?_,h.newest.same (hk _ h.newest.lt ?_),⟨h.ok.size,by rw[hlen];exact h.ok.some,fun x hx=>?_,fun x hx=>by rw[hlen];exact h.ok.aD x hx⟩,⟨h.bB.1,h.bB.2.1,fun i hi=>h.bB.2.2.1 i (by rwa [hlen] at hi),h.bB.2.2.2⟩,⟨fun i j hi hj=>h.apart.1 i j (by rwa [hlen] at hi) (by rwa [hlen] at hj),fun i j hi hj=>h.apart.2 i j (by rwa [hlen] at hi) hj⟩,fun k hk=>aU (h.lt k hk) hz,h.few⟩
 ·show aG w' p _ #[.int .i64 d.size,.slice (some ⟨q.gd,0,none⟩) (d.dh.set a b).length q.cd,q.rv,.map (some q.mb)]
  rw[hlen];exact(hk p h.own.lt (nb h.own aM)).trans h.own
 ·show aP S w' _ 1 (.slice (some ⟨q.gd,0,none⟩) (d.dh.set a b).length q.cd) (d.dh.set a b).length _
  rw[hlen];exact hrow h.dh aM
 ·show jO w' _ (q.ad i) ((d.dh.set a b).getD i [])∧d.size≤q.cp i
  rw[hlen] at hi;rw[Wz _ _ _ _ ha];by_cases e:i=a
  ·subst e;rw[if_pos rfl];exact⟨hblk,(h.each i hi).2⟩
  rw[if_neg e];exact⟨(h.each i hi).1.same (hk _ (h.each i hi).1.lt (fun e2=>e (h.apart.1 i a hi ha e2))),(h.each i hi).2⟩
 ·exact⟨(h.aD i hi).1.same (hk _ (h.aD i hi).1.lt (fun e=>h.apart.2 a i ha hi e.symm)),(h.aD i hi).2⟩
 ·obtain⟨es,c,hb'⟩:=h.newest.obj;exact ne hb' (fun c e=>uu)
 ·rcases List.mem_or_eq_of_mem_set hx with hx|hx
  ·exact h.ok.each x hx
  rw[hx];exact hb
theorem eJ.dry{S:Nat→Prop}{w w':World}{p:Nat}{d:Dk}{q:Dg}(h:eJ S w p d q)(hk: ∀ k,S k→k≠p→k≠q.mb→w'.heap[k]? =w.heap[k]?)
  (hown:aG w' p 331 #[.int .i64 d.size,.slice (some ⟨q.gd,0,none⟩) d.dh.length q.cd,.slice none 0 0,.map (some q.mb)]) (hm:fB af 3 .i64 w' q.mb 0 (fun _=>none)) (hz:w.heap.size≤w'.heap.size):eJ S w' p {d with row:=[]} {q with rv:=.slice none 0 0,mn:=0}:=by
 have ne: ∀ {k:Nat} {t:TypeId} {cs:Array Value},aG w k t cs→t≠331→k≠p∧k≠q.mb:=fun {k t cs} hA ht=>⟨fun e=>by
  subst e;have h1:=h.own;rw[aG] at h1 hA;rw[h1] at hA;injection hA with hA
  injection hA with _ e2
  exact ht e2.symm,h.newest.mE hA⟩
 have nb: ∀ {k:Nat} {l:By},jO w 5 k l→k≠p∧k≠q.mb:=fun {k l} hb=>by obtain⟨cur,h1,_⟩:=hb;exact ne h1 aM
 refine⟨hown,⟨eB h.dh.own fun g hg=>?_,h.dh.block⟩,fun i hi=>⟨(h.each i hi).1.same (hk _ (h.bB.2.2.1 i hi) (nb (h.each i hi).1).1 (nb (h.each i hi).1).2),(h.each i hi).2⟩,aP.nil _ _ _ _ _,fun i hi=>absurd hi (gw i),?_,⟨h.ok.size,h.ok.some,h.ok.each,fun x hx=>by cases hx⟩,⟨h.bB.1,h.bB.2.1,h.bB.2.2.1,fun i hi=>absurd hi (gw i)⟩,⟨h.apart.1,fun i j _ hj=>absurd hj (gw j)⟩,fun k hk=>aU (h.lt k hk) hz,aY _⟩
 ·have hS:=h.dh.block g hg;rcases h.dh.own.2 with⟨hv,_⟩|⟨g',cap',cc,hv,_,hh,_⟩
  ·cases hv
  have e1:q.gd=g:=uy;injection hv with e2 _ _
  injection e2 with e2
  injection e2 with e2
  subst e1;rw[←e2] at hh;exact hk _ hS (ne hh aM).1 (ne hh aM).2
 ·have:od {d with row:=[]} {q with rv:=.slice none 0 0,mn:=0}=fun _=>none:=by funext z;unfold od;split <;>rfl
  rw[this];exact hm
theorem Sv(w:World){o:Oper}{a:Act}{K:Act→World→Prop}{Q:Exit→Act→World→Prop}(x y:Operand)(hop:o.op=Op.call {callee:=Callee.builtin Builtin.copy,args:=#[x,y],argTypes:=#[34,34]})
  (g s cp k c2:Nat) (ad:Addr) (old b:By) (hx:a.eval x= .slice (some ⟨g,0,none⟩) s cp) (hy:a.eval y= .slice (some ad) k c2) (hg:jO w 5 g old) (ho:old.length=s) (hk:k≤s) (hB:Bs w (some ad) b) (cL:k≤b.length)
  (hK: ∀ w' v,jO w' 5 g (over old b k)→w.grownBy w' (some g)→w'.heap.size=w.heap.size→K (a.put o.dst v) w'):iG af o a w K Q:=by
 obtain⟨cur,pV,zy⟩:=hg;have hcs:((aO b).take k).length=Nat.min k s:=by rw[gT,Oc.bu,qL cL];exact(qL hk).symm
 have y7:old.length≤cur.size:=by
  rcases Nat.eq_zero_or_pos old.length with h0|h0
  ·omega
  have:=zy (old.length - 1) _ (Oc.nO (bs:=old) (i:=old.length - 1) ai);have:=(Array.getElem?_eq_some_iff.1 this).1;omega
 have hl:((aO b).take k).length=k:=by rw[hcs];exact qL hk
 have hrun:=run_copy_row (P:=af) w 34 34 o.type 5 g 0 s cp ad k c2 cur 5 ((aO b).take k) Tryz.underlying34 bh pV hcs (fun j v hj=>hB.read j v (by
  have:=(iX.1 hj).1;rw[List.getElem?_take] at hj;split at hj
  ·exact hj
  cases hj)) ai (fun v hv=>Oc.bO b v (List.mem_of_mem_take hv))
 unfold iG execOp;simp only[hop,resolve,invoke,builtin,GV,GY,GU,List.map_toArray,List.map_cons,List.map_nil,hx,hy,hrun];refine hK _ _ ⟨_,setRow_heap w g cur _ _ _ pV,fun j u hj=>?_⟩ ⟨rfl,rfl,rfl,by simp[GS],fun i _ hi=>?_⟩ (by simp[GS])
 ·have RU:=(iX.1 hj).1;rw[Oc.bu,over,List.length_append,gT,List.length_drop] at RU;unfold over at hj;rw[Oc.dX] at hj;simp only[List.take_zero,List.nil_append,Nat.zero_add,hl];rw[←dK];simp only[List.toList_toArray];have e1:aO (b.take k)=(aO b).take k:=by unfold aO;rw[List.map_take]
  rw[e1] at hj;rcases Nat.lt_or_ge j k with h1|h1
  ·rw[qN (by rw[hl];exact h1)] at hj ⊢;exact hj
  rw[qO (by rw[hl];exact h1),hl] at hj ⊢;rw[List.getElem?_drop,show k+(j - k)=j from ai,dK];refine zy j u ?_;have e2:aO (old.drop k)=(aO old).drop k:=by unfold aO;rw[List.map_drop]
  rw[e2,List.getElem?_drop,show k+(j - k)=j from ai] at hj;exact hj
 ·have hne:i≠g:=fun e=>hi mA
  simp[GS,Array.getElem?_modify,Ne.symm hne]
end En
end
section
namespace En
theorem WT(s:Nat)(o:Int): (if(s:Int)<(if o<0 then 0 else o)then(s:Int)else(if o<0 then 0 else o))=((rp s o:Nat):Int):=by unfold rp;split <;>split <;>omega
theorem WS(s:Nat)(o:Int): rp s o≤s:=by unfold rp;omega
variable{S:Nat→Prop}{w:World}{p:Nat}
theorem Ir{d:Dk}{q:Dg}(h:eJ S w p d q)(lb:Array Value)(oi:Nat→Int)(hrow:d.row.length≤1000000)
  (Ha: ∀ (W:World) (i:Nat),i<d.row.length→w.heap.size≤W.heap.size→(∀ k,k<w.heap.size→(∀ a,a<d.dh.length→k≠q.ad a)→W.heap[k]? =w.heap[k]?)→Calls af 374 (#[.int .i64 i]++lb) W fun e W'=>e= .returned (.int .i64 (oi i))∧Below W.heap.size W W') :
  Calls af 373 #[.pointer (some ⟨p,0,none⟩),.func (.func 374) #[] lb] w fun e w'=>e= .returned (.int .i64 0)∧(∃ q',eJ S w' p (d.settle fun i=>rp d.size (oi i)) q')∧aI S w w':=by
 obtain⟨A,c,hv⟩:=h.row.any;have x0:w.cell? ⟨p,0,none⟩=some (.int .i64 d.size):=h.own.cell 0;have x2:w.cell? ⟨p,2,none⟩=some (.slice A d.row.length c):=by rw[←hv];exact h.own.cell 2
 have hm:(d.row.length:Int)≤1000000:=ai;have HH:=aa h;have HV:=aa hv;have Cc:=aa Ha;have HS:=aa h.ok.size.1;clear h hv Ha;go_enter Tryz.func373,Tryz.ntmps373;go_wp2_with fail;refine ag (cY p d.size HS.o w x0) ?_;go_wp2_with fail;go_loopw [15] (fun i wr=>∃ j:Nat,j≤d.row.length∧i= .int .i64 j∧eJ S wr p {d with dh:=fe (fun i=>rp d.size (oi i)) d.dh 0 (d.row.take j)} q∧aI (fun k=>∃ a,a<d.dh.length∧k=q.ad a) w wr) (fun i _=>(d.row.length - intOf i).toNat)
 case atStart=>exact⟨0,ai,rfl,by simpa[fe] using HH.o,aI.refl _ _⟩
 case round=>
  obtain⟨j,hj,rfl,hD,hT⟩:=hrel;obtain⟨dh,Jj⟩:=ae (fe (fun i=>rp d.size (oi i)) d.dh 0 (d.row.take j));have C8:dh.length=d.dh.length:=by rw[←Jj];exact oC _ _ _ _
  rw[Jj] at hD;have HD:=aa hD;have HT:=aa hT;have ajk:=aa Jj;have Po:=aa C8;clear hD hT Jj C8;by_cases hlt:j<d.row.length
  ·have Bp:(j:Int)<(d.row.length:Int):=by omega
   have OI:(0:Int)≤(j:Int):=ai;obtain⟨gr,cr,hvr,_⟩:=HD.o.row.form (show 0<d.row.length from ai);have hA:A=some ⟨gr,0,none⟩∧c=cr:=by
    have:=HV.o.symm.trans hvr;injection this with a1 _ a2
    exact⟨a1,a2⟩
   obtain⟨rfl,rfl⟩:=hA;have hrow':=HD.o.row;rw[show q.rv=_ from hvr] at hrow';have rG:=aa hrow';clear hrow' hvr;obtain⟨at_,hat⟩:=ae ((d.row.getD j (0,[])).1);have aeW:at_<d.dh.length:=by
    rw[←hat,←Po.o];exact(HD.o.ok.aD (d.row.getD j (0,[])) (by rw[bR,bY hlt];exact wB hlt)).1
   have YZ:CQ {d with dh:=dh} q j= [.int .i64 (at_:Nat),.slice (some ⟨q.wg j,0,none⟩) d.size (q.wc j)]:=by unfold CQ;rw[←hat]
   have HRC:=aa YZ;have HAT:=aa hat;clear YZ hat;go_wp2_with (refine fq rfl 338 _ rfl rG.o (fun _=>rfl) j hlt iI _ Tryz.underlying338 rfl bh ?_;rw[HRC.o]);obtain⟨vb,oh⟩:=ae wr.heap.size;obtain⟨w1,a8⟩:=ae (wr.alloc (.cells #[.int .i64 (at_:Nat),.slice (some ⟨q.wg j,0,none⟩) d.size (q.wc j)] 338));have hb1:=aK a8;have ha1:=aJ a8 oh;rw[a8,oh];have L:=mo p {d with dh:=dh};have y0:w1.drew.cell? ⟨p,0,none⟩=some (.int .i64 d.size):=(HD.o.own.ah hb1).cell 0;have y1:w1.drew.cell? ⟨p,1,none⟩=some (.slice (some ⟨q.gd,0,none⟩) d.dh.length q.cd):=by have:=(HD.o.own.ah hb1).cell 1;rw[Po.o] at this;exact this
   have y4:w1.drew.cell? ⟨q.gd,at_,none⟩=some (.slice (some ⟨q.ad at_,0,none⟩) d.size (q.cp at_)):=(hb1.cell (p:=⟨q.gd,at_,none⟩) (HD.o.lt _ (HD.o.dh.block q.gd rfl))).trans (Dy HD.o.dh (fun _=>rfl) (by rw[Po.o];exact aeW) rfl);have hS1:w1.drew.cell? ⟨p,0,none⟩=some (.int .i64 d.size)∧w1.drew.cell? ⟨p,1,none⟩=some (.slice (some ⟨q.gd,0,none⟩) d.dh.length q.cd)∧w1.drew.cell? ⟨vb,0,none⟩=some (.int .i64 (at_:Nat))∧w1.drew.cell? ⟨vb,1,none⟩=some (.slice (some ⟨q.wg j,0,none⟩) d.size (q.wc j))∧w1.drew.cell? ⟨q.gd,at_,none⟩=some (.slice (some ⟨q.ad at_,0,none⟩) d.size (q.cp at_)):=⟨y0,y1,ha1.cell 0,ha1.cell 1,y4⟩;have amC:(0:Int)≤(at_:Int):=ai;have amB:(at_:Int)<(d.dh.length:Int):=ai;have Hk:=aa hS1;have bA:=aa hb1;have dF:=aa ha1;have yN:=aa oh;have ajy:=aa aeW;clear hS1 hb1 ha1 oh a8 y0 y1 y4 L aeW;refine tW (S:=(fun w'=>w'.cell? ⟨p,0,none⟩=some (.int .i64 d.size)∧w'.cell? ⟨p,1,none⟩=some (.slice (some ⟨q.gd,0,none⟩) d.dh.length q.cd)∧w'.cell? ⟨vb,0,none⟩=some (.int .i64 (at_:Nat))∧w'.cell? ⟨vb,1,none⟩=some (.slice (some ⟨q.wg j,0,none⟩) d.size (q.wc j))∧w'.cell? ⟨q.gd,at_,none⟩=some (.slice (some ⟨q.ad at_,0,none⟩) d.size (q.cp at_)))) (by exact Hk.o) fun hHeld=>?_
   refine ov 0 1 2 3 4 5 6 7 ?_;refine ov 8 9 10 11 14 15 16 17 ?_;refine cJ 12 fun K hK=>?_
   go_simp;refine(Cc.o w1.drew j hlt (by have:=HT.o.size;have:=bA.o.size;show w.heap.size≤w1.heap.size;omega) (fun k hk hne=>(bA.o.block k (aU hk HT.o.size)).trans (HT.o.block k hk (fun⟨a,ha,e⟩=>hne a ha e)))).mono ?_;rintro e w2 ⟨rfl,hb2⟩;have Wq:w2.cell? ⟨p,0,none⟩=some (.int .i64 d.size)∧w2.cell? ⟨p,1,none⟩=some (.slice (some ⟨q.gd,0,none⟩) d.dh.length q.cd)∧w2.cell? ⟨vb,0,none⟩=some (.int .i64 (at_:Nat))∧w2.cell? ⟨vb,1,none⟩=some (.slice (some ⟨q.wg j,0,none⟩) d.size (q.wc j))∧w2.cell? ⟨q.gd,at_,none⟩=some (.slice (some ⟨q.ad at_,0,none⟩) d.size (q.cp at_)):=by
    obtain⟨a0,a1,a2,a3,a4⟩:=Hk.o;exact⟨(hb2.cell (p:=⟨p,0,none⟩) (bE _ _ a0)).trans a0,(hb2.cell (p:=⟨p,1,none⟩) (bE _ _ a1)).trans a1,(hb2.cell (p:=⟨vb,0,none⟩) (bE _ _ a2)).trans a2,(hb2.cell (p:=⟨vb,1,none⟩) (bE _ _ a3)).trans a3,(hb2.cell (p:=⟨q.gd,at_,none⟩) (bE _ _ a4)).trans a4⟩
   have cu:=aa hb2;clear hb2;go_wp2_with fail;refine bW hK (by exact Wq) fun qx=>?_
   clear hK K;refine tJ 13 18 ?_;rw[WT];obtain⟨kk,p5⟩:=ae (rp d.size (oi j));have hks:kk≤d.size:=by rw[←p5];exact WS _ _
   have hkc:(kk:Int)≤(q.wc j:Int):=by have:=(HD.o.aD j hlt).2;simp only at this;omega
   have DN:(0:Int)≤(kk:Int):=ai;rw[p5];have J8:=aa p5;have HKS:=aa hks;clear p5 hks;refine ty 19 ?_;refine cJ 20 fun K hK=>?_
   have hblk:=(HD.o.each at_ rR).1.same ((cu.o.block _ (by have:=(HD.o.each at_ rR).1.lt;have:=bA.o.size;show q.ad at_<w1.heap.size;omega)).trans (bA.o.block _ (HD.o.each at_ rR).1.lt));have YX:=(HD.o.aD j hlt).1.same ((cu.o.block _ (by have:=(HD.o.aD j hlt).1.lt;have:=bA.o.size;show q.wg j<w1.heap.size;omega)).trans (bA.o.block _ (HD.o.aD j hlt).1.lt));have C8:(dh.getD at_ []).length=d.size:=HD.o.ok.each _ (by rw[bR,bY rR];exact wB _);have CW:(d.row.getD j (0,[])).2.length=d.size:=(HD.o.ok.aD (d.row.getD j (0,[])) (by rw[bR,bY hlt];exact wB hlt)).2;refine Sv w2 (.tmp 27) (.tmp 39) rfl (q.ad at_) d.size (q.cp at_) kk (q.wc j) ⟨q.wg j,0,none⟩ (dh.getD at_ []) (d.row.getD j (0,[])).2 rfl rfl hblk C8 HKS.o YX.bs (by rw[CW];exact HKS.o) ?_;intro w3 v3 hb3 hg3 hz3;have xP:Below wr.heap.size wr w2:=av bA.o (av (az (ar _ w1)) cu.o);have VJ:vb≠q.ad at_:=fun e=>by have:=(HD.o.each at_ rR).1.lt;have:=yN.o;omega
   have aeG:p≠q.ad at_:=fun e=>by
    obtain⟨cur,h1,_⟩:=(HD.o.each at_ rR).1;have h2:=HD.o.own;rw[aG,e,h1] at h2;injection h2 with h2
    injection h2 with _ h3
    revert h3;decide
   have ahx:q.gd≠q.ad at_:=fun e=>by
    obtain⟨cur,h1,_⟩:=(HD.o.each at_ rR).1;rcases HD.o.dh.own.2 with⟨hv,_⟩|⟨g',cap',cc,hv,_,hh,_⟩
    ·cases hv
    injection hv with e2 _ _
    injection e2 with e2
    injection e2 with e2
    rw[←e2,e,h1] at hh;injection hh with hh
    injection hh with _ h3
    revert h3;decide
   have hc3: ∀ (k o:Nat),k<w2.heap.size→k≠q.ad at_→w3.cell? ⟨k,o,none⟩=w2.cell? ⟨k,o,none⟩:=fun k o hk hne=>eQ (a:=⟨k,o,none⟩) (hg3.block k hk (fun e=>hne uu))
   have Y7:w3.cell? ⟨p,0,none⟩=some (.int .i64 d.size)∧w3.cell? ⟨p,1,none⟩=some (.slice (some ⟨q.gd,0,none⟩) d.dh.length q.cd)∧w3.cell? ⟨vb,0,none⟩=some (.int .i64 (at_:Nat))∧w3.cell? ⟨vb,1,none⟩=some (.slice (some ⟨q.wg j,0,none⟩) d.size (q.wc j))∧w3.cell? ⟨q.gd,at_,none⟩=some (.slice (some ⟨q.ad at_,0,none⟩) d.size (q.cp at_)):=by
    obtain⟨a0,a1,a2,a3,a4⟩:=qx;exact⟨(hc3 p 0 (bE _ _ a0) aeG).trans a0,(hc3 p 1 (bE _ _ a1) aeG).trans a1,(hc3 vb 0 (bE _ _ a2) VJ).trans a2,(hc3 vb 1 (bE _ _ a3) VJ).trans a3,(hc3 q.gd at_ (bE _ _ a4) ahx).trans a4⟩
   have OQ:=HD.o.kT (w':=w3) (a:=at_) (b:=over (dh.getD at_ []) (d.row.getD j (0,[])).2 kk) rR (by rw[IE (by rw[CW,C8]),C8]) hb3 (by have:=xP.size;omega) (fun k hk hne=>(hg3.block k (aU hk xP.size) (fun e=>hne uu)).trans (xP.block k hk));have ki:aI (fun k=>∃ a,a<d.dh.length∧k=q.ad a) w w3:=(HT.o.ak xP).grown hg3 (fun k e=>.inl ⟨at_,ajy.o,Ad⟩);have Yj:=aa OQ;have iJ:=aa ki;clear hblk YX C8 CW hb3 hg3 hz3 xP VJ aeG ahx hc3 OQ ki;refine bW hK (by exact Y7) fun ajM=>?_
   clear hK K;refine bM ?_;have DL:fe (fun i=>rp d.size (oi i)) d.dh 0 (d.row.take (j+1))=dh.set at_ (over (dh.getD at_ []) (d.row.getD j (0,[])).2 kk):=by
    have e1:d.row[j]=(at_,(d.row.getD j (0,[])).2):=by
     have e0:d.row.getD j (0,[])=d.row[j]:=by rw[bR,bY hlt];rfl
     rw[←HAT.o,e0]
    rw[List.take_add_one,bY hlt,Option.toList_some,vA,ajk.o,e1,gT,qL hj,Nat.zero_add,J8.o]
   have F7:=aa DL;clear DL;go_wp2_with fail;go_roundw
   case rel=>exact⟨j+1,ai,by go_num,by rw[F7.o];exact Yj.o,iJ.o⟩
   case measure=>simp[intOf];omega
  have Bp: ¬(j:Int)<(d.row.length:Int):=ai;have hjm:j=d.row.length:=ai;have kf:d.row.take j=d.row:=by rw[hjm];exact List.take_length
  have x0':wr.cell? ⟨p,0,none⟩=some (.int .i64 d.size):=HD.o.own.cell 0;have x2':wr.cell? ⟨p,2,none⟩=some q.rv:=HD.o.own.cell 2;have m2':=HD.o.own.mark 2;have Bl:aG (wr.setCell ⟨p,2,none⟩ (.slice none 0 0)) p 331 #[.int .i64 d.size,.slice (some ⟨q.gd,0,none⟩) dh.length q.cd,.slice none 0 0,.map (some q.mb)]:=by simpa using HD.o.own.put 2 (.slice none 0 0)
  have x3':(wr.setCell ⟨p,2,none⟩ (.slice none 0 0)).cell? ⟨p,3,none⟩=some (.map (some q.mb)):=Bl.cell 3;have hmp:q.mb≠p:=fun e=>HD.o.newest.mE HD.o.own e.symm
  have Jb:=HD.o.newest.same (w':=wr.setCell ⟨p,2,none⟩ (.slice none 0 0)) (dJ wr ⟨p,2,none⟩ _ q.mb hmp);have X8:=aa Bl;have HM2:=aa Jb;have F8:=aa hmp;have ajd:=aa kf;clear Bl Jb hmp kf hjm;go_wp2_with (refine zX rfl _ 329 rfl 3 34 .i64 GW q.mb q.mn (od {d with dh:=dh} q) rfl HM2.o ?_;intro w4 xO hg4;have Zk:=aa xO;have uV:=aa hg4;clear xO hg4);go_ret;have jK:aI S w w4:=(((HT.o.mono (fun k _ ⟨a,ha,e⟩=>by rw[e];exact HH.o.bB.2.2.1 a ha)).put (p:=⟨p,2,none⟩) (.inl HH.o.bB.1) _).grown uV.o (fun k e=>.inl (by injection e with e;exact e▸HH.o.bB.2.1)));have ue:=X8.o.bz uV.o (fun e=>Dp);refine⟨rfl,⟨{q with rv:=.slice none 0 0,mn:=0},?_⟩,jK⟩;have:=HD.o.dry (w':=w4) (fun k hk h1 h2=>(uV.o.block k (by rw[G2];exact HD.o.lt k hk) (fun e=>h2 uu)).trans (dJ wr ⟨p,2,none⟩ _ k h1)) ue Zk.o (by have:=uV.o.size;rw[G2] at this;exact this);unfold Dk.settle;have e5:fe (fun i=>rp d.size (oi i)) d.dh 0 d.row=dh:=by rw[←ajk.o,ajd.o]
  rw[e5];exact this
theorem eJ.abQ{d:Dk}{q:Dg}(h:eJ S w p d q){a:Nat}(ha:a<d.dh.length){k:Nat}{t:TypeId}{cs:Array Value}(hA:aG w k t cs)(ht:t≠5): k≠q.ad a:=fun e=>by
 obtain⟨cur,h1,_⟩:=(h.each a ha).1;subst e;rw[aG,h1] at hA;injection hA with hA
 injection hA with _ e2
 exact ht e2.symm
theorem Xj(p bx i:Nat)(s:Nat)(w:World)(h0:w.cell? ⟨bx,0,none⟩=some (.pointer (some ⟨p,0,none⟩)))(h1:w.cell? ⟨p,0,none⟩=some (.int .i64 s)): Calls af 374 #[.int .i64 i,.pointer (some ⟨bx,0,none⟩)] w fun e w'=>e= .returned (.int .i64 s)∧w'=w:=by
 go_enter Tryz.func374,Tryz.ntmps374;go_wp2_with fail;go_ret;exact⟨rfl,rfl⟩
theorem aaO{d:Dk}(h:uW p d S w)(hrow:d.row.length≤1000000): Calls af 362 #[.pointer (some ⟨p,0,none⟩)] w fun e w'=>e= .returned (.int .i64 0)∧uW p (d.settle fun _=>d.size) (Gr S w w') w'∧aI S w w':=by
 have L:=mo p d;have L2:=mo p (d.settle fun _=>d.size);have hS:=fun k hk=>L.lt h k hk
 obtain⟨w1,a8⟩:=ae (w.alloc (.cells #[.pointer (some ⟨p,0,none⟩)] 216));have hb1:=aK a8;have ha1:aG w1 w.heap.size 216 #[.pointer (some ⟨p,0,none⟩)]:=by rw[←a8];exact aG.fresh w _ _
 obtain⟨q,hD⟩:=L.ak h hb1;have Ha: ∀ (W:World) (i:Nat),i<d.row.length→w1.heap.size≤W.heap.size→(∀ k,k<w1.heap.size→(∀ a,a<d.dh.length→k≠q.ad a)→W.heap[k]? =w1.heap[k]?)→Calls af 374 (#[.int .i64 i]++ #[.pointer (some ⟨w.heap.size,0,none⟩)]) W fun e W'=>e= .returned (.int .i64 ((fun _:Nat=>(d.size:Int)) i))∧Below W.heap.size W W':=fun W i _ _ hk=>by
  have k1:=hk w.heap.size ha1.lt (fun a ha=>hD.abQ ha ha1 aM);have k2:=hk p hD.own.lt (fun a ha=>hD.abQ ha hD.own aM);refine(Xj p w.heap.size i d.size W ?_ ?_).mono ?_
  ·exact(eQ (a:=⟨w.heap.size,0,none⟩) k1).trans (ha1.cell 0)
  ·exact(eQ (a:=⟨p,0,none⟩) k2).trans (hD.own.cell 0)
  rintro e W' ⟨rfl,rfl⟩;exact⟨rfl,ar _ _⟩
 have HST:=aa (Ir hD #[.pointer (some ⟨w.heap.size,0,none⟩)] (fun _=>(d.size:Int)) hrow Ha);have HX:=aa ha1;have HB:=aa hb1;have Rk:=aa hS;have R9:=aa L2;have sK:=aa a8;clear hD Ha hb1 hS L L2 h a8;have x0:w1.cell? ⟨w.heap.size,0,none⟩=some (.pointer (some ⟨p,0,none⟩)):=ha1.cell 0;clear ha1;go_enter Tryz.func362,Tryz.ntmps362;go_wp2_with fail;rw[sK.o];refine HST.o.mono ?_;rintro e w2 ⟨rfl,⟨q',hq⟩,hT⟩;have C9:(fun i:Nat=>rp d.size ((fun _:Nat=>(d.size:Int)) i))=fun _=>d.size:=by funext i;simp[rp]
 rw[C9] at hq;have jE:aI S w w2:=(aI.aW HB.o).trans hT;have zy:uW p (d.settle fun _=>d.size) (Gr S w w2) w2:=R9.o.Ac ⟨q',hq⟩ Rk.o jE.size;have HIN:=aa zy;have gI:=aa jE;clear hq hT jE zy HST;go_wp2_with fail;go_ret;exact⟨rfl,HIN.o,gI.o⟩
