import Derived.Test.YtemighjbfanenaaGreatDoorPk6
import Derived.WalkArith
import Derived.Test.YtemighjbfanenaaGreatDoorPk2
import Derived.WideKeyEntry
import Derived.Test.YtemighjbfanenaaGreatDoorPk1
import Derived.StillTailTactics
set_option linter.all false
set_option maxRecDepth 100000
set_option maxHeartbeats 16000000
namespace Go.Proofs.YtemighjbfanenaaGreatDoor
open RowKit
open Oc (Bs gj fJ aN rU eZ dm)
open Go.MapKept (Stamped)
open Bool renaming or_eq_false_iff→yn
open Go.ChangeMaps renaming setBlock→gw
open Go.Instr renaming mapUpdate→Hq,entryStore→tH,mapEntry→zU
open Go.MapKept renaming run_getObj_map→tG,run_setObj_map→tF
open Go.Oper renaming wp→fq
open Go.Result renaming andThen_ok→Hs,andThen→iZ
open Go.Sem renaming run_bind→Hu,run_pure→Hn
open Go.Value renaming ownBlock→gX
open Go.WalkArith renaming wf_i64→Hm
open Go.WideElems renaming findIdx_arr→QC,findIdx_born→QD
open Go.World renaming block_lt_of_cell?→bz,setRow→Ht,cell?_of_block→eF,size_setCell→Hr
open List renaming getElem_mem→qL,getElem?_eq_getElem→cI,length_take→gW,getElem?_eq_some_iff→nY,getElem?_append_left→mI,getElem?_append_right→qI,getD_eq_getElem?_getD→bQ
open Nat renaming min_eq_left→qH,not_lt_zero→kU,lt_of_lt_of_le→aP,le_refl→aL
open RowKit.Below renaming refl→aq,heap_setCell→cH
open Tryz renaming underlying3→fC,prog→af,underlying329→Hw
open _root_.Array renaming ext'→Hv,toList_modify→QB,getElem?_toList→eG,toList_push→Ho
theorem ahO{p:Prop}(h:p:=by
 go_simp;go_wp2_with fail;refine bW hK (by exact HS3.o) fun hHb=>?_
 clear hK K;refine cD 12 fun K hK=>?_
 refine fA _ (.tmp 35) (.tmp 37) 328 rfl 338 i0 (.agg #[.int .i64 0,.slice none 0 0]) 2 32 Tryz.underlying328 yZ hz0 hz1 hz2 rfl aM q.rv d.row.length (C8 d q) rfl iO.o ⟨w2.heap.size,0,none⟩ 1 [.int .i64 i,.slice (some ⟨gb,0,none⟩) b.length cb] rfl rfl (ik w2.drew _ _) aeO iM ag ?_;intro ga ca w4 hr4 hg4;have hk4: ∀ k,k<w2.heap.size→q.rv.ownBlock≠some k→w4.heap[k]? =w2.heap[k]?:=fun k hk hne=>(hg4.block k (aP hk yb.o.size) (fun e=>hne e.symm)).trans (yb.o.block k hk)
 have uh:aD w4 p 331 #[.int .i64 d.size,.slice (some ⟨q.gd,0,none⟩) d.dr.length q.cd,q.rv,.map (some q.mb)]:=(hk4 p om.o.own.lt (fun e=>om.o.row.rX e om.o.own (fun c e=>yt) rfl)).trans om.o.own;have hv4:aD w4 vb 338 #[.int .i64 i,.slice (some ⟨gb,0,none⟩) b.length cb]:=(hk4 vb Ui (fun e=>aeT)).trans jI.o;have xM:fG af 3 .i64 w4 q.mb q.mn (n9 d q):=om.o.newest.same (hk4 q.mb om.o.newest.lt (fun e=>afb));have JU:w4.cell? ⟨p,3,none⟩=some (.map (some q.mb))∧w4.cell? ⟨vb,0,none⟩=some (.int .i64 i)∧w4.cell? ⟨vb,1,none⟩=some (.slice (some ⟨gb,0,none⟩) b.length cb):=⟨uh.cell 3,hv4.cell 0,hv4.cell 1⟩;have z5:w4.cell? ⟨p,2,none⟩=some q.rv:=uh.cell 2;have m5:=uh.mark 2;have hpv:p≠vb:=fun e=>by have:=jd.o p om.o.bt.1;have:=HGW.o;omega
 have Ia:aD (w4.setCell ⟨p,2,none⟩ (.slice (some ⟨ga,0,none⟩) (d.row.length+1) ca)) p 331 #[.int .i64 d.size,.slice (some ⟨q.gd,0,none⟩) d.dr.length q.cd,.slice (some ⟨ga,0,none⟩) (d.row.length+1) ca,.map (some q.mb)]:=ae3;have Px:=hv4.other (p:=⟨p,2,none⟩) (fun e=>hpv e.symm) (.slice (some ⟨ga,0,none⟩) (d.row.length+1) ca);have hS5:(w4.setCell ⟨p,2,none⟩ (.slice (some ⟨ga,0,none⟩) (d.row.length+1) ca)).cell? ⟨p,3,none⟩=some (.map (some q.mb))∧(w4.setCell ⟨p,2,none⟩ (.slice (some ⟨ga,0,none⟩) (d.row.length+1) ca)).cell? ⟨vb,0,none⟩=some (.int .i64 i)∧(w4.setCell ⟨p,2,none⟩ (.slice (some ⟨ga,0,none⟩) (d.row.length+1) ca)).cell? ⟨vb,1,none⟩=some (.slice (some ⟨gb,0,none⟩) b.length cb):=⟨Ia.cell 3,Px.cell 0,Px.cell 1⟩;have hmp:q.mb≠p:=fun e=>xM.mr uh e.symm
 have rD:=xM.same (w':=w4.setCell ⟨p,2,none⟩ (.slice (some ⟨ga,0,none⟩) (d.row.length+1) ca)) (cH w4 ⟨p,2,none⟩ _ q.mb hmp);have hpa:p≠ga:=hr4.rX rfl uh (fun c e=>yt);have sf:=hr4.put (q:=⟨p,2,none⟩) (fun g e=>(show ga=g from LL)▸hpa) (.slice (some ⟨ga,0,none⟩) (d.row.length+1) ca);have ah1:=hg4.size;have rF:=aa sf;have uZ:=aa hg4;have HK4:=aa hk4;have Dx:=aa Ia;have HV5:=aa Px;have CS:=aa rD;have Zd:=aa hS5;have GG:=aa hmp;have HZ4:=aa ah1;clear hr4 hg4 hk4 uh hv4 xM Ia Px hS5 hmp rD sf hpa hpv ah1;refine bW hK (by exact JU) fun aoC=>?_
 clear hK K;refine uw 15 16 ?_;refine cD 17 fun K hK=>?_
 go_simp;go_wp2_with fail;refine bW hK (by exact Zd.o) fun aoA=>?_
 clear hK K;refine cD 18 fun K hK=>?_
 obtain⟨v0,st,w6,adN,jG,hz6,hst⟩:=CS.o.entry fC Hw (fun u=>A0 u) (show q.mn<maxLen by have:=om.o.X1;unfold maxLen;omega) (i:=(i:Int)) HWF.o;have hS6:w6.cell? ⟨p,3,none⟩=some (.map (some q.mb))∧w6.cell? ⟨vb,0,none⟩=some (.int .i64 i)∧w6.cell? ⟨vb,1,none⟩=some (.slice (some ⟨gb,0,none⟩) b.length cb):=by
  have zz:=Dx.o.bo jG (fun e=>DS);have hv6:=HV5.o.bo jG (fun e=>T8);exact⟨zz.cell 3,hv6.cell 0,hv6.cell 1⟩
 have GI:=aa jG;have HZ6:=aa hz6;have HST:=aa hst;clear jG hz6 hst;refine IF (.tmp 30) (.tmp 31) 329 rfl rfl rfl adN ?_;clear adN;refine bW hK (by exact hS6) fun aoz=>?_
 clear hK K;refine ty 19 ?_;refine cD 20 fun K hK=>?_
 obtain⟨w7,adM,hm7,Xs,hz7⟩:=HST.o w6 (.slice (some ⟨gb,0,none⟩) b.length cb) rfl;have hS7:w7.cell? ⟨p,3,none⟩=some (.map (some q.mb))∧w7.cell? ⟨vb,0,none⟩=some (.int .i64 i)∧w7.cell? ⟨vb,1,none⟩=some (.slice (some ⟨gb,0,none⟩) b.length cb):=by
  have hp7:=(Dx.o.bo GI.o (fun e=>DS)).bo Xs (fun e=>DS);have hv7:=(HV5.o.bo GI.o (fun e=>T8)).bo Xs (fun e=>T8);exact⟨hp7.cell 3,hv7.cell 0,hv7.cell 1⟩
 have HM7:=aa hm7;have HG7:=aa Xs;have HZ7:=aa hz7;clear hm7 Xs hz7;refine CW (.tmp 30) (.tmp 44) (.tmp 40) 329 rfl rfl rfl rfl adM ?_;clear adM;refine bW hK (by exact hS7) fun aoy=>?_
 clear hK K;refine bF ?_;go_wp2_with fail;go_ret;have hT:aG S w w7:=((((((aG.aU ag7.o).ai yb.o).grown uZ.o (fun k e=>.inl (om.o.row.block k e))).put (p:=⟨p,2,none⟩) (.inl om.o.bt.1) _).grown GI.o (fun k e=>.inl U4)).grown HG7.o (fun k e=>.inl U4));have hz7:vb+2≤w7.heap.size:=by
  have a1:=HZ7.o;have a2:=HZ6.o;have a3:=uZ.o.size;have a4:=yN.o;simp at a2 a3;omega
 have hgv:=HGV.o;have hgw:=HGW.o;have amb:=GH.o;have XI: ∀ k,S k→k<w.heap.size:=jd.o;have hk7: ∀ k,k<w2.heap.size→k≠p→k≠q.mb→q.rv.ownBlock≠some k→w7.heap[k]? =w2.heap[k]?:=fun k hk h1 h2 h3=>by
  have z4:=uZ.o.size;have z6:=HZ6.o;have hv:=yN.o;simp at z4 z6;have k4:=HK4.o k hk h3;have k5:=cH w4 ⟨p,2,none⟩ (.slice (some ⟨ga,0,none⟩) (d.row.length+1) ca) k h1;have k6:=GI.o.block k (by rw[Hr];omega) (fun e=>UD);have k7:=HG7.o.block k ag (fun e=>UD);exact k7.trans (k6.trans (k5.trans k4))
 have Dn:q.mb≠ga:=ae9;have hz6:=HZ6.o;have amc:=(dP rF.o.own (g:=ga) rfl).1;have hr7:=rF.o.Pq (w':=w7) ((HG7.o.block ga ag (fun e=>UP)).trans (GI.o.block ga amc (fun e=>UP)));have hp7:=(Dx.o.bo GI.o (fun e=>DS)).bo HG7.o (fun e=>DS);have hm7:=HM7.o;have hcb:=HCB.o;have Pz:=HLB.o;rw[Pz] at hm7 hcb hr7;refine⟨rfl,om.o.write hi Pz hcb ?_ (fun hs=>by have:=XI gb hs;omega) (.inr ⟨amb,ag⟩) (fun k hs=>hk7 k (om.o.lt k hs)) hp7 (hr7.mono fun k hk hk3=>?_) hm7 (fun k hk=>.inl hk) (fun k hk=>?_),hT⟩
 ·refine anm.o.same (hk7 gb Ui (fun e=>?_) (fun e=>?_) (fun e=>?_))
  ·have:=XI p om.o.bt.1;omega
  ·have:=XI q.mb om.o.bt.2.1;omega
  have:=XI gb (om.o.row.block gb e);omega
 ·rcases hk with hk|hk
  ·exact .inl hk
  refine .inr ⟨?_,hk3⟩;rw[hk];have:=yN.o;simp;omega
 rcases hk with hk|hk
 ·have:=XI k hk;omega
 exact hk.2):p:=h
theorem adv{p:Prop}(h:p:=by
 go_enter Tryz.func360,Tryz.ntmps360;go_wp2_with fail;refine ah HN.o ?_;go_wp2_with (refine yQ rfl (.tmp 19) (.tmp 20) 329 rfl 3 34 .i64 fC Hw (.slice none 0 0) (A0 w) q.mb q.mn (n9 d q) rfl HM.o (i:Int) rfl HW.o ?_;rw[HV.o]);refine HC.o.mono ?_;rintro e w1 ⟨A,c,he,h1,h2,_,_,h3⟩;rw[HL.o] at he;subst he;have hf:RdD (d.look i) 0 w (.returned (.tuple #[.slice A d.size c,.int .i64 0])) w1:=⟨A,c,by rw[HL.o],h1,h2,h3⟩;have HF:=aa hf;clear h1 h2 h3 hf HC;go_wp2_with fail;go_ret2;exact HF.o):p:=h
theorem acS{p:Prop}(h:p:=by
 clear h hb;go_enter Tryz.func122,Tryz.ntmps122;go_wp2_with fail;refine ah HN.o ?_;go_wp2_with fail;go_ret;exact⟨rfl,rfl⟩):p:=h
theorem yt{p:Prop}(h:p:=by injection e with _ e2;revert e2;decide):p:=h
theorem DS{p:Prop}(h:p:=by injection e with e;exact GG.o e):p:=h
theorem T8{p:Prop}(h:p:=by injection e with e;exact CS.o.mr HV5.o e.symm):p:=h
theorem afb{p:Prop}(h:p:=by obtain⟨es,c,hb⟩:=om.o.newest.obj;exact om.o.row.rX e hb (fun c e=>by injection e) rfl):p:=h
theorem rO{p:Prop}(h:p:=by rw[Qa.o];exact akR.o):p:=h
theorem U4{p:Prop}(h:p:=by injection e with e;exact e▸om.o.bt.2.1):p:=h
theorem ae9{p:Prop}(h:p:=by obtain⟨es,cc,hb⟩:=CS.o.obj;exact rF.o.rX rfl hb (fun c e=>by injection e)):p:=h
theorem UP{p:Prop}(h:p:=by injection e with e;exact Dn e.symm):p:=h
theorem ae3{p:Prop}(h:p:=by simpa using uh.put 2 (.slice (some ⟨ga,0,none⟩) (d.row.length+1) ca)):p:=h
theorem UD{p:Prop}(h:p:=by injection e with e;exact h2 e):p:=h
theorem LY{p:Prop}(h:p:=by rw[bQ,cI hi];exact qL hi):p:=h
theorem aeT{p:Prop}(h:p:=by have:=jd.o vb (om.o.row.block vb e);have:=HGW.o;omega):p:=h
theorem aeO{p:Prop}(h:p:=by intro u hu;simp at hu;rcases hu with rfl|rfl <;>rfl):p:=h
theorem Ui{p:Prop}(h:p:=by have:=yN.o;omega):p:=h
theorem LL{p:Prop}(h:p:=by simpa[gX] using e):p:=h
section
namespace En
def RdD(bs:By)(er:Int)(w:World)(e:Ending)(w':World): Prop:=
 ∃ A c,e= .returned (.tuple #[.slice A bs.length c,.int .i64 er])∧(bs≠ []→∃ g,A=some ⟨g,0,none⟩∧w.heap.size≤g∧eC w' 5 g bs)∧bs.length≤c∧Below w.heap.size w w'
theorem lW: ∀ {l:List (Nat × By)} {i j:Nat},fL l i=some j→j<l.length∧gP l i=some (l.getD j (0,[])).2
 | [],_,_,h=>by simp[fL] at h
 | x::r,i,j,h=>by
  rw[fL] at h;rw[gP];cases hr:fL r i with
  | some k=>
   rw[hr] at h;injection h with h
   subst h;obtain⟨h1,h2⟩:=lW hr;rw[h2];exact⟨fH,dA⟩
  | none=>
   rw[hr] at h;have h2:gP r i=none:=r8 hr;rw[h2];simp only at h;split at h
   ·injection h with h;subst h
    rename_i hx;exact⟨dA,by simp[hx]⟩
   cases h
where
 r8: ∀ {l:List (Nat × By)} {i:Nat},fL l i=none→gP l i=none
 | [],_,_=>rfl
 | x::r,i,h=>by
  rw[fL] at h;rw[gP];cases hr:fL r i with
  | some k=>rw[hr] at h;cases h
  | none=>
   rw[hr] at h;rw[r8 hr];simp only at h ⊢;split at h
   ·cases h
   rename_i hx;simp[hx]
variable{i p:Nat}{S:Nat→Prop}{w:World}
theorem Eb{l:List (Nat × By)}(h:fL l i=none): gP l i=none:=lW.r8 h
theorem vP{d:Dk}(h:d.Ok)(hi:i<d.dr.length): (d.look i).length=d.size:=by
 unfold Dk.look;cases hr:fL d.row i with
 | some j=>
  obtain⟨h1,h2⟩:=lW hr;rw[h2];exact(h.aK (d.row.getD j (0,[])) (by rw[bQ,cI h1];exact qL h1)).2
 | none=>
  rw[Eb hr];exact h.each (d.dr.getD i []) LY
theorem A0(w:World): (zeroValue 34).run af w= .ok (.slice none 0 0) w:=aW
theorem YG{d:Dk}{q:ES}(h:eY S w p d q)(at_:Int)(hb:d.bad at_=true): Calls af 360 #[.pointer (some ⟨p,0,none⟩),.int .i64 at_] w (RdD [] 50 w):=by
 have HN:=aa (Jc h at_ hb);clear h hb;go_enter Tryz.func360,Tryz.ntmps360;go_wp2_with fail;refine ah HN.o ?_;go_wp2_with fail;go_ret2;exact⟨none,0,rfl,fun h=>absurd rfl h,aL _,aq _ _⟩
theorem YF{d:Dk}{q:ES}(h:eY S w p d q)(i j:Nat)(hi:i<d.dr.length)(hj:fL d.row i=some j): Calls af 360 #[.pointer (some ⟨p,0,none⟩),.int .i64 i] w (RdD (d.look i) 0 w):=by
 have hb:d.bad i=false:=by simp[Dk.bad];omega
 have HN:=aa (zt h i hb);have x3:=h.own.cl 3;have hv:n9 d q i=some (.slice (some ⟨q.wg j,0,none⟩) d.size (q.wc j)):=by simp[n9,hj]
 obtain⟨S9,hlk⟩:=lW hj;have JH:d.look i=(d.row.getD j (0,[])).2:=by unfold Dk.look;rw[hlk];rfl
 have MY:=vP h.ok hi;have hC:=Oc.yl (d.look i) (some ⟨q.wg j,0,none⟩) (q.wc j) w (by rw[JH];exact(h.aK j S9).1.bs) (dm _ _) (by rw[MY];have:=h.ok.size;omega);rw[MY] at hC;have HC:=aa hC;have HM:=aa h.newest;have HV:=aa hv;have HL:=aa MY;have yZ:(i:Int)<9223372036854775808:=by have:=h.ok.some;omega
 have yU:(Lit.int .i64 (i:Int)).wf=true:=Hm ⟨ag,ag⟩;have HW:=aa yU;clear h hb hv hC MY JH hlk S9 yU;exact adv
theorem D3{e:TypeId}{n g cap:Nat}{c:Nat→List Value}(h:aO S w e 1 (.slice (some ⟨g,0,none⟩) n cap) n c)(hc: ∀ i,(c i).length=1)(hi:i<n){v:Value}(hv:c i= [v]): w.cell? ⟨g,i,none⟩=some v:=by
 have:=h.range hc hi 0 v (by rw[hv];rfl);simpa using this
theorem YE{d:Dk}{q:ES}(h:eY S w p d q)(i:Nat)(hi:i<d.dr.length)(hj:fL d.row i=none): Calls af 360 #[.pointer (some ⟨p,0,none⟩),.int .i64 i] w (RdD (d.look i) 0 w):=by
 have hb:d.bad i=false:=by simp[Dk.bad];omega
 have HN:=aa (zt h i hb);have x3:=h.own.cl 3;have x1:=h.own.cl 1;have y0:w.cell? ⟨q.gd,i,none⟩=some (.slice (some ⟨q.ad i,0,none⟩) d.size (q.cp i)):=D3 h.dr (fun _=>rfl) hi rfl;have hv:n9 d q i=none:=by simp[n9,hj]
 have JH:d.look i=d.dr.getD i []:=by unfold Dk.look;rw[Eb hj];rfl
 have MY:=vP h.ok hi;have hC:=Oc.yl (d.look i) (some ⟨q.ad i,0,none⟩) (q.cp i) w (by rw[JH];exact(h.each i hi).1.bs) (dm _ _) (by rw[MY];have:=h.ok.size;omega);rw[MY] at hC;have HC:=aa hC;have HM:=aa h.newest;have HV:=aa hv;have HL:=aa MY;have yZ:(i:Int)<(d.dr.length:Int):=ag;have kC:(0:Int)≤(i:Int):=ag;have yU:(Lit.int .i64 (i:Int)).wf=true:=Hm ⟨ag,by have:=h.ok.some;omega⟩;have HW:=aa yU;clear h hb hv hC MY JH yU;exact adv
theorem abI{d:Dk}(h:ve p d S w)(at_:Int): Calls af 360 #[.pointer (some ⟨p,0,none⟩),.int .i64 at_] w (RdD (d.read at_).2 (d.read at_).1 w):=by
 obtain⟨q,h⟩:=h;cases hb:d.bad at_ with
 | true=>rw[Dk.read,if_pos hb];exact YG h at_ hb
 | false=>
  rw[Dk.read,if_neg (by rw[hb];simp)];obtain⟨i,rfl⟩: ∃ i:Nat,at_=i:=⟨at_.toNat,DT⟩;have hi:i<d.dr.length:=DT;cases hj:fL d.row i with
  | some j=>exact YF h i j hi hj
  | none=>exact YE h i hi hj
end En
end
section
open Go.RowKit Go.Maps
variable{P:Program}{w:World}
theorem oV(w:World){b:Nat}{es:Array MapEntry}{c:Nat}{o':Obj}(h:w.heap[b]? =some (.map es c)): (gw w b o').heap[b]? =some o':=ChangeMaps.heap_setBlock_same h o'
theorem fG.entry{k e t:TypeId}{q:IntKind}{b n:Nat}{φ:Int→Option Value}(h:fG P k q w b n φ)(hk:P.underlying k=some (.int q))(ht:P.underlying t=some (.map k e)){z:Value}(hz: ∀ u:World,(zeroValue e).run P u= .ok z u)(hn:n<maxLen){i:Int}(hi:(Lit.int q i).wf=true):
  ∃ (v0:Value) (st:Int) (w1:World),(zU t (.map (some b)) (.int q i)).run P w= .ok (.tuple #[v0,.int .i64 st]) w1∧w.grownBy w1 (some b)∧w1.heap.size=w.heap.size∧
   ∀ (w2:World) (v:Value),w2.heap[b]? =w1.heap[b]?→∃ w3,(tH t (.map (some b)) (.int .i64 st) v).run P w2= .ok () w3∧fG P k q w3 b (if(φ i).isSome then n else n+1) (CZ φ i (some v))∧w2.grownBy w3 (some b)∧w3.heap.size=w2.heap.size:=by
 have hput:=fun v=>h.put hk ht hn hi (v:=v)
 obtain⟨D,⟨es,ak,hb,F,hs,_⟩,_⟩:=h;have K:=int_keyed hk;have hkey:=keyOf_int_mk hk hi;obtain⟨s1,s2,_⟩:=F.stamped;have hgr: ∀ (W:World) (es0:Array MapEntry) (c0:Nat) (o':Obj),W.heap[b]? =some (.map es0 c0)→W.grownBy (gw W b o') (some b)∧(gw W b o').heap.size=W.heap.size:=fun W es0 c0 o' hW=>
  ⟨⟨rfl,rfl,rfl,by simp[gw],fun j _ hj=>ChangeMaps.heap_setBlock_other hW _ (fun e=>hj mj)⟩,by simp[gw]⟩
 have lF: ∀ (st:Nat) (Nk:Array MapEntry) (c1:Nat),(∀ (W:World) (v:Value),W.heap[b]? =some (.map Nk c1)→∃ es' c',(tH t (.map (some b)) (.int .i64 (st:Int)) v).run P W= .ok () (gw W b (.map es' c'))∧(Hq t (.map (some b)) (.int q i) v).run P w= .ok () (gw w b (.map es' c')))→
   ∀ (w2:World) (v:Value),w2.heap[b]? =(gw w b (.map Nk c1)).heap[b]?→∃ w3,(tH t (.map (some b)) (.int .i64 (st:Int)) v).run P w2= .ok () w3∧fG P k q w3 b (if(φ i).isSome then n else n+1) (CZ φ i (some v))∧w2.grownBy w3 (some b)∧w3.heap.size=w2.heap.size:=by
  intro st Nk c1 hst w2 v hw2;have Bt:w2.heap[b]? =some (.map Nk c1):=hw2.trans (oV w hb);obtain⟨es',c',r1,r2⟩:=hst w2 v Bt;obtain⟨w',u1,u2,_⟩:=hput v;rw[r2] at u1;injection u1 with _ u1
  subst u1;obtain⟨g1,g2⟩:=hgr w2 _ _ (.map es' c') Bt;exact⟨_,r1,u2.same ((oV w2 Bt).trans (oV w hb).symm),g1,g2⟩
 rcases K.find w hkey es.toList F.keys with⟨h1,h2⟩|⟨j,e0,h1,h2,h3⟩
 ·refine⟨z,(ak:Int),gw w b (.map (es.push ⟨.int q i,z,ak⟩) (ak+1)),?_,(hgr w _ _ _ hb).1,(hgr w _ _ _ hb).2,lF ak _ _ fun W v hW=>⟨es.push ⟨.int q i,v,ak⟩,ak+1,?_,?_⟩⟩
  ·simp[zU,run_underlying ht,tG hb,K.check w false hkey,h1,hz,tF _ hb,iZ,gw,goInt]
  ·have M3:(es.push ⟨.int q i,z,ak⟩).findIdx? (fun e=>((e.born:Nat):Int)==((ak:Nat):Int))=some es.size:=by
    rw[QC];refine QD (j:=es.size) (e0:=⟨.int q i,z,ak⟩) ?_ dA;rw[Ho,List.map_append];refine List.nodup_append.2 ⟨s2,dA,fun a ha c hc e1=>?_⟩;obtain⟨x,hx,rfl⟩:=List.mem_map.1 ha;have:=s1 x hx;simp at hc;omega
   have afI:(es.push ⟨.int q i,z,ak⟩).modify es.size (fun e=>{e with val:=v})=es.push ⟨.int q i,v,ak⟩:=by
    apply Hv;rw[QB,Ho,Ho,←Array.length_toList,WideElems.modify_last]
   simp[tH,tG hW,asInt,asIntOf,M3,afI,tF _ hW,iZ,gw]
  simp[Hq,run_underlying ht,tG hb,K.check w false hkey,h1,tF _ hb,iZ,gw]
 ·have hj:es[j]? =some e0:=by simpa using h2
  have Gf: ∀ f:MapEntry→MapEntry,(es.modify j f).toList=es.toList.set j (f e0):=fun f=>by
   rw[QB];exact Go.ChangeMaps.modify_eq_set _ _ _ _ h2
  have aim:es.modify j (fun e=>{e with key:=.int q i})=es:=by
   apply Hv;rw[Gf];have:({e0 with key:=.int q i}:MapEntry)=e0:=by rw[←h3]
   rw[this];exact WideElems.set_self _ _ _ h2
  refine⟨e0.val,(e0.born:Int),gw w b (.map es ak),?_,(hgr w _ _ _ hb).1,(hgr w _ _ _ hb).2,lF e0.born _ _ fun W v hW=>⟨es.modify j (fun e'=>{e' with key:=.int q i,val:=v}),ak,?_,?_⟩⟩
  ·simp[zU,run_underlying ht,tG hb,K.check w false hkey,h1,hj,h3,K.stays w hkey,aim,tF _ hb,iZ,gw,goInt]
  ·have M3:es.findIdx? (fun e=>((e.born:Nat):Int)==((e0.born:Nat):Int))=some j:=by
    rw[QC];exact QD s2 h2
   have afI:es.modify j (fun e=>{e with val:=v})=es.modify j (fun e'=>{e' with key:=.int q i,val:=v}):=by
    apply Hv;rw[Gf,Gf,←h3]
   simp[tH,tG hW,asInt,asIntOf,M3,afI,tF _ hW,iZ,gw]
  simp[Hq,run_underlying ht,tG hb,K.check w false hkey,h1,hj,h3,K.stays w hkey,tF _ hb,iZ,gw]
theorem IF{w1:World} {o:Oper}{a:Act}{K:Act→World→Prop}{Q:Exit→Act→World→Prop}(m x:Operand)(t:TypeId)(hop:o.op=Op.mapEntry t m x){mv xv v:Value}(hm:a.eval m=mv)(hx:a.eval x=xv)
  (hrun:(zU t mv xv).run P w= .ok v w1) (hK:K (a.put o.dst v) w1):fq P o a w K Q:=by
 unfold fq execOp;simp only[hop,Hu,Hn,Hs,hm,hx,hrun];exact hK
theorem CW{w1:World} {o:Oper}{a:Act}{K:Act→World→Prop}{Q:Exit→Act→World→Prop}(m x y:Operand)(t:TypeId)(hop:o.op=Op.entryStore t m x y){mv xv yv:Value}(hm:a.eval m=mv)(hx:a.eval x=xv)(hy:a.eval y=yv)
  (hrun:(tH t mv xv yv).run P w= .ok () w1) (hK:K (a.put o.dst undef) w1):fq P o a w K Q:=by
 unfold fq execOp;simp only[hop,Hu,Hn,Hs,hm,hx,hy,hrun];exact hK
end
section
namespace En
variable{p n g:Nat}{S:Nat→Prop}{w:World}
theorem R7{d:Dk}{q:ES}(h:eY S w p d q)(at_:Int)(hb:d.bad at_=true)(v:Value): Calls af 122 #[.pointer (some ⟨p,0,none⟩),.int .i64 at_,v] w fun e w'=>e= .returned (.int .i64 50)∧w'=w:=by
 have HN:=aa (Jc h at_ hb);exact acS
theorem NA{d:Dk}{q:ES}(h:eY S w p d q)(at_:Int)(hb:d.bad at_=false)(A:Option Addr)(n c:Nat)(hn:n≠d.size): Calls af 122 #[.pointer (some ⟨p,0,none⟩),.int .i64 at_,.slice A n c] w fun e w'=>e= .returned (.int .i64 3)∧w'=w:=by
 have HN:=aa (zt h at_ hb);have x0:=h.own.cl 0;have hq:((n:Int)==(d.size:Int))=false:=fH;have CL:(n==d.size)=false:=fH;exact acS
theorem Ln: (af.info? 338).map (fun i=>(i.zero,i.size,i.bytes))=some (some (.agg #[.int .i64 0,.slice none 0 0]),2,32):=aW
theorem _root_.Go.Proofs.YtemighjbfanenaaGreatDoor.aO.rX{e:TypeId}{sz k:Nat} {v:Value}{c:Nat→List Value}(h:aO S w e sz v n c)(hg:v.ownBlock=some g){o:Obj}(ho:w.heap[k]? =some o)(hne: ∀ cur,o≠ .cells cur e (0,0)): k≠g:=by
 rintro rfl;rcases h.own.2 with⟨hv,_⟩|⟨g',cap',cur,hv,_,hh,_⟩
 ·subst hv;simp[gX] at hg
 subst hv;have e1:g'=k:=uB;subst e1;rw[hh] at ho;injection ho with ho
 exact hne cur ho.symm
theorem _root_.Go.Proofs.YtemighjbfanenaaGreatDoor.fG.obj{P:Program}{k:TypeId}{q:IntKind}{b:Nat} {φ:Int→Option Value}(h:fG P k q w b n φ): ∃ es c,w.heap[b]? =some (.map es c):=by obtain⟨D,⟨es,ak,hb,_⟩,_⟩:=h;exact⟨es,ak,hb⟩
theorem _root_.Go.Proofs.YtemighjbfanenaaGreatDoor.fG.mr{P:Program}{k t:TypeId}{q:IntKind}{b:Nat} {φ:Int→Option Value}{cs:Array Value}(h:fG P k q w b n φ)(ha:aD w g t cs): g≠b:=by
 rintro rfl;obtain⟨es,c,hb⟩:=h.obj;rw[aD,hb] at ha;injection ha with ha
 cases ha
theorem _root_.Go.Proofs.YtemighjbfanenaaGreatDoor.aO.Pq{w':World} {e:TypeId}{sz cap:Nat} {c:Nat→List Value}(h:aO S w e sz (.slice (some ⟨g,0,none⟩) n cap) n c)(hk:w'.heap[g]? =w.heap[g]?): aO S w' e sz (.slice (some ⟨g,0,none⟩) n cap) n c:=
 ⟨dY h.own fun g' hg=>by
  have:g=g':=uB;subst this;exact hk,h.block⟩
theorem rZ(i j:Nat)(b:By): ∀ l,fL (l++ [(j,b)]) i=if j=i then some l.length else fL l i
 | []=>by by_cases h:j=i <;>simp[fL,h]
 | x::r=>by
  rw[List.cons_append,fL,rZ i j b r];by_cases h:j=i
  ·rw[if_pos h,if_pos h];simp
  rw[if_neg h,if_neg h,fL]
theorem eY.write{T:Nat→Prop} {w':World} {i gb cb ga ca:Nat} {d:Dk}{q:ES}{b:By}(h:eY S w p d q)(hi:i<d.dr.length)(hl:b.length=d.size)(hcb:d.size≤cb)(hgb:eC w' 5 gb b)(alL: ¬S gb)(hgT:T gb)
  (hk: ∀ k,S k→k≠p→k≠q.mb→q.rv.ownBlock≠some k→w'.heap[k]? =w.heap[k]?)
  (hown:aD w' p 331 #[.int .i64 d.size,.slice (some ⟨q.gd,0,none⟩) d.dr.length q.cd,.slice (some ⟨ga,0,none⟩) (d.row.length+1) ca,.map (some q.mb)])
  (hrow:aO T w' 338 2 (.slice (some ⟨ga,0,none⟩) (d.row.length+1) ca) (d.row.length+1) (cO (C8 d q) d.row.length [.int .i64 i,.slice (some ⟨gb,0,none⟩) d.size cb]))
  (hm:fG af 3 .i64 w' q.mb (if(n9 d q i).isSome then q.mn else q.mn+1) (CZ (n9 d q) i (some (.slice (some ⟨gb,0,none⟩) d.size cb)))) (pY: ∀ k,S k→T k) (hT: ∀ k,T k→k<w'.heap.size) :
  ve p {d with row:=d.row++ [(i,b)]} T w':=by
 have hlen:(d.row++ [(i,b)]).length=d.row.length+1:=dA;have adS: ∀ j,j<d.row.length→(d.row++ [(i,b)]).getD j (0,[])=d.row.getD j (0,[]):=fun j hj=>by rw[bQ,bQ,mI hj]
 have adQ:(d.row++ [(i,b)]).getD d.row.length (0,[])=(i,b):=by rw[bQ,qI (aL _)];simp
 have Z9:cO (C8 d q) d.row.length [.int .i64 i,.slice (some ⟨gb,0,none⟩) d.size cb]=fun j=>if j=d.row.length then [.int .i64 i,.slice (some ⟨gb,0,none⟩) d.size cb] else C8 d q j:=rfl
 have obj: ∀ {k:Nat} {o:Obj},w.heap[k]? =some o→(∀ cur,o≠ .cells cur 338 (0,0))→q.rv.ownBlock≠some k:=fun ho hne e=>h.row.rX e ho hne rfl
 have hap:=h.apart;have aht: ∀ {k:Nat} {l:By},eC w 5 k l→k≠p∧k≠q.mb∧q.rv.ownBlock≠some k:=fun {k l} hb=>by
  obtain⟨cur,h1,_⟩:=hb;refine⟨?_,?_,obj h1 (fun c e=>yt)⟩
  ·rintro rfl;have:=h.own;rw[aD] at this;rw[this] at h1;injection h1 with h1
   injection h1 with _ h2
   revert h2;decide
  rintro rfl;obtain⟨D,⟨es,ak,hb,_⟩,_⟩:=h.newest;rw[hb] at h1;injection h1 with h1
  cases h1
 have ama:w'.heap[q.gd]? =w.heap[q.gd]?:=by
  have hS:S q.gd:=h.dr.block q.gd rfl;rcases h.dr.own.2 with⟨hv,_⟩|⟨g',cap',cur,hv,_,hh,_⟩
  ·cases hv
  injection hv with e1 _ _
  injection e1 with e1
  injection e1 with e1
  subst e1;refine hk _ hS ?_ ?_ (obj hh (fun c e=>yt))
  ·intro e;have:=h.own;rw[aD,←e] at this;rw[this] at hh;injection hh with hh
   injection hh with _ h2
   revert h2;decide
  intro e;obtain⟨D,⟨es,ak,hb,_⟩,_⟩:=h.newest;rw[←e] at hb;rw[hb] at hh;injection hh with hh
  cases hh
 refine⟨{q with rv:=.slice (some ⟨ga,0,none⟩) (d.row.length+1) ca,mn:=if(n9 d q i).isSome then q.mn else q.mn+1,wg:=cO q.wg d.row.length gb,wc:=cO q.wc d.row.length cb},hown,(h.dr.Pq ama).mono fun g hg _=>pY g hg,fun j hj=>?_,?_,fun j hj=>?_,?_,⟨h.ok.size,h.ok.some,h.ok.each,fun x hx=>?_⟩,⟨pY _ h.bt.1,pY _ h.bt.2.1,fun j hj=>pY _ (h.bt.2.2.1 j hj),fun j hj=>?_⟩,⟨hap.1,fun a j ha hj=>?_⟩,hT,?_⟩
 ·obtain⟨n1,n2,n3⟩:=aht (h.each j hj).1;exact⟨(h.each j hj).1.same (hk _ (h.bt.2.2.1 j hj) n1 n2 n3),(h.each j hj).2⟩
 ·show aO T w' _ 2 _ (d.row++ [(i,b)]).length _
  rw[hlen];refine⟨?_,hrow.block⟩;have:=hrow.own;rw[iT (d:=C8 {d with row:=d.row++ [(i,b)]} {q with rv:=.slice (some ⟨ga,0,none⟩) (d.row.length+1) ca,mn:=if(n9 d q i).isSome then q.mn else q.mn+1,wg:=cO q.wg d.row.length gb,wc:=cO q.wc d.row.length cb}) (fun j hj=>?_)] at this
  ·exact this
  unfold C8;by_cases e:j=d.row.length
  ·subst e;rw[bJ,adQ];show _= [Value.int .i64 (i:Nat),Value.slice (some ⟨cO q.wg d.row.length gb d.row.length,0,none⟩) d.size (cO q.wc d.row.length cb d.row.length)]
   rw[bJ,bJ]
  rw[bj _ _ e,adS j ag];show _= [Value.int .i64 ((d.row.getD j (0,[])).1:Nat),Value.slice (some ⟨cO q.wg d.row.length gb j,0,none⟩) d.size (cO q.wc d.row.length cb j)]
  rw[bj _ _ e,bj _ _ e]
 ·have Ei:j<d.row.length+1:=by simpa using hj
  show eC w' _ (cO q.wg d.row.length gb j) ((d.row++ [(i,b)]).getD j (0,[])).2∧d.size≤cO q.wc d.row.length cb j
  by_cases e:j=d.row.length
  ·subst e;rw[bJ,bJ,adQ];exact⟨hgb,hcb⟩
  rw[bj _ _ e,bj _ _ e,adS j ag];obtain⟨n1,n2,n3⟩:=aht (h.aK j ag).1;exact⟨(h.aK j ag).1.same (hk _ (h.bt.2.2.2 j ag) n1 n2 n3),(h.aK j ag).2⟩
 ·have hφ:CZ (n9 d q) i (some (.slice (some ⟨gb,0,none⟩) d.size cb))=n9 {d with row:=d.row++ [(i,b)]} {q with rv:=.slice (some ⟨ga,0,none⟩) (d.row.length+1) ca,mn:=if(n9 d q i).isSome then q.mn else q.mn+1,wg:=cO q.wg d.row.length gb,wc:=cO q.wc d.row.length cb}:=by
   funext z;unfold CZ n9;by_cases ez:z=(i:Int)
   ·subst ez;rw[if_pos rfl,if_neg ag];show _=Option.map _ (fL (d.row++ [(i,b)]) _)
    rw[rZ,if_pos (show i=(i:Int).toNat from dA)];simp[bJ]
   rw[if_neg ez];by_cases z0:z<0
   ·rw[if_pos z0,if_pos z0]
   rw[if_neg z0,if_neg z0];show _=Option.map _ (fL (d.row++ [(i,b)]) _)
   rw[rZ,if_neg (show ¬i=z.toNat from ag)];cases hx:fL d.row z.toNat with
   | none=>rfl
   | some j=>
    obtain⟨h1,_⟩:=lW hx;simp[bj _ _ (show j≠d.row.length from ag)]
  rw[←hφ];exact hm
 ·rcases List.mem_append.1 hx with hx|hx
  ·exact h.ok.aK x hx
  obtain rfl:=List.mem_singleton.1 hx;exact⟨hi,hl⟩
 ·have Ei:j<d.row.length+1:=by simpa using hj
  show T (cO q.wg d.row.length gb j)
  by_cases e:j=d.row.length
  ·subst e;rw[bJ];exact hgT
  rw[bj _ _ e];exact pY _ (h.bt.2.2.2 j ag)
 ·have Ei:j<d.row.length+1:=by simpa using hj
  show q.ad a≠cO q.wg d.row.length gb j
  by_cases e:j=d.row.length
  ·subst e;rw[bJ];intro e2;exact alL (e2▸h.bt.2.2.1 a ha)
  rw[bj _ _ e];exact hap.2 a j ha ag
 ·show(if(n9 d q i).isSome then q.mn else q.mn+1)≤(d.row++ [(i,b)]).length
  have:=h.X1;rw[hlen];split <;>omega
def ajz(S:Nat→Prop)(p:Nat)(d:Dk)(w:World)(e:Ending)(w':World): Prop:=e= .returned (.int .i64 0)∧ve p d (Gr S w w') w'∧aG S w w'
theorem Yo{d:Dk}{q:ES}(h:eY S w p d q)(i:Nat)(hi:i<d.dr.length)(b:By)(hl:b.length=d.size)(A:Option Addr)(c:Nat)(hB:Bs w A b)(hA:rU A)(hrow:d.row.length<1000000):
  Calls af 122 #[.pointer (some ⟨p,0,none⟩),.int .i64 i,.slice A b.length c] w (ajz S p {d with row:=d.row++ [(i,b)]} w):=by
 obtain⟨i0,yZ,hz0,hz1,hz2⟩:=info_parts Ln;have hb:d.bad i=false:=by simp[Dk.bad];omega
 have HN:=aa (zt h i hb);have x0:w.cell? ⟨p,0,none⟩=some (.int .i64 b.length):=by rw[hl];exact h.own.cell 0
 have hne:b≠ []:=by rintro rfl;have:=h.ok.size;simp at hl;omega
 have HC:=aa (Oc.yl b A c w hB hA (by rw[hl];have:=h.ok.size;omega));have HH:=aa h;have jV:=aa hne;have HLB:=aa hl;have jd:=aa h.lt;have HWF:=aa (Hm (n:=(i:Int)) ⟨ag,by have:=h.ok.some;omega⟩);clear h hb hB hA hne hl;go_enter Tryz.func122,Tryz.ntmps122;go_wp2_with fail;refine ah HN.o ?_;go_wp2_with fail;refine HC.o.mono ?_;rintro e w1 ⟨B,cb,rfl,h1,h2,_,_,h3⟩;obtain⟨gb,rfl,hgb,hblk⟩:=h1 jV.o;have bu:=aa h3;have GH:=aa hgb;have Cs:=aa hblk;have HCB:=aa h2;clear h1 h2 h3 hgb hblk HC HN;go_wp2_with fail;obtain⟨vb,mN⟩:=ae w1.heap.size;obtain⟨w2,hw2⟩:=ae (w1.alloc (.cells #[.int .i64 i,.slice (some ⟨gb,0,none⟩) b.length cb] 338));have af1:=aJ hw2;have ha2:=aH hw2 mN;have ahS:w2.heap.size=vb+1:=by rw[←hw2,←mN];simp
 have xO:Below w.heap.size w w2:=ar bu.o af1;have Ng:eY S w2 p d q:=by
  have:=HH.o;have hz:=xO.size;have pX: ∀ k,S k→w2.heap[k]? =w.heap[k]?:=fun k hk=>xO.block k (this.lt k hk)
  exact⟨(pX p this.bt.1).trans this.own,this.dr.same fun g hg _=>pX g hg,fun i hi=>⟨(this.each i hi).1.same (pX _ (this.bt.2.2.1 i hi)),(this.each i hi).2⟩,this.row.same fun g hg _=>pX g hg,fun i hi=>⟨(this.aK i hi).1.same (pX _ (this.bt.2.2.2 i hi)),(this.aK i hi).2⟩,this.newest.same (pX _ this.bt.2.1),this.ok,this.bt,this.apart,fun k hk=>aP (this.lt k hk) hz,this.X1⟩
 have adT:eC w2 5 gb b:=Cs.o.same (af1.block gb Cs.o.lt);rw[hw2,mN];have XJ:w2.drew.cell? ⟨p,3,none⟩=some (.map (some q.mb))∧w2.drew.cell? ⟨vb,0,none⟩=some (.int .i64 i)∧w2.drew.cell? ⟨vb,1,none⟩=some (.slice (some ⟨gb,0,none⟩) b.length cb):=⟨Ng.own.cell 3,ha2.cell 0,ha2.cell 1⟩;have z2:w2.drew.cell? ⟨p,2,none⟩=some q.rv:=Ng.own.cell 2;have mg:Below w2.heap.size w2 (w2.drew.alloc (.cells #[.int .i64 i,.slice (some ⟨gb,0,none⟩) b.length cb] 338)):=aw (ay (aq _ _)) _;have aaQ:p<w2.heap.size:=Ng.own.lt;have Ti:(w2.drew.alloc (.cells #[.int .i64 i,.slice (some ⟨gb,0,none⟩) b.length cb] 338)).cell? ⟨p,3,none⟩=some (.map (some q.mb))∧(w2.drew.alloc (.cells #[.int .i64 i,.slice (some ⟨gb,0,none⟩) b.length cb] 338)).cell? ⟨vb,0,none⟩=some (.int .i64 i)∧(w2.drew.alloc (.cells #[.int .i64 i,.slice (some ⟨gb,0,none⟩) b.length cb] 338)).cell? ⟨vb,1,none⟩=some (.slice (some ⟨gb,0,none⟩) b.length cb):=⟨(mg.cell (p:=⟨p,3,none⟩) aaQ).trans XJ.1,(mg.cell (p:=⟨vb,0,none⟩) (show vb<w2.heap.size from ag)).trans XJ.2.1,(mg.cell (p:=⟨vb,1,none⟩) (show vb<w2.heap.size from ag)).trans XJ.2.2⟩;have z3:(w2.drew.alloc (.cells #[.int .i64 i,.slice (some ⟨gb,0,none⟩) b.length cb] 338)).cell? ⟨p,2,none⟩=some q.rv:=(mg.cell (p:=⟨p,2,none⟩) aaQ).trans z2;have z4:(w2.alloc (.cells #[.int .i64 i,.slice (some ⟨gb,0,none⟩) b.length cb] 338)).cell? ⟨p,2,none⟩=some q.rv:=z3;have hr3:aO S (w2.drew.alloc (.cells #[.int .i64 i,.slice (some ⟨gb,0,none⟩) b.length cb] 338)) 338 2 q.rv d.row.length (C8 d q):=Ng.row.keep mg;have HS2:=aa XJ;have HS3:=aa Ti;have om:=aa Ng;have ag7:=aa xO;have anm:=aa adT;have yN:=aa ahS;have iO:=aa hr3;have yb:=aa mg;have jI:=aa ha2;have HGV:=aa (show gb<vb by rw[←mN];exact Cs.o.lt);have HGW:=aa (show w.heap.size≤vb by rw[←mN];exact bu.o.size);clear XJ Ti Ng xO adT ahS ha2 af1 hr3 mg aaQ hw2 mN bu Cs HH;refine sY (S:=(fun w'=>w'.cell? ⟨p,3,none⟩=some (.map (some q.mb))∧w'.cell? ⟨vb,0,none⟩=some (.int .i64 i)∧w'.cell? ⟨vb,1,none⟩=some (.slice (some ⟨gb,0,none⟩) b.length cb))) (by exact HS2.o) fun hHeld=>?_
 refine nZ 0 1 2 3 4 5 6 7 ?_;refine kW 8 10 13 14 ?_;refine qc 9 11 (fun K hK=>?_) fun K hK=>?_
 ·go_simp;go_wp2_with fail;refine bW hK (by exact HS2.o) fun hHa=>?_
  clear hK K;refine cD 11 fun K hK=>?_
  exact ahO
 ·go_simp;go_wp2_with fail;refine bW hK (by exact HS3.o) fun hHa=>?_
  clear hK K;refine cD 9 fun K hK=>?_
  exact ahO
theorem Yp{d:Dk}(h:ve p d S w)(at_:Int)(b:By)(A:Option Addr)(c:Nat)(hB:Bs w A b)(hA:rU A)(hrow:d.row.length<1000000):
  Calls af 122 #[.pointer (some ⟨p,0,none⟩),.int .i64 at_,.slice A b.length c] w fun e w'=>e= .returned (.int .i64 (d.write at_ b).1)∧ve p (d.write at_ b).2 (Gr S w w') w'∧aG S w w':=by
 have L:=ma p d;have hS:=fun k hk=>L.lt h k hk
 have h0:=h;obtain⟨q,h⟩:=h;have same: ∀ e w',e=Ending.returned (.int .i64 50)∧w'=w→e= .returned (.int .i64 50)∧ve p d (Gr S w w') w'∧aG S w w':=by rintro e w' ⟨rfl,rfl⟩;exact⟨rfl,L.Ag h0 hS (aL _),aG.refl _ _⟩
 cases hb:d.bad at_ with
 | true=>rw[Dk.write,if_pos hb];exact(R7 h at_ hb _).mono same
 | false=>
  rw[Dk.write,if_neg (by rw[hb];simp)];obtain⟨i,rfl⟩: ∃ i:Nat,at_=i:=⟨at_.toNat,DT⟩;have hi:i<d.dr.length:=DT;by_cases hl:b.length=d.size
  ·rw[if_pos hl];exact(Yo h i hi b hl A c hB hA hrow).mono fun e w' hh=>hh
  rw[if_neg hl];refine(NA h i hb A b.length c hl).mono ?_;rintro e w' ⟨rfl,rfl⟩;exact⟨rfl,L.Ag h0 hS (aL _),aG.refl _ _⟩
end En
end
section
namespace En
theorem vE(of:Nat→Nat)(x:Nat × By): ∀ (l:List (Nat × By)) (dr:List By) (i:Nat),fk of dr i (l++ [x])=(fk of dr i l).set x.1 (over ((fk of dr i l).getD x.1 []) x.2 (of (i+l.length)))
 | [],dr,i=>by simp[fk]
 | y::r,dr,i=>by rw[List.cons_append,fk,vE of x r,fk,List.length_cons,Nat.add_assoc,Nat.add_comm 1]
theorem XR(l:List By)(a i:Nat)(x:By)(ha:a<l.length): (l.set a x).getD i []=if i=a then x else l.getD i []:=by
 rw[bQ,List.getElem?_set];by_cases h:a=i
 ·subst h;rw[if_pos rfl,if_pos rfl,if_pos ha];rfl
 rw[if_neg h,if_neg (fun e=>h e.symm),bQ]
theorem eY.mQ{S:Nat→Prop}{w w':World}{p a:Nat}{d:Dk}{q:ES}{b:By}(h:eY S w p d q)(ha:a<d.dr.length)(hb:b.length=d.size)(hblk:eC w' 5 (q.ad a) b)(hz:w.heap.size≤w'.heap.size)(hk: ∀ k,k<w.heap.size→k≠q.ad a→w'.heap[k]? =w.heap[k]?):
  eY S w' p {d with dr:=d.dr.set a b} q:=by
 obtain⟨cur,og,_⟩:=(h.each a ha).1;have ne: ∀ {k:Nat} {o:Obj},w.heap[k]? =some o→(∀ c,o≠ .cells c 5 (0,0))→k≠q.ad a:=fun {k o} ho hne e=>by subst e;rw[og] at ho;injection ho with ho;exact hne _ ho.symm
 have nb: ∀ {k:Nat} {t:TypeId} {cs:Array Value},aD w k t cs→t≠5→k≠q.ad a:=fun {k t cs} hA ht=>ne hA (fun c e=>by injection e with _ e2;exact ht e2)
 have hlen:(d.dr.set a b).length=d.dr.length:=List.length_set;have hrow: ∀ {e:TypeId} {sz n:Nat} {v:Value} {c:Nat→List Value},aO S w e sz v n c→e≠5→aO S w' e sz v n c:=fun {e sz n v c} hr he=>
  ⟨dY hr.own fun g hg=>hk g (dP hr.own hg).1 (by
   rcases hr.own.2 with⟨hv,_⟩|⟨g',cap',cc,hv,_,hh,_⟩
   ·subst hv;simp[gX] at hg
   subst hv;have e1:g'=g:=uB;subst e1;exact ne hh (fun c e2=>by injection e2 with _ e3;exact he e3)),hr.block⟩
 refine⟨?_,?_,fun i hi=>?_,hrow h.row aM,fun i hi=>?_,h.newest.same (hk _ h.newest.lt ?_),⟨h.ok.size,by rw[hlen];exact h.ok.some,fun x hx=>?_,fun x hx=>by rw[hlen];exact h.ok.aK x hx⟩,⟨h.bt.1,h.bt.2.1,fun i hi=>h.bt.2.2.1 i (by rwa [hlen] at hi),h.bt.2.2.2⟩,⟨fun i j hi hj=>h.apart.1 i j (by rwa [hlen] at hi) (by rwa [hlen] at hj),fun i j hi hj=>h.apart.2 i j (by rwa [hlen] at hi) hj⟩,fun k hk=>aP (h.lt k hk) hz,h.X1⟩
 ·show aD w' p _ #[.int .i64 d.size,.slice (some ⟨q.gd,0,none⟩) (d.dr.set a b).length q.cd,q.rv,.map (some q.mb)]
  rw[hlen];exact(hk p h.own.lt (nb h.own aM)).trans h.own
 ·show aO S w' _ 1 (.slice (some ⟨q.gd,0,none⟩) (d.dr.set a b).length q.cd) (d.dr.set a b).length _
  rw[hlen];exact hrow h.dr aM
 ·show eC w' _ (q.ad i) ((d.dr.set a b).getD i [])∧d.size≤q.cp i
  rw[hlen] at hi;rw[XR _ _ _ _ ha];by_cases e:i=a
  ·subst e;rw[if_pos rfl];exact⟨hblk,(h.each i hi).2⟩
  rw[if_neg e];exact⟨(h.each i hi).1.same (hk _ (h.each i hi).1.lt (fun e2=>e (h.apart.1 i a hi ha e2))),(h.each i hi).2⟩
 ·exact⟨(h.aK i hi).1.same (hk _ (h.aK i hi).1.lt (fun e=>h.apart.2 a i ha hi e.symm)),(h.aK i hi).2⟩
 ·obtain⟨es,c,hb'⟩:=h.newest.obj;exact ne hb' (fun c e=>rL)
 ·rcases List.mem_or_eq_of_mem_set hx with hx|hx
  ·exact h.ok.each x hx
  rw[hx];exact hb
theorem eY.dry{S:Nat→Prop}{w w':World}{p:Nat}{d:Dk}{q:ES}(h:eY S w p d q)(hk: ∀ k,S k→k≠p→k≠q.mb→w'.heap[k]? =w.heap[k]?)
  (hown:aD w' p 331 #[.int .i64 d.size,.slice (some ⟨q.gd,0,none⟩) d.dr.length q.cd,.slice none 0 0,.map (some q.mb)]) (hm:fG af 3 .i64 w' q.mb 0 (fun _=>none)) (hz:w.heap.size≤w'.heap.size):eY S w' p {d with row:=[]} {q with rv:=.slice none 0 0,mn:=0}:=by
 have ne: ∀ {k:Nat} {t:TypeId} {cs:Array Value},aD w k t cs→t≠331→k≠p∧k≠q.mb:=fun {k t cs} hA ht=>⟨fun e=>by
  subst e;have h1:=h.own;rw[aD] at h1 hA;rw[h1] at hA;injection hA with hA
  injection hA with _ e2
  exact ht e2.symm,h.newest.mr hA⟩
 have nb: ∀ {k:Nat} {l:By},eC w 5 k l→k≠p∧k≠q.mb:=fun {k l} hb=>by obtain⟨cur,h1,_⟩:=hb;exact ne h1 aM
 refine⟨hown,⟨dY h.dr.own fun g hg=>?_,h.dr.block⟩,fun i hi=>⟨(h.each i hi).1.same (hk _ (h.bt.2.2.1 i hi) (nb (h.each i hi).1).1 (nb (h.each i hi).1).2),(h.each i hi).2⟩,aO.nil _ _ _ _ _,fun i hi=>absurd hi (kU i),?_,⟨h.ok.size,h.ok.some,h.ok.each,fun x hx=>by cases hx⟩,⟨h.bt.1,h.bt.2.1,h.bt.2.2.1,fun i hi=>absurd hi (kU i)⟩,⟨h.apart.1,fun i j _ hj=>absurd hj (kU j)⟩,fun k hk=>aP (h.lt k hk) hz,aL _⟩
 ·have hS:=h.dr.block g hg;rcases h.dr.own.2 with⟨hv,_⟩|⟨g',cap',cc,hv,_,hh,_⟩
  ·cases hv
  have e1:q.gd=g:=uB;injection hv with e2 _ _
  injection e2 with e2
  injection e2 with e2
  subst e1;rw[←e2] at hh;exact hk _ hS (ne hh aM).1 (ne hh aM).2
 ·have:n9 {d with row:=[]} {q with rv:=.slice none 0 0,mn:=0}=fun _=>none:=by funext z;unfold n9;split <;>rfl
  rw[this];exact hm
theorem TH(w:World){o:Oper}{a:Act}{K:Act→World→Prop}{Q:Exit→Act→World→Prop}(x y:Operand)(hop:o.op=Op.call {callee:=Callee.builtin Builtin.copy,args:=#[x,y],argTypes:=#[34,34]})
  (g s cp k c2:Nat) (ad:Addr) (old b:By) (hx:a.eval x= .slice (some ⟨g,0,none⟩) s cp) (hy:a.eval y= .slice (some ad) k c2) (hg:eC w 5 g old) (ho:old.length=s) (hk:k≤s) (hB:Bs w (some ad) b) (cK:k≤b.length)
  (hK: ∀ w' v,eC w' 5 g (over old b k)→w.grownBy w' (some g)→w'.heap.size=w.heap.size→K (a.put o.dst v) w'):fq af o a w K Q:=by
 obtain⟨cur,og,yY⟩:=hg;have hcs:((aN b).take k).length=Nat.min k s:=by rw[gW,Oc.bn,qH cK];exact(qH hk).symm
 have y6:old.length≤cur.size:=by
  rcases Nat.eq_zero_or_pos old.length with h0|h0
  ·omega
  have:=yY (old.length - 1) _ (Oc.nO (bs:=old) (i:=old.length - 1) ag);have:=(Array.getElem?_eq_some_iff.1 this).1;omega
 have hl:((aN b).take k).length=k:=by rw[hcs];exact qH hk
 have hrun:=run_copy_row (P:=af) w 34 34 o.type 5 g 0 s cp ad k c2 cur 5 ((aN b).take k) Tryz.underlying34 aW og hcs (fun j v hj=>hB.read j v (by
  have:=(nY.1 hj).1;rw[List.getElem?_take] at hj;split at hj
  ·exact hj
  cases hj)) ag (fun v hv=>Oc.bO b v (List.mem_of_mem_take hv))
 unfold fq execOp;simp only[hop,resolve,invoke,builtin,Hu,Hn,Hs,List.map_toArray,List.map_cons,List.map_nil,hx,hy,hrun];refine hK _ _ ⟨_,setRow_heap w g cur _ _ _ og,fun j u hj=>?_⟩ ⟨rfl,rfl,rfl,by simp[Ht],fun i _ hi=>?_⟩ (by simp[Ht])
 ·have hj2:=(nY.1 hj).1;rw[Oc.bn,over,List.length_append,gW,List.length_drop] at hj2;unfold over at hj;rw[Oc.eh] at hj;simp only[List.take_zero,List.nil_append,Nat.zero_add,hl];rw[←eG];simp only[List.toList_toArray];have e1:aN (b.take k)=(aN b).take k:=by unfold aN;rw[List.map_take]
  rw[e1] at hj;rcases Nat.lt_or_ge j k with h1|h1
  ·rw[mI (by rw[hl];exact h1)] at hj ⊢;exact hj
  rw[qI (by rw[hl];exact h1),hl] at hj ⊢;rw[List.getElem?_drop,show k+(j - k)=j from ag,eG];refine yY j u ?_;have e2:aN (old.drop k)=(aN old).drop k:=by unfold aN;rw[List.map_drop]
  rw[e2,List.getElem?_drop,show k+(j - k)=j from ag] at hj;exact hj
 ·have hne:i≠g:=fun e=>hi mj
  simp[Ht,Array.getElem?_modify,Ne.symm hne]
end En
end
section
namespace En
theorem Ya(s:Nat)(o:Int): (if(s:Int)<(if o<0 then 0 else o)then(s:Int)else(if o<0 then 0 else o))=((qZ s o:Nat):Int):=by unfold qZ;split <;>split <;>omega
theorem X'(s:Nat)(o:Int): qZ s o≤s:=by unfold qZ;omega
variable{S:Nat→Prop}{w:World}{p:Nat}
theorem I1{d:Dk}{q:ES}(h:eY S w p d q)(lb:Array Value)(oi:Nat→Int)(hrow:d.row.length≤1000000)
  (Ib: ∀ (W:World) (i:Nat),i<d.row.length→w.heap.size≤W.heap.size→(∀ k,k<w.heap.size→(∀ a,a<d.dr.length→k≠q.ad a)→W.heap[k]? =w.heap[k]?)→Calls af 374 (#[.int .i64 i]++lb) W fun e W'=>e= .returned (.int .i64 (oi i))∧Below W.heap.size W W') :
  Calls af 373 #[.pointer (some ⟨p,0,none⟩),.func (.func 374) #[] lb] w fun e w'=>e= .returned (.int .i64 0)∧(∃ q',eY S w' p (d.settle fun i=>qZ d.size (oi i)) q')∧aG S w w':=by
 obtain⟨A,c,hv⟩:=h.row.any;have x0:=h.own.cl 0;have x2:w.cell? ⟨p,2,none⟩=some (.slice A d.row.length c):=by rw[←hv];exact h.own.cell 2
 have hm:(d.row.length:Int)≤1000000:=ag;have HH:=aa h;have HV:=aa hv;have GD:=aa Ib;have HS:=aa h.ok.size.1;clear h hv Ib;go_enter Tryz.func373,Tryz.ntmps373;go_wp2_with fail;refine ah (dD p d.size HS.o w x0) ?_;go_wp2_with fail;go_loopw [15] (fun i wr=>∃ j:Nat,j≤d.row.length∧i= .int .i64 j∧eY S wr p {d with dr:=fk (fun i=>qZ d.size (oi i)) d.dr 0 (d.row.take j)} q∧aG (fun k=>∃ a,a<d.dr.length∧k=q.ad a) w wr) (fun i _=>(d.row.length - intOf i).toNat)
 case atStart=>exact⟨0,ag,rfl,by simpa[fk] using HH.o,aG.refl _ _⟩
 case round=>
  obtain⟨j,hj,rfl,hD,hT⟩:=hrel;obtain⟨dr,aaZ⟩:=ae (fk (fun i=>qZ d.size (oi i)) d.dr 0 (d.row.take j));have tM:dr.length=d.dr.length:=by rw[←aaZ];exact ov _ _ _ _
  rw[aaZ] at hD;have HD:=aa hD;have HT:=aa hT;have akD:=aa aaZ;have Qa:=aa tM;clear hD hT aaZ tM;by_cases hlt:j<d.row.length
  ·have BB:(j:Int)<(d.row.length:Int):=by omega
   have Ta:(0:Int)≤(j:Int):=ag;obtain⟨gr,cr,hvr,_⟩:=HD.o.row.form (show 0<d.row.length from ag);have hA:A=some ⟨gr,0,none⟩∧c=cr:=by
    have:=HV.o.symm.trans hvr;injection this with a1 _ a2
    exact⟨a1,a2⟩
   obtain⟨rfl,rfl⟩:=hA;have hrow':=HD.o.row;rw[show q.rv=_ from hvr] at hrow';have rB:=aa hrow';clear hrow' hvr;obtain⟨at_,hat⟩:=ae ((d.row.getD j (0,[])).1);have af2:at_<d.dr.length:=by
    rw[←hat,←Qa.o];exact(HD.o.ok.aK (d.row.getD j (0,[])) (by rw[bQ,cI hlt];exact qL hlt)).1
   have Z9:C8 {d with dr:=dr} q j= [.int .i64 (at_:Nat),.slice (some ⟨q.wg j,0,none⟩) d.size (q.wc j)]:=by unfold C8;rw[←hat]
   have HRC:=aa Z9;have HAT:=aa hat;clear Z9 hat;go_wp2_with (refine fx rfl 338 _ rfl rB.o (fun _=>rfl) j hlt iN _ Tryz.underlying338 rfl aW ?_;rw[HRC.o]);obtain⟨vb,mN⟩:=ae wr.heap.size;obtain⟨w1,aX⟩:=ae (wr.alloc (.cells #[.int .i64 (at_:Nat),.slice (some ⟨q.wg j,0,none⟩) d.size (q.wc j)] 338));have hb1:=aJ aX;have ha1:=aH aX mN;rw[aX,mN];have L:=ma p {d with dr:=dr};have y0:w1.drew.cell? ⟨p,0,none⟩=some (.int .i64 d.size):=(HD.o.own.keep hb1).cell 0;have y1:w1.drew.cell? ⟨p,1,none⟩=some (.slice (some ⟨q.gd,0,none⟩) d.dr.length q.cd):=by have:=(HD.o.own.keep hb1).cell 1;rw[Qa.o] at this;exact this
   have y4:w1.drew.cell? ⟨q.gd,at_,none⟩=some (.slice (some ⟨q.ad at_,0,none⟩) d.size (q.cp at_)):=(hb1.cell (p:=⟨q.gd,at_,none⟩) (HD.o.lt _ (HD.o.dr.block q.gd rfl))).trans (D3 HD.o.dr (fun _=>rfl) (by rw[Qa.o];exact af2) rfl);have hS1:w1.drew.cell? ⟨p,0,none⟩=some (.int .i64 d.size)∧w1.drew.cell? ⟨p,1,none⟩=some (.slice (some ⟨q.gd,0,none⟩) d.dr.length q.cd)∧w1.drew.cell? ⟨vb,0,none⟩=some (.int .i64 (at_:Nat))∧w1.drew.cell? ⟨vb,1,none⟩=some (.slice (some ⟨q.wg j,0,none⟩) d.size (q.wc j))∧w1.drew.cell? ⟨q.gd,at_,none⟩=some (.slice (some ⟨q.ad at_,0,none⟩) d.size (q.cp at_)):=⟨y0,y1,ha1.cell 0,ha1.cell 1,y4⟩;have aow:(0:Int)≤(at_:Int):=ag;have aov:(at_:Int)<(d.dr.length:Int):=ag;have Iu:=aa hS1;have bu:=aa hb1;have dH:=aa ha1;have yN:=aa mN;have akR:=aa af2;clear hS1 hb1 ha1 mN aX y0 y1 y4 L af2;refine sY (S:=(fun w'=>w'.cell? ⟨p,0,none⟩=some (.int .i64 d.size)∧w'.cell? ⟨p,1,none⟩=some (.slice (some ⟨q.gd,0,none⟩) d.dr.length q.cd)∧w'.cell? ⟨vb,0,none⟩=some (.int .i64 (at_:Nat))∧w'.cell? ⟨vb,1,none⟩=some (.slice (some ⟨q.wg j,0,none⟩) d.size (q.wc j))∧w'.cell? ⟨q.gd,at_,none⟩=some (.slice (some ⟨q.ad at_,0,none⟩) d.size (q.cp at_)))) (by exact Iu.o) fun hHeld=>?_
   refine nZ 0 1 2 3 4 5 6 7 ?_;refine nZ 8 9 10 11 14 15 16 17 ?_;refine cD 12 fun K hK=>?_
   go_simp;refine(GD.o w1.drew j hlt (by have:=HT.o.size;have:=bu.o.size;show w.heap.size≤w1.heap.size;omega) (fun k hk hne=>(bu.o.block k (aP hk HT.o.size)).trans (HT.o.block k hk (fun⟨a,ha,e⟩=>hne a ha e)))).mono ?_;rintro e w2 ⟨rfl,hb2⟩;have XJ:w2.cell? ⟨p,0,none⟩=some (.int .i64 d.size)∧w2.cell? ⟨p,1,none⟩=some (.slice (some ⟨q.gd,0,none⟩) d.dr.length q.cd)∧w2.cell? ⟨vb,0,none⟩=some (.int .i64 (at_:Nat))∧w2.cell? ⟨vb,1,none⟩=some (.slice (some ⟨q.wg j,0,none⟩) d.size (q.wc j))∧w2.cell? ⟨q.gd,at_,none⟩=some (.slice (some ⟨q.ad at_,0,none⟩) d.size (q.cp at_)):=by
    obtain⟨a0,a1,a2,a3,a4⟩:=Iu.o;exact⟨(hb2.cell (p:=⟨p,0,none⟩) (bz _ _ a0)).trans a0,(hb2.cell (p:=⟨p,1,none⟩) (bz _ _ a1)).trans a1,(hb2.cell (p:=⟨vb,0,none⟩) (bz _ _ a2)).trans a2,(hb2.cell (p:=⟨vb,1,none⟩) (bz _ _ a3)).trans a3,(hb2.cell (p:=⟨q.gd,at_,none⟩) (bz _ _ a4)).trans a4⟩
   have cx:=aa hb2;clear hb2;go_wp2_with fail;refine bW hK (by exact XJ) fun qu=>?_
   clear hK K;refine uw 13 18 ?_;rw[Ya];obtain⟨kk,pX⟩:=ae (qZ d.size (oi j));have hks:kk≤d.size:=by rw[←pX];exact X' _ _
   have hkc:(kk:Int)≤(q.wc j:Int):=by have:=(HD.o.aK j hlt).2;simp only at this;omega
   have Eh:(0:Int)≤(kk:Int):=ag;rw[pX];have HKK:=aa pX;have HKS:=aa hks;clear pX hks;refine ty 19 ?_;refine cD 20 fun K hK=>?_
   have hblk:=(HD.o.each at_ rO).1.same ((cx.o.block _ (by have:=(HD.o.each at_ rO).1.lt;have:=bu.o.size;show q.ad at_<w1.heap.size;omega)).trans (bu.o.block _ (HD.o.each at_ rO).1.lt));have hwb:=(HD.o.aK j hlt).1.same ((cx.o.block _ (by have:=(HD.o.aK j hlt).1.lt;have:=bu.o.size;show q.wg j<w1.heap.size;omega)).trans (bu.o.block _ (HD.o.aK j hlt).1.lt));have tM:(dr.getD at_ []).length=d.size:=HD.o.ok.each _ (by rw[bQ,cI rO];exact qL _);have H9:(d.row.getD j (0,[])).2.length=d.size:=(HD.o.ok.aK (d.row.getD j (0,[])) (by rw[bQ,cI hlt];exact qL hlt)).2;refine TH w2 (.tmp 27) (.tmp 39) rfl (q.ad at_) d.size (q.cp at_) kk (q.wc j) ⟨q.wg j,0,none⟩ (dr.getD at_ []) (d.row.getD j (0,[])).2 rfl rfl hblk tM HKS.o hwb.bs (by rw[H9];exact HKS.o) ?_;intro w3 v3 hb3 hg3 hz3;have xO:Below wr.heap.size wr w2:=ar bu.o (ar (ay (aq _ w1)) cx.o);have WU:vb≠q.ad at_:=fun e=>by have:=(HD.o.each at_ rO).1.lt;have:=yN.o;omega
   have afH:p≠q.ad at_:=fun e=>by
    obtain⟨cur,h1,_⟩:=(HD.o.each at_ rO).1;have h2:=HD.o.own;rw[aD,e,h1] at h2;injection h2 with h2
    injection h2 with _ h3
    revert h3;decide
   have aiT:q.gd≠q.ad at_:=fun e=>by
    obtain⟨cur,h1,_⟩:=(HD.o.each at_ rO).1;rcases HD.o.dr.own.2 with⟨hv,_⟩|⟨g',cap',cc,hv,_,hh,_⟩
    ·cases hv
    injection hv with e2 _ _
    injection e2 with e2
    injection e2 with e2
    rw[←e2,e,h1] at hh;injection hh with hh
    injection hh with _ h3
    revert h3;decide
   have hc3: ∀ (k o:Nat),k<w2.heap.size→k≠q.ad at_→w3.cell? ⟨k,o,none⟩=w2.cell? ⟨k,o,none⟩:=fun k o hk hne=>eF (a:=⟨k,o,none⟩) (hg3.block k hk (fun e=>hne rL))
   have Ti:w3.cell? ⟨p,0,none⟩=some (.int .i64 d.size)∧w3.cell? ⟨p,1,none⟩=some (.slice (some ⟨q.gd,0,none⟩) d.dr.length q.cd)∧w3.cell? ⟨vb,0,none⟩=some (.int .i64 (at_:Nat))∧w3.cell? ⟨vb,1,none⟩=some (.slice (some ⟨q.wg j,0,none⟩) d.size (q.wc j))∧w3.cell? ⟨q.gd,at_,none⟩=some (.slice (some ⟨q.ad at_,0,none⟩) d.size (q.cp at_)):=by
    obtain⟨a0,a1,a2,a3,a4⟩:=qu;exact⟨(hc3 p 0 (bz _ _ a0) afH).trans a0,(hc3 p 1 (bz _ _ a1) afH).trans a1,(hc3 vb 0 (bz _ _ a2) WU).trans a2,(hc3 vb 1 (bz _ _ a3) WU).trans a3,(hc3 q.gd at_ (bz _ _ a4) aiT).trans a4⟩
   have PH:=HD.o.mQ (w':=w3) (a:=at_) (b:=over (dr.getD at_ []) (d.row.getD j (0,[])).2 kk) rO (by rw[Ja (by rw[H9,tM]),tM]) hb3 (by have:=xO.size;omega) (fun k hk hne=>(hg3.block k (aP hk xO.size) (fun e=>hne rL)).trans (xO.block k hk));have kv:aG (fun k=>∃ a,a<d.dr.length∧k=q.ad a) w w3:=(HT.o.ai xO).grown hg3 (fun k e=>.inl ⟨at_,akR.o,Ah⟩);have Zx:=aa PH;have jR:=aa kv;clear hblk hwb tM H9 hb3 hg3 hz3 xO WU afH aiT hc3 PH kv;refine bW hK (by exact Ti) fun ak3=>?_
   clear hK K;refine bF ?_;have Ef:fk (fun i=>qZ d.size (oi i)) d.dr 0 (d.row.take (j+1))=dr.set at_ (over (dr.getD at_ []) (d.row.getD j (0,[])).2 kk):=by
    have e1:d.row[j]=(at_,(d.row.getD j (0,[])).2):=by
     have e0:d.row.getD j (0,[])=d.row[j]:=by rw[bQ,cI hlt];rfl
     rw[←HAT.o,e0]
    rw[List.take_add_one,cI hlt,Option.toList_some,vE,akD.o,e1,gW,qH hj,Nat.zero_add,HKK.o]
   have GF:=aa Ef;clear Ef;go_wp2_with fail;go_roundw
   case rel=>exact⟨j+1,ag,by go_num,by rw[GF.o];exact Zx.o,jR.o⟩
   case measure=>simp[intOf];omega
  have BB: ¬(j:Int)<(d.row.length:Int):=ag;have hjm:j=d.row.length:=ag;have pP:d.row.take j=d.row:=by rw[hjm];exact List.take_length
  have x0':=HD.o.own.cl 0;have x2':wr.cell? ⟨p,2,none⟩=some q.rv:=HD.o.own.cell 2;have m2':=HD.o.own.mark 2;have Bw:aD (wr.setCell ⟨p,2,none⟩ (.slice none 0 0)) p 331 #[.int .i64 d.size,.slice (some ⟨q.gd,0,none⟩) dr.length q.cd,.slice none 0 0,.map (some q.mb)]:=by simpa using HD.o.own.put 2 (.slice none 0 0)
  have x3':(wr.setCell ⟨p,2,none⟩ (.slice none 0 0)).cell? ⟨p,3,none⟩=some (.map (some q.mb)):=Bw.cell 3;have hmp:q.mb≠p:=fun e=>HD.o.newest.mr HD.o.own e.symm
  have MX:=HD.o.newest.same (w':=wr.setCell ⟨p,2,none⟩ (.slice none 0 0)) (cH wr ⟨p,2,none⟩ _ q.mb hmp);have Zi:=aa Bw;have HM2:=aa MX;have GG:=aa hmp;have akx:=aa pP;clear Bw MX hmp pP hjm;go_wp2_with (refine Ac rfl _ 329 rfl 3 34 .i64 Hw q.mb q.mn (n9 {d with dr:=dr} q) rfl HM2.o ?_;intro w4 xM hg4;have Sz:=aa xM;have uZ:=aa hg4;clear xM hg4);go_ret;have jU:aG S w w4:=(((HT.o.mono (fun k _ ⟨a,ha,e⟩=>by rw[e];exact HH.o.bt.2.2.1 a ha)).put (p:=⟨p,2,none⟩) (.inl HH.o.bt.1) _).grown uZ.o (fun k e=>.inl (by injection e with e;exact e▸HH.o.bt.2.1)));have uh:=Zi.o.bo uZ.o (fun e=>DS);refine⟨rfl,⟨{q with rv:=.slice none 0 0,mn:=0},?_⟩,jU⟩;have:=HD.o.dry (w':=w4) (fun k hk h1 h2=>(uZ.o.block k (by rw[Hr];exact HD.o.lt k hk) (fun e=>h2 rL)).trans (cH wr ⟨p,2,none⟩ _ k h1)) uh Sz.o (by have:=uZ.o.size;rw[Hr] at this;exact this);unfold Dk.settle;have e5:fk (fun i=>qZ d.size (oi i)) d.dr 0 d.row=dr:=by rw[←akD.o,akx.o]
  rw[e5];exact this
theorem eY.acL{d:Dk}{q:ES}(h:eY S w p d q){a:Nat}(ha:a<d.dr.length){k:Nat}{t:TypeId}{cs:Array Value}(hA:aD w k t cs)(ht:t≠5): k≠q.ad a:=fun e=>by
 obtain⟨cur,h1,_⟩:=(h.each a ha).1;subst e;rw[aD,h1] at hA;injection hA with hA
 injection hA with _ e2
 exact ht e2.symm
theorem Yt(p bx i:Nat)(s:Nat)(w:World)(h0:w.cell? ⟨bx,0,none⟩=some (.pointer (some ⟨p,0,none⟩)))(h1:w.cell? ⟨p,0,none⟩=some (.int .i64 s)): Calls af 374 #[.int .i64 i,.pointer (some ⟨bx,0,none⟩)] w fun e w'=>e= .returned (.int .i64 s)∧w'=w:=by
 go_enter Tryz.func374,Tryz.ntmps374;go_wp2_with fail;go_ret;exact⟨rfl,rfl⟩
theorem abD{d:Dk}(h:ve p d S w)(hrow:d.row.length≤1000000): Calls af 362 #[.pointer (some ⟨p,0,none⟩)] w fun e w'=>e= .returned (.int .i64 0)∧ve p (d.settle fun _=>d.size) (Gr S w w') w'∧aG S w w':=by
 have L:=ma p d;have L2:=ma p (d.settle fun _=>d.size);have hS:=fun k hk=>L.lt h k hk
 obtain⟨w1,aX⟩:=ae (w.alloc (.cells #[.pointer (some ⟨p,0,none⟩)] 216));have hb1:=aJ aX;have ha1:aD w1 w.heap.size 216 #[.pointer (some ⟨p,0,none⟩)]:=by rw[←aX];exact aD.fresh w _ _
 obtain⟨q,hD⟩:=L.ai h hb1;have Ib: ∀ (W:World) (i:Nat),i<d.row.length→w1.heap.size≤W.heap.size→(∀ k,k<w1.heap.size→(∀ a,a<d.dr.length→k≠q.ad a)→W.heap[k]? =w1.heap[k]?)→Calls af 374 (#[.int .i64 i]++ #[.pointer (some ⟨w.heap.size,0,none⟩)]) W fun e W'=>e= .returned (.int .i64 ((fun _:Nat=>(d.size:Int)) i))∧Below W.heap.size W W':=fun W i _ _ hk=>by
  have k1:=hk w.heap.size ha1.lt (fun a ha=>hD.acL ha ha1 aM);have k2:=hk p hD.own.lt (fun a ha=>hD.acL ha hD.own aM);refine(Yt p w.heap.size i d.size W ?_ ?_).mono ?_
  ·exact(eF (a:=⟨w.heap.size,0,none⟩) k1).trans (ha1.cell 0)
  ·exact(eF (a:=⟨p,0,none⟩) k2).trans (hD.own.cell 0)
  rintro e W' ⟨rfl,rfl⟩;exact⟨rfl,aq _ _⟩
 have HST:=aa (I1 hD #[.pointer (some ⟨w.heap.size,0,none⟩)] (fun _=>(d.size:Int)) hrow Ib);have HX:=aa ha1;have HB:=aa hb1;have NN:=aa hS;have HL2:=aa L2;have sK:=aa aX;clear hD Ib hb1 hS L L2 h aX;have x0:w1.cell? ⟨w.heap.size,0,none⟩=some (.pointer (some ⟨p,0,none⟩)):=ha1.cell 0;clear ha1;go_enter Tryz.func362,Tryz.ntmps362;go_wp2_with fail;rw[sK.o];refine HST.o.mono ?_;rintro e w2 ⟨rfl,⟨q',hq⟩,hT⟩;have zB:(fun i:Nat=>qZ d.size ((fun _:Nat=>(d.size:Int)) i))=fun _=>d.size:=by funext i;simp[qZ]
 rw[zB] at hq;have jL:aG S w w2:=(aG.aU HB.o).trans hT;have yY:ve p (d.settle fun _=>d.size) (Gr S w w2) w2:=HL2.o.Ag ⟨q',hq⟩ NN.o jL.size;have HIN:=aa yY;have gV:=aa jL;clear hq hT jL yY HST;go_wp2_with fail;go_ret;exact⟨rfl,HIN.o,gV.o⟩
